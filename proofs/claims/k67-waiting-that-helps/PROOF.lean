import PyProof.Rows.All
import Wide.All
import OpenK.AllK
import Wide.FinOn
import HandS.ForMost
import HandS.Flow
import HandS.Style
import HandS.TupAny
import HandS.Deep
import HandS.IsInst
import HandS.Wide
import HandS.TupMul
import HandS.TupLe
import KE.GoesEnum
import KE.SortData
import PyProof.Rows.EnumRows
import KE.KRevSl
import HandS.Zip
import HandS.Codes
import PySem.Challenge.RW_marksrounded_k67_whole_waiting_that_help
set_option Elab.async false
set_option linter.all false
set_option maxRecDepth 100000
set_option maxHeartbeats 4000000
namespace MM
open PySem PySem.Spec PyProof.Rows L2

/-- immutable data -/
inductive D where
  | non | bl (b : Bool) | int (i : Int) | str (x : Str) | tup (xs : List D) | opq (v : V) | scr (ns : List Int)
/-- values of the layer: data, lists of data, lists and tuples that hold lists -/
inductive A where
  | d (x : D) | ls (xs : List D) | lst (xs : List A) | tpl (xs : List A) | dd (kvs : List (D × D))

def isMut : HO → Bool
  | .lst _ => true
  | .dK _ => true
  | .dT _ => true
  | _ => false

/-- the script's ints at a, a list that nobody changes -/
def ScrAt (K : PySem.W.Frag) (H : Hp) (a : Addr) (ns : List Int) : Prop := (∃ ob, H a = some (.frz ob (.lst (ns.map V.int)))) ∨ SqL K (fun _ => none) a (ns.map V.int)
theorem ScrAt.mono {K : PySem.W.Frag} {H H' : Hp} {a : Addr} {ns : List Int} (ht : ∀ b u, H b = some u → isMut u = false → H' b = some u) (h : ScrAt K H a ns) : ScrAt K H' a ns := by
  rcases h with ⟨ob, h⟩ | h
  · exact .inl ⟨ob, ht _ _ h rfl⟩
  · exact .inr h
theorem ScrAt.seq {K : PySem.W.Frag} {H : Hp} {a : Addr} {ns : List Int} (h : ScrAt K H a ns) : SqL K H a (ns.map V.int) := by
  rcases h with ⟨ob, h⟩ | ((h | ⟨ob, h⟩) | h)
  · exact .inl (.inr ⟨ob, h⟩)
  · cases h
  · cases h
  · exact .inr h
mutual
def RepD (K : PySem.W.Frag) (H : Hp) : D → V → Prop
  | .non, v => v = .non
  | .bl b, v => v = .bl b
  | .int i, v => v = .int i
  | .str x, v => v = .str x
  | .tup xs, v => ∃ a ys, v = .ref a ∧ SqT K H a ys ∧ RepDs K H xs ys
  | .opq w, v => v = w
  | .scr ns, v => ∃ a, v = .ref a ∧ ScrAt K H a ns
def RepDs (K : PySem.W.Frag) (H : Hp) : List D → List V → Prop
  | [], ys => ys = []
  | x :: xs, ys => ∃ y r, ys = y :: r ∧ RepD K H x y ∧ RepDs K H xs r
end

/-- a dict of data at a -/
def DctAt (K : PySem.W.Frag) (H : Hp) (a : Addr) (kvs : List (D × D)) : Prop :=
  ∃ ks : List V, ∃ vs : List V, RepDs K H (kvs.map (·.1)) ks ∧ RepDs K H (kvs.map (·.2)) vs ∧
    ((∃ l : List (Key × V), H a = some (.dK l) ∧ l.map (fun p => kV p.1) = ks ∧ l.map (·.2) = vs) )

mutual
def Rep (K : PySem.W.Frag) (H : Hp) : A → V → List Addr → Prop
  | .d x, v, fp => RepD K H x v ∧ fp = []
  | .ls xs, v, fp => ∃ a ys, v = .ref a ∧ H a = some (.lst ys) ∧ RepDs K H xs ys ∧ fp = [a]
  | .lst xs, v, fp => ∃ a ys f, v = .ref a ∧ H a = some (.lst ys) ∧ Reps K H xs ys f ∧ fp = a :: f
  | .tpl xs, v, fp => ∃ a ys, v = .ref a ∧ SqT K H a ys ∧ Reps K H xs ys fp
  | .dd kvs, v, fp => ∃ a, v = .ref a ∧ DctAt K H a kvs ∧ fp = [a]
def Reps (K : PySem.W.Frag) (H : Hp) : List A → List V → List Addr → Prop
  | [], ys, fp => ys = [] ∧ fp = []
  | x :: xs, ys, fp => ∃ y r f g, ys = y :: r ∧ fp = f ++ g ∧ Rep K H x y f ∧ Reps K H xs r g
end

/-- what a step leaves as it was: all that is tracked and not owned -/
def Le (o : List Addr) (H : Hp) (o' : List Addr) (H' : Hp) : Prop := ∀ b u, H b = some u → b ∉ o → H' b = some u ∧ b ∉ o'
theorem Le.refl {o : List Addr} {H : Hp} : Le o H o H := fun _ _ h n => ⟨h, n⟩
theorem Le.trans {o o1 o2 : List Addr} {H H1 H2 : Hp} (a : Le o H o1 H1) (b : Le o1 H1 o2 H2) : Le o H o2 H2 := fun c u h n =>
  let ⟨h1, n1⟩ := a c u h n
  b c u h1 n1

theorem sqT_mono {K : PySem.W.Frag} {H H' : Hp} {a : Addr} {ys : List V} (ht : ∀ b u, H b = some u → isMut u = false → H' b = some u) (h : SqT K H a ys) : SqT K H' a ys := by
  rcases h with (h | ⟨ob, h⟩) | h
  · exact .inl (.inl (ht _ _ h rfl))
  · exact .inl (.inr ⟨ob, ht _ _ h rfl⟩)
  · exact .inr h

mutual
theorem RepD.mono {K : PySem.W.Frag} {H H' : Hp} (ht : ∀ b u, H b = some u → isMut u = false → H' b = some u) : ∀ {x : D} {v : V}, RepD K H x v → RepD K H' x v
  | .non, _, h => h
  | .bl _, _, h => h
  | .int _, _, h => h
  | .str _, _, h => h
  | .opq _, _, h => h
  | .scr ns, v, h => by
    unfold RepD at h ⊢
    obtain ⟨a, e, h⟩ := h
    exact ⟨a, e, h.mono ht⟩
  | .tup xs, v, h => by
    unfold RepD at h ⊢
    obtain ⟨a, ys, e, s, r⟩ := h
    exact ⟨a, ys, e, sqT_mono ht s, RepDs.mono ht r⟩
theorem RepDs.mono {K : PySem.W.Frag} {H H' : Hp} (ht : ∀ b u, H b = some u → isMut u = false → H' b = some u) : ∀ {xs : List D} {ys : List V}, RepDs K H xs ys → RepDs K H' xs ys
  | [], _, h => h
  | x :: xs, ys, h => by
    unfold RepDs at h ⊢
    obtain ⟨y, r, e, h1, h2⟩ := h
    exact ⟨y, r, e, RepD.mono ht h1, RepDs.mono ht h2⟩
end
theorem DctAt.mono {K : PySem.W.Frag} {H H' : Hp} {a : Addr} {kvs : List (D × D)} (ht : ∀ b u, H b = some u → isMut u = false → H' b = some u) (ha : ∀ u, H a = some u → H' a = some u) (h : DctAt K H a kvs) : DctAt K H' a kvs := by
  obtain ⟨ks, vs, h1, h2, l, h3, h4⟩ := h
  exact ⟨ks, vs, h1.mono ht, h2.mono ht, l, ha _ h3, h4⟩
mutual
theorem Rep.mono {K : PySem.W.Frag} {H H' : Hp} (ht : ∀ b u, H b = some u → isMut u = false → H' b = some u) : ∀ {x : A} {v : V} {fp : List Addr}, Rep K H x v fp → (∀ b ∈ fp, ∀ u, H b = some u → H' b = some u) → Rep K H' x v fp
  | .d x, v, fp, h, _ => by
    unfold Rep at h ⊢
    exact ⟨h.1.mono ht, h.2⟩
  | .ls xs, v, fp, h, k => by
    unfold Rep at h ⊢
    obtain ⟨a, ys, e, h1, h2, rfl⟩ := h
    exact ⟨a, ys, e, k a (by simp) _ h1, h2.mono ht, rfl⟩
  | .lst xs, v, fp, h, k => by
    unfold Rep at h ⊢
    obtain ⟨a, ys, f, e, h1, h2, rfl⟩ := h
    exact ⟨a, ys, f, e, k a (by simp) _ h1, Reps.mono ht h2 (fun b hb => k b (by simp [hb])), rfl⟩
  | .tpl xs, v, fp, h, k => by
    unfold Rep at h ⊢
    obtain ⟨a, ys, e, h1, h2⟩ := h
    exact ⟨a, ys, e, sqT_mono ht h1, Reps.mono ht h2 k⟩
  | .dd kvs, v, fp, h, k => by
    unfold Rep at h ⊢
    obtain ⟨a, e, h1, rfl⟩ := h
    exact ⟨a, e, h1.mono ht (k a (by simp)), rfl⟩
theorem Reps.mono {K : PySem.W.Frag} {H H' : Hp} (ht : ∀ b u, H b = some u → isMut u = false → H' b = some u) : ∀ {xs : List A} {ys : List V} {fp : List Addr}, Reps K H xs ys fp → (∀ b ∈ fp, ∀ u, H b = some u → H' b = some u) → Reps K H' xs ys fp
  | [], _, _, h, _ => h
  | x :: xs, ys, fp, h, k => by
    unfold Reps at h ⊢
    obtain ⟨y, r, f, g, e, rfl, h1, h2⟩ := h
    exact ⟨y, r, f, g, e, rfl, Rep.mono ht h1 (fun b hb => k b (by simp [hb])), Reps.mono ht h2 (fun b hb => k b (by simp [hb]))⟩
end
mutual
theorem Rep.mem {K : PySem.W.Frag} {H : Hp} : ∀ {x : A} {v : V} {fp : List Addr}, Rep K H x v fp → ∀ b ∈ fp, ∃ u, H b = some u ∧ isMut u = true
  | .d x, v, fp, h => by
    unfold Rep at h
    obtain ⟨_, rfl⟩ := h
    simp
  | .ls xs, v, fp, h => by
    unfold Rep at h
    obtain ⟨a, ys, e, h1, h2, rfl⟩ := h
    intro b hb
    obtain rfl : b = a := by simpa using hb
    exact ⟨_, h1, rfl⟩
  | .lst xs, v, fp, h => by
    unfold Rep at h
    obtain ⟨a, ys, f, e, h1, h2, rfl⟩ := h
    intro b hb
    rcases List.mem_cons.mp hb with rfl | hb
    · exact ⟨_, h1, rfl⟩
    · exact Reps.mem h2 b hb
  | .tpl xs, v, fp, h => by
    unfold Rep at h
    obtain ⟨a, ys, e, h1, h2⟩ := h
    exact Reps.mem h2
  | .dd kvs, v, fp, h => by
    unfold Rep at h
    obtain ⟨a, e, ⟨ks, vs, _, _, l, h1, _⟩, rfl⟩ := h
    intro b hb
    obtain rfl : b = a := by simpa using hb
    exact ⟨_, h1, rfl⟩
theorem Reps.mem {K : PySem.W.Frag} {H : Hp} : ∀ {xs : List A} {ys : List V} {fp : List Addr}, Reps K H xs ys fp → ∀ b ∈ fp, ∃ u, H b = some u ∧ isMut u = true
  | [], _, _, h => by
    unfold Reps at h
    obtain ⟨_, rfl⟩ := h
    simp
  | x :: xs, ys, fp, h => by
    unfold Reps at h
    obtain ⟨y, r, f, g, e, rfl, h1, h2⟩ := h
    intro b hb
    rcases List.mem_append.mp hb with hb | hb
    · exact Rep.mem h1 b hb
    · exact Reps.mem h2 b hb
end
end MM
namespace MM
open PySem PySem.Spec PyProof.Rows L2

theorem Reps.append {K : PySem.W.Frag} {H : Hp} : ∀ {xs : List A} {ys : List V} {f : List Addr} {xs' : List A} {ys' : List V} {g : List Addr}, Reps K H xs ys f → Reps K H xs' ys' g → Reps K H (xs ++ xs') (ys ++ ys') (f ++ g)
  | [], ys, f, xs', ys', g, h, h' => by
    unfold Reps at h
    obtain ⟨rfl, rfl⟩ := h
    exact h'
  | x :: xs, ys, f, xs', ys', g, h, h' => by
    unfold Reps at h
    obtain ⟨y, r, f1, f2, rfl, rfl, h1, h2⟩ := h
    show Reps K H (x :: (xs ++ xs')) _ _
    unfold Reps
    exact ⟨y, r ++ ys', f1, f2 ++ g, rfl, by rw [List.append_assoc], h1, Reps.append h2 h'⟩
theorem Reps.len {K : PySem.W.Frag} {H : Hp} : ∀ {xs : List A} {ys : List V} {f : List Addr}, Reps K H xs ys f → xs.length = ys.length
  | [], ys, f, h => by
    unfold Reps at h
    obtain ⟨rfl, rfl⟩ := h
    rfl
  | x :: xs, ys, f, h => by
    unfold Reps at h
    obtain ⟨y, r, f1, f2, rfl, rfl, h1, h2⟩ := h
    simp [Reps.len h2]
/-- the parts ahead of i, at i, behind i -/
theorem Reps.at {K : PySem.W.Frag} {H : Hp} : ∀ {xs : List A} {ys : List V} {f : List Addr} {i : Nat} {x : A} {y : V}, Reps K H xs ys f → xs[i]? = some x → ys[i]? = some y →
    ∃ f1 fi f2, f = f1 ++ fi ++ f2 ∧ Rep K H x y fi ∧ Reps K H (xs.take i) (ys.take i) f1 ∧ Reps K H (xs.drop (i + 1)) (ys.drop (i + 1)) f2
  | [], ys, f, i, x, y, h, e, e' => by simp at e
  | x :: xs, ys, f, 0, x', y', h, e, e' => by
    unfold Reps at h
    obtain ⟨y, r, f1, f2, rfl, rfl, h1, h2⟩ := h
    simp at e e'
    subst e e'
    refine ⟨[], f1, f2, rfl, h1, ?_, h2⟩
    show Reps K H [] [] []
    unfold Reps
    exact ⟨rfl, rfl⟩
  | x :: xs, ys, f, i + 1, x', y', h, e, e' => by
    unfold Reps at h
    obtain ⟨y, r, f1, f2, rfl, rfl, h1, h2⟩ := h
    simp at e e'
    obtain ⟨g1, gi, g2, rfl, r1, r2, r3⟩ := Reps.at h2 e e'
    refine ⟨f1 ++ g1, gi, g2, by simp [List.append_assoc], r1, ?_, r3⟩
    show Reps K H (x :: xs.take i) (y :: r.take i) (f1 ++ g1)
    unfold Reps
    exact ⟨y, r.take i, f1, g1, rfl, rfl, h1, r2⟩
theorem Reps.one {K : PySem.W.Frag} {H : Hp} {x : A} {y : V} {f : List Addr} (h : Rep K H x y f) : Reps K H [x] [y] f := by
  unfold Reps
  refine ⟨y, [], f, [], rfl, by simp, h, ?_⟩
  unfold Reps
  exact ⟨rfl, rfl⟩
theorem Reps.nil {K : PySem.W.Frag} {H : Hp} : Reps K H [] [] [] := by
  unfold Reps
  exact ⟨rfl, rfl⟩
theorem Reps.cons {K : PySem.W.Frag} {H : Hp} {x : A} {y : V} {f : List Addr} {xs : List A} {ys : List V} {g : List Addr} (h : Rep K H x y f) (h' : Reps K H xs ys g) : Reps K H (x :: xs) (y :: ys) (f ++ g) := by
  unfold Reps
  exact ⟨y, ys, f, g, rfl, rfl, h, h'⟩
theorem set_parts {α : Type} : ∀ {xs : List α} {i : Nat} {x : α}, i < xs.length → xs.set i x = xs.take i ++ x :: xs.drop (i + 1) := by
  intro xs i x h
  rw [List.set_eq_take_append_cons_drop, if_pos h]
/-- another thing put at i -/
theorem Reps.set {K : PySem.W.Frag} {H : Hp} {xs : List A} {ys : List V} {f : List Addr} {i : Nat} {x : A} {y : V} (h : Reps K H xs ys f) (e : xs[i]? = some x) (e' : ys[i]? = some y) :
    ∃ f1 fi f2, f = f1 ++ fi ++ f2 ∧ Rep K H x y fi ∧ ∀ {x' : A} {y' : V} {g : List Addr}, Rep K H x' y' g → Reps K H (xs.set i x') (ys.set i y') (f1 ++ g ++ f2) := by
  obtain ⟨f1, fi, f2, rfl, r1, r2, r3⟩ := Reps.at h e e'
  refine ⟨f1, fi, f2, rfl, r1, fun {x' y' g} r => ?_⟩
  have hx : i < xs.length := (List.getElem?_eq_some_iff.mp e).1
  have hy : i < ys.length := (List.getElem?_eq_some_iff.mp e').1
  rw [set_parts hx, set_parts hy, List.append_assoc]
  exact Reps.append r2 (Reps.cons r r3)

/-! ### the layer's state -/
abbrev Slot := Option (Bool × A)
def ownA : Slot → A
  | some (true, a) => a
  | _ => .d .non
def ownV : Slot → Option V → V
  | some (true, _), some v => v
  | _, _ => .non
def ownVs (sa : List Slot) (σ : L2.St) : List V := List.zipWith ownV sa σ
/-- what is held: val: a value, owned or not; peek j: what stands in slot j when it is asked -/
inductive R where
  | val (own : Bool) (a : A) | peek (j : Nat)
abbrev Tmp := List (A × V)
def RepS (K : PySem.W.Frag) (H : Hp) (o : List Addr) (a : A) (v : V) : Prop := ∃ fp, Rep K H a v fp ∧ ∀ b ∈ fp, b ∉ o
structure SRel (K : PySem.W.Frag) (o : List Addr) (T : Tmp) (sa : List Slot) (σ : L2.St) (H : Hp) : Prop where
  len : sa.length = σ.length
  sl : ∀ (i : Nat) fl a, sa[i]? = some (some (fl, a)) → ∃ v, σ[i]? = some (some v) ∧ (fl = false → RepS K H o a v)
  own : Reps K H (T.map (·.1) ++ sa.map ownA) (T.map (·.2) ++ ownVs sa σ) o
  nd : o.Nodup
def pushT : R → V → Tmp → Tmp
  | .val true a, v, T => (a, v) :: T
  | _, _, T => T
def RR (K : PySem.W.Frag) (H : Hp) (o : List Addr) (σ : L2.St) : R → V → Prop
  | .val false a, v => RepS K H o a v
  | .val true _, _ => True
  | .peek j, v => σ[j]? = some (some v)
abbrev SM (α : Type) := List Slot → Option (α × List Slot)
def bnd {α β : Type} (m : SM α) (f : α → SM β) : SM β := fun s => match m s with
  | some (a, s') => f a s'
  | none => none
def ret {α : Type} (a : α) : SM α := fun s => some (a, s)
theorem bnd_some {α β : Type} {m : SM α} {f : α → SM β} {s : List Slot} {r : β × List Slot} (h : bnd m f s = some r) : ∃ a s', m s = some (a, s') ∧ f a s' = some r := by
  unfold bnd at h
  split at h
  · rename_i a s' e
    exact ⟨a, s', e, h⟩
  · cases h
def tOf (K : PySem.W.Frag) (m : SM R) : TE := fun σ H Q => ∃ o T sa r sa', m sa = some (r, sa') ∧ SRel K o T sa σ H ∧
  ∀ o' v H', Le o H o' H' → SRel K o' (pushT r v T) sa' σ H' → RR K H' o' σ r v → Q v H'
def tOfT (K : PySem.W.Frag) (m : SM Bool) : TT := fun σ H Q => ∃ o T sa b sa', m sa = some (b, sa') ∧ SRel K o T sa σ H ∧
  ∀ o' H', Le o H o' H' → SRel K o' T sa' σ H' → Q b H'
def pushTs : List R → List V → Tmp → Tmp
  | [], _, T => T
  | r :: rs, v :: vs, T => pushTs rs vs (pushT r v T)
  | _ :: _, [], T => T
inductive RRs (K : PySem.W.Frag) (H : Hp) (o : List Addr) (σ : L2.St) : List R → List V → Prop where
  | nil : RRs K H o σ [] []
  | cons {r : R} {v : V} {rs : List R} {vs : List V} : RR K H o σ r v → RRs K H o σ rs vs → RRs K H o σ (r :: rs) (v :: vs)
def tOfA (K : PySem.W.Frag) (m : SM (List R)) : TA := fun σ H Q => ∃ o T sa rs sa', m sa = some (rs, sa') ∧ SRel K o T sa σ H ∧
  ∀ o' vs H', Le o H o' H' → SRel K o' (pushTs rs vs T) sa' σ H' → RRs K H' o' σ rs vs → Q vs H'
abbrev PM (X : Cx) (e : Expr) (m : SM R) : Prop := PE X e (tOf X.K m)
abbrev PMT (X : Cx) (e : Expr) (m : SM Bool) : Prop := PT X e (tOfT X.K m)
abbrev PMA (X : Cx) (es : List Expr) (m : SM (List R)) : Prop := PA X es (tOfA X.K m)

/-! ### weaker readings -/
theorem PE.weak {X : Cx} {e : Expr} {t u : TE} (h : PE X e t) (w : ∀ σ H Q, u σ H Q → t σ H Q) : PE X e u := ⟨fun pins s σ H Q I q => h.run pins s σ H Q I (w σ H Q q)⟩
theorem PT.weak {X : Cx} {e : Expr} {t u : TT} (h : PT X e t) (w : ∀ σ H Q, u σ H Q → t σ H Q) : PT X e u := ⟨fun pins s σ H Q I q => h.run pins s σ H Q I (w σ H Q q)⟩
theorem PA.weak {X : Cx} {e : List Expr} {t u : TA} (h : PA X e t) (w : ∀ σ H Q, u σ H Q → t σ H Q) : PA X e u := ⟨fun p pins s σ H Q I q => h.run p pins s σ H Q I (w σ H Q q)⟩
theorem PS.weak {X : Cx} {e : Stmt} {t u : TS} (h : PS X e t) (w : ∀ D σ H, u D σ H → t D σ H) : PS X e u := ⟨fun pins s σ H D I q => h.run pins s σ H D I (w D σ H q)⟩
theorem PSs.weak {X : Cx} {e : List Stmt} {t u : TS} (h : PSs X e t) (w : ∀ D σ H, u D σ H → t D σ H) : PSs X e u := ⟨fun pins s σ H D I q => h.run pins s σ H D I (w D σ H q)⟩

/-! ### monotony -/
section
variable {K : PySem.W.Frag} {H H' : Hp} {o o' : List Addr} {T : Tmp} {sa : List Slot} {σ : L2.St}
theorem SRel.mut (S : SRel K o T sa σ H) : ∀ b ∈ o, ∃ u, H b = some u ∧ isMut u = true := S.own.mem
theorem SRel.not (S : SRel K o T sa σ H) {b : Addr} {u : HO} (e : H b = some u) (n : isMut u = false) : b ∉ o := fun hb => by
  obtain ⟨u', e', m⟩ := S.mut b hb
  rw [e] at e'
  cases e'
  rw [n] at m
  cases m
theorem SRel.imm (S : SRel K o T sa σ H) (l : Le o H o' H') : ∀ b u, H b = some u → isMut u = false → H' b = some u := fun b u e n => (l b u e (S.not e n)).1
theorem RepS.mono {a : A} {v : V} (S : SRel K o T sa σ H) (l : Le o H o' H') (r : RepS K H o a v) : RepS K H' o' a v := by
  obtain ⟨fp, r, n⟩ := r
  refine ⟨fp, r.mono (S.imm l) (fun b hb u e => (l b u e (n b hb)).1), fun b hb => ?_⟩
  obtain ⟨u, e, _⟩ := r.mem b hb
  exact (l b u e (n b hb)).2
theorem RR.mono {r : R} {v : V} (S : SRel K o T sa σ H) (l : Le o H o' H') (h : RR K H o σ r v) : RR K H' o' σ r v := by
  cases r with
  | val fl a =>
    cases fl with
    | true => exact True.intro
    | false => exact RepS.mono S l h
  | peek j => exact h
theorem RRs.mono {rs : List R} {vs : List V} (S : SRel K o T sa σ H) (l : Le o H o' H') (h : RRs K H o σ rs vs) : RRs K H' o' σ rs vs := by
  induction h with
  | nil => exact .nil
  | cons h1 _ ih => exact .cons (h1.mono S l) ih
end

/-! ### what a held thing is -/
def rv : R → List Slot → Option A
  | .val _ a, _ => some a
  | .peek j, sa => match sa[j]? with
    | some (some p) => some p.2
    | _ => none
section
variable {K : PySem.W.Frag} {H H' : Hp} {o o' : List Addr} {T : Tmp} {sa : List Slot} {σ : L2.St}
theorem ownVs_get {j : Nat} {s : Slot} {v : Option V} (e : sa[j]? = some s) (e' : σ[j]? = some v) : (ownVs sa σ)[j]? = some (ownV s v) := by
  unfold ownVs
  rw [List.getElem?_zipWith, e, e']
theorem SRel.slot (S : SRel K o T sa σ H) {j : Nat} {p : Bool × A} {v : V} (e : sa[j]? = some (some p)) (e' : σ[j]? = some (some v)) : ∃ fp, Rep K H p.2 v fp ∧ (p.1 = true → ∀ b ∈ fp, b ∈ o) := by
  obtain ⟨fl, a⟩ := p
  cases fl with
  | false =>
    obtain ⟨v', e1, h⟩ := S.sl j false a e
    rw [e'] at e1
    cases e1
    obtain ⟨fp, r, _⟩ := h rfl
    exact ⟨fp, r, fun z => nomatch z⟩
  | true =>
    have h1 : (T.map (·.1) ++ sa.map ownA)[T.length + j]? = some a := by
      rw [List.getElem?_append_right (by simp)]
      simp [e, ownA]
    have h2 : (T.map (·.2) ++ ownVs sa σ)[T.length + j]? = some v := by
      rw [List.getElem?_append_right (by simp)]
      have := ownVs_get e e'
      simpa [ownV] using this
    obtain ⟨f1, fi, f2, rfl, r, _⟩ := S.own.at h1 h2
    exact ⟨fi, r, fun _ b hb => by simp [hb]⟩
/-- the top temporary -/
theorem SRel.top {a : A} {v : V} (S : SRel K o ((a, v) :: T) sa σ H) : ∃ fp o', o = fp ++ o' ∧ Rep K H a v fp ∧ SRel K o' T sa σ H := by
  have h := S.own
  simp only [List.map_cons, List.cons_append] at h
  unfold Reps at h
  obtain ⟨y, r, f, g, e, rfl, h1, h2⟩ := h
  cases e
  refine ⟨f, g, rfl, h1, S.len, fun i fl a' e => ?_, h2, (List.nodup_append.mp S.nd).2.1⟩
  obtain ⟨v', e1, q⟩ := S.sl i fl a' e
  refine ⟨v', e1, fun z => ?_⟩
  obtain ⟨fp, r', n⟩ := q z
  exact ⟨fp, r', fun b hb hg => n b hb (List.mem_append_right _ hg)⟩
theorem Le.drop {f g : List Addr} : Le (f ++ g) H g H := fun b u e n => ⟨e, fun z => n (List.mem_append_right _ z)⟩
theorem SRel.pop {r : R} {v : V} (S : SRel K o (pushT r v T) sa σ H) : ∃ o', SRel K o' T sa σ H ∧ Le o H o' H := by
  cases r with
  | val fl a =>
    cases fl with
    | true =>
      obtain ⟨f, g, rfl, _, S'⟩ := SRel.top S
      exact ⟨g, S', Le.drop⟩
    | false => exact ⟨o, S, Le.refl⟩
  | peek j => exact ⟨o, S, Le.refl⟩
theorem rv_rep {r : R} {v : V} {a : A} (S : SRel K o (pushT r v T) sa σ H) (h : RR K H o σ r v) (e : rv r sa = some a) : ∃ fp, Rep K H a v fp := by
  cases r with
  | val fl a' =>
    have e : a' = a := Option.some.inj e
    subst e
    cases fl with
    | true =>
      obtain ⟨f, g, rfl, r, _⟩ := SRel.top S
      exact ⟨f, r⟩
    | false =>
      obtain ⟨fp, r, _⟩ := h
      exact ⟨fp, r⟩
  | peek j =>
    have e : (match sa[j]? with
      | some (some p) => some p.2
      | _ => none) = some a := e
    split at e
    · rename_i p q
      cases e
      obtain ⟨fp, r, _⟩ := SRel.slot S q h
      exact ⟨fp, r⟩
    · cases e
end
end MM
namespace MM
open PySem PySem.Spec PyProof.Rows L2

def fin : A → R
  | .d x => .val false (.d x)
  | a => .val true a
/-- new things stand at free places, all else is as it was -/
structure Fresh (H H' : Hp) (o : List Addr) : Prop where
  same : ∀ b u, H b = some u → H' b = some u
  nd : o.Nodup
  new : ∀ b ∈ o, H b = none
theorem Fresh.refl {H : Hp} : Fresh H H [] := ⟨fun _ _ h => h, List.nodup_nil, fun _ h => nomatch h⟩

section
variable {K : PySem.W.Frag} {H H' : Hp} {o o' : List Addr} {T : Tmp} {sa : List Slot} {σ : L2.St}
theorem RepS.fresh {a : A} {v : V} (S : SRel K o T sa σ H) (F : Fresh H H' o') (r : RepS K H o a v) : RepS K H' (o' ++ o) a v := by
  obtain ⟨fp, r, n⟩ := r
  refine ⟨fp, r.mono (fun b u e _ => F.same b u e) (fun b _ u e => F.same b u e), fun b hb z => ?_⟩
  rcases List.mem_append.mp z with z | z
  · obtain ⟨u, e, _⟩ := r.mem b hb
    rw [F.new b z] at e
    cases e
  · exact n b hb z
theorem Le.fresh (S : SRel K o T sa σ H) (F : Fresh H H' o') : Le o H (o' ++ o) H' := fun b u e n => ⟨F.same b u e, fun z => by
  rcases List.mem_append.mp z with z | z
  · rw [F.new b z] at e
    cases e
  · exact n z⟩
theorem SRel.fresh {c : A} {v : V} (S : SRel K o T sa σ H) (F : Fresh H H' o') (r : Rep K H' c v o') :
    SRel K (o' ++ o) (pushT (fin c) v T) sa σ H' ∧ Le o H (o' ++ o) H' ∧ RR K H' (o' ++ o) σ (fin c) v := by
  have hs : ∀ (i : Nat) fl a, sa[i]? = some (some (fl, a)) → ∃ v, σ[i]? = some (some v) ∧ (fl = false → RepS K H' (o' ++ o) a v) := fun i fl a e => by
    obtain ⟨v, e1, q⟩ := S.sl i fl a e
    exact ⟨v, e1, fun z => RepS.fresh S F (q z)⟩
  have own' : Reps K H' (T.map (·.1) ++ sa.map ownA) (T.map (·.2) ++ ownVs sa σ) o := S.own.mono (fun b u e _ => F.same b u e) (fun b _ u e => F.same b u e)
  have nd' : (o' ++ o).Nodup := List.nodup_append.mpr ⟨F.nd, S.nd, fun a ha b hb e => by
    subst e
    obtain ⟨u, e, _⟩ := S.mut a hb
    rw [F.new a ha] at e
    cases e⟩
  refine ⟨?_, Le.fresh S F, ?_⟩
  · cases c with
    | d x =>
      have h : RepD K H' x v ∧ o' = [] := by unfold Rep at r; exact r
      obtain ⟨_, rfl⟩ := h
      exact ⟨S.len, hs, own', nd'⟩
    | _ => exact ⟨S.len, hs, Reps.cons r own', nd'⟩
  · cases c with
    | d x =>
      have h : RepD K H' x v ∧ o' = [] := by unfold Rep at r; exact r
      obtain ⟨h, rfl⟩ := h
      refine ⟨[], ?_, fun _ h => nomatch h⟩
      unfold Rep
      exact ⟨h, rfl⟩
    | _ => exact True.intro
end

/-! ### operations by values -/
def Pr1 (K : PySem.W.Frag) (r : V → Hp → VK → Prop) (f : A → Option A) : Prop := ∀ (H : Hp) (a : A) (x : V) (fa : List Addr) (c : A) (Q : VK), Rep K H a x fa → f a = some c →
  (∀ v H' o', Fresh H H' o' → Rep K H' c v o' → Q v H') → r x H Q
def Pr2 (K : PySem.W.Frag) (r : R2) (f : A → A → Option A) : Prop := ∀ (H : Hp) (a b : A) (x y : V) (fa fb : List Addr) (c : A) (Q : VK), Rep K H a x fa → Rep K H b y fb → f a b = some c →
  (∀ v H' o', Fresh H H' o' → Rep K H' c v o' → Q v H') → r x y H Q
def PrN (K : PySem.W.Frag) (r : List V → Hp → VK → Prop) (f : List A → Option A) : Prop := ∀ (H : Hp) (as : List A) (xs : List V) (fa : List Addr) (c : A) (Q : VK), Reps K H as xs fa → f as = some c →
  (∀ v H' o', Fresh H H' o' → Rep K H' c v o' → Q v H') → r xs H Q

def app1 (f : A → Option A) (r : R) : SM R := fun sa => match rv r sa with
  | some a => match f a with
    | some c => some (fin c, sa)
    | none => none
  | none => none
def app2 (f : A → A → Option A) (r1 r2 : R) : SM R := fun sa => match rv r1 sa, rv r2 sa with
  | some a, some b => match f a b with
    | some c => some (fin c, sa)
    | none => none
  | _, _ => none
def rvs : List R → List Slot → Option (List A)
  | [], _ => some []
  | r :: rs, sa => match rv r sa, rvs rs sa with
    | some a, some as => some (a :: as)
    | _, _ => none
def appN (f : List A → Option A) (rs : List R) : SM R := fun sa => match rvs rs sa with
  | some as => match f as with
    | some c => some (fin c, sa)
    | none => none
  | none => none
def m1 (f : A → Option A) (ma : SM R) : SM R := bnd ma fun r => app1 f r
def m2 (f : A → A → Option A) (ma mb : SM R) : SM R := bnd ma fun r1 => bnd mb fun r2 => app2 f r1 r2
def mN (f : List A → Option A) (ms : SM (List R)) : SM R := bnd ms fun rs => appN f rs
theorem app1_some {f : A → Option A} {r r' : R} {sa sa' : List Slot} (h : app1 f r sa = some (r', sa')) : ∃ a c, rv r sa = some a ∧ f a = some c ∧ r' = fin c ∧ sa' = sa := by
  unfold app1 at h
  split at h
  · rename_i a ea
    split at h
    · rename_i c ec
      cases h
      exact ⟨a, c, ea, ec, rfl, rfl⟩
    · cases h
  · cases h
theorem app2_some {f : A → A → Option A} {r1 r2 r' : R} {sa sa' : List Slot} (h : app2 f r1 r2 sa = some (r', sa')) : ∃ a b c, rv r1 sa = some a ∧ rv r2 sa = some b ∧ f a b = some c ∧ r' = fin c ∧ sa' = sa := by
  unfold app2 at h
  split at h
  · rename_i a b ea eb
    split at h
    · rename_i c ec
      cases h
      exact ⟨a, b, c, ea, eb, ec, rfl, rfl⟩
    · cases h
  · cases h
theorem appN_some {f : List A → Option A} {rs : List R} {r' : R} {sa sa' : List Slot} (h : appN f rs sa = some (r', sa')) : ∃ as c, rvs rs sa = some as ∧ f as = some c ∧ r' = fin c ∧ sa' = sa := by
  unfold appN at h
  split at h
  · rename_i a ea
    split at h
    · rename_i c ec
      cases h
      exact ⟨a, c, ea, ec, rfl, rfl⟩
    · cases h
  · cases h
section
variable {K : PySem.W.Frag} {H H' : Hp} {o o' : List Addr} {T : Tmp} {sa sa' : List Slot} {σ : L2.St}
theorem pushTs_pop : ∀ {rs : List R} {vs : List V} {T : Tmp} {o : List Addr}, SRel K o (pushTs rs vs T) sa σ H → ∃ o', SRel K o' T sa σ H ∧ Le o H o' H
  | [], vs, T, o, S => ⟨o, S, Le.refl⟩
  | r :: rs, [], T, o, S => ⟨o, S, Le.refl⟩
  | r :: rs, v :: vs, T, o, S => by
    obtain ⟨o1, S1, L1⟩ := pushTs_pop (rs := rs) (vs := vs) S
    obtain ⟨o2, S2, L2⟩ := SRel.pop S1
    exact ⟨o2, S2, L1.trans L2⟩
theorem rvs_rep : ∀ {rs : List R} {vs : List V} {T : Tmp} {o : List Addr} {as : List A}, SRel K o (pushTs rs vs T) sa σ H → RRs K H o σ rs vs → rvs rs sa = some as → ∃ fp, Reps K H as vs fp
  | [], vs, T, o, as, S, h, e => by
    cases h
    cases e
    exact ⟨[], Reps.nil⟩
  | r :: rs, vs, T, o, as, S, h, e => by
    cases h with
    | @cons _ v _ vs h1 h2 =>
      unfold rvs at e
      split at e
      · rename_i a as' ea eas
        cases e
        have S' : SRel K o (pushTs rs vs (pushT r v T)) sa σ H := S
        obtain ⟨f2, r2⟩ := rvs_rep S' h2 eas
        obtain ⟨o1, S1, L1⟩ := pushTs_pop S'
        obtain ⟨f1, r1⟩ := rv_rep S1 (h1.mono S L1) ea
        exact ⟨f1 ++ f2, Reps.cons r1 r2⟩
      · cases e
end

section
variable {X : Cx} {a b : Expr} {ma mb : SM R} {pos : Pos}
theorem step1 {r : V → Hp → VK → Prop} {f : A → Option A} (p : Pr1 X.K r f) {σ : L2.St} {H : Hp} {Q : VK} (h : tOf X.K (m1 f ma) σ H Q) : tOf X.K ma σ H fun x H1 => r x H1 Q := by
  obtain ⟨o, T, sa, r', sa', e, S, q⟩ := h
  obtain ⟨r1, s1, e1, e2⟩ := bnd_some e
  obtain ⟨a, c, ea, ec, rfl, rfl⟩ := app1_some e2
  refine ⟨o, T, sa, r1, _, e1, S, fun o1 v H1 L1 S1 R1 => ?_⟩
  obtain ⟨fp, ra⟩ := rv_rep S1 R1 ea
  refine p H1 a v fp c Q ra ec fun v' H' o' F r' => ?_
  obtain ⟨o2, S2, L2⟩ := SRel.pop S1
  obtain ⟨S3, L3, R3⟩ := SRel.fresh S2 F r'
  exact q _ v' H' ((L1.trans L2).trans L3) S3 R3
theorem step2 {r : R2} {f : A → A → Option A} (p : Pr2 X.K r f) {σ : L2.St} {H : Hp} {Q : VK} (h : tOf X.K (m2 f ma mb) σ H Q) : tOf X.K ma σ H fun x H1 => tOf X.K mb σ H1 fun y H2 => r x y H2 Q := by
  obtain ⟨o, T, sa, r', sa', e, S, q⟩ := h
  obtain ⟨r1, s1, e1, e2⟩ := bnd_some e
  obtain ⟨r2, s2, e2, e3⟩ := bnd_some e2
  obtain ⟨a, b, c, ea, eb, ec, rfl, rfl⟩ := app2_some e3
  refine ⟨o, T, sa, r1, s1, e1, S, fun o1 v H1 L1 S1 R1 => ?_⟩
  refine ⟨o1, pushT r1 v T, s1, r2, _, e2, S1, fun o2 v2 H2 L2 S2 R2 => ?_⟩
  obtain ⟨fb, rb⟩ := rv_rep S2 R2 eb
  obtain ⟨o3, S3, L3⟩ := SRel.pop S2
  obtain ⟨fa, ra⟩ := rv_rep S3 ((R1.mono S1 L2).mono S2 L3) ea
  refine p H2 a b v v2 fa fb c Q ra rb ec fun v' H' o' F r' => ?_
  obtain ⟨o4, S4, L4⟩ := SRel.pop S3
  obtain ⟨S5, L5, R5⟩ := SRel.fresh S4 F r'
  exact q _ v' H' ((((L1.trans L2).trans L3).trans L4).trans L5) S5 R5
theorem stepN {r : List V → Hp → VK → Prop} {f : List A → Option A} {ms : SM (List R)} (p : PrN X.K r f) {σ : L2.St} {H : Hp} {Q : VK} (h : tOf X.K (mN f ms) σ H Q) : tOfA X.K ms σ H fun xs H1 => r xs H1 Q := by
  obtain ⟨o, T, sa, r', sa', e, S, q⟩ := h
  obtain ⟨rs, s1, e1, e2⟩ := bnd_some e
  obtain ⟨as, c, ea, ec, rfl, rfl⟩ := appN_some e2
  refine ⟨o, T, sa, rs, _, e1, S, fun o1 vs H1 L1 S1 R1 => ?_⟩
  obtain ⟨fp, ra⟩ := rvs_rep S1 R1 ea
  refine p H1 as vs fp c Q ra ec fun v' H' o' F r' => ?_
  obtain ⟨o2, S2, L2⟩ := pushTs_pop S1
  obtain ⟨S3, L3, R3⟩ := SRel.fresh S2 F r'
  exact q _ v' H' ((L1.trans L2).trans L3) S3 R3

/-! ### rules: operators, calls -/
theorem pm_op {op : Operator} {r : R2} {f : A → A → Option A} (ho : OpR X (binaryOp op) r) (p : Pr2 X.K r f) (ha : PM X a ma) (hb : PM X b mb) : PM X (.BinOp a op b pos) (m2 f ma mb) := PE.weak (pe_op ho ha hb) fun σ H Q h => step2 p h
end
end MM
namespace MM
open PySem PySem.Spec PyProof.Rows L2

/-! ### names, constants -/
def mC (x : D) : SM R := ret (.val false (.d x))
def mV (j : Nat) : SM R := fun sa => match sa[j]? with
  | some (some _) => some (.peek j, sa)
  | _ => none
def mMv (j : Nat) : SM R := fun sa => match sa[j]? with
  | some (some (fl, a)) => some (.val fl a, sa.set j none)
  | _ => none
/-- what is to be kept: a slot's own list is from then on shared -/
def use (r : R) : SM (Bool × A) := match r with
  | .val fl a => ret (fl, a)
  | .peek j => fun sa => match sa[j]? with
    | some (some (_, a)) => some ((false, a), sa.set j (some (false, a)))
    | _ => none
section
variable {K : PySem.W.Frag} {H H' : Hp} {o o' : List Addr} {T : Tmp} {sa sa' : List Slot} {σ : L2.St}
theorem RepS.d {x : D} {v : V} (h : RepD K H x v) : RepS K H o (.d x) v := ⟨[], by unfold Rep; exact ⟨h, rfl⟩, fun _ h => nomatch h⟩
theorem ownVs_set {sa : List Slot} {σ : L2.St} {i : Nat} {s : Slot} {v : Option V} (h : i < sa.length) (h' : i < σ.length) : ownVs (sa.set i s) (σ.set i v) = (ownVs sa σ).set i (ownV s v) := by
  unfold ownVs
  apply List.ext_getElem?
  intro j
  rw [List.getElem?_zipWith]
  by_cases e : j = i
  · subst e
    rw [List.getElem?_set_self h, List.getElem?_set_self h', List.getElem?_set_self (by simp; omega)]
  · rw [List.getElem?_set_ne (Ne.symm e), List.getElem?_set_ne (Ne.symm e), List.getElem?_set_ne (Ne.symm e), List.getElem?_zipWith]
theorem ownVs_set1 {sa : List Slot} {σ : L2.St} {i : Nat} {s : Slot} {v : Option V} (h : i < sa.length) (hv : σ[i]? = some v) : ownVs (sa.set i s) σ = (ownVs sa σ).set i (ownV s v) := by
  have h' : i < σ.length := (List.getElem?_eq_some_iff.mp hv).1
  have e : σ.set i v = σ := by
    apply List.ext_getElem?
    intro j
    by_cases e : j = i
    · subst e
      rw [List.getElem?_set_self h', hv]
    · rw [List.getElem?_set_ne (Ne.symm e)]
  have := ownVs_set (s := s) (v := v) h h'
  rw [e] at this
  exact this
theorem RepS.sub {a : A} {v : V} (h : ∀ b, b ∈ o' → b ∈ o) (r : RepS K H o a v) : RepS K H o' a v := by
  obtain ⟨fp, r, n⟩ := r
  exact ⟨fp, r, fun b hb z => n b hb (h b z)⟩
/-- slot j is let go -/
theorem SRel.out {j : Nat} {p : Bool × A} {v : V} (S : SRel K o T sa σ H) (e : sa[j]? = some (some p)) (e' : σ[j]? = some (some v)) :
    ∃ fi o', Rep K H p.2 v fi ∧ SRel K o' T (sa.set j none) σ H ∧ (∀ b, b ∈ o' → b ∈ o) ∧ (p.1 = true → (∀ b, b ∈ o → b ∈ fi ∨ b ∈ o') ∧ (fi ++ o').Nodup ∧ (∀ b ∈ fi, b ∈ o)) ∧ (p.1 = false → o' = o ∧ ∀ b ∈ fi, b ∉ o) := by
  have hj : j < sa.length := (List.getElem?_eq_some_iff.mp e).1
  have h1 : (T.map (·.1) ++ sa.map ownA)[T.length + j]? = some (ownA (some p)) := by
    rw [List.getElem?_append_right (by simp)]
    simp [e]
  have h2 : (T.map (·.2) ++ ownVs sa σ)[T.length + j]? = some (ownV (some p) (some v)) := by
    rw [List.getElem?_append_right (by simp)]
    simpa using ownVs_get e e'
  obtain ⟨f1, fi, f2, rfl, r, put⟩ := S.own.set h1 h2
  have put' := put (x' := .d .non) (y' := .non) (g := []) (by unfold Rep; exact ⟨by unfold RepD; rfl, rfl⟩)
  have sx : (T.map (·.1) ++ sa.map ownA).set (T.length + j) (.d .non) = T.map (·.1) ++ (sa.set j none).map ownA := by
    rw [List.set_append_right _ _ (by simp)]
    simp [List.map_set, ownA]
  have sy : (T.map (·.2) ++ ownVs sa σ).set (T.length + j) .non = T.map (·.2) ++ ownVs (sa.set j none) σ := by
    rw [List.set_append_right _ _ (by simp), ownVs_set1 hj e']
    simp [ownV]
  rw [sx, sy, List.append_nil] at put'
  have nd := S.nd
  have nd' : (fi ++ (f1 ++ f2)).Nodup := by
    rw [List.append_assoc] at nd
    exact (List.perm_append_comm_assoc fi f1 f2).symm.nodup nd
  have sub : ∀ b, b ∈ f1 ++ f2 → b ∈ f1 ++ fi ++ f2 := fun b hb => by
    simp only [List.mem_append] at hb ⊢
    rcases hb with h | h
    · exact .inl (.inl h)
    · exact .inr h
  have S' : SRel K (f1 ++ f2) T (sa.set j none) σ H := by
    refine ⟨by simp [S.len], fun i fl a q => ?_, put', (List.nodup_append.mp nd').2.1⟩
    by_cases hi : i = j
    · subst hi
      rw [List.getElem?_set_self hj] at q
      cases q
    · rw [List.getElem?_set_ne (Ne.symm hi)] at q
      obtain ⟨w, e1, z⟩ := S.sl i fl a q
      exact ⟨w, e1, fun y => (z y).sub sub⟩
  obtain ⟨fl, a⟩ := p
  cases fl with
  | true =>
    refine ⟨fi, f1 ++ f2, r, S', sub, fun _ => ⟨fun b hb => ?_, nd', fun b hb => by simp [hb]⟩, fun z => Bool.noConfusion z⟩
    simp only [List.mem_append] at hb ⊢
    rcases hb with (h | h) | h
    · exact .inr (.inl h)
    · exact .inl h
    · exact .inr (.inr h)
  | false =>
    have hr : Rep K H (.d .non) .non fi := r
    have : fi = [] := by
      unfold Rep at hr
      exact hr.2
    subst this
    obtain ⟨w, e1, z⟩ := S.sl j false a e
    rw [e'] at e1
    cases e1
    obtain ⟨fp, rp, n⟩ := z rfl
    refine ⟨fp, f1 ++ f2, rp, S', sub, (fun z => Bool.noConfusion z), fun _ => ⟨by simp, n⟩⟩
/-- a thing is put into slot j -/
theorem SRel.put {j : Nat} {fl : Bool} {a : A} {v : V} (S : SRel K o (pushT (.val fl a) v T) sa σ H) (R : RR K H o σ (.val fl a) v) (hj : j < sa.length) :
    ∃ o', SRel K o' T (sa.set j (some (fl, a))) (σ.set j (some v)) H ∧ Le o H o' H := by
  -- first what stands there goes
  have hs : j < σ.length := by rw [← S.len]; exact hj
  have clear : ∀ {T : Tmp} {o : List Addr}, SRel K o T sa σ H → ∃ o', SRel K o' T (sa.set j none) σ H ∧ (∀ b, b ∈ o' → b ∈ o) := fun {T o} S => by
    cases q : sa[j] with
    | none =>
      have : sa.set j none = sa := by
        apply List.ext_getElem?
        intro i
        by_cases e : i = j
        · subst e
          rw [List.getElem?_set_self hj, List.getElem?_eq_getElem hj, q]
        · rw [List.getElem?_set_ne (Ne.symm e)]
      rw [this]
      exact ⟨o, S, fun _ h => h⟩
    | some p =>
      have e : sa[j]? = some (some p) := by rw [List.getElem?_eq_getElem hj, q]
      obtain ⟨w, e1, _⟩ := S.sl j p.1 p.2 e
      obtain ⟨fi, o', _, S', sub, _⟩ := SRel.out S e e1
      exact ⟨o', S', sub⟩
  cases fl with
  | false =>
    obtain ⟨o', S', sub⟩ := clear S
    refine ⟨o', ⟨by simp [S.len], fun i fl' a' q => ?_, ?_, S'.nd⟩, fun b u e n => ⟨e, fun z => n (sub b z)⟩⟩
    · by_cases hi : i = j
      · subst hi
        rw [List.getElem?_set_self hj] at q
        cases q
        exact ⟨v, List.getElem?_set_self hs, fun _ => RepS.sub sub R⟩
      · rw [List.getElem?_set_ne (Ne.symm hi)] at q
        obtain ⟨w, e1, z⟩ := S'.sl i fl' a' (by rw [List.getElem?_set_ne (Ne.symm hi)]; exact q)
        exact ⟨w, by rw [List.getElem?_set_ne (Ne.symm hi)]; exact e1, z⟩
    · have h := S'.own
      have e1 : (sa.set j (some (false, a))).map ownA = (sa.set j none).map ownA := by simp [List.map_set, ownA]
      have e2 : ownVs (sa.set j (some (false, a))) (σ.set j (some v)) = ownVs (sa.set j none) σ := by
        rw [ownVs_set hj hs, ownVs_set1 hj (List.getElem?_eq_getElem hs)]
        simp [ownV]
      rw [e1, e2]
      exact h
  | true =>
    obtain ⟨o', S', sub⟩ := clear S
    have h := S'.own
    have h : Reps K H (a :: (T.map (·.1) ++ (sa.set j none).map ownA)) (v :: (T.map (·.2) ++ ownVs (sa.set j none) σ)) o' := h
    unfold Reps at h
    obtain ⟨y, r, f, g, e, rfl, ra, h⟩ := h
    cases e
    have h1 : (T.map (·.1) ++ (sa.set j none).map ownA)[T.length + j]? = some (.d .non) := by
      rw [List.getElem?_append_right (by simp)]
      simp [hj, ownA]
    have h2 : (T.map (·.2) ++ ownVs (sa.set j none) σ)[T.length + j]? = some .non := by
      rw [List.getElem?_append_right (by simp)]
      have := ownVs_get (sa := sa.set j none) (σ := σ) (j := j) (List.getElem?_set_self hj) (List.getElem?_eq_getElem hs)
      simpa [ownV] using this
    obtain ⟨f1, fi, f2, rfl, r0, put⟩ := Reps.set h h1 h2
    have : fi = [] := by
      unfold Rep at r0
      exact r0.2
    subst this
    have own' := put ra
    have sx : (T.map (·.1) ++ (sa.set j none).map ownA).set (T.length + j) a = T.map (·.1) ++ (sa.set j (some (true, a))).map ownA := by
      rw [List.set_append_right _ _ (by simp)]
      simp [List.map_set, ownA]
    have sy : (T.map (·.2) ++ ownVs (sa.set j none) σ).set (T.length + j) v = T.map (·.2) ++ ownVs (sa.set j (some (true, a))) (σ.set j (some v)) := by
      rw [List.set_append_right _ _ (by simp), ownVs_set hj hs, ownVs_set1 hj (List.getElem?_eq_getElem hs)]
      simp [ownV]
    rw [sx, sy] at own'
    have nd := S'.nd
    have mem : ∀ b, b ∈ f1 ++ f ++ f2 → b ∈ f ++ (f1 ++ [] ++ f2) := fun b hb => by
      simp only [List.mem_append, List.append_nil] at hb ⊢
      rcases hb with (h | h) | h
      · exact .inr (.inl h)
      · exact .inl h
      · exact .inr (.inr h)
    refine ⟨f1 ++ f ++ f2, ⟨by simp [S.len], fun i fl' a' q => ?_, own', ?_⟩, fun b u e n => ⟨e, fun z => n (sub b (mem b z))⟩⟩
    · by_cases hi : i = j
      · subst hi
        rw [List.getElem?_set_self hj] at q
        cases q
        exact ⟨v, List.getElem?_set_self hs, fun z => nomatch z⟩
      · rw [List.getElem?_set_ne (Ne.symm hi)] at q
        obtain ⟨w, e1, z⟩ := S'.sl i fl' a' (by rw [List.getElem?_set_ne (Ne.symm hi)]; exact q)
        exact ⟨w, by rw [List.getElem?_set_ne (Ne.symm hi)]; exact e1, fun y => RepS.sub mem (z y)⟩
    · rw [List.append_nil] at nd
      rw [List.append_assoc]
      exact (List.perm_append_comm_assoc f1 f f2).symm.nodup nd
theorem bnd_use {r : R} {fl : Bool} {a : A} {v : V} (S : SRel K o (pushT r v T) sa σ H) (R : RR K H o σ r v) (e : use r sa = some ((fl, a), sa')) :
    ∃ o', SRel K o' (pushT (.val fl a) v T) sa' σ H ∧ Le o H o' H ∧ RR K H o' σ (.val fl a) v ∧ sa'.length = sa.length := by
  cases r with
  | val fl' a' =>
    cases e
    exact ⟨o, S, Le.refl, R, rfl⟩
  | peek j =>
    have e : (match sa[j]? with
      | some (some (_, a)) => some (((false, a) : Bool × A), sa.set j (some (false, a)))
      | _ => none) = some ((fl, a), sa') := e
    split at e
    · rename_i fl0 a0 q
      cases e
      have hj : j < sa.length := (List.getElem?_eq_some_iff.mp q).1
      have R : σ[j]? = some (some v) := R
      obtain ⟨fi, o', ra, S', sub, h1, h2⟩ := SRel.out S q R
      have nfi : ∀ b ∈ fi, b ∉ o' := fun b hb z => by
        cases fl0 with
        | true => exact (List.nodup_append.mp (h1 rfl).2.1).2.2 b hb b z rfl
        | false =>
          obtain ⟨rfl, n⟩ := h2 rfl
          exact n b hb z
      have rs : RepS K H o' a v := ⟨fi, ra, nfi⟩
      obtain ⟨o2, S2, l2⟩ := SRel.put (j := j) (fl := false) (a := a) (v := v) (T := T) S' rs (by simpa using hj)
      have e2 : (sa.set j none).set j (some (false, a)) = sa.set j (some (false, a)) := by simp
      have e3 : σ.set j (some v) = σ := by
        apply List.ext_getElem?
        intro i
        by_cases e : i = j
        · subst e
          rw [List.getElem?_set_self (List.getElem?_eq_some_iff.mp R).1, R]
        · rw [List.getElem?_set_ne (Ne.symm e)]
      rw [e2, e3] at S2
      have L1 : Le o H o' H := fun b u e n => ⟨e, fun z => n (sub b z)⟩
      exact ⟨o2, S2, L1.trans l2, RepS.mono S' l2 rs, by simp⟩
    · cases e
end
section
variable {X : Cx} {pos : Pos}
theorem pm_v {x : Str} {i : Nat} (h : PE X (.Name x pos) (tVar i)) : PM X (.Name x pos) (mV i) := PE.weak h fun σ H Q h => by
  obtain ⟨o, T, sa, r, sa', e, S, q⟩ := h
  unfold mV at e
  split at e
  · rename_i p ep
    cases e
    obtain ⟨v, e1, _⟩ := S.sl i p.1 p.2 ep
    exact ⟨v, e1, q o v H Le.refl S e1⟩
  · cases e
theorem pm_mv {x : Str} {i : Nat} (h : PE X (.Name x pos) (tVar i)) : PM X (.Name x pos) (mMv i) := PE.weak h fun σ H Q h => by
  obtain ⟨o, T, sa, r, sa', e, S, q⟩ := h
  unfold mMv at e
  split at e
  · rename_i fl a ep
    cases e
    obtain ⟨v, e1, _⟩ := S.sl i fl a ep
    refine ⟨v, e1, ?_⟩
    obtain ⟨fi, o', ra, S', sub, h1, h2⟩ := SRel.out S ep e1
    cases fl with
    | false =>
      obtain ⟨rfl, n⟩ := h2 rfl
      exact q o' v H Le.refl S' ⟨fi, ra, n⟩
    | true =>
      obtain ⟨m, nd, mo⟩ := h1 rfl
      refine q (fi ++ o') v H (fun b u e n => ⟨e, fun z => ?_⟩) ⟨S'.len, fun i' fl' a' q' => ?_, Reps.cons ra S'.own, nd⟩ True.intro
      · rcases List.mem_append.mp z with z | z
        · exact n (mo b z)
        · exact n (sub b z)
      · obtain ⟨w, e1, z⟩ := S.sl i' fl' a' (by
          by_cases hi : i' = i
          · subst hi
            rw [List.getElem?_set_self (List.getElem?_eq_some_iff.mp ep).1] at q'
            cases q'
          · rw [List.getElem?_set_ne (Ne.symm hi)] at q'
            exact q')
        exact ⟨w, e1, fun y => RepS.sub (fun b hb => by
          rcases List.mem_append.mp hb with hb | hb
          · exact mo b hb
          · exact sub b hb) (z y)⟩
  · cases e
theorem pm_c {e : Expr} {x : D} {v : V} (h : PE X e (tC v)) (r : ∀ K H, RepD K H x v) : PM X e (mC x) := PE.weak h fun σ H Q h => by
  obtain ⟨o, T, sa, r', sa', e, S, q⟩ := h
  cases e
  exact q o v H Le.refl S (RepS.d (r _ _))
theorem pm_int {i : Int} {j} : PM X (.Constant (.int i) j pos) (mC (.int i)) := pm_c pe_int fun K H => by unfold RepD; rfl
theorem pm_bl {b : Bool} {j} : PM X (.Constant (.bool b) j pos) (mC (.bl b)) := pm_c pe_bl fun K H => by unfold RepD; rfl
theorem pm_non {j} : PM X (.Constant .none j pos) (mC .non) := pm_c pe_non fun K H => by unfold RepD; rfl
theorem pm_str {x : Str} {j} : PM X (.Constant (.str x) j pos) (mC (.str x)) := pm_c pe_str fun K H => by unfold RepD; rfl
end
end MM
namespace MM
open PySem PySem.Spec PyProof.Rows L2

/-! ### what operations do with values -/
abbrev A.i (n : Int) : A := .d (.int n)
abbrev A.b (b : Bool) : A := .d (.bl b)
abbrev A.s (x : Str) : A := .d (.str x)
abbrev A.n : A := .d .non
abbrev A.t (xs : List D) : A := .d (.tup xs)

def mulB (i j : Int) : Bool := decide (-(2 ^ 64) < i ∧ i < 2 ^ 64) || decide (-(2 ^ 64) < j ∧ j < 2 ^ 64) || decide (i.natAbs.log2 + j.natAbs.log2 < 1000000)
def divB (j : Int) : Bool := decide (j ≠ 0 ∧ j.natAbs < 1073741824) || decide (0 < j ∧ j.natAbs.log2 < 9000)
def szB (n : Nat) : Bool := decide (n ≤ 16777216)
theorem szB_ok {n : Nat} (h : szB n = true) : n ≤ sizeLine := by
  have := of_decide_eq_true h
  rw [sizeLine_eq]
  exact this
/-- data in a list of values -/
def allD : List A → Option (List D)
  | [] => some []
  | .d x :: r => (allD r).map (x :: ·)
  | _ :: _ => none
def mkL (xs : List A) : A := match allD xs with
  | some ds => .ls ds
  | none => .lst xs
def mkT (xs : List A) : A := match allD xs with
  | some ds => .d (.tup ds)
  | none => .tpl xs
theorem allD_map : ∀ ds : List D, allD (ds.map .d) = some ds
  | [] => rfl
  | d :: ds => by
    show (allD (ds.map .d)).map (d :: ·) = _
    rw [allD_map ds]
    rfl
theorem allD_eq : ∀ {xs : List A} {ds : List D}, allD xs = some ds → xs = ds.map .d
  | [], ds, h => by cases h; rfl
  | .d x :: r, ds, h => by
    have h : (allD r).map (x :: ·) = some ds := h
    cases e : allD r with
    | none => rw [e] at h; cases h
    | some q =>
      rw [e] at h
      cases h
      rw [allD_eq e]
      rfl
  | .ls _ :: _, _, h => by cases h
  | .lst _ :: _, _, h => by cases h
  | .tpl _ :: _, _, h => by cases h
  | .dd _ :: _, _, h => by cases h
section
variable {K : PySem.W.Frag} {H : Hp}
theorem Reps.data : ∀ {ds : List D} {ys : List V} {f : List Addr}, Reps K H (ds.map .d) ys f → RepDs K H ds ys ∧ f = []
  | [], ys, f, h => by
    unfold Reps at h
    obtain ⟨rfl, rfl⟩ := h
    unfold RepDs
    exact ⟨rfl, rfl⟩
  | d :: ds, ys, f, h => by
    have h : Reps K H (.d d :: ds.map .d) ys f := h
    unfold Reps at h
    obtain ⟨y, r, f1, f2, rfl, rfl, h1, h2⟩ := h
    obtain ⟨h3, rfl⟩ := Reps.data h2
    unfold Rep at h1
    obtain ⟨h1, rfl⟩ := h1
    unfold RepDs
    exact ⟨⟨y, r, rfl, h1, h3⟩, rfl⟩
theorem Reps.ofData : ∀ {ds : List D} {ys : List V}, RepDs K H ds ys → Reps K H (ds.map .d) ys []
  | [], ys, h => by
    unfold RepDs at h
    subst h
    exact Reps.nil
  | d :: ds, ys, h => by
    unfold RepDs at h
    obtain ⟨y, r, rfl, h1, h2⟩ := h
    have : Rep K H (.d d) y [] := by unfold Rep; exact ⟨h1, rfl⟩
    exact Reps.cons this (Reps.ofData h2)
theorem RepDs.len : ∀ {ds : List D} {ys : List V}, RepDs K H ds ys → ds.length = ys.length
  | [], ys, h => by
    unfold RepDs at h
    subst h
    rfl
  | d :: ds, ys, h => by
    unfold RepDs at h
    obtain ⟨y, r, rfl, h1, h2⟩ := h
    simp [RepDs.len h2]
theorem RepDs.get : ∀ {ds : List D} {ys : List V} {i : Nat} {d : D}, RepDs K H ds ys → ds[i]? = some d → ∃ y, ys[i]? = some y ∧ RepD K H d y
  | [], ys, i, d, h, e => by simp at e
  | d' :: ds, ys, 0, d, h, e => by
    unfold RepDs at h
    obtain ⟨y, r, rfl, h1, h2⟩ := h
    simp at e
    subst e
    exact ⟨y, rfl, h1⟩
  | d' :: ds, ys, i + 1, d, h, e => by
    unfold RepDs at h
    obtain ⟨y, r, rfl, h1, h2⟩ := h
    simp at e
    obtain ⟨z, e1, e2⟩ := RepDs.get h2 e
    exact ⟨z, by simpa using e1, e2⟩
theorem RepDs.append : ∀ {ds es : List D} {ys zs : List V}, RepDs K H ds ys → RepDs K H es zs → RepDs K H (ds ++ es) (ys ++ zs)
  | [], es, ys, zs, h, h' => by
    unfold RepDs at h
    subst h
    exact h'
  | d :: ds, es, ys, zs, h, h' => by
    unfold RepDs at h
    obtain ⟨y, r, rfl, h1, h2⟩ := h
    show RepDs K H (d :: (ds ++ es)) _
    unfold RepDs
    exact ⟨y, r ++ zs, rfl, h1, RepDs.append h2 h'⟩
theorem RepDs.take : ∀ {ds : List D} {ys : List V} (n : Nat), RepDs K H ds ys → RepDs K H (ds.take n) (ys.take n)
  | _, _, 0, _ => by
    simp
    unfold RepDs
    rfl
  | [], ys, n + 1, h => by
    unfold RepDs at h
    subst h
    simp
    unfold RepDs
    rfl
  | d :: ds, ys, n + 1, h => by
    unfold RepDs at h
    obtain ⟨y, r, rfl, h1, h2⟩ := h
    show RepDs K H (d :: ds.take n) (y :: r.take n)
    unfold RepDs
    exact ⟨y, r.take n, rfl, h1, RepDs.take n h2⟩
theorem RepDs.drop : ∀ {ds : List D} {ys : List V} (n : Nat), RepDs K H ds ys → RepDs K H (ds.drop n) (ys.drop n)
  | _, _, 0, h => h
  | [], ys, n + 1, h => by
    unfold RepDs at h
    subst h
    simp
    unfold RepDs
    rfl
  | d :: ds, ys, n + 1, h => by
    unfold RepDs at h
    obtain ⟨y, r, rfl, h1, h2⟩ := h
    exact RepDs.drop n h2
theorem repD_d {x : D} {v : V} {f : List Addr} (h : Rep K H (.d x) v f) : RepD K H x v := by
  unfold Rep at h
  exact h.1
theorem rep_d {x : D} {v : V} (h : RepD K H x v) : Rep K H (.d x) v [] := by
  unfold Rep
  exact ⟨h, rfl⟩
theorem rep_int {i : Int} : Rep K H (.d (.int i)) (.int i) [] := rep_d (by unfold RepD; rfl)
theorem rep_bl {i : Bool} : Rep K H (.d (.bl i)) (.bl i) [] := rep_d (by unfold RepD; rfl)
theorem rep_str {i : Str} : Rep K H (.d (.str i)) (.str i) [] := rep_d (by unfold RepD; rfl)
theorem rep_non : Rep K H (.d .non) .non [] := rep_d (by unfold RepD; rfl)
theorem int_of {i : Int} {v : V} {f : List Addr} (h : Rep K H (.d (.int i)) v f) : v = .int i := by
  have := repD_d h
  unfold RepD at this
  exact this
theorem bl_of {i : Bool} {v : V} {f : List Addr} (h : Rep K H (.d (.bl i)) v f) : v = .bl i := by
  have := repD_d h
  unfold RepD at this
  exact this
theorem str_of {i : Str} {v : V} {f : List Addr} (h : Rep K H (.d (.str i)) v f) : v = .str i := by
  have := repD_d h
  unfold RepD at this
  exact this
theorem non_of {v : V} {f : List Addr} (h : Rep K H (.d .non) v f) : v = .non := by
  have := repD_d h
  unfold RepD at this
  exact this
theorem tup_of {xs : List D} {v : V} {f : List Addr} (h : Rep K H (.d (.tup xs)) v f) : ∃ a ys, v = .ref a ∧ SqT K H a ys ∧ RepDs K H xs ys := by
  have := repD_d h
  unfold RepD at this
  exact this
theorem opq_of {w v : V} {f : List Addr} (h : Rep K H (.d (.opq w)) v f) : v = w := by
  have := repD_d h
  unfold RepD at this
  exact this
theorem ls_of {xs : List D} {v : V} {f : List Addr} (h : Rep K H (.ls xs) v f) : ∃ a ys, v = .ref a ∧ H a = some (.lst ys) ∧ RepDs K H xs ys ∧ f = [a] := by
  unfold Rep at h
  exact h
theorem lst_of {xs : List A} {v : V} {f : List Addr} (h : Rep K H (.lst xs) v f) : ∃ a ys g, v = .ref a ∧ H a = some (.lst ys) ∧ Reps K H xs ys g ∧ f = a :: g := by
  unfold Rep at h
  exact h
theorem tpl_of {xs : List A} {v : V} {f : List Addr} (h : Rep K H (.tpl xs) v f) : ∃ a ys, v = .ref a ∧ SqT K H a ys ∧ Reps K H xs ys f := by
  unfold Rep at h
  exact h
end
/-- a new object, tracked -/
theorem Fresh.one {H : Hp} {p : Addr} {o : HO} (h : H p = none) : Fresh H (upd H p o) [p] := ⟨fun b u e => by rw [upd_ne (ne_of_none e h)]; exact e, by simp, fun b hb => by
  have : b = p := by simpa using hb
  rw [this]
  exact h⟩
theorem Fresh.new0 {H : Hp} {p : Addr} {o : HO} (h : H p = none) : Fresh H (upd H p o) [] := ⟨fun b u e => by rw [upd_ne (ne_of_none e h)]; exact e, by simp, fun _ h => nomatch h⟩
theorem Fresh.immu {H H' : Hp} {o : List Addr} (F : Fresh H H' o) : ∀ b u, H b = some u → isMut u = false → H' b = some u := fun b u e _ => F.same b u e
theorem Reps.fresh {K : PySem.W.Frag} {H H' : Hp} {o : List Addr} (F : Fresh H H' o) {xs : List A} {ys : List V} {f : List Addr} (h : Reps K H xs ys f) : Reps K H' xs ys f := h.mono F.immu fun b _ u e => F.same b u e
theorem RepDs.fresh {K : PySem.W.Frag} {H H' : Hp} {o : List Addr} (F : Fresh H H' o) {xs : List D} {ys : List V} (h : RepDs K H xs ys) : RepDs K H' xs ys := h.mono F.immu
theorem RepD.fresh {K : PySem.W.Frag} {H H' : Hp} {o : List Addr} (F : Fresh H H' o) {x : D} {y : V} (h : RepD K H x y) : RepD K H' x y := h.mono F.immu
/-- a new list of data -/
theorem rep_ls {K : PySem.W.Frag} {H : Hp} {p : Addr} {xs : List D} {ys : List V} (h : RepDs K H xs ys) (n : H p = none) : Rep K (upd H p (.lst ys)) (.ls xs) (.ref p) [p] := by
  unfold Rep
  exact ⟨p, ys, rfl, upd_same, RepDs.fresh (Fresh.one n) h, rfl⟩
/-- a new tuple of data -/
theorem rep_tup {K : PySem.W.Frag} {H : Hp} {p : Addr} {xs : List D} {ys : List V} (h : RepDs K H xs ys) (n : H p = none) : Rep K (upd H p (.tup ys)) (.d (.tup xs)) (.ref p) [] := by
  refine rep_d ?_
  unfold RepD
  exact ⟨p, ys, rfl, .inl (.inl upd_same), RepDs.fresh (Fresh.new0 n) h⟩
theorem rep_tupAt {K : PySem.W.Frag} {H : Hp} {p : Addr} {xs : List D} {ys : List V} (h : RepDs K H xs ys) (n : SqT K H p ys) : Rep K H (.d (.tup xs)) (.ref p) [] := by
  refine rep_d ?_
  unfold RepD
  exact ⟨p, ys, rfl, n, h⟩

/-! ### arithmetic -/
def addA : A → A → Option A
  | .d (.int i), .d (.int j) => some (.i (i + j))
  | .d (.str x), .d (.str y) => if szB (x.length + y.length) then some (.s (x ++ y)) else none
  | .d (.tup xs), .d (.tup ys) => if szB (xs.length + ys.length) then some (.t (xs ++ ys)) else none
  | .ls xs, .ls ys => if szB (xs.length + ys.length) then some (.ls (xs ++ ys)) else none
  | _, _ => none
def subA : A → A → Option A
  | .d (.int i), .d (.int j) => some (.i (i - j))
  | .d (.bl i), .d (.bl j) => some (.i ((if i = true then 1 else 0) - (if j = true then 1 else 0)))
  | _, _ => none
def mulA : A → A → Option A
  | .d (.int i), .d (.int j) => if mulB i j then some (.i (i * j)) else none
  | .ls xs, .d (.int k) => if decide (k < 2 ^ 63 ∧ -(2 ^ 63) ≤ k) && szB (xs.length * k.toNat) then some (.ls (List.replicate k.toNat xs).flatten) else none
  | .d (.tup xs), .d (.int k) => if decide (2 ≤ k ∧ k ≤ 1000 ∧ xs.length ≤ 1000) && !xs.isEmpty then some (.t (List.replicate k.toNat xs).flatten) else none
  | _, _ => none
def fdivA : A → A → Option A
  | .d (.int i), .d (.int j) => if divB j then some (.i (i.fdiv j)) else none
  | _, _ => none
def modA : A → A → Option A
  | .d (.int i), .d (.int j) => if j = 0 then none else some (.i (i.fmod j))
  | _, _ => none
def negA : A → Option A
  | .d (.int i) => some (.i (-i))
  | _ => none
def rAddA (K : PySem.W.Frag) : R2 := fun x y H Q => ((rI0 fun i j => .int (i + j)) x y H Q ∨ (∃ i j, x = .str i ∧ y = .str j ∧ i.length + j.length ≤ sizeLine ∧ Q (.str (i ++ j)) H)) ∨ (rCatA K x y H Q ∨ rCat x y H Q)
section
variable {X : Cx}
theorem pr_add {K : PySem.W.Frag} : Pr2 K (rAddA K) addA := by
  intro H a b x y fa fb c Q ra rb e q
  unfold addA at e
  split at e
  · cases e
    exact .inl (.inl ⟨_, _, int_of ra, int_of rb, q _ H [] Fresh.refl rep_int⟩)
  · split at e
    · rename_i hz
      cases e
      exact .inl (.inr ⟨_, _, str_of ra, str_of rb, szB_ok hz, q _ H [] Fresh.refl rep_str⟩)
    · cases e
  · split at e
    · rename_i xs ys hz
      cases e
      obtain ⟨p, us, rfl, hp, ru⟩ := tup_of ra
      obtain ⟨p2, ws, rfl, hp2, rw'⟩ := tup_of rb
      have l1 := ru.len
      have l2 := rw'.len
      refine .inr (.inl ⟨p, p2, us, ws, rfl, rfl, hp, hp2, by rw [← l1, ← l2]; exact szB_ok hz, fun z => ?_, fun _ z => ?_, fun _ _ l hl => q _ _ [] (Fresh.new0 hl) (rep_tup (ru.append rw') hl)⟩)
      · subst z
        have : xs = [] := List.eq_nil_of_length_eq_zero l1
        subst this
        exact q _ H [] Fresh.refl (rep_d (repD_d rb))
      · subst z
        have : ys = [] := List.eq_nil_of_length_eq_zero l2
        subst this
        rw [List.append_nil] at q
        exact q _ H [] Fresh.refl (rep_d (repD_d ra))
    · cases e
  · split at e
    · rename_i xs ys hz
      cases e
      obtain ⟨p, us, rfl, hp, ru, rfl⟩ := ls_of ra
      obtain ⟨p2, ws, rfl, hp2, rw', rfl⟩ := ls_of rb
      have l1 := ru.len
      have l2 := rw'.len
      exact .inr (.inr ⟨p, p2, us, ws, rfl, rfl, hp, hp2, by rw [← l1, ← l2]; exact szB_ok hz, fun l hl => q _ _ [l] (Fresh.one hl) (rep_ls (ru.append rw') hl)⟩)
    · cases e
  · cases e
theorem op_addA : OpR X (binaryOp .Add) (rAddA X.K) := (op_add.or op_add_str).or (op_catA.or op_cat)
def rSubA : R2 := fun x y H Q => (rI0 fun i j => .int (i - j)) x y H Q ∨ (∃ i j, x = .bl i ∧ y = .bl j ∧ Q (.int ((if i = true then 1 else 0) - (if j = true then 1 else 0))) H)
theorem op_sub_bb : OpR X (binaryOp .Sub) (fun x y H Q => ∃ i j, x = .bl i ∧ y = .bl j ∧ Q (.int ((if i = true then 1 else 0) - (if j = true then 1 else 0))) H) := by
  intro pins s σ H x y v u Q I rx ry h
  obtain ⟨i, k, rfl, rfl, q⟩ := h
  cases rx
  cases ry
  exact PyProof.Rows.sub_bool ⟨.int _, H, I.tok _, ⟨_, rfl⟩, q⟩
theorem op_subA : OpR X (binaryOp .Sub) rSubA := op_sub.or op_sub_bb
theorem pr_sub {K : PySem.W.Frag} : Pr2 K rSubA subA := by
  intro H a b x y fa fb c Q ra rb e q
  unfold subA at e
  split at e
  · cases e
    exact .inl ⟨_, _, int_of ra, int_of rb, q _ H [] Fresh.refl rep_int⟩
  · cases e
    exact .inr ⟨_, _, bl_of ra, bl_of rb, q _ H [] Fresh.refl rep_int⟩
  · cases e
def rMulA (K : PySem.W.Frag) : R2 := fun x y H Q => ((rI CMul (fun i j => .int (i * j)) x y H Q ∨ rI CMulW (fun i j => .int (i * j)) x y H Q) ∨ rRep x y H Q) ∨ rRepT K x y H Q
theorem op_mulA : OpR X (binaryOp .Mult) (rMulA X.K) := ((op_mul.or op_mulW).or op_rep).or op_repT
theorem rep_flat {K : PySem.W.Frag} {H : Hp} {xs : List D} {ys : List V} (h : RepDs K H xs ys) : ∀ n : Nat, RepDs K H (List.replicate n xs).flatten (List.replicate n ys).flatten
  | 0 => by
    simp
    unfold RepDs
    rfl
  | n + 1 => by
    simp only [List.replicate_succ, List.flatten_cons]
    exact h.append (rep_flat h n)
theorem pr_mul {K : PySem.W.Frag} : Pr2 K (rMulA K) mulA := by
  intro H a b x y fa fb c Q ra rb e q
  unfold mulA at e
  split at e
  · split at e
    · rename_i hz
      cases e
      unfold mulB at hz
      simp only [Bool.or_eq_true, decide_eq_true_eq] at hz
      rcases hz with (hz | hz) | hz
      · exact .inl (.inl (.inl ⟨_, _, int_of ra, int_of rb, .inl hz, q _ H [] Fresh.refl rep_int⟩))
      · exact .inl (.inl (.inl ⟨_, _, int_of ra, int_of rb, .inr hz, q _ H [] Fresh.refl rep_int⟩))
      · exact .inl (.inl (.inr ⟨_, _, int_of ra, int_of rb, hz, q _ H [] Fresh.refl rep_int⟩))
    · cases e
  · split at e
    · rename_i xs k hz
      cases e
      obtain ⟨p, us, rfl, hp, ru, rfl⟩ := ls_of ra
      have l1 := ru.len
      rw [Bool.and_eq_true] at hz
      obtain ⟨h1, h2⟩ := hz
      have h1 := of_decide_eq_true h1
      exact .inl (.inr ⟨p, k, us, rfl, int_of rb, hp, h1.2, h1.1, by rw [← l1]; exact szB_ok h2, fun l hl => q _ _ [l] (Fresh.one hl) (rep_ls (rep_flat ru _) hl)⟩)
    · cases e
  · split at e
    · rename_i xs k hz
      cases e
      obtain ⟨p, us, rfl, hp, ru⟩ := tup_of ra
      have l1 := ru.len
      rw [Bool.and_eq_true] at hz
      obtain ⟨h1, h2⟩ := hz
      have h1 := of_decide_eq_true h1
      refine .inr ⟨p, k, us, rfl, int_of rb, hp, ?_, h1.1, h1.2.1, by rw [← l1]; exact h1.2.2, fun l hl => q _ _ [] (Fresh.new0 hl) (rep_tup (rep_flat ru _) hl)⟩
      rintro rfl
      cases xs with
      | nil => cases h2
      | cons x r => cases l1
    · cases e
  · cases e
def rDivA : R2 := fun x y H Q => rI CDivN (fun i j => .int (i.fdiv j)) x y H Q ∨ rI CDivW (fun i j => .int (i / j)) x y H Q
theorem op_divA : OpR X (binaryOp .FloorDiv) rDivA := op_fdivN.or op_fdivW
theorem pr_fdiv {K : PySem.W.Frag} : Pr2 K rDivA fdivA := by
  intro H a b x y fa fb c Q ra rb e q
  unfold fdivA at e
  split at e
  · split at e
    · rename_i i j hz
      cases e
      unfold divB at hz
      simp only [Bool.or_eq_true, decide_eq_true_eq] at hz
      rcases hz with hz | hz
      · exact .inl ⟨_, _, int_of ra, int_of rb, hz, q _ H [] Fresh.refl rep_int⟩
      · refine .inr ⟨_, _, int_of ra, int_of rb, hz, ?_⟩
        have := q (.int (i.fdiv j)) H [] Fresh.refl rep_int
        rw [Int.fdiv_eq_ediv_of_nonneg i (by omega)] at this
        exact this
    · cases e
  · cases e
theorem pr_mod {K : PySem.W.Frag} : Pr2 K (rI (fun _ j => j ≠ 0) fun i j => .int (i.fmod j)) modA := by
  intro H a b x y fa fb c Q ra rb e q
  unfold modA at e
  split at e
  · split at e
    · cases e
    · rename_i h
      cases e
      exact ⟨_, _, int_of ra, int_of rb, h, q _ H [] Fresh.refl rep_int⟩
  · cases e
theorem pr_neg {K : PySem.W.Frag} : Pr1 K (rU fun i => .int (-i)) negA := by
  intro H a x fa c Q ra e q
  unfold negA at e
  split at e
  · cases e
    exact ⟨_, int_of ra, q _ H [] Fresh.refl rep_int⟩
  · cases e
end
section
variable {X : Cx} {a b : Expr} {ma mb : SM R} {pos : Pos}
theorem pm_add (ha : PM X a ma) (hb : PM X b mb) : PM X (.BinOp a .Add b pos) (m2 addA ma mb) := pm_op op_addA pr_add ha hb
theorem pm_sub (ha : PM X a ma) (hb : PM X b mb) : PM X (.BinOp a .Sub b pos) (m2 subA ma mb) := pm_op op_subA pr_sub ha hb
theorem pm_mul (ha : PM X a ma) (hb : PM X b mb) : PM X (.BinOp a .Mult b pos) (m2 mulA ma mb) := pm_op op_mulA pr_mul ha hb
theorem pm_fdiv (ha : PM X a ma) (hb : PM X b mb) : PM X (.BinOp a .FloorDiv b pos) (m2 fdivA ma mb) := pm_op op_divA pr_fdiv ha hb
theorem pm_mod (ha : PM X a ma) (hb : PM X b mb) : PM X (.BinOp a .Mod b pos) (m2 modA ma mb) := pm_op op_modN pr_mod ha hb
theorem pm_neg (ha : PM X a ma) : PM X (.UnaryOp .USub a pos) (m1 negA ma) := PE.weak (pe_un un_neg ha) fun σ H Q h => step1 pr_neg h
end
end MM
namespace MM
open PySem PySem.Spec PyProof.Rows L2

/-! ### data as the library's data -/
mutual
def toPD : D → Option PyData
  | .non => some .none
  | .bl b => some (.bool b)
  | .int i => some (.int i)
  | .str x => if PyData.strOk x then some (.str x) else none
  | .tup xs => (toPDs xs).map .tuple
  | .opq _ => none
  | .scr _ => none
def toPDs : List D → Option (List PyData)
  | [] => some []
  | x :: xs => match toPD x, toPDs xs with
    | some d, some ds => some (d :: ds)
    | _, _ => none
end
mutual
def toP : A → Option PyData
  | .d x => toPD x
  | .ls xs => (toPDs xs).map .list
  | .lst xs => (toPs xs).map .list
  | .tpl xs => (toPs xs).map .tuple
  | .dd _ => none
def toPs : List A → Option (List PyData)
  | [] => some []
  | x :: xs => match toP x, toPs xs with
    | some d, some ds => some (d :: ds)
    | _, _ => none
end
section
variable {K : PySem.W.Frag} {H : Hp}
mutual
theorem RepD.dp : ∀ {x : D} {v : V} {d : PyData}, RepD K H x v → toPD x = some d → Dp K H v d
  | .non, v, d, h, e => by
    unfold RepD at h; subst h; cases e; exact .non
  | .bl b, v, d, h, e => by
    unfold RepD at h; subst h; cases e; exact .bl b
  | .int i, v, d, h, e => by
    unfold RepD at h; subst h; cases e; exact .int i
  | .str x, v, d, h, e => by
    unfold RepD at h; subst h
    unfold toPD at e
    split at e
    · cases e; exact .str x
    · cases e
  | .opq w, v, d, h, e => by cases e
  | .scr w, v, d, h, e => by cases e
  | .tup xs, v, d, h, e => by
    unfold RepD at h
    obtain ⟨a, ys, rfl, s, r⟩ := h
    unfold toPD at e
    cases q : toPDs xs with
    | none => rw [q] at e; cases e
    | some ds =>
      rw [q] at e
      cases e
      exact .tup s (RepDs.dp r q)
theorem RepDs.dp : ∀ {xs : List D} {vs : List V} {ds : List PyData}, RepDs K H xs vs → toPDs xs = some ds → DpAll K H vs ds
  | [], vs, ds, h, e => by
    unfold RepDs at h; subst h; cases e; exact .nil
  | x :: xs, vs, ds, h, e => by
    unfold RepDs at h
    obtain ⟨y, r, rfl, h1, h2⟩ := h
    unfold toPDs at e
    split at e
    · rename_i d ds' e1 e2
      cases e
      exact .cons (RepD.dp h1 e1) (RepDs.dp h2 e2)
    · cases e
end
mutual
theorem Rep.dp : ∀ {x : A} {v : V} {f : List Addr} {d : PyData}, Rep K H x v f → toP x = some d → Dp K H v d
  | .d x, v, f, d, h, e => RepD.dp (repD_d h) e
  | .ls xs, v, f, d, h, e => by
    obtain ⟨a, ys, rfl, s, r, _⟩ := ls_of h
    unfold toP at e
    cases q : toPDs xs with
    | none => rw [q] at e; cases e
    | some ds =>
      rw [q] at e
      cases e
      exact .lst (.of s) (RepDs.dp r q)
  | .lst xs, v, f, d, h, e => by
    obtain ⟨a, ys, g, rfl, s, r, _⟩ := lst_of h
    unfold toP at e
    cases q : toPs xs with
    | none => rw [q] at e; cases e
    | some ds =>
      rw [q] at e
      cases e
      exact .lst (.of s) (Reps.dp r q)
  | .tpl xs, v, f, d, h, e => by
    obtain ⟨a, ys, rfl, s, r⟩ := tpl_of h
    unfold toP at e
    cases q : toPs xs with
    | none => rw [q] at e; cases e
    | some ds =>
      rw [q] at e
      cases e
      exact .tup s (Reps.dp r q)
  | .dd _, v, f, d, h, e => by cases e
theorem Reps.dp : ∀ {xs : List A} {vs : List V} {f : List Addr} {ds : List PyData}, Reps K H xs vs f → toPs xs = some ds → DpAll K H vs ds
  | [], vs, f, ds, h, e => by
    unfold Reps at h
    obtain ⟨rfl, rfl⟩ := h
    cases e; exact .nil
  | x :: xs, vs, f, ds, h, e => by
    unfold Reps at h
    obtain ⟨y, r, f1, f2, rfl, rfl, h1, h2⟩ := h
    unfold toPs at e
    split at e
    · rename_i d ds' e1 e2
      cases e
      exact .cons (Rep.dp h1 e1) (Reps.dp h2 e2)
    · cases e
end
end

/-! ### comparisons -/
def eqA (a b : A) : Option Bool := match toP a, toP b with
  | some d, some e => if SeqAt.shaped d && SeqAt.shaped e then some (PyData.eqv d e) else none
  | _, _ => none
def neA (a b : A) : Option Bool := (eqA a b).map not
def strLt (x y : Str) : Bool := decide (x.cps.toList < y.cps.toList)
def ltA : A → A → Option Bool
  | .d (.int i), .d (.int j) => some (decide (i < j))
  | .d (.str x), .d (.str y) => some (strLt x y)
  | _, _ => none
def leA : A → A → Option Bool
  | .d (.int i), .d (.int j) => some (decide (i ≤ j))
  | .d (.str x), .d (.str y) => some (!strLt y x)
  | _, _ => none
def gtA : A → A → Option Bool
  | .d (.int i), .d (.int j) => some (decide (j < i))
  | .d (.str x), .d (.str y) => some (strLt y x)
  | _, _ => none
def geA : A → A → Option Bool
  | .d (.int i), .d (.int j) => some (decide (j ≤ i))
  | .d (.str x), .d (.str y) => some (!strLt x y)
  | _, _ => none
def isNon : A → Option Bool
  | .d .non => some true
  | .d (.opq _) => none
  | .d (.scr _) => none
  | _ => some false
/-- is None, is True, is False -/
def isA : A → A → Option Bool
  | a, .d .non => isNon a
  | .d (.bl a), .d (.bl b) => some (decide (a = b))
  | _, _ => none
def isnA (a b : A) : Option Bool := (isA a b).map not
/-- the items of a list or tuple as data -/
def itemsP (b : A) : Option (Bool × List PyData) := match toP b with
  | some (.list ds) => some (true, ds)
  | some (.tuple ds) => some (false, ds)
  | _ => none
def inA : A → A → Option Bool
  | .d (.str x), .d (.str y) => some (!(Builtin.Str.occurrences y x 0 y.length 1).isEmpty)
  | a, b => match toP a, itemsP b with
    | some d, some (_, ds) => if SeqAt.shaped d && PyData.canLayAll0 ds then some (ds.any fun z => PyData.eqv z d) else none
    | _, _ => none
def ninA (a b : A) : Option Bool := (inA a b).map not
def Pr2b (K : PySem.W.Frag) (r : R2) (g : A → A → Option Bool) : Prop := ∀ (H : Hp) (a b : A) (x y : V) (fa fb : List Addr) (c : Bool) (Q : VK), Rep K H a x fa → Rep K H b y fb → g a b = some c → Q (.bl c) H → r x y H Q
section
variable {X : Cx}
theorem pr_eq : Pr2b X.K (rEqD X.K) eqA := by
  intro H a b x y fa fb c Q ra rb e q
  unfold eqA at e
  split at e
  · rename_i d e' e1 e2
    split at e
    · rename_i hs
      cases e
      rw [Bool.and_eq_true] at hs
      exact ⟨d, e', ra.dp e1, rb.dp e2, hs.1, hs.2, q⟩
    · cases e
  · cases e
theorem pr_ne : Pr2b X.K (rNeD X.K) neA := by
  intro H a b x y fa fb c Q ra rb e q
  unfold neA eqA at e
  split at e
  · rename_i d e' e1 e2
    split at e
    · rename_i hs
      cases e
      rw [Bool.and_eq_true] at hs
      exact ⟨d, e', ra.dp e1, rb.dp e2, hs.1, hs.2, q⟩
    · cases e
  · cases e
abbrev rOr (r r' : R2) : R2 := fun x y H Q => r x y H Q ∨ r' x y H Q
theorem pr_lt : Pr2b X.K (rOr (rI0 fun i j => .bl (decide (i < j))) (fun x y H Q => ∃ i j, x = .str i ∧ y = .str j ∧ Q (.bl (decide (i.cps.toList < j.cps.toList))) H)) ltA := by
  intro H a b x y fa fb c Q ra rb e q
  unfold ltA at e
  split at e
  · cases e; exact .inl ⟨_, _, int_of ra, int_of rb, q⟩
  · cases e; exact .inr ⟨_, _, str_of ra, str_of rb, q⟩
  · cases e
theorem pr_le : Pr2b X.K (rOr (rI0 fun i j => .bl (decide (i ≤ j))) (fun x y H Q => ∃ i j, x = .str i ∧ y = .str j ∧ Q (.bl (!decide (j.cps.toList < i.cps.toList))) H)) leA := by
  intro H a b x y fa fb c Q ra rb e q
  unfold leA at e
  split at e
  · cases e; exact .inl ⟨_, _, int_of ra, int_of rb, q⟩
  · cases e; exact .inr ⟨_, _, str_of ra, str_of rb, q⟩
  · cases e
theorem pr_gt : Pr2b X.K (rOr (rI0 fun i j => .bl (decide (j < i))) (fun x y H Q => ∃ i j, x = .str i ∧ y = .str j ∧ Q (.bl (decide (j.cps.toList < i.cps.toList))) H)) gtA := by
  intro H a b x y fa fb c Q ra rb e q
  unfold gtA at e
  split at e
  · cases e; exact .inl ⟨_, _, int_of ra, int_of rb, q⟩
  · cases e; exact .inr ⟨_, _, str_of ra, str_of rb, q⟩
  · cases e
theorem pr_ge : Pr2b X.K (rOr (rI0 fun i j => .bl (decide (j ≤ i))) (fun x y H Q => ∃ i j, x = .str i ∧ y = .str j ∧ Q (.bl (!decide (i.cps.toList < j.cps.toList))) H)) geA := by
  intro H a b x y fa fb c Q ra rb e q
  unfold geA at e
  split at e
  · cases e; exact .inl ⟨_, _, int_of ra, int_of rb, q⟩
  · cases e; exact .inr ⟨_, _, str_of ra, str_of rb, q⟩
  · cases e
theorem isNon_dec {K : PySem.W.Frag} {H : Hp} {a : A} {x : V} {f : List Addr} {c : Bool} (r : Rep K H a x f) (e : isNon a = some c) : decide (x = .non) = c := by
  cases a with
  | d z =>
    have r := repD_d r
    cases z with
    | non => unfold RepD at r; subst r; cases e; rfl
    | bl b => unfold RepD at r; subst r; cases e; rfl
    | int b => unfold RepD at r; subst r; cases e; rfl
    | str b => unfold RepD at r; subst r; cases e; rfl
    | tup b => unfold RepD at r; obtain ⟨a, ys, rfl, _⟩ := r; cases e; rfl
    | opq b => cases e
    | scr b => cases e
  | ls xs => obtain ⟨a, ys, rfl, _⟩ := ls_of r; cases e; rfl
  | lst xs => obtain ⟨a, ys, g, rfl, _⟩ := lst_of r; cases e; rfl
  | tpl xs => obtain ⟨a, ys, rfl, _⟩ := tpl_of r; cases e; rfl
  | dd xs => unfold Rep at r; obtain ⟨a, rfl, _⟩ := r; cases e; rfl
def rIsA : R2 := rOr (fun x y H Q => y = .non ∧ Q (.bl (decide (x = .non))) H) (fun x y H Q => ∃ a b, x = .bl a ∧ y = .bl b ∧ Q (.bl (decide (a = b))) H)
def rIsnA : R2 := rOr (fun x y H Q => y = .non ∧ Q (.bl (!decide (x = .non))) H) (fun x y H Q => ∃ a b, x = .bl a ∧ y = .bl b ∧ Q (.bl (!decide (a = b))) H)
theorem pr_is : Pr2b X.K rIsA isA := by
  intro H a b x y fa fb c Q ra rb e q
  unfold isA at e
  split at e
  · refine .inl ⟨non_of rb, ?_⟩
    rw [isNon_dec ra e]
    exact q
  · cases e; exact .inr ⟨_, _, bl_of ra, bl_of rb, q⟩
  · cases e
theorem pr_isn : Pr2b X.K rIsnA isnA := by
  intro H a b x y fa fb c Q ra rb e q
  unfold isnA at e
  cases h : isA a b with
  | none => rw [h] at e; cases e
  | some k =>
    rw [h] at e
    cases e
    unfold isA at h
    split at h
    · refine .inl ⟨non_of rb, ?_⟩
      rw [isNon_dec ra h]
      exact q
    · cases h; exact .inr ⟨_, _, bl_of ra, bl_of rb, q⟩
    · cases h
theorem op_isA : OpR X (compareOp .Is) rIsA := op_isN.or op_is_bl
theorem op_isnA : OpR X (compareOp .IsNot) rIsnA := op_notN.or op_isnot_bl
/-- in, not in -/
def rInX (K : PySem.W.Frag) (neg : Bool) : R2 := fun x y H Q => (∃ i j, x = .str i ∧ y = .str j ∧ Q (.bl (if neg then !(!(Builtin.Str.occurrences j i 0 j.length 1).isEmpty) else !(Builtin.Str.occurrences j i 0 j.length 1).isEmpty)) H) ∨
  ∃ d ds, Dp K H x d ∧ (Dp K H y (.list ds) ∨ Dp K H y (.tuple ds)) ∧ SeqAt.shaped d = true ∧ PyData.canLayAll0 ds = true ∧ Q (.bl (if neg then !(ds.any fun z => PyData.eqv z d) else ds.any fun z => PyData.eqv z d)) H
theorem op_inX (hu : X.A.units + 65 < cLine) : OpR X (compareOp .In) (rInX X.K false) := by
  intro pins s σ H x y v u Q I rx ry h
  rcases h with h | ⟨d, ds, hd, he, sd, se, q⟩
  · exact op_in_str pins s σ H x y v u Q I rx ry h
  · obtain ⟨as, r1⟩ := Dp.reads I d x v hd rx
    have hz : X.A.units + 1 + min (PyData.depthAll ds) d.depth < cLine := room_in_shaped sd hu
    rcases he with he | he
    · obtain ⟨bs, r2⟩ := Dp.reads I (.list ds) y u he ry
      exact SeqAt.in_list_reads r2 r1 se (SeqAt.canLay_of_shaped sd) hz ⟨.bl _, H, I, rfl, q⟩
    · obtain ⟨bs, r2⟩ := Dp.reads I (.tuple ds) y u he ry
      exact SeqAt.in_tuple_reads r2 r1 se (SeqAt.canLay_of_shaped sd) hz ⟨.bl _, H, I, rfl, q⟩
theorem op_ninX (hu : X.A.units + 65 < cLine) : OpR X (compareOp .NotIn) (rInX X.K true) := by
  intro pins s σ H x y v u Q I rx ry h
  rcases h with h | ⟨d, ds, hd, he, sd, se, q⟩
  · exact op_notin_str pins s σ H x y v u Q I rx ry h
  · obtain ⟨as, r1⟩ := Dp.reads I d x v hd rx
    have hz : X.A.units + 1 + min (PyData.depthAll ds) d.depth < cLine := room_in_shaped sd hu
    rcases he with he | he
    · obtain ⟨bs, r2⟩ := Dp.reads I (.list ds) y u he ry
      exact SeqAt.notIn_list_reads r2 r1 se (SeqAt.canLay_of_shaped sd) hz ⟨.bl _, H, I, rfl, q⟩
    · obtain ⟨bs, r2⟩ := Dp.reads I (.tuple ds) y u he ry
      exact SeqAt.notIn_tuple_reads r2 r1 se (SeqAt.canLay_of_shaped sd) hz ⟨.bl _, H, I, rfl, q⟩
theorem inA_cases {neg : Bool} {a b : A} {x y : V} {fa fb : List Addr} {c : Bool} {K : PySem.W.Frag} {H : Hp} {Q : VK} (ra : Rep K H a x fa) (rb : Rep K H b y fb) (e : inA a b = some c) (q : Q (.bl (if neg then !c else c)) H) : rInX K neg x y H Q := by
  unfold inA at e
  split at e
  · cases e
    exact .inl ⟨_, _, str_of ra, str_of rb, q⟩
  · split at e
    · rename_i d k ds e1 e2
      split at e
      · rename_i hs
        cases e
        rw [Bool.and_eq_true] at hs
        unfold itemsP at e2
        split at e2
        · rename_i ds2 e3
          cases e2
          exact .inr ⟨d, _, ra.dp e1, .inl (rb.dp e3), hs.1, hs.2, q⟩
        · rename_i ds2 e3
          cases e2
          exact .inr ⟨d, _, ra.dp e1, .inr (rb.dp e3), hs.1, hs.2, q⟩
        · cases e2
      · cases e
    · cases e
theorem pr_in : Pr2b X.K (rInX X.K false) inA := fun H a b x y fa fb c Q ra rb e q => inA_cases ra rb e q
theorem pr_nin : Pr2b X.K (rInX X.K true) ninA := fun H a b x y fa fb c Q ra rb e q => by
  unfold ninA at e
  cases h : inA a b with
  | none => rw [h] at e; cases e
  | some k =>
    rw [h] at e
    cases e
    exact inA_cases ra rb h q
end
/-! ### a comparison as a value, as a test -/
def cmp2 (g : A → A → Option Bool) (r1 r2 : R) : SM Bool := fun sa => match rv r1 sa, rv r2 sa with
  | some a, some b => (g a b).map fun k => (k, sa)
  | _, _ => none
def tCmpM (g : A → A → Option Bool) (ma mb : SM R) : SM Bool := bnd ma fun r1 => bnd mb fun r2 => cmp2 g r1 r2
def asV (m : SM Bool) : SM R := bnd m fun k => ret (.val false (.d (.bl k)))
theorem cmp2_some {g : A → A → Option Bool} {r1 r2 : R} {k : Bool} {sa sa' : List Slot} (h : cmp2 g r1 r2 sa = some (k, sa')) : ∃ a b, rv r1 sa = some a ∧ rv r2 sa = some b ∧ g a b = some k ∧ sa' = sa := by
  unfold cmp2 at h
  split at h
  · rename_i a b ea eb
    cases e : g a b with
    | none => rw [e] at h; cases h
    | some k' =>
      rw [e] at h
      cases h
      exact ⟨a, b, ea, eb, e, rfl⟩
  · cases h
section
variable {X : Cx} {a b c : Expr} {ma mb mc : SM R} {pos : Pos} {op : CmpOp} {r : R2} {g : A → A → Option Bool}
theorem stepC (p : Pr2b X.K r g) {σ : L2.St} {H : Hp} {Q : Bool → Hp → Prop} (h : tOfT X.K (tCmpM g ma mb) σ H Q) :
    tOf X.K ma σ H fun x H1 => tOf X.K mb σ H1 fun y H2 => r x y H2 fun z H3 => ∃ k, z = .bl k ∧ Q k H3 := by
  obtain ⟨o, T, sa, k, sa', e, S, q⟩ := h
  obtain ⟨r1, s1, e1, e2⟩ := bnd_some e
  obtain ⟨r2, s2, e2, e3⟩ := bnd_some e2
  obtain ⟨a, b, ea, eb, ec, rfl⟩ := cmp2_some e3
  refine ⟨o, T, sa, r1, s1, e1, S, fun o1 v H1 L1 S1 R1 => ?_⟩
  refine ⟨o1, pushT r1 v T, s1, r2, _, e2, S1, fun o2 v2 H2 L2 S2 R2 => ?_⟩
  obtain ⟨fb, rb⟩ := rv_rep S2 R2 eb
  obtain ⟨o3, S3, L3⟩ := SRel.pop S2
  obtain ⟨fa, ra⟩ := rv_rep S3 ((R1.mono S1 L2).mono S2 L3) ea
  obtain ⟨o4, S4, L4⟩ := SRel.pop S3
  exact p H2 a b v v2 fa fb k _ ra rb ec ⟨k, rfl, q _ H2 (((L1.trans L2).trans L3).trans L4) S4⟩
theorem stepV {m : SM Bool} {σ : L2.St} {H : Hp} {Q : VK} (h : tOf X.K (asV m) σ H Q) : tOfT X.K m σ H fun k H1 => Q (.bl k) H1 := by
  obtain ⟨o, T, sa, r, sa', e, S, q⟩ := h
  obtain ⟨k, s1, e1, e2⟩ := bnd_some e
  cases e2
  exact ⟨o, T, sa, k, _, e1, S, fun o1 H1 L1 S1 => q o1 (.bl k) H1 L1 S1 (RepS.d (by unfold RepD; rfl))⟩
theorem tOf.imp {m : SM R} {σ : L2.St} {H : Hp} {Q Q' : VK} (h : tOf X.K m σ H Q) (w : ∀ v H, Q v H → Q' v H) : tOf X.K m σ H Q' := by
  obtain ⟨o, T, sa, r, sa', e, S, q⟩ := h
  exact ⟨o, T, sa, r, sa', e, S, fun o' v H' L S' R => w _ _ (q o' v H' L S' R)⟩
def Mono (r : R2) : Prop := ∀ x y H Q Q', (∀ v H, Q v H → Q' v H) → r x y H Q → r x y H Q'
theorem pmt_cmp (ho : OpR X (compareOp op) r) (p : Pr2b X.K r g) (ha : PM X a ma) (hb : PM X b mb) (hm : behindInMarks op b = false) : PMT X (.Compare a [op] [b] pos) (tCmpM g ma mb) :=
  PT.weak (pt_cmpR ho ha hb hm) fun σ H Q h => stepC p h
theorem pm_cmp (ho : OpR X (compareOp op) r) (p : Pr2b X.K r g) (ha : PM X a ma) (hb : PM X b mb) (hm : behindInMarks op b = false) : PM X (.Compare a [op] [b] pos) (asV (tCmpM g ma mb)) :=
  PE.weak (pe_cmpR (r := fun x y H Q => r x y H fun z H3 => ∃ k, z = .bl k ∧ Q (.bl k) H3) (fun pins s σ H x y v u Q I rx ry h => wpAny_mono (ho pins s σ H x y v u _ I rx ry h) (fun w s' ⟨z, H', I', rz, k, e, q⟩ => ⟨z, H', I', rz, by rw [e]; exact q⟩) fun _ _ h => h) ha hb hm) fun σ H Q h => stepC p (stepV h)

variable (hu : X.A.units + 65 < cLine) (ha : PM X a ma) (hb : PM X b mb)
include ha hb
theorem pm_lt : PM X (.Compare a [.Lt] [b] pos) (asV (tCmpM ltA ma mb)) := pm_cmp (op_lt.or op_lt_str) pr_lt ha hb (nomark _)
theorem pm_le : PM X (.Compare a [.LtE] [b] pos) (asV (tCmpM leA ma mb)) := pm_cmp (op_le.or op_le_str) pr_le ha hb (nomark _)
theorem pm_gt : PM X (.Compare a [.Gt] [b] pos) (asV (tCmpM gtA ma mb)) := pm_cmp (op_gt.or op_gt_str) pr_gt ha hb (nomark _)
theorem pm_ge : PM X (.Compare a [.GtE] [b] pos) (asV (tCmpM geA ma mb)) := pm_cmp (op_ge.or op_ge_str) pr_ge ha hb (nomark _)
theorem pm_is : PM X (.Compare a [.Is] [b] pos) (asV (tCmpM isA ma mb)) := pm_cmp op_isA pr_is ha hb (nomark _)
theorem pm_isn : PM X (.Compare a [.IsNot] [b] pos) (asV (tCmpM isnA ma mb)) := pm_cmp op_isnA pr_isn ha hb (nomark _)
theorem pmt_lt : PMT X (.Compare a [.Lt] [b] pos) (tCmpM ltA ma mb) := pmt_cmp (op_lt.or op_lt_str) pr_lt ha hb (nomark _)
theorem pmt_le : PMT X (.Compare a [.LtE] [b] pos) (tCmpM leA ma mb) := pmt_cmp (op_le.or op_le_str) pr_le ha hb (nomark _)
theorem pmt_gt : PMT X (.Compare a [.Gt] [b] pos) (tCmpM gtA ma mb) := pmt_cmp (op_gt.or op_gt_str) pr_gt ha hb (nomark _)
theorem pmt_ge : PMT X (.Compare a [.GtE] [b] pos) (tCmpM geA ma mb) := pmt_cmp (op_ge.or op_ge_str) pr_ge ha hb (nomark _)
theorem pmt_is : PMT X (.Compare a [.Is] [b] pos) (tCmpM isA ma mb) := pmt_cmp op_isA pr_is ha hb (nomark _)
theorem pmt_isn : PMT X (.Compare a [.IsNot] [b] pos) (tCmpM isnA ma mb) := pmt_cmp op_isnA pr_isn ha hb (nomark _)
include hu
theorem pm_eq : PM X (.Compare a [.Eq] [b] pos) (asV (tCmpM eqA ma mb)) := pm_cmp (op_eqD (by omega)) pr_eq ha hb (nomark _)
theorem pm_ne : PM X (.Compare a [.NotEq] [b] pos) (asV (tCmpM neA ma mb)) := pm_cmp (op_neD (by omega)) pr_ne ha hb (nomark _)
theorem pmt_eq : PMT X (.Compare a [.Eq] [b] pos) (tCmpM eqA ma mb) := pmt_cmp (op_eqD (by omega)) pr_eq ha hb (nomark _)
theorem pmt_ne : PMT X (.Compare a [.NotEq] [b] pos) (tCmpM neA ma mb) := pmt_cmp (op_neD (by omega)) pr_ne ha hb (nomark _)
theorem pm_in (hm : behindInMarks .In b = false) : PM X (.Compare a [.In] [b] pos) (asV (tCmpM inA ma mb)) := pm_cmp (op_inX hu) pr_in ha hb hm
theorem pm_nin (hm : behindInMarks .NotIn b = false) : PM X (.Compare a [.NotIn] [b] pos) (asV (tCmpM ninA ma mb)) := pm_cmp (op_ninX hu) pr_nin ha hb hm
theorem pmt_in (hm : behindInMarks .In b = false) : PMT X (.Compare a [.In] [b] pos) (tCmpM inA ma mb) := pmt_cmp (op_inX hu) pr_in ha hb hm
theorem pmt_nin (hm : behindInMarks .NotIn b = false) : PMT X (.Compare a [.NotIn] [b] pos) (tCmpM ninA ma mb) := pmt_cmp (op_ninX hu) pr_nin ha hb hm
end
end MM
namespace MM
open PySem PySem.Spec PyProof.Rows L2

/-! ### truth, not, and, or, if -/
def truA : A → Option Bool
  | .d .non => some false
  | .d (.bl b) => some b
  | .d (.int i) => some (i != 0)
  | .d (.str x) => if szB x.length then some ((x.length : Int) != 0) else none
  | .d (.tup xs) => some (!xs.isEmpty)
  | .d (.opq _) => none
  | .d (.scr _) => none
  | .ls xs => some (!xs.isEmpty)
  | .lst xs => some (!xs.isEmpty)
  | .tpl xs => some (!xs.isEmpty)
  | .dd _ => none
def tru1 (r : R) : SM Bool := fun sa => match rv r sa with
  | some a => (truA a).map fun k => (k, sa)
  | none => none
def mTru (m : SM R) : SM Bool := bnd m tru1
def tNotM (m : SM Bool) : SM Bool := bnd m fun k => ret (!k)
def tAndM (m n : SM Bool) : SM Bool := bnd m fun k => if k then n else ret false
def tOrM (m n : SM Bool) : SM Bool := bnd m fun k => if k then ret true else n
def mIf (t : SM Bool) (ma mb : SM R) : SM R := bnd t fun k => if k then ma else mb
/-- a bool, held -/
def boolOf (r : R) (sa : List Slot) : Option Bool := match r with
  | .val true _ => none
  | r => match rv r sa with
    | some (.d (.bl b)) => some b
    | _ => none
def mAndV (m n : SM R) : SM R := bnd m fun r sa => match boolOf r sa with
  | some true => n sa
  | some false => some (.val false (.d (.bl false)), sa)
  | none => none
def mOrV (m n : SM R) : SM R := bnd m fun r sa => match boolOf r sa with
  | some false => n sa
  | some true => some (.val false (.d (.bl true)), sa)
  | none => none
def mNotV (m : SM R) : SM R := bnd m fun r sa => match boolOf r sa with
  | some k => some (.val false (.d (.bl (!k))), sa)
  | none => none
theorem isEmpty_len {α β : Type} {xs : List α} {ys : List β} (h : xs.length = ys.length) : xs.isEmpty = ys.isEmpty := by
  cases xs <;> cases ys <;> simp_all
theorem truA_ok {K : PySem.W.Frag} {H : Hp} {a : A} {x : V} {f : List Addr} {k : Bool} (r : Rep K H a x f) (e : truA a = some k) : TruV K x H k := by
  cases a with
  | d z =>
    have r' := repD_d r
    cases z with
    | non => unfold RepD at r'; subst r'; cases e; rfl
    | bl b => unfold RepD at r'; subst r'; cases e; rfl
    | int b => unfold RepD at r'; subst r'; cases e; rfl
    | str b =>
      unfold RepD at r'; subst r'
      have e : (if szB b.length then some ((b.length : Int) != 0) else none) = some k := e
      split at e
      · rename_i hz
        cases e
        exact ⟨szB_ok hz, rfl⟩
      · cases e
    | tup b =>
      unfold RepD at r'
      obtain ⟨a, ys, rfl, s, rs⟩ := r'
      cases e
      exact .inr (.inl ⟨ys, s, by rw [isEmpty_len rs.len]⟩)
    | opq b => cases e
    | scr b => cases e
  | ls xs =>
    obtain ⟨a, ys, rfl, s, rs, _⟩ := ls_of r
    cases e
    exact .inl ⟨ys, .of s, by rw [isEmpty_len rs.len]⟩
  | lst xs =>
    obtain ⟨a, ys, g, rfl, s, rs, _⟩ := lst_of r
    cases e
    exact .inl ⟨ys, .of s, by rw [isEmpty_len rs.len]⟩
  | tpl xs =>
    obtain ⟨a, ys, rfl, s, rs⟩ := tpl_of r
    cases e
    exact .inr (.inl ⟨ys, s, by rw [isEmpty_len rs.len]⟩)
  | dd xs => cases e
theorem rvp {r : R} {sa : List Slot} {b : Bool} (h : boolOf r sa = some b) : rv r sa = some (.d (.bl b)) ∧ ∀ v T, pushT r v T = T := by
  unfold boolOf at h
  split at h
  · cases h
  · rename_i hr
    split at h
    · rename_i b' e
      cases h
      refine ⟨e, fun v T => ?_⟩
      match r, hr with
      | .val true a, hr => exact (hr a rfl).elim
      | .val false a, _ => rfl
      | .peek j, _ => rfl
    · cases h
section
variable {X : Cx} {a b c : Expr} {ma mb : SM R} {mc md : SM Bool} {pos : Pos} {rest : List Expr}
theorem pmt_tru (ha : PM X a ma) (he : ∀ whole, isTrue a X.env whole = (do let v ← whole; standAt a.pos; holding [v] (truthy v))) : PMT X a (mTru ma) := PT.weak (pt_truth ha he) fun σ H Q h => by
  obtain ⟨o, T, sa, k, sa', e, S, q⟩ := h
  obtain ⟨r1, s1, e1, e2⟩ := bnd_some e
  unfold tru1 at e2
  split at e2
  · rename_i a ea
    cases ek : truA a with
    | none => rw [ek] at e2; cases e2
    | some k' =>
      rw [ek] at e2
      cases e2
      refine ⟨o, T, sa, r1, _, e1, S, fun o1 v H1 L1 S1 R1 => ?_⟩
      obtain ⟨fp, ra⟩ := rv_rep S1 R1 ea
      obtain ⟨o2, S2, L2⟩ := SRel.pop S1
      exact ⟨k, truA_ok ra ek, q o2 H1 (L1.trans L2) S2⟩
  · cases e2
theorem pmt_not (ha : PMT X a mc) : PMT X (.UnaryOp .Not a pos) (tNotM mc) := PT.weak (pt_not ha) fun σ H Q h => by
  obtain ⟨o, T, sa, k, sa', e, S, q⟩ := h
  obtain ⟨k1, s1, e1, e2⟩ := bnd_some e
  cases e2
  exact ⟨o, T, sa, k1, _, e1, S, fun o1 H1 L1 S1 => q o1 H1 L1 S1⟩
abbrev PMW (X : Cx) (e : Expr) (m : SM Bool) : Prop := PW X e (tOfT X.K m)
theorem PW.weak {e : Expr} {t u : TT} (h : PW X e t) (w : ∀ σ H Q, u σ H Q → t σ H Q) : PW X e u := ⟨fun wh pins s σ H Q I q => h.run wh pins s σ H Q I (w σ H Q q)⟩
theorem PMW.pt {e : Expr} {m : SM Bool} (h : PMW X e m) : PMT X e m := L2.PW.pt h
theorem pmw_and1 (ha : PMT X a mc) : PMW X (.BoolOp .And [a] pos) mc := pw_and1 ha
theorem pmw_or1 (ha : PMT X a mc) : PMW X (.BoolOp .Or [a] pos) mc := pw_or1 ha
theorem pmw_and (ha : PMT X a mc) (hb : PMW X (.BoolOp .And (b :: rest) pos) md) : PMW X (.BoolOp .And (a :: b :: rest) pos) (tAndM mc md) := PW.weak (pw_and ha hb) fun σ H Q h => by
  obtain ⟨o, T, sa, k, sa', e, S, q⟩ := h
  obtain ⟨k1, s1, e1, e2⟩ := bnd_some e
  refine ⟨o, T, sa, k1, s1, e1, S, fun o1 H1 L1 S1 => ?_⟩
  cases k1 with
  | true => exact iteT ⟨o1, T, s1, k, sa', e2, S1, fun o2 H2 L2 S2 => q o2 H2 (L1.trans L2) S2⟩
  | false =>
    cases e2
    exact iteF (q o1 H1 L1 S1)
theorem pmw_or (ha : PMT X a mc) (hb : PMW X (.BoolOp .Or (b :: rest) pos) md) : PMW X (.BoolOp .Or (a :: b :: rest) pos) (tOrM mc md) := PW.weak (pw_or ha hb) fun σ H Q h => by
  obtain ⟨o, T, sa, k, sa', e, S, q⟩ := h
  obtain ⟨k1, s1, e1, e2⟩ := bnd_some e
  refine ⟨o, T, sa, k1, s1, e1, S, fun o1 H1 L1 S1 => ?_⟩
  cases k1 with
  | false => exact iteF ⟨o1, T, s1, k, sa', e2, S1, fun o2 H2 L2 S2 => q o2 H2 (L1.trans L2) S2⟩
  | true =>
    cases e2
    exact iteT (q o1 H1 L1 S1)
theorem pm_if (hc : PMT X c mc) (ha : PM X a ma) (hb : PM X b mb) : PM X (.IfExp c a b pos) (mIf mc ma mb) := PE.weak (pe_ifExp hc ha hb) fun σ H Q h => by
  obtain ⟨o, T, sa, r, sa', e, S, q⟩ := h
  obtain ⟨k1, s1, e1, e2⟩ := bnd_some e
  refine ⟨o, T, sa, k1, s1, e1, S, fun o1 H1 L1 S1 => ?_⟩
  cases k1 with
  | true => exact iteT ⟨o1, T, s1, r, sa', e2, S1, fun o2 v H2 L2 S2 R2 => q o2 v H2 (L1.trans L2) S2 R2⟩
  | false => exact iteF ⟨o1, T, s1, r, sa', e2, S1, fun o2 v H2 L2 S2 R2 => q o2 v H2 (L1.trans L2) S2 R2⟩
theorem pm_one {op : BoolOp} (h : PM X a ma) : PM X (.BoolOp op [a] pos) ma := pe_one h
theorem bool_at {r : R} {sa : List Slot} {k : Bool} {K : PySem.W.Frag} {o : List Addr} {T : Tmp} {σ : L2.St} {H : Hp} {v : V} (S : SRel K o (pushT r v T) sa σ H) (R : RR K H o σ r v) (e : boolOf r sa = some k) : v = .bl k ∧ SRel K o T sa σ H := by
  obtain ⟨h1, h2⟩ := rvp e
  obtain ⟨fp, ra⟩ := rv_rep S R h1
  rw [h2] at S
  exact ⟨bl_of ra, S⟩
theorem repS_bl {K : PySem.W.Frag} {H : Hp} {o : List Addr} {b : Bool} : RepS K H o (.d (.bl b)) (.bl b) := RepS.d (by unfold RepD; rfl)
theorem pm_and (ha : PM X a ma) (hb : PM X (.BoolOp .And (b :: rest) pos) mb) : PM X (.BoolOp .And (a :: b :: rest) pos) (mAndV ma mb) := PE.weak (pe_and ha hb) fun σ H Q h => by
  obtain ⟨o, T, sa, r, sa', e, S, q⟩ := h
  obtain ⟨r1, s1, e1, e2⟩ := bnd_some e
  refine ⟨o, T, sa, r1, s1, e1, S, fun o1 v H1 L1 S1 R1 => ?_⟩
  split at e2
  · rename_i ek
    obtain ⟨rfl, S2⟩ := bool_at S1 R1 ek
    exact ⟨true, rfl, iteT ⟨o1, T, s1, r, sa', e2, S2, fun o2 v H2 L2 S3 R2 => q o2 v H2 (L1.trans L2) S3 R2⟩⟩
  · rename_i ek
    obtain ⟨rfl, S2⟩ := bool_at S1 R1 ek
    cases e2
    exact ⟨false, rfl, iteF (q o1 _ H1 L1 S2 repS_bl)⟩
  · cases e2
theorem pm_or (ha : PM X a ma) (hb : PM X (.BoolOp .Or (b :: rest) pos) mb) : PM X (.BoolOp .Or (a :: b :: rest) pos) (mOrV ma mb) := PE.weak (pe_or ha hb) fun σ H Q h => by
  obtain ⟨o, T, sa, r, sa', e, S, q⟩ := h
  obtain ⟨r1, s1, e1, e2⟩ := bnd_some e
  refine ⟨o, T, sa, r1, s1, e1, S, fun o1 v H1 L1 S1 R1 => ?_⟩
  split at e2
  · rename_i ek
    obtain ⟨rfl, S2⟩ := bool_at S1 R1 ek
    exact ⟨false, rfl, iteF ⟨o1, T, s1, r, sa', e2, S2, fun o2 v H2 L2 S3 R2 => q o2 v H2 (L1.trans L2) S3 R2⟩⟩
  · rename_i ek
    obtain ⟨rfl, S2⟩ := bool_at S1 R1 ek
    cases e2
    exact ⟨true, rfl, iteT (q o1 _ H1 L1 S2 repS_bl)⟩
  · cases e2
theorem pm_not (ha : PM X a ma) : PM X (.UnaryOp .Not a pos) (mNotV ma) := PE.weak (pe_not ha) fun σ H Q h => by
  obtain ⟨o, T, sa, r, sa', e, S, q⟩ := h
  obtain ⟨r1, s1, e1, e2⟩ := bnd_some e
  refine ⟨o, T, sa, r1, s1, e1, S, fun o1 v H1 L1 S1 R1 => ?_⟩
  split at e2
  · rename_i k ek
    obtain ⟨rfl, S2⟩ := bool_at S1 R1 ek
    cases e2
    exact ⟨k, rfl, q o1 _ H1 L1 S2 repS_bl⟩
  · cases e2
end

/-! ### chains a op b op c -/
def tChainM (g g' : A → A → Option Bool) (ma mb mc : SM R) : SM Bool := bnd ma fun r1 => bnd mb fun r2 => bnd (cmp2 g r1 r2) fun k => if k then bnd mc fun r3 => cmp2 g' r2 r3 else ret false
section
variable {X : Cx} {a b c : Expr} {ma mb mc : SM R} {pos : Pos} {op op' : CmpOp} {r r' : R2} {g g' : A → A → Option Bool}
theorem SRel.pop2 {K : PySem.W.Frag} {o : List Addr} {T : Tmp} {sa : List Slot} {σ : L2.St} {H : Hp} {r1 r2 : R} {v1 v2 : V} (S : SRel K o (pushT r2 v2 (pushT r1 v1 T)) sa σ H) : ∃ o', SRel K o' T sa σ H ∧ Le o H o' H := by
  obtain ⟨o1, S1, L1⟩ := SRel.pop S
  obtain ⟨o2, S2, L2⟩ := SRel.pop S1
  exact ⟨o2, S2, L1.trans L2⟩
theorem pmt_chain (ho : OpR X (compareOp op) r) (ho' : OpR X (compareOp op') r') (p : Pr2b X.K r g) (p' : Pr2b X.K r' g') (ha : PM X a ma) (hb : PM X b mb) (hc : PM X c mc)
    (hm : lastMarks [op, op'] [b, c] = false := by with_unfolding_all rfl) : PMT X (.Compare a [op, op'] [b, c] pos) (tChainM g g' ma mb mc) := PT.weak (pt_chain ho ho' ha hb hc hm) fun σ H Q h => by
  obtain ⟨o, T, sa, k, sa', e, S, q⟩ := h
  obtain ⟨r1, s1, e1, e⟩ := bnd_some e
  obtain ⟨r2, s2, e2, e⟩ := bnd_some e
  obtain ⟨k1, s3, e3, e⟩ := bnd_some e
  obtain ⟨a, b, ea, eb, ec, rfl⟩ := cmp2_some e3
  refine ⟨o, T, sa, r1, s1, e1, S, fun o1 v H1 L1 S1 R1 => ?_⟩
  refine ⟨o1, pushT r1 v T, s1, r2, _, e2, S1, fun o2 v2 H2 L2 S2 R2 => ?_⟩
  obtain ⟨fb, rb⟩ := rv_rep S2 R2 eb
  obtain ⟨o3, S3, L3⟩ := SRel.pop S2
  obtain ⟨fa, ra⟩ := rv_rep S3 ((R1.mono S1 L2).mono S2 L3) ea
  refine p H2 a b v v2 fa fb k1 _ ra rb ec ⟨k1, rfl, ?_⟩
  cases k1 with
  | true =>
    refine iteT ?_
    obtain ⟨r3, s4, e4, e5⟩ := bnd_some (show bnd mc (fun r3 => cmp2 g' r2 r3) _ = _ from e)
    obtain ⟨b', c, eb', ec', eg, rfl⟩ := cmp2_some e5
    refine ⟨o2, pushT r2 v2 (pushT r1 v T), _, r3, _, e4, S2, fun o4 v3 H4 L4 S4 R4 => ?_⟩
    obtain ⟨fc, rc⟩ := rv_rep S4 R4 ec'
    obtain ⟨o5, S5, L5⟩ := SRel.pop S4
    obtain ⟨fb', rb'⟩ := rv_rep S5 ((R2.mono S2 L4).mono S4 L5) eb'
    obtain ⟨o6, S6, L6⟩ := SRel.pop2 S5
    exact p' H4 b' c v2 v3 fb' fc k _ rb' rc eg ⟨k, rfl, q o6 H4 ((((L1.trans L2).trans L4).trans L5).trans L6) S6⟩
  | false =>
    refine iteF ⟨false, rfl, ?_⟩
    cases e
    obtain ⟨o6, S6, L6⟩ := SRel.pop2 S2
    exact q o6 H2 ((L1.trans L2).trans L6) S6
theorem pm_chain (ho : OpR X (compareOp op) r) (ho' : OpR X (compareOp op') r') (p : Pr2b X.K r g) (p' : Pr2b X.K r' g') (ha : PM X a ma) (hb : PM X b mb) (hc : PM X c mc)
    (hm : lastMarks [op, op'] [b, c] = false := by with_unfolding_all rfl) : PM X (.Compare a [op, op'] [b, c] pos) (asV (tChainM g g' ma mb mc)) := PE.weak (pe_chain ho ho' ha hb hc hm) fun σ H Q h => by
  have h := stepV h
  obtain ⟨o, T, sa, k, sa', e, S, q⟩ := h
  obtain ⟨r1, s1, e1, e⟩ := bnd_some e
  obtain ⟨r2, s2, e2, e⟩ := bnd_some e
  obtain ⟨k1, s3, e3, e⟩ := bnd_some e
  obtain ⟨a, b, ea, eb, ec, rfl⟩ := cmp2_some e3
  refine ⟨o, T, sa, r1, s1, e1, S, fun o1 v H1 L1 S1 R1 => ?_⟩
  refine ⟨o1, pushT r1 v T, s1, r2, _, e2, S1, fun o2 v2 H2 L2 S2 R2 => ?_⟩
  obtain ⟨fb, rb⟩ := rv_rep S2 R2 eb
  obtain ⟨o3, S3, L3⟩ := SRel.pop S2
  obtain ⟨fa, ra⟩ := rv_rep S3 ((R1.mono S1 L2).mono S2 L3) ea
  refine p H2 a b v v2 fa fb k1 _ ra rb ec ⟨k1, rfl, ?_⟩
  cases k1 with
  | true =>
    refine iteT ?_
    obtain ⟨r3, s4, e4, e5⟩ := bnd_some (show bnd mc (fun r3 => cmp2 g' r2 r3) _ = _ from e)
    obtain ⟨b', c, eb', ec', eg, rfl⟩ := cmp2_some e5
    refine ⟨o2, pushT r2 v2 (pushT r1 v T), _, r3, _, e4, S2, fun o4 v3 H4 L4 S4 R4 => ?_⟩
    obtain ⟨fc, rc⟩ := rv_rep S4 R4 ec'
    obtain ⟨o5, S5, L5⟩ := SRel.pop S4
    obtain ⟨fb', rb'⟩ := rv_rep S5 ((R2.mono S2 L4).mono S4 L5) eb'
    obtain ⟨o6, S6, L6⟩ := SRel.pop2 S5
    exact p' H4 b' c v2 v3 fb' fc k _ rb' rc eg (q o6 H4 ((((L1.trans L2).trans L4).trans L5).trans L6) S6)
  | false =>
    refine iteF ?_
    cases e
    obtain ⟨o6, S6, L6⟩ := SRel.pop2 S2
    exact q o6 H2 ((L1.trans L2).trans L6) S6
variable (ha : PM X a ma) (hb : PM X b mb) (hc : PM X c mc)
include ha hb hc
theorem pm_lele (hm : lastMarks [.LtE, .LtE] [b, c] = false := by with_unfolding_all rfl) : PM X (.Compare a [.LtE, .LtE] [b, c] pos) (asV (tChainM leA leA ma mb mc)) := pm_chain (op_le.or op_le_str) (op_le.or op_le_str) pr_le pr_le ha hb hc hm
theorem pmt_lele (hm : lastMarks [.LtE, .LtE] [b, c] = false := by with_unfolding_all rfl) : PMT X (.Compare a [.LtE, .LtE] [b, c] pos) (tChainM leA leA ma mb mc) := pmt_chain (op_le.or op_le_str) (op_le.or op_le_str) pr_le pr_le ha hb hc hm
theorem pm_lelt (hm : lastMarks [.LtE, .Lt] [b, c] = false := by with_unfolding_all rfl) : PM X (.Compare a [.LtE, .Lt] [b, c] pos) (asV (tChainM leA ltA ma mb mc)) := pm_chain (op_le.or op_le_str) (op_lt.or op_lt_str) pr_le pr_lt ha hb hc hm
theorem pmt_lelt (hm : lastMarks [.LtE, .Lt] [b, c] = false := by with_unfolding_all rfl) : PMT X (.Compare a [.LtE, .Lt] [b, c] pos) (tChainM leA ltA ma mb mc) := pmt_chain (op_le.or op_le_str) (op_lt.or op_lt_str) pr_le pr_lt ha hb hc hm
end

/-! ### argument lists, displays -/
def mNil : SM (List R) := ret []
def mCons (m : SM R) (ms : SM (List R)) : SM (List R) := bnd m fun r => bnd ms fun rs => ret (r :: rs)
/-- what may be put into a display: data, or what is owned -/
def od : R → List Slot → Option A
  | .val true a, _ => some a
  | r, sa => match rv r sa with
    | some (.d x) => some (.d x)
    | _ => none
def ods : List R → List Slot → Option (List A)
  | [], _ => some []
  | r :: rs, sa => match od r sa, ods rs sa with
    | some a, some as => some (a :: as)
    | _, _ => none
def mTup (ms : SM (List R)) : SM R := bnd ms fun rs sa => match ods rs sa with
  | some as => if szB as.length then some (fin (mkT as), sa) else none
  | none => none
def mLst (ms : SM (List R)) : SM R := bnd ms fun rs sa => match ods rs sa with
  | some as => if szB as.length then some (fin (mkL as), sa) else none
  | none => none
section
variable {K : PySem.W.Frag} {H H' : Hp} {o o' : List Addr} {T : Tmp} {sa sa' : List Slot} {σ : L2.St}
theorem od_one {r : R} {v : V} {a : A} {T : Tmp} {o : List Addr} (S : SRel K o (pushT r v T) sa σ H) (R : RR K H o σ r v) (e : od r sa = some a) : ∃ f o', Rep K H a v f ∧ SRel K o' T sa σ H ∧ o = f ++ o' := by
  unfold od at e
  split at e
  · cases e
    obtain ⟨f, o', rfl, ra, S'⟩ := SRel.top S
    exact ⟨f, o', ra, S', rfl⟩
  · rename_i hr
    split at e
    · rename_i x ex
      cases e
      obtain ⟨fp, ra⟩ := rv_rep S R ex
      refine ⟨[], o, rep_d (repD_d ra), ?_, rfl⟩
      match r, hr, S with
      | .val true a, hr, _ => exact (hr a rfl).elim
      | .val false a, _, S => exact S
      | .peek j, _, S => exact S
    · cases e
theorem RR.sub {r : R} {v : V} {o1 : List Addr} (sub : ∀ b, b ∈ o1 → b ∈ o) (h : RR K H o σ r v) : RR K H o1 σ r v := by
  cases r with
  | val fl a =>
    cases fl with
    | true => exact True.intro
    | false => exact RepS.sub sub h
  | peek j => exact h
theorem ods_all : ∀ {rs : List R} {vs : List V} {T : Tmp} {o : List Addr} {as : List A}, SRel K o (pushTs rs vs T) sa σ H → RRs K H o σ rs vs → ods rs sa = some as →
    ∃ fp o', Reps K H as vs fp ∧ SRel K o' T sa σ H ∧ (fp ++ o').Perm o
  | [], vs, T, o, as, S, h, e => by
    cases h
    cases e
    exact ⟨[], o, Reps.nil, S, List.Perm.refl _⟩
  | r :: rs, vs, T, o, as, S, h, e => by
    cases h with
    | @cons _ v _ vs h1 h2 =>
      unfold ods at e
      split at e
      · rename_i a as' ea eas
        cases e
        have S' : SRel K o (pushTs rs vs (pushT r v T)) sa σ H := S
        obtain ⟨fp2, o1, r2, S1, p⟩ := ods_all S' h2 eas
        have sub : ∀ b, b ∈ o1 → b ∈ o := fun b hb => p.subset (List.mem_append_right _ hb)
        have R1 : RR K H o1 σ r v := RR.sub sub h1
        obtain ⟨f, o2, ra, S2, rfl⟩ := od_one S1 R1 ea
        refine ⟨f ++ fp2, o2, Reps.cons ra r2, S2, List.Perm.trans ?_ p⟩
        rw [List.append_assoc]
        exact List.perm_append_comm_assoc f fp2 o2
      · cases e
theorem Le.sub {f : List Addr} (p : ∀ b, b ∈ f → b ∈ o) : Le o H f H := fun b u e n => ⟨e, fun z => n (p b z)⟩
theorem SRel.perm {o1 : List Addr} {a : A} {v : V} {f : List Addr} (S : SRel K o1 T sa σ H) (r : Rep K H a v f) (nd : (f ++ o1).Nodup) (S0 : SRel K o T sa σ H) (p : ∀ b, b ∈ f ++ o1 → b ∈ o) : SRel K (f ++ o1) ((a, v) :: T) sa σ H :=
  ⟨S.len, fun i fl a' e => by
    obtain ⟨w, e1, q⟩ := S0.sl i fl a' e
    exact ⟨w, e1, fun z => RepS.sub p (q z)⟩, Reps.cons r S.own, nd⟩
/-- an owned thing is made of owned things -/
theorem SRel.made {o1 : List Addr} {a : A} {v : V} {f : List Addr} (S : SRel K o1 T sa σ H) (r : Rep K H a v f) (nd : (f ++ o1).Nodup) (sl : ∀ (i : Nat) fl a, sa[i]? = some (some (fl, a)) → ∃ v, σ[i]? = some (some v) ∧ (fl = false → RepS K H (f ++ o1) a v)) :
    SRel K (f ++ o1) (pushT (fin a) v T) sa σ H ∧ RR K H (f ++ o1) σ (fin a) v := by
  cases a with
  | d x =>
    have h := r
    unfold Rep at h
    obtain ⟨h, rfl⟩ := h
    exact ⟨S, RepS.d h⟩
  | ls xs => exact ⟨⟨S.len, sl, Reps.cons r S.own, nd⟩, True.intro⟩
  | lst xs => exact ⟨⟨S.len, sl, Reps.cons r S.own, nd⟩, True.intro⟩
  | tpl xs => exact ⟨⟨S.len, sl, Reps.cons r S.own, nd⟩, True.intro⟩
  | dd xs => exact ⟨⟨S.len, sl, Reps.cons r S.own, nd⟩, True.intro⟩
/-- a new object over them -/
theorem SRel.fresh2 {o1 f : List Addr} {c : A} {v : V} {H' : Hp} {g : List Addr} (S : SRel K o1 T sa σ H) (nd : (f ++ o1).Nodup) (sub : ∀ b, b ∈ f ++ o1 → b ∈ o) (sl : ∀ b ∈ o, ∃ u, H b = some u ∧ isMut u = true)
    (hs : ∀ (i : Nat) fl a, sa[i]? = some (some (fl, a)) → ∃ v, σ[i]? = some (some v) ∧ (fl = false → RepS K H o a v)) (same : ∀ b u, H b = some u → H' b = some u) (hg : ∀ b ∈ g, H b = none) (ndg : g.Nodup) (r : Rep K H' c v (g ++ f)) :
    SRel K ((g ++ f) ++ o1) (pushT (fin c) v T) sa σ H' ∧ RR K H' ((g ++ f) ++ o1) σ (fin c) v ∧ Le o H ((g ++ f) ++ o1) H' := by
  have ng : ∀ b ∈ g, b ∉ o := fun b hb z => by
    obtain ⟨u, e, _⟩ := sl b z
    rw [hg b hb] at e
    cases e
  have L : Le o H ((g ++ f) ++ o1) H' := fun b u e n => ⟨same b u e, fun z => by
    rw [List.append_assoc] at z
    rcases List.mem_append.mp z with z | z
    · rw [hg b z] at e
      cases e
    · exact n (sub b z)⟩
  have own' : Reps K H' (T.map (·.1) ++ sa.map ownA) (T.map (·.2) ++ ownVs sa σ) o1 := S.own.mono (fun b u e _ => same b u e) (fun b _ u e => same b u e)
  have S' : SRel K o1 T sa σ H' := ⟨S.len, fun i fl a e => by
    obtain ⟨w, e1, q⟩ := S.sl i fl a e
    refine ⟨w, e1, fun z => ?_⟩
    obtain ⟨fp, r, n⟩ := q z
    exact ⟨fp, r.mono (fun b u e _ => same b u e) (fun b _ u e => same b u e), n⟩, own', S.nd⟩
  have nd' : ((g ++ f) ++ o1).Nodup := by
    rw [List.append_assoc]
    exact List.nodup_append.mpr ⟨ndg, nd, fun a ha b hb e => by
      subst e
      exact ng a ha (sub a hb)⟩
  obtain ⟨h1, h2⟩ := SRel.made S' r nd' fun i fl a e => by
    obtain ⟨w, e1, q⟩ := hs i fl a e
    refine ⟨w, e1, fun z => ?_⟩
    obtain ⟨fp, r, n⟩ := q z
    refine ⟨fp, r.mono (fun b u e _ => same b u e) (fun b _ u e => same b u e), fun b hb z => ?_⟩
    rw [List.append_assoc] at z
    rcases List.mem_append.mp z with z | z
    · obtain ⟨u, e, _⟩ := r.mem b hb
      rw [hg b z] at e
      cases e
    · exact n b hb (sub b z)
  exact ⟨h1, h2, L⟩
theorem pushTs_slots : ∀ {rs : List R} {vs : List V} {T : Tmp}, SRel K o (pushTs rs vs T) sa σ H → (∀ (i : Nat) fl a, sa[i]? = some (some (fl, a)) → ∃ v, σ[i]? = some (some v) ∧ (fl = false → RepS K H o a v)) := fun S => S.sl
end
section
variable {X : Cx} {e : Expr} {es : List Expr} {m : SM R} {ms : SM (List R)} {pos : Pos}
theorem pma_nil : PMA X [] mNil := PA.weak pa_nil fun σ H Q h => by
  obtain ⟨o, T, sa, rs, sa', e, S, q⟩ := h
  cases e
  exact q o [] H Le.refl S .nil
theorem pma_cons (ha : PM X e m) (hr : PMA X es ms) (hs : starEach (e :: es) X.env = (false, eval e X.env) :: starEach es X.env := by rfl) : PMA X (e :: es) (mCons m ms) := PA.weak (pa_cons ha hr hs) fun σ H Q h => by
  obtain ⟨o, T, sa, rs, sa', e, S, q⟩ := h
  obtain ⟨r1, s1, e1, e2⟩ := bnd_some e
  obtain ⟨rs2, s2, e2, e3⟩ := bnd_some e2
  cases e3
  refine ⟨o, T, sa, r1, s1, e1, S, fun o1 v H1 L1 S1 R1 => ?_⟩
  exact ⟨o1, pushT r1 v T, s1, rs2, _, e2, S1, fun o2 vs H2 L2 S2 R2 => q o2 (v :: vs) H2 (L1.trans L2) S2 (.cons (R1.mono S1 L2) R2)⟩
theorem rep_mkT {K : PySem.W.Frag} {H : Hp} {p : Addr} {as : List A} {vs : List V} {f : List Addr} (r : Reps K H as vs f) (n : H p = none) : Rep K (upd H p (.tup vs)) (mkT as) (.ref p) f := by
  unfold mkT
  split
  · rename_i ds e
    rw [allD_eq e] at r
    obtain ⟨r', rfl⟩ := Reps.data r
    exact rep_tup r' n
  · unfold Rep
    exact ⟨p, vs, rfl, .inl (.inl upd_same), Reps.fresh (Fresh.new0 n) r⟩
theorem rep_mkL {K : PySem.W.Frag} {H : Hp} {p : Addr} {as : List A} {vs : List V} {f : List Addr} (r : Reps K H as vs f) (n : H p = none) : Rep K (upd H p (.lst vs)) (mkL as) (.ref p) (p :: f) := by
  unfold mkL
  split
  · rename_i ds e
    rw [allD_eq e] at r
    obtain ⟨r', rfl⟩ := Reps.data r
    exact rep_ls r' n
  · unfold Rep
    exact ⟨p, vs, f, rfl, upd_same, Reps.fresh (Fresh.one n) r, rfl⟩
theorem pm_tup {x1} (h : PMA X es ms) : PM X (.Tuple es x1 pos) (mTup ms) := PE.weak (pe_tup h) fun σ H Q h => by
  obtain ⟨o, T, sa, r, sa', e, S, q⟩ := h
  obtain ⟨rs, s1, e1, e2⟩ := bnd_some e
  split at e2
  · rename_i as ea
    split at e2
    · rename_i hz
      cases e2
      refine ⟨o, T, sa, rs, _, e1, S, fun o1 vs H1 L1 S1 R1 => ?_⟩
      obtain ⟨fp, o2, rr, S2, p⟩ := ods_all S1 R1 ea
      refine ⟨by rw [← rr.len]; exact szB_ok hz, fun l hl => ?_⟩
      obtain ⟨h1, h2, h3⟩ := SRel.fresh2 (o := o1) (g := []) S2 (p.symm.nodup S1.nd) (fun b hb => p.subset hb) S1.mut S1.sl (Fresh.new0 hl).same (fun _ h => nomatch h) List.nodup_nil (rep_mkT rr hl)
      exact q _ _ _ (L1.trans h3) h1 h2
    · cases e2
  · cases e2
theorem pm_lst (h : PMA X es ms) : PM X (.List es pos) (mLst ms) := PE.weak (pe_lst h) fun σ H Q h => by
  obtain ⟨o, T, sa, r, sa', e, S, q⟩ := h
  obtain ⟨rs, s1, e1, e2⟩ := bnd_some e
  split at e2
  · rename_i as ea
    split at e2
    · rename_i hz
      cases e2
      refine ⟨o, T, sa, rs, _, e1, S, fun o1 vs H1 L1 S1 R1 => ?_⟩
      obtain ⟨fp, o2, rr, S2, p⟩ := ods_all S1 R1 ea
      refine ⟨by rw [← rr.len]; exact szB_ok hz, fun l hl => ?_⟩
      obtain ⟨h1, h2, h3⟩ := SRel.fresh2 (o := o1) (g := [l]) S2 (p.symm.nodup S1.nd) (fun b hb => p.subset hb) S1.mut S1.sl (Fresh.one hl).same (fun b hb => by
        have : b = l := by simpa using hb
        rw [this]; exact hl) (by simp) (rep_mkL rr hl)
      exact q _ _ _ (L1.trans h3) h1 h2
    · cases e2
  · cases e2
end
end MM
namespace MM
open PySem PySem.Spec PyProof.Rows L2

/-! ### subscripts -/
def ixA : A → A → Option A
  | .d (.tup xs), .d (.int i) => (atI xs i).map .d
  | .ls xs, .d (.int i) => (atI xs i).map .d
  | .lst xs, .d (.int i) => atI xs i
  | .tpl xs, .d (.int i) => atI xs i
  | .d (.str s), .d (.int i) => if szB s.length then (atI s.cps.toList i).map fun c => .d (.str ⟨#[c]⟩) else none
  | _, _ => none
def downg (j : Nat) (sa : List Slot) : List Slot := match sa[j]? with
  | some (some (_, a)) => sa.set j (some (false, a))
  | _ => sa
def mIx (ma mb : SM R) : SM R := bnd ma fun r1 => bnd mb fun r2 sa => match rv r1 sa, rv r2 sa with
  | some a, some i => match ixA a i with
    | some (.d z) => some (.val false (.d z), sa)
    | some c => match r1 with
      | .val fl _ => some (.val fl c, sa)
      | .peek j => some (.val false c, downg j sa)
    | none => none
  | _, _ => none
theorem atI_len {α β : Type} {xs : List α} {ys : List β} (h : xs.length = ys.length) (i : Int) : (∃ j : Nat, atI xs i = xs[j]? ∧ atI ys i = ys[j]?) ∨ (atI xs i = none ∧ atI ys i = none) := by
  unfold atI
  rw [← h]
  cases e : ixN xs.length i with
  | none => exact .inr ⟨rfl, rfl⟩
  | some j => exact .inl ⟨j, rfl, rfl⟩
theorem Reps.get {K : PySem.W.Frag} {H : Hp} {xs : List A} {ys : List V} {f : List Addr} {i : Nat} {x : A} (h : Reps K H xs ys f) (e : xs[i]? = some x) : ∃ y g, ys[i]? = some y ∧ Rep K H x y g ∧ g.Sublist f := by
  have hi : i < ys.length := by rw [← h.len]; exact (List.getElem?_eq_some_iff.mp e).1
  obtain ⟨f1, fi, f2, rfl, r, _⟩ := h.at e (List.getElem?_eq_getElem hi)
  exact ⟨_, fi, List.getElem?_eq_getElem hi, r, (List.sublist_append_right _ _).trans (List.sublist_append_left _ _)⟩
theorem ix_ok {K : PySem.W.Frag} {H : Hp} {a b c : A} {x y : V} {fa fb : List Addr} {Q : VK} (ra : Rep K H a x fa) (rb : Rep K H b y fb) (e : ixA a b = some c) (q : ∀ z fc, Rep K H c z fc → fc.Sublist fa → Q z H) : rIx K x y H Q := by
  unfold ixA at e
  split at e
  · rename_i xs i
    obtain ⟨p, ys, rfl, s, r⟩ := tup_of ra
    cases e1 : atI xs i with
    | none => rw [e1] at e; cases e
    | some d =>
      rw [e1] at e
      cases e
      rcases atI_len r.len i with ⟨j, h1, h2⟩ | ⟨h1, _⟩
      · rw [h1] at e1
        obtain ⟨z, ez, rz⟩ := r.get e1
        exact .inr (.inl ⟨p, ys, i, z, rfl, int_of rb, s, h2.trans ez, q z [] (rep_d rz) (List.nil_sublist _)⟩)
      · rw [h1] at e1; cases e1
  · rename_i xs i
    obtain ⟨p, ys, rfl, s, r, _⟩ := ls_of ra
    cases e1 : atI xs i with
    | none => rw [e1] at e; cases e
    | some d =>
      rw [e1] at e
      cases e
      rcases atI_len r.len i with ⟨j, h1, h2⟩ | ⟨h1, _⟩
      · rw [h1] at e1
        obtain ⟨z, ez, rz⟩ := r.get e1
        exact .inl ⟨p, ys, i, z, rfl, int_of rb, .of s, h2.trans ez, q z [] (rep_d rz) (List.nil_sublist _)⟩
      · rw [h1] at e1; cases e1
  · rename_i xs i
    obtain ⟨p, ys, g, rfl, s, r, rfl⟩ := lst_of ra
    rcases atI_len r.len i with ⟨j, h1, h2⟩ | ⟨h1, _⟩
    · rw [h1] at e
      obtain ⟨z, g', ez, rz, sub⟩ := r.get e
      exact .inl ⟨p, ys, i, z, rfl, int_of rb, .of s, h2.trans ez, q z _ rz (sub.trans (List.sublist_cons_self _ _))⟩
    · rw [h1] at e; cases e
  · rename_i xs i
    obtain ⟨p, ys, rfl, s, r⟩ := tpl_of ra
    rcases atI_len r.len i with ⟨j, h1, h2⟩ | ⟨h1, _⟩
    · rw [h1] at e
      obtain ⟨z, g', ez, rz, sub⟩ := r.get e
      exact .inr (.inl ⟨p, ys, i, z, rfl, int_of rb, s, h2.trans ez, q z _ rz sub⟩)
    · rw [h1] at e; cases e
  · rename_i st i
    split at e
    · rename_i hz
      cases e1 : atI st.cps.toList i with
      | none => rw [e1] at e; cases e
      | some d =>
        rw [e1] at e
        cases e
        exact .inr (.inr ⟨st, i, d, str_of ra, int_of rb, szB_ok hz, e1, q _ [] rep_str (List.nil_sublist _)⟩)
    · cases e
  · cases e
section
variable {X : Cx} {a b : Expr} {ma mb : SM R} {pos : Pos}
theorem pm_ix (ha : PM X a ma) (hb : PM X b mb) (hs : PlainIx b) : PM X (.Subscript a b pos) (mIx ma mb) := PE.weak (pe_ix ix_seq ha hb hs) fun σ H Q h => by
  obtain ⟨o, T, sa, r, sa', e, S, q⟩ := h
  obtain ⟨r1, s1, e1, e2⟩ := bnd_some e
  obtain ⟨r2, s2, e2, e3⟩ := bnd_some e2
  refine ⟨o, T, sa, r1, s1, e1, S, fun o1 v H1 L1 S1 R1 => ?_⟩
  refine ⟨o1, pushT r1 v T, s1, r2, _, e2, S1, fun o2 v2 H2 L2 S2 R2 => ?_⟩
  split at e3
  · rename_i a i ea ei
    obtain ⟨fb, rb⟩ := rv_rep S2 R2 ei
    obtain ⟨o3, S3, L3⟩ := SRel.pop S2
    have R1' : RR X.K H2 o3 σ r1 v := (R1.mono S1 L2).mono S2 L3
    have L := (L1.trans L2).trans L3
    split at e3
    · rename_i z ec
      cases e3
      obtain ⟨fa, ra⟩ := rv_rep S3 R1' ea
      refine ix_ok ra rb ec fun y fc ry _ => ?_
      obtain ⟨o4, S4, L4⟩ := SRel.pop S3
      exact q o4 y H2 (L.trans L4) S4 (RepS.d (repD_d ry))
    · rename_i c hc ec
      split at e3
      · rename_i fl a0
        have ea : a0 = a := Option.some.inj ea
        subst ea
        cases e3
        cases fl with
        | true =>
          obtain ⟨f, o4, rfl, ra, S4⟩ := SRel.top S3
          refine ix_ok ra rb ec fun y fc ry sub => ?_
          have nd : (fc ++ o4).Nodup := List.nodup_append.mpr ⟨(List.nodup_append.mp S3.nd).1.sublist sub, S4.nd, fun b hb c hc => (List.nodup_append.mp S3.nd).2.2 b (sub.subset hb) c hc⟩
          have sb : ∀ b, b ∈ fc ++ o4 → b ∈ f ++ o4 := fun b hb => by
            rcases List.mem_append.mp hb with hb | hb
            · exact List.mem_append_left _ (sub.subset hb)
            · exact List.mem_append_right _ hb
          refine q (fc ++ o4) y H2 (L.trans (Le.sub sb)) ⟨S4.len, fun i fl a e => ?_, Reps.cons ry S4.own, nd⟩ True.intro
          obtain ⟨w, e1, z⟩ := S3.sl i fl a e
          exact ⟨w, e1, fun y => RepS.sub sb (z y)⟩
        | false =>
          obtain ⟨fp, ra, n⟩ := R1'
          exact ix_ok ra rb ec fun y fc ry sub => q o3 y H2 L S3 ⟨fc, ry, fun b hb => n b (sub.subset hb)⟩
      · rename_i j
        cases e3
        have eu : ∃ fl, use (.peek j) s2 = some ((false, a), downg j s2) ∧ s2[j]? = some (some (fl, a)) := by
          have ea : (match s2[j]? with
            | some (some p) => some p.2
            | _ => none) = some a := ea
          split at ea
          · rename_i p q
            cases ea
            refine ⟨p.1, ?_, q⟩
            show (match s2[j]? with
              | some (some (_, a)) => some (((false, a) : Bool × A), s2.set j (some (false, a)))
              | _ => none) = _
            unfold downg
            rw [q]
          · cases ea
        obtain ⟨fl, eu, _⟩ := eu
        obtain ⟨o4, S4, L4, R4, _⟩ := bnd_use (T := T) (v := v) S3 R1' eu
        obtain ⟨fp, ra, n⟩ := R4
        exact ix_ok ra rb ec fun y fc ry sub => q o4 y H2 (L.trans L4) S4 ⟨fc, ry, fun b hb => n b (sub.subset hb)⟩
    · cases e3
  · cases e3
end

/-! ### slices -/
theorem scr_of {K : PySem.W.Frag} {H : Hp} {ns : List Int} {v : V} {f : List Addr} (h : Rep K H (.d (.scr ns)) v f) : ∃ a, v = .ref a ∧ ScrAt K H a ns := by
  have := repD_d h
  unfold RepD at this
  exact this
theorem repDs_ints {K : PySem.W.Frag} {H : Hp} : ∀ ns : List Int, RepDs K H (ns.map .int) (ns.map V.int)
  | [] => by
    show RepDs K H [] []
    unfold RepDs
    rfl
  | n :: ns => by
    show RepDs K H (.int n :: ns.map .int) (.int n :: ns.map V.int)
    unfold RepDs
    exact ⟨_, _, rfl, by unfold RepD; rfl, repDs_ints ns⟩
def cutL {α : Type} (xs : List α) (lo hi : Option Int) : List α := (xs.drop (HT.sIx xs.length 0 lo)).take (HT.sIx xs.length xs.length hi - HT.sIx xs.length 0 lo)
theorem cutL_V (xs : List V) (lo hi : Option Int) : cutL xs lo hi = cutV xs lo hi := rfl
def slA (lo hi : Option Int) : A → Option A
  | .d (.tup xs) => some (.t (cutL xs lo hi))
  | .ls xs => some (.ls (cutL xs lo hi))
  | .d (.scr ns) => some (.ls (cutL (ns.map .int) lo hi))
  | .d (.str s) => if szB s.length then some (.s (cutS s lo hi)) else none
  | _ => none
def partN : SM (Option Int) := ret none
def partS (m : SM R) : SM (Option Int) := bnd m fun r sa => match r with
  | .val true _ => none
  | r => match rv r sa with
    | some (.d (.int i)) => some (some i, sa)
    | _ => none
def mSl (m : SM R) (l h : SM (Option Int)) : SM R := bnd m fun r => bnd l fun lo => bnd h fun hi => app1 (slA lo hi) r
def tOfP (K : PySem.W.Frag) (m : SM (Option Int)) : TO := fun σ H Q => ∃ o T sa r sa', m sa = some (r, sa') ∧ SRel K o T sa σ H ∧
  ∀ o' H', Le o H o' H' → SRel K o' T sa' σ H' → Q r H'
theorem RepDs.cut {K : PySem.W.Frag} {H : Hp} {xs : List D} {ys : List V} (r : RepDs K H xs ys) (lo hi : Option Int) : RepDs K H (cutL xs lo hi) (cutV ys lo hi) := by
  unfold cutL cutV
  rw [r.len]
  exact (r.drop _).take _
def rSlX (K : PySem.W.Frag) : V → Option Int → Option Int → Hp → VK → Prop := fun x lo hi H Q => rSlA K x lo hi H Q ∨ (rSlL K x lo hi H Q ∨ rSlS x lo hi H Q)
section
variable {X : Cx} {e : Expr} {lo hi : Option Expr} {m : SM R} {l h : SM (Option Int)} {pos p2 : Pos}
theorem sl_X : SlR X (rSlX X.K) := sl_tupA.or (sl_list.or sl_str)
theorem sl_okA {K : PySem.W.Frag} {H : Hp} {a c : A} {x : V} {f : List Addr} {lo hi : Option Int} {Q : VK} (r : Rep K H a x f) (e : slA lo hi a = some c) (q : ∀ v H' o', Fresh H H' o' → Rep K H' c v o' → Q v H') : rSlX K x lo hi H Q := by
  unfold slA at e
  split at e
  · rename_i xs
    cases e
    obtain ⟨p, ys, rfl, s, rs⟩ := tup_of r
    refine .inl ⟨p, ys, rfl, s, fun ⟨z1, z2⟩ => ?_, fun _ l hl => q _ _ [] (Fresh.new0 hl) (rep_tup (rs.cut lo hi) hl)⟩
    have : cutL xs lo hi = xs := by
      unfold cutL
      rw [rs.len, z1, z2]
      simp [← rs.len]
    rw [this] at q
    exact q _ H [] Fresh.refl (rep_d (repD_d r))
  · cases e
    obtain ⟨p, ys, rfl, s, rs, _⟩ := ls_of r
    exact .inr (.inl ⟨p, ys, rfl, .of s, fun l hl => q _ _ [l] (Fresh.one hl) (rep_ls (rs.cut lo hi) hl)⟩)
  · cases e
    obtain ⟨p, rfl, s⟩ := scr_of r
    exact .inr (.inl ⟨p, _, rfl, s.seq, fun l hl => q _ _ [l] (Fresh.one hl) (rep_ls ((repDs_ints _).cut lo hi) hl)⟩)
  · split at e
    · rename_i hz
      cases e
      exact .inr (.inr ⟨_, str_of r, szB_ok hz, q _ H [] Fresh.refl rep_str⟩)
    · cases e
  · cases e
theorem pmp_none : PO X none (tOfP X.K partN) := ⟨fun pins s σ H Q I h => po_none.run pins s σ H Q I (by
  obtain ⟨o, T, sa, r, sa', e, S, q⟩ := h
  cases e
  exact q o H Le.refl S)⟩
theorem pmp_some {e : Expr} {m : SM R} (h : PM X e m) : PO X (some e) (tOfP X.K (partS m)) := ⟨fun pins s σ H Q I hw => (po_some h).run pins s σ H Q I (by
  obtain ⟨o, T, sa, r, sa', e, S, q⟩ := hw
  obtain ⟨r1, s1, e1, e2⟩ := bnd_some e
  refine ⟨o, T, sa, r1, s1, e1, S, fun o1 v H1 L1 S1 R1 => ?_⟩
  split at e2
  · cases e2
  · rename_i hr
    split at e2
    · rename_i i ei
      cases e2
      obtain ⟨fp, ra⟩ := rv_rep S1 R1 ei
      refine ⟨i, int_of ra, q o1 H1 L1 ?_⟩
      match r1, hr, S1 with
      | .val true a, hr, _ => exact (hr a rfl).elim
      | .val false a, _, S => exact S
      | .peek j, _, S => exact S
    · cases e2)⟩
theorem pm_sl (he : PM X e m) (hl : PO X lo (tOfP X.K l)) (hu : PO X hi (tOfP X.K h)) : PM X (.Subscript e (.Slice lo hi none p2) pos) (mSl m l h) := PE.weak (pe_slice sl_X he hl hu) fun σ H Q hw => by
  obtain ⟨o, T, sa, r, sa', e, S, q⟩ := hw
  obtain ⟨r1, s1, e1, e2⟩ := bnd_some e
  obtain ⟨lo, s2, el, e3⟩ := bnd_some e2
  obtain ⟨hi, s3, eh, e4⟩ := bnd_some e3
  obtain ⟨a, c, ea, ec, rfl, rfl⟩ := app1_some e4
  refine ⟨o, T, sa, r1, s1, e1, S, fun o1 v H1 L1 S1 R1 => ?_⟩
  refine ⟨o1, pushT r1 v T, s1, lo, s2, el, S1, fun o2 H2 L2 S2 => ?_⟩
  refine ⟨o2, pushT r1 v T, s2, hi, _, eh, S2, fun o3 H3 L3 S3 => ?_⟩
  obtain ⟨fp, ra⟩ := rv_rep S3 ((R1.mono S1 L2).mono S2 L3) ea
  refine sl_okA ra ec fun v' H' o' F r' => ?_
  obtain ⟨o4, S4, L4⟩ := SRel.pop S3
  obtain ⟨S5, L5, R5⟩ := SRel.fresh S4 F r'
  exact q _ v' H' ((((L1.trans L2).trans L3).trans L4).trans L5) S5 R5
end

/-! ### calls of builtins -/
section
variable {X : Cx} {e : Expr} {es : List Expr} {ms : SM (List R)} {pos p : Pos} {x : Str} {id T : String} {r : List V → Hp → VK → Prop} {f : List A → Option A}
theorem pm_callB (hc : CallR X (.builtin id) r) (pr : PrN X.K r f) (hg : Gl X x) (hm : X.mg x = none) (hv : bootBuiltins x = some (.builtin id)) (ha : PMA X (e :: es) ms) (hn : x ≠ "__name__" := by decide) (hdb : (x == ("__debug__" : Str)) = false := by decide)
    (he : starEach (e :: es) X.env = (false, eval e X.env) :: starEach es X.env := by rfl) (hpl : (backTo pos (starEach es X.env)).any (·.1) = false := by rfl) : PM X (.Call (.Name x p) (e :: es) [] pos) (mN f ms) :=
  PE.weak (pe_callB hc hg hm hv ha hn hdb he hpl) fun σ H Q h => stepN pr h
theorem pm_callT (hc : CallR X (.type T) r) (pr : PrN X.K r f) (hg : Gl X x) (hm : X.mg x = none) (hv : bootBuiltins x = some (.type T)) (ha : PMA X (e :: es) ms) (hn : x ≠ "__name__" := by decide) (hdb : (x == ("__debug__" : Str)) = false := by decide)
    (he : starEach (e :: es) X.env = (false, eval e X.env) :: starEach es X.env := by rfl) (hpl : (backTo pos (starEach es X.env)).any (·.1) = false := by rfl) : PM X (.Call (.Name x p) (e :: es) [] pos) (mN f ms) :=
  PE.weak (pe_callTy hc hg hm hv ha hn hdb he hpl) fun σ H Q h => stepN pr h
end
section
variable {K : PySem.W.Frag} {H : Hp}
theorem reps1 {a : A} {xs : List V} {f : List Addr} (h : Reps K H [a] xs f) : ∃ x g, xs = [x] ∧ Rep K H a x g := by
  unfold Reps at h
  obtain ⟨y, r, f1, f2, rfl, rfl, h1, h2⟩ := h
  unfold Reps at h2
  obtain ⟨rfl, rfl⟩ := h2
  exact ⟨y, f1, rfl, h1⟩
theorem reps2 {a b : A} {xs : List V} {f : List Addr} (h : Reps K H [a, b] xs f) : ∃ x y g g', xs = [x, y] ∧ Rep K H a x g ∧ Rep K H b y g' := by
  unfold Reps at h
  obtain ⟨y, r, f1, f2, rfl, rfl, h1, h2⟩ := h
  obtain ⟨z, g, rfl, h3⟩ := reps1 h2
  exact ⟨y, z, f1, g, rfl, h1, h3⟩
end
/-- a function of one value, of two -/
def f1 (g : A → Option A) : List A → Option A
  | [a] => g a
  | _ => none
def f2 (g : A → A → Option A) : List A → Option A
  | [a, b] => g a b
  | _ => none
theorem prN1 {K : PySem.W.Frag} {r : List V → Hp → VK → Prop} {g : A → Option A} (h : ∀ (H : Hp) (a : A) (x : V) (fa : List Addr) (c : A) (Q : VK), Rep K H a x fa → g a = some c → (∀ v H' o', Fresh H H' o' → Rep K H' c v o' → Q v H') → r [x] H Q) : PrN K r (f1 g) := by
  intro H as xs fa c Q rs e q
  unfold f1 at e
  split at e
  · obtain ⟨x, fx, rfl, rx⟩ := reps1 rs
    exact h H _ x fx c Q rx e q
  · cases e
theorem prN2 {K : PySem.W.Frag} {r : List V → Hp → VK → Prop} {g : A → A → Option A} (h : ∀ (H : Hp) (a b : A) (x y : V) (fa fb : List Addr) (c : A) (Q : VK), Rep K H a x fa → Rep K H b y fb → g a b = some c → (∀ v H' o', Fresh H H' o' → Rep K H' c v o' → Q v H') → r [x, y] H Q) : PrN K r (f2 g) := by
  intro H as xs fa c Q rs e q
  unfold f2 at e
  split at e
  · obtain ⟨x, y, fx, fy, rfl, rx, ry⟩ := reps2 rs
    exact h H _ _ x y fx fy c Q rx ry e q
  · cases e
def lenA : A → Option A
  | .d (.tup xs) => some (.i xs.length)
  | .ls xs => some (.i xs.length)
  | .lst xs => some (.i xs.length)
  | .tpl xs => some (.i xs.length)
  | .d (.str s) => if szB s.length then some (.i s.length) else none
  | .d (.scr ns) => some (.i ns.length)
  | _ => none
def absA : A → Option A
  | .d (.int i) => some (.i (if i < 0 then -i else i))
  | _ => none
def max2A : A → A → Option A
  | .d (.int i), .d (.int j) => some (.i (if j > i then j else i))
  | _, _ => none
def min2A : A → A → Option A
  | .d (.int i), .d (.int j) => some (.i (if j < i then j else i))
  | _, _ => none
def intA : A → Option A
  | .d (.int i) => some (.i i)
  | .d (.bl b) => some (.i (if b then 1 else 0))
  | _ => none
def strA : A → Option A
  | .d (.int i) => if decide (i.natAbs.log2 < 1920) then some (.s (toString i)) else none
  | _ => none
def listA : A → Option A
  | .d (.tup xs) => some (.ls xs)
  | .ls xs => some (.ls xs)
  | _ => none
def tupleA : A → Option A
  | .d (.tup xs) => some (.t xs)
  | .ls xs => some (.t xs)
  | _ => none
/-- the ints of a list -/
def intsD : List D → Option (List Int)
  | [] => some []
  | .int i :: r => (intsD r).map (i :: ·)
  | _ :: _ => none
def blsD : List D → Option (List Bool)
  | [] => some []
  | .bl i :: r => (blsD r).map (i :: ·)
  | _ :: _ => none
def sumA : A → Option A
  | .ls xs => (intsD xs).map fun ns => .i ns.sum
  | _ => none
def allA : A → Option A
  | .ls xs => (blsD xs).map fun bs => .b (bs.all id)
  | _ => none
def anyA : A → Option A
  | .ls xs => (blsD xs).map fun bs => .b (bs.any id)
  | _ => none
def maxI : List Int → Option Int
  | [] => none
  | x :: r => some (r.foldl max x)
def minI : List Int → Option Int
  | [] => none
  | x :: r => some (r.foldl min x)
def maxA : A → Option A
  | .ls xs => (intsD xs).bind fun ns => (maxI ns).map .i
  | _ => none
def minA : A → Option A
  | .ls xs => (intsD xs).bind fun ns => (minI ns).map .i
  | _ => none
theorem intsD_map : ∀ ns : List Int, intsD (ns.map .int) = some ns
  | [] => rfl
  | n :: ns => by
    show (intsD (ns.map .int)).map (n :: ·) = _
    rw [intsD_map ns]; rfl
theorem blsD_map : ∀ ns : List Bool, blsD (ns.map .bl) = some ns
  | [] => rfl
  | n :: ns => by
    show (blsD (ns.map .bl)).map (n :: ·) = _
    rw [blsD_map ns]; rfl
section
variable {K : PySem.W.Frag} {H : Hp}
theorem ints_rep : ∀ {xs : List D} {ys : List V} {ns : List Int}, RepDs K H xs ys → intsD xs = some ns → ys = ns.map V.int
  | [], ys, ns, h, e => by
    unfold RepDs at h; subst h; cases e; rfl
  | .int i :: r, ys, ns, h, e => by
    unfold RepDs at h
    obtain ⟨y, t, rfl, h1, h2⟩ := h
    have e : (intsD r).map (i :: ·) = some ns := e
    cases q : intsD r with
    | none => rw [q] at e; cases e
    | some ms =>
      rw [q] at e; cases e
      unfold RepD at h1
      subst h1
      rw [ints_rep h2 q]; rfl
  | .non :: _, _, _, _, e => by cases e
  | .bl _ :: _, _, _, _, e => by cases e
  | .str _ :: _, _, _, _, e => by cases e
  | .tup _ :: _, _, _, _, e => by cases e
  | .opq _ :: _, _, _, _, e => by cases e
  | .scr _ :: _, _, _, _, e => by cases e
theorem bls_rep : ∀ {xs : List D} {ys : List V} {ns : List Bool}, RepDs K H xs ys → blsD xs = some ns → ys = ns.map V.bl
  | [], ys, ns, h, e => by
    unfold RepDs at h; subst h; cases e; rfl
  | .bl i :: r, ys, ns, h, e => by
    unfold RepDs at h
    obtain ⟨y, t, rfl, h1, h2⟩ := h
    have e : (blsD r).map (i :: ·) = some ns := e
    cases q : blsD r with
    | none => rw [q] at e; cases e
    | some ms =>
      rw [q] at e; cases e
      unfold RepD at h1
      subst h1
      rw [bls_rep h2 q]; rfl
  | .non :: _, _, _, _, e => by cases e
  | .int _ :: _, _, _, _, e => by cases e
  | .str _ :: _, _, _, _, e => by cases e
  | .tup _ :: _, _, _, _, e => by cases e
  | .opq _ :: _, _, _, _, e => by cases e
  | .scr _ :: _, _, _, _, e => by cases e
theorem maxI_ok : ∀ {r : List Int} {x m : Int}, r.foldl max x = m → m ∈ x :: r ∧ ∀ y ∈ x :: r, y ≤ m
  | [], x, m, h => by
    have h : x = m := h
    subst h; simp
  | z :: r, x, m, h => by
    have h : r.foldl max (max x z) = m := h
    obtain ⟨h1, h2⟩ := maxI_ok h
    refine ⟨?_, fun y hy => ?_⟩
    · rcases List.mem_cons.mp h1 with e | e
      · rw [e]
        rcases Int.le_total x z with h | h
        · rw [Int.max_eq_right h]; simp
        · rw [Int.max_eq_left h]; simp
      · simp [e]
    · have h3 := h2 (max x z) (by simp)
      rcases List.mem_cons.mp hy with rfl | hy
      · exact Int.le_trans (Int.le_max_left _ _) h3
      · rcases List.mem_cons.mp hy with rfl | hy
        · exact Int.le_trans (Int.le_max_right _ _) h3
        · exact h2 y (by simp [hy])
theorem minI_ok : ∀ {r : List Int} {x m : Int}, r.foldl min x = m → m ∈ x :: r ∧ ∀ y ∈ x :: r, m ≤ y
  | [], x, m, h => by
    have h : x = m := h
    subst h; simp
  | z :: r, x, m, h => by
    have h : r.foldl min (min x z) = m := h
    obtain ⟨h1, h2⟩ := minI_ok h
    refine ⟨?_, fun y hy => ?_⟩
    · rcases List.mem_cons.mp h1 with e | e
      · rw [e]
        rcases Int.le_total x z with h | h
        · rw [Int.min_eq_left h]; simp
        · rw [Int.min_eq_right h]; simp
      · simp [e]
    · have h3 := h2 (min x z) (by simp)
      rcases List.mem_cons.mp hy with rfl | hy
      · exact Int.le_trans h3 (Int.min_le_left _ _)
      · rcases List.mem_cons.mp hy with rfl | hy
        · exact Int.le_trans h3 (Int.min_le_right _ _)
        · exact h2 y (by simp [hy])
end
section
variable {X : Cx}
theorem pr_len : PrN X.K (fun xs H Q => ∃ x n, xs = [x] ∧ LenV X.K x H n ∧ Q (.int n) H) (f1 lenA) := prN1 fun H a x fa c Q r e q => by
  unfold lenA at e
  split at e
  · cases e
    obtain ⟨p, ys, rfl, s, rs⟩ := tup_of r
    rw [rs.len] at q
    exact ⟨_, _, rfl, .inr ⟨ys, s, rfl⟩, q _ H [] Fresh.refl rep_int⟩
  · cases e
    obtain ⟨p, ys, rfl, s, rs, _⟩ := ls_of r
    rw [rs.len] at q
    exact ⟨_, _, rfl, .inl ⟨ys, .of s, rfl⟩, q _ H [] Fresh.refl rep_int⟩
  · cases e
    obtain ⟨p, ys, g, rfl, s, rs, _⟩ := lst_of r
    rw [rs.len] at q
    exact ⟨_, _, rfl, .inl ⟨ys, .of s, rfl⟩, q _ H [] Fresh.refl rep_int⟩
  · cases e
    obtain ⟨p, ys, rfl, s, rs⟩ := tpl_of r
    rw [rs.len] at q
    exact ⟨_, _, rfl, .inr ⟨ys, s, rfl⟩, q _ H [] Fresh.refl rep_int⟩
  · split at e
    · rename_i hz
      cases e
      have := str_of r
      subst this
      exact ⟨_, _, rfl, ⟨szB_ok hz, rfl⟩, q _ H [] Fresh.refl rep_int⟩
    · cases e
  · cases e
    obtain ⟨p, rfl, s⟩ := scr_of r
    exact ⟨_, _, rfl, .inl ⟨_, s.seq, rfl⟩, by rw [List.length_map]; exact q _ H [] Fresh.refl rep_int⟩
  · cases e
theorem pr_abs {K : PySem.W.Frag} : PrN K (fun xs H Q => ∃ i, xs = [.int i] ∧ Q (.int (if i < 0 then -i else i)) H) (f1 absA) := prN1 fun H a x fa c Q r e q => by
  unfold absA at e
  split at e
  · cases e
    exact ⟨_, by rw [int_of r], q _ H [] Fresh.refl rep_int⟩
  · cases e
theorem pr_max2 {K : PySem.W.Frag} : PrN K (fun xs H Q => ∃ i j, xs = [.int i, .int j] ∧ Q (.int (if j > i then j else i)) H) (f2 max2A) := prN2 fun H a b x y fa fb c Q r r2 e q => by
  unfold max2A at e
  split at e
  · cases e
    exact ⟨_, _, by rw [int_of r, int_of r2], q _ H [] Fresh.refl rep_int⟩
  · cases e
theorem pr_min2 {K : PySem.W.Frag} : PrN K (fun xs H Q => ∃ i j, xs = [.int i, .int j] ∧ Q (.int (if j < i then j else i)) H) (f2 min2A) := prN2 fun H a b x y fa fb c Q r r2 e q => by
  unfold min2A at e
  split at e
  · cases e
    exact ⟨_, _, by rw [int_of r, int_of r2], q _ H [] Fresh.refl rep_int⟩
  · cases e
theorem pr_int {K : PySem.W.Frag} : PrN K (fun xs H Q => (∃ i, xs = [.int i] ∧ Q (.int i) H) ∨ ∃ k, xs = [.bl k] ∧ Q (.int (if k then 1 else 0)) H) (f1 intA) := prN1 fun H a x fa c Q r e q => by
  unfold intA at e
  split at e
  · cases e
    exact .inl ⟨_, by rw [int_of r], q _ H [] Fresh.refl rep_int⟩
  · cases e
    exact .inr ⟨_, by rw [bl_of r], q _ H [] Fresh.refl rep_int⟩
  · cases e
theorem pr_str {K : PySem.W.Frag} : PrN K (fun xs H Q => ∃ i, xs = [.int i] ∧ i.natAbs.log2 < 1920 ∧ Q (.str (toString i)) H) (f1 strA) := prN1 fun H a x fa c Q r e q => by
  unfold strA at e
  split at e
  · split at e
    · rename_i hz
      cases e
      exact ⟨_, by rw [int_of r], of_decide_eq_true hz, q _ H [] Fresh.refl rep_str⟩
    · cases e
  · cases e
theorem pr_list : PrN X.K (fun xs H Q => ∃ p ys, xs = [.ref p] ∧ (SqL X.K H p ys ∨ SqT X.K H p ys) ∧ ∀ l, H l = none → Q (.ref l) (upd H l (.lst ys))) (f1 listA) := prN1 fun H a x fa c Q r e q => by
  unfold listA at e
  split at e
  · cases e
    obtain ⟨p, ys, rfl, s, rs⟩ := tup_of r
    exact ⟨p, ys, rfl, .inr s, fun l hl => q _ _ [l] (Fresh.one hl) (rep_ls rs hl)⟩
  · cases e
    obtain ⟨p, ys, rfl, s, rs, _⟩ := ls_of r
    exact ⟨p, ys, rfl, .inl (.of s), fun l hl => q _ _ [l] (Fresh.one hl) (rep_ls rs hl)⟩
  · cases e
theorem pr_tuple : PrN X.K (fun xs H Q => ∃ p ys, xs = [.ref p] ∧ ((SqL X.K H p ys ∧ ∀ l, H l = none → Q (.ref l) (upd H l (.tup ys))) ∨ (SqT X.K H p ys ∧ Q (.ref p) H))) (f1 tupleA) := prN1 fun H a x fa c Q r e q => by
  unfold tupleA at e
  split at e
  · cases e
    obtain ⟨p, ys, rfl, s, rs⟩ := tup_of r
    exact ⟨p, ys, rfl, .inr ⟨s, q _ H [] Fresh.refl (rep_tupAt rs s)⟩⟩
  · cases e
    obtain ⟨p, ys, rfl, s, rs, _⟩ := ls_of r
    exact ⟨p, ys, rfl, .inl ⟨.of s, fun l hl => q _ _ [] (Fresh.new0 hl) (rep_tup rs hl)⟩⟩
  · cases e
theorem pr_sum : PrN X.K (rSum X.K) (f1 sumA) := prN1 fun H a x fa c Q r e q => by
  unfold sumA at e
  split at e
  · rename_i xs
    cases h : intsD xs with
    | none => rw [h] at e; cases e
    | some ns =>
      rw [h] at e; cases e
      obtain ⟨p, ys, rfl, s, rs, _⟩ := ls_of r
      rw [ints_rep rs h] at s
      exact ⟨p, ns, rfl, .of s, q _ H [] Fresh.refl rep_int⟩
  · cases e
theorem pr_all : PrN X.K (rAll X.K) (f1 allA) := prN1 fun H a x fa c Q r e q => by
  unfold allA at e
  split at e
  · rename_i xs
    cases h : blsD xs with
    | none => rw [h] at e; cases e
    | some ns =>
      rw [h] at e; cases e
      obtain ⟨p, ys, rfl, s, rs, _⟩ := ls_of r
      rw [bls_rep rs h] at s
      exact ⟨p, ns, rfl, .of s, q _ H [] Fresh.refl rep_bl⟩
  · cases e
theorem pr_any : PrN X.K (rAny X.K) (f1 anyA) := prN1 fun H a x fa c Q r e q => by
  unfold anyA at e
  split at e
  · rename_i xs
    cases h : blsD xs with
    | none => rw [h] at e; cases e
    | some ns =>
      rw [h] at e; cases e
      obtain ⟨p, ys, rfl, s, rs, _⟩ := ls_of r
      rw [bls_rep rs h] at s
      exact ⟨p, ns, rfl, .of s, q _ H [] Fresh.refl rep_bl⟩
  · cases e
theorem pr_max : PrN X.K (rMax X.K) (f1 maxA) := prN1 fun H a x fa c Q r e q => by
  unfold maxA at e
  split at e
  · rename_i xs
    cases h : intsD xs with
    | none => rw [h] at e; cases e
    | some ns =>
      rw [h] at e
      cases ns with
      | nil => cases e
      | cons n ns =>
        cases e
        obtain ⟨p, ys, rfl, s, rs, _⟩ := ls_of r
        rw [ints_rep rs h] at s
        refine ⟨p, n :: ns, rfl, .of s, by simp, fun m hm hle => ?_⟩
        obtain ⟨h1, h2⟩ := maxI_ok (r := ns) (x := n) rfl
        have : m = ns.foldl max n := Int.le_antisymm (h2 m hm) (hle _ h1)
        rw [this]
        exact q _ H [] Fresh.refl rep_int
  · cases e
theorem pr_min : PrN X.K (rMin X.K) (f1 minA) := prN1 fun H a x fa c Q r e q => by
  unfold minA at e
  split at e
  · rename_i xs
    cases h : intsD xs with
    | none => rw [h] at e; cases e
    | some ns =>
      rw [h] at e
      cases ns with
      | nil => cases e
      | cons n ns =>
        cases e
        obtain ⟨p, ys, rfl, s, rs, _⟩ := ls_of r
        rw [ints_rep rs h] at s
        refine ⟨p, n :: ns, rfl, .of s, by simp, fun m hm hle => ?_⟩
        obtain ⟨h1, h2⟩ := minI_ok (r := ns) (x := n) rfl
        have : m = ns.foldl min n := Int.le_antisymm (hle _ h1) (h2 m hm)
        rw [this]
        exact q _ H [] Fresh.refl rep_int
  · cases e
end
end MM
namespace MM
open PySem PySem.Spec PyProof.Rows L2

/-! ### isinstance -/
def tyN : A → Option String
  | .d .non => some "NoneType"
  | .d (.bl _) => some "bool"
  | .d (.int _) => some "int"
  | .d (.str _) => some "str"
  | .d (.tup _) => some "tuple"
  | .d (.opq _) => none
  | .d (.scr _) => none
  | .ls _ => some "list"
  | .lst _ => some "list"
  | .tpl _ => some "tuple"
  | .dd _ => none
inductive Ty where
  | tuple | list | bool | int | str | dict
  deriving DecidableEq
def Ty.nm : Ty → String
  | .tuple => "tuple" | .list => "list" | .bool => "bool" | .int => "int" | .str => "str" | .dict => "dict"
def tyOf : A → Option (Option Ty)
  | .d .non => some none
  | .d (.bl _) => some (some .bool)
  | .d (.int _) => some (some .int)
  | .d (.str _) => some (some .str)
  | .d (.tup _) => some (some .tuple)
  | .d (.opq _) => none
  | .d (.scr _) => none
  | .ls _ => some (some .list)
  | .lst _ => some (some .list)
  | .tpl _ => some (some .tuple)
  | .dd _ => some (some .dict)
def isT (t : Option Ty) (u : Ty) : Bool := decide (t = some u) || (decide (t = some .bool) && decide (u = .int))
def tyStr : Option Ty → String
  | none => "NoneType"
  | some t => t.nm
theorem kit_all (t : Option Ty) (u : Ty) : kitB (tyStr t) u.nm = some (isT t u) := by
  rcases t with _ | t
  · cases u <;> decide +kernel
  · cases t <;> cases u <;> decide +kernel
/-- isinstance(x, T) -/
def isiA (u : Ty) (a : A) : Option Bool := (tyOf a).map fun t => isT t u
theorem tyX_of {K : PySem.W.Frag} {H : Hp} {a : A} {x : V} {f : List Addr} {t : Option Ty} (r : Rep K H a x f) (e : tyOf a = some t) : TyX K H x (.type (tyStr t)) := by
  have tp : ∀ {p : Addr} {ys : List V}, SqT K H p ys → TyX K H (.ref p) (.type "tuple") := fun {p ys} s => by
    rcases s with (h | ⟨ob, h⟩) | ⟨o, its, n, h, c, _⟩
    · exact .base (.tup h)
    · exact .fTuple h
    · exact .kTuple h c
  cases a with
  | d z =>
    have r := repD_d r
    cases z with
    | non => unfold RepD at r; subst r; cases e; exact .base .non
    | bl b => unfold RepD at r; subst r; cases e; exact .base (.bl b)
    | int b => unfold RepD at r; subst r; cases e; exact .base (.int b)
    | str b => unfold RepD at r; subst r; cases e; exact .base (.str b)
    | tup b => unfold RepD at r; obtain ⟨a, ys, rfl, s, _⟩ := r; cases e; exact tp s
    | opq b => cases e
    | scr b => cases e
  | ls xs => obtain ⟨a, ys, rfl, s, _⟩ := ls_of r; cases e; exact .base (.lst s)
  | lst xs => obtain ⟨a, ys, g, rfl, s, _⟩ := lst_of r; cases e; exact .base (.lst s)
  | tpl xs => obtain ⟨a, ys, rfl, s, _⟩ := tpl_of r; cases e; exact tp s
  | dd xs =>
    unfold Rep at r
    obtain ⟨a, rfl, ⟨ks, vs, _, _, l, h, _⟩, _⟩ := r
    cases e
    exact .base (.dK h)
def fIsi (u : Ty) : List A → Option A
  | [a, .d (.opq (.ty n))] => if n = u.nm then (isiA u a).map fun b => .d (.bl b) else none
  | _ => none
theorem pr_isi {K : PySem.W.Frag} (u : Ty) : PrN K (rIsi K) (fIsi u) := by
  intro H as xs fa c Q rs e q
  unfold fIsi at e
  split at e
  · rename_i a n
    obtain ⟨x, y, fx, fy, rfl, rx, ry⟩ := reps2 rs
    have := opq_of ry
    subst this
    split at e
    · rename_i hn
      subst hn
      unfold isiA at e
      cases h : tyOf a with
      | none => rw [h] at e; cases e
      | some t =>
        rw [h] at e
        cases e
        exact ⟨x, .ty u.nm, .type (tyStr t), .type u.nm, isT t u, rfl, .ty _, tyX_of rx h, kit_ty (kit_all t u), q _ H [] Fresh.refl rep_bl⟩
    · cases e
  · cases e
/-- a built-in class as a value -/
theorem pm_ty {X : Cx} {x : Str} {n : String} {pos : Pos} (hg : Gl X x) (hm : X.mg x = none) (hv : bootBuiltins x = some (.type n)) (hn : x ≠ "__name__" := by decide) (hd : (x == ("__debug__" : Str)) = false := by decide) : PM X (.Name x pos) (mC (.opq (.ty n))) :=
  pm_c (pe_bltn (v := .ty n) hg hm hv rfl hn hd) fun K H => by unfold RepD; rfl

/-! ### what stands in a slot is changed -/
section
variable {K : PySem.W.Frag} {H H' : Hp} {o o' : List Addr} {T : Tmp} {sa sa' : List Slot} {σ : L2.St}
theorem SRel.wr {j : Nat} {a : A} {v : V} {fx : List Addr} (S : SRel K o T sa σ H) (e : sa[j]? = some (some (true, a))) (e' : σ[j]? = some (some v)) (nd : (fx ++ o).Nodup) (mx : ∀ b ∈ fx, ∃ u, H b = some u ∧ isMut u = true)
    (sl : ∀ (i : Nat) fl a, sa[i]? = some (some (fl, a)) → ∃ v, σ[i]? = some (some v) ∧ (fl = false → RepS K H (fx ++ o) a v)) :
    ∃ fi, Rep K H a v fi ∧ (∀ b ∈ fi, b ∈ o) ∧ fi.Nodup ∧ (∀ b ∈ fx, b ∉ fi) ∧ ∀ {a' : A} {fi' : List Addr} {H' : Hp}, (∀ b u, H b = some u → b ∉ fi → H' b = some u) → Rep K H' a' v fi' → fi'.Nodup → (∀ b ∈ fi', b ∈ fi ∨ b ∈ fx ∨ H b = none) →
      ∃ o', SRel K o' T (sa.set j (some (true, a'))) σ H' ∧ Le (fx ++ o) H o' H' := by
  have hj : j < sa.length := (List.getElem?_eq_some_iff.mp e).1
  have hs : j < σ.length := (List.getElem?_eq_some_iff.mp e').1
  have h1 : (T.map (·.1) ++ sa.map ownA)[T.length + j]? = some a := by
    rw [List.getElem?_append_right (by simp)]
    simp [e, ownA]
  have h2 : (T.map (·.2) ++ ownVs sa σ)[T.length + j]? = some v := by
    rw [List.getElem?_append_right (by simp)]
    simpa [ownV] using ownVs_get e e'
  obtain ⟨f1, fi, f2, rfl, r, r1, r2⟩ := S.own.at h1 h2
  have ndo := S.nd
  have n1 : ∀ b ∈ f1, b ∉ fi := fun b hb z => by
    rw [List.append_assoc] at ndo
    exact (List.nodup_append.mp ndo).2.2 b hb b (List.mem_append_left _ z) rfl
  have n2 : ∀ b ∈ f2, b ∉ fi := fun b hb z => (List.nodup_append.mp ndo).2.2 b (List.mem_append_right _ z) b hb rfl
  have nx : ∀ b ∈ fx, b ∉ f1 ++ fi ++ f2 := fun b hb z => (List.nodup_append.mp nd).2.2 b hb b z rfl
  refine ⟨fi, r, fun b hb => by simp [hb], ?_, fun b hb z => nx b hb (by simp [z]), fun {a' fi' H'} same r' nd' sub => ?_⟩
  · rw [List.append_assoc] at ndo
    exact (List.nodup_append.mp (List.nodup_append.mp ndo).2.1).1
  have imm : ∀ b u, H b = some u → isMut u = false → H' b = some u := fun b u e m => same b u e fun z => by
    obtain ⟨u', e2, m2⟩ := r.mem b z
    rw [e] at e2
    cases e2
    rw [m] at m2
    cases m2
  have own' : Reps K H' (T.map (·.1) ++ (sa.set j (some (true, a'))).map ownA) (T.map (·.2) ++ ownVs (sa.set j (some (true, a'))) σ) (f1 ++ fi' ++ f2) := by
    have ex : T.map (·.1) ++ (sa.set j (some (true, a'))).map ownA = (T.map (·.1) ++ sa.map ownA).set (T.length + j) a' := by
      rw [List.set_append_right _ _ (by simp)]
      simp [List.map_set, ownA]
    have ey : T.map (·.2) ++ ownVs (sa.set j (some (true, a'))) σ = (T.map (·.2) ++ ownVs sa σ).set (T.length + j) v := by
      rw [List.set_append_right _ _ (by simp), ownVs_set1 hj e']
      simp [ownV]
    rw [ex, ey, set_parts (List.getElem?_eq_some_iff.mp h1).1, set_parts (List.getElem?_eq_some_iff.mp h2).1, List.append_assoc]
    exact Reps.append (r1.mono imm fun b hb u e => same b u e (n1 b hb)) (Reps.cons r' (r2.mono imm fun b hb u e => same b u e (n2 b hb)))
  have nof : ∀ b, b ∈ f1 ∨ b ∈ f2 → b ∉ fi' := fun b hb z => by
    have ho : b ∈ f1 ++ fi ++ f2 := by rcases hb with h | h <;> simp [h]
    rcases sub b z with h | h | h
    · rcases hb with hb | hb
      · exact n1 b hb h
      · exact n2 b hb h
    · exact nx b h ho
    · obtain ⟨u, e, _⟩ := S.mut b ho
      rw [h] at e
      cases e
  have nd2 : (f1 ++ fi' ++ f2).Nodup := by
    rw [List.append_assoc] at ndo ⊢
    have q1 := List.nodup_append.mp ndo
    have q2 := List.nodup_append.mp q1.2.1
    refine List.nodup_append.mpr ⟨q1.1, List.nodup_append.mpr ⟨nd', q2.2.1, fun a ha b hb e => ?_⟩, fun a ha b hb e => ?_⟩
    · subst e
      exact nof a (.inr hb) ha
    · subst e
      rcases List.mem_append.mp hb with hb | hb
      · exact nof a (.inl ha) hb
      · exact q1.2.2 a ha a (List.mem_append_right _ hb) rfl
  have mem' : ∀ b u, H b = some u → b ∉ fx ++ (f1 ++ fi ++ f2) → b ∉ f1 ++ fi' ++ f2 := fun b u e n z => by
    simp only [List.mem_append] at z n
    rcases z with (z | z) | z
    · exact n (.inr (.inl (.inl z)))
    · rcases sub b z with h | h | h
      · exact n (.inr (.inl (.inr h)))
      · exact n (.inl h)
      · rw [h] at e; cases e
    · exact n (.inr (.inr z))
  refine ⟨f1 ++ fi' ++ f2, ⟨by simp [S.len], fun i fl a'' q => ?_, own', nd2⟩, fun b u e n => ⟨same b u e fun z => n (by simp [z]), mem' b u e n⟩⟩
  by_cases hi : i = j
  · subst hi
    rw [List.getElem?_set_self hj] at q
    cases q
    exact ⟨v, e', fun z => nomatch z⟩
  · rw [List.getElem?_set_ne (Ne.symm hi)] at q
    obtain ⟨w, e1, z⟩ := sl i fl a'' q
    refine ⟨w, e1, fun y => ?_⟩
    obtain ⟨fp, rp, n⟩ := z y
    refine ⟨fp, rp.mono imm fun b hb u e => same b u e fun z => n b hb (by simp [z]), fun b hb => ?_⟩
    obtain ⟨u, e, _⟩ := rp.mem b hb
    exact mem' b u e (n b hb)
end
def isL : Option Slot → Bool
  | some (some (_, .ls _)) => true
  | some (some (_, .lst _)) => true
  | _ => false
theorem isL_ok {K : PySem.W.Frag} {H : Hp} {o : List Addr} {T : Tmp} {sa : List Slot} {σ : L2.St} (S : SRel K o T sa σ H) {j : Nat} (h : isL sa[j]? = true) : ∃ p ys, σ[j]? = some (some (.ref p)) ∧ H p = some (.lst ys) := by
  unfold isL at h
  split at h
  · rename_i fl xs e
    obtain ⟨v, e1, _⟩ := S.sl j fl _ e
    obtain ⟨fp, r, _⟩ := SRel.slot S e e1
    obtain ⟨p, ys, rfl, s, _⟩ := ls_of r
    exact ⟨p, ys, e1, s⟩
  · rename_i fl xs e
    obtain ⟨v, e1, _⟩ := S.sl j fl _ e
    obtain ⟨fp, r, _⟩ := SRel.slot S e e1
    obtain ⟨p, ys, g, rfl, s, _⟩ := lst_of r
    exact ⟨p, ys, e1, s⟩
  · cases h
def appA : A → A → Option A
  | .ls xs, .d x => if szB (xs.length + 1) then some (.ls (xs ++ [x])) else none
  | .ls xs, a => if szB (xs.length + 1) then some (.lst (xs.map .d ++ [a])) else none
  | .lst xs, a => if szB (xs.length + 1) then some (.lst (xs ++ [a])) else none
  | _, _ => none
/-- a list grows by one -/
theorem appA_ok {K : PySem.W.Frag} {H : Hp} {l a l' : A} {v y : V} {fi fa : List Addr} (r : Rep K H l v fi) (ra : Rep K H a y fa) (e : appA l a = some l') (nd : fi.Nodup) (nda : fa.Nodup) (dj : ∀ b ∈ fa, b ∉ fi) :
    ∃ p ys, v = .ref p ∧ H p = some (.lst ys) ∧ ys.length < sizeLine ∧ p ∈ fi ∧ Rep K (upd H p (.lst (ys ++ [y]))) l' v (fi ++ fa) ∧ (fi ++ fa).Nodup := by
  have ndf : (fi ++ fa).Nodup := List.nodup_append.mpr ⟨nd, nda, fun b hb c hc e => by subst e; exact dj b hc hb⟩
  have same : ∀ {p : Addr} {ys : List V} {b : Addr} {u : HO}, H p = some (.lst ys) → H b = some u → b ≠ p → (upd H p (.lst (ys ++ [y]))) b = some u := fun {p ys b u} hp e n => by rw [upd_ne n]; exact e
  have imm : ∀ {p : Addr} {ys : List V}, H p = some (.lst ys) → ∀ b u, H b = some u → isMut u = false → (upd H p (.lst (ys ++ [y]))) b = some u := fun {p ys} hp b u e m => by
    refine same hp e fun z => ?_
    subst z
    rw [hp] at e
    cases e
    cases m
  have lt : ∀ n, szB (n + 1) = true → n < sizeLine := fun n h => by have := szB_ok h; omega
  cases l with
  | ls xs =>
    obtain ⟨p, ys, rfl, s, rs, rfl⟩ := ls_of r
    cases a with
    | d x =>
      have h : (if szB (xs.length + 1) then some (A.ls (xs ++ [x])) else none) = some l' := e
      split at h
      · rename_i hz
        cases h
        have ra' := ra
        unfold Rep at ra'
        obtain ⟨rx, rfl⟩ := ra'
        refine ⟨p, ys, rfl, s, by rw [← rs.len]; exact lt _ hz, by simp, ?_, ndf⟩
        unfold Rep
        refine ⟨p, ys ++ [y], rfl, upd_same, RepDs.append (rs.mono (imm s)) ?_, rfl⟩
        unfold RepDs
        exact ⟨y, [], rfl, rx.mono (imm s), by unfold RepDs; rfl⟩
      · cases h
    | _ =>
      have h : (if szB (xs.length + 1) then some (A.lst (xs.map .d ++ [_])) else none) = some l' := e
      split at h
      · rename_i hz
        cases h
        refine ⟨p, ys, rfl, s, by rw [← rs.len]; exact lt _ hz, by simp, ?_, ndf⟩
        unfold Rep
        refine ⟨p, ys ++ [y], fa, rfl, upd_same, ?_, rfl⟩
        have := Reps.append (Reps.ofData (rs.mono (imm s))) (Reps.one (ra.mono (imm s) fun b hb u e => same s e fun z => by
          subst z
          exact dj b hb (by simp)))
        simpa using this
      · cases h
  | lst xs =>
    obtain ⟨p, ys, g, rfl, s, rs, rfl⟩ := lst_of r
    have h : (if szB (xs.length + 1) then some (A.lst (xs ++ [a])) else none) = some l' := e
    split at h
    · rename_i hz
      cases h
      refine ⟨p, ys, rfl, s, by rw [← rs.len]; exact lt _ hz, by simp, ?_, ndf⟩
      unfold Rep
      refine ⟨p, ys ++ [y], g ++ fa, rfl, upd_same, ?_, rfl⟩
      refine Reps.append (rs.mono (imm s) fun b hb u e => same s e fun z => ?_) (Reps.one (ra.mono (imm s) fun b hb u e => same s e fun z => ?_))
      · subst z
        exact (List.nodup_cons.mp nd).1 hb
      · subst z
        exact dj b hb (by simp)
    · cases h
  | d x => cases e
  | tpl x => cases e
  | dd x => cases e
def mAppend (j : Nat) (m : SM R) : SM R := fun sa => if isL sa[j]? then bnd m (fun r sa => match od r sa, sa[j]? with
  | some a, some (some (true, l)) => (appA l a).map fun l' => (.val false (.d .non), sa.set j (some (true, l')))
  | _, _ => none) sa else none
def extA : A → A → Option A
  | .ls xs, .ls ys => if szB (xs.length + ys.length) then some (.ls (xs ++ ys)) else none
  | _, _ => none
def mExtend (j : Nat) (m : SM R) : SM R := fun sa => if isL sa[j]? then bnd m (fun r sa => match rv r sa, sa[j]? with
  | some a, some (some (true, l)) => (extA l a).map fun l' => (.val false (.d .non), sa.set j (some (true, l')))
  | _, _ => none) sa else none
/-- xs.pop(), xs.pop(i) of a list of data -/
def mPop (j : Nat) : SM R := fun sa => match sa[j]? with
  | some (some (true, .ls xs)) => match xs[xs.length - 1]? with
    | some x => some (.val false (.d x), sa.set j (some (true, .ls xs.dropLast)))
    | none => none
  | _ => none
def mPopAt (j : Nat) (m : SM R) : SM R := fun sa => if isL sa[j]? then bnd m (fun r sa => match rv r sa, sa[j]? with
  | some (.d (.int i)), some (some (true, .ls xs)) => match ixN xs.length i with
    | some k => match (if szB xs.length then xs[k]? else none) with
      | some x => some (.val false (.d x), sa.set j (some (true, .ls (xs.eraseIdx k))))
      | none => none
    | none => none
  | _, _ => none) sa else none
theorem RepDs.dropLast {K : PySem.W.Frag} {H : Hp} {xs : List D} {ys : List V} (h : RepDs K H xs ys) : RepDs K H xs.dropLast ys.dropLast := by
  rw [List.dropLast_eq_take, List.dropLast_eq_take, h.len]
  exact h.take _
theorem RepDs.erase {K : PySem.W.Frag} {H : Hp} {xs : List D} {ys : List V} (k : Nat) (h : RepDs K H xs ys) : RepDs K H (xs.eraseIdx k) (ys.eraseIdx k) := by
  rw [List.eraseIdx_eq_take_drop_succ, List.eraseIdx_eq_take_drop_succ]
  exact (h.take _).append (h.drop _)
theorem repD_non {K : PySem.W.Frag} {H : Hp} : RepD K H .non .non := by unfold RepD; rfl
section
variable {X : Cx} {x : Str} {pos apos cpos : Pos} {e : Expr} {j : Nat} {m : SM R}
theorem pm_append (hx : PE X (.Name x pos) (tVar j)) (ha : PM X e m)
    (hbase : attributeBase (.Name x pos) "append" X.env (eval (.Name x pos) X.env) = eval (.Name x pos) X.env := by rfl)
    (hfew : ((backTo cpos (starEach [e] X.env)).all (fun x => !x.1) && (backToKw cpos (keywordEach [] X.env)).all (fun x => x.1.isSome)
      && decide ([e].length + ([] : List Keyword).length + (if ([] : List Keyword).isEmpty then 0 else 1) < 30)) = true := by rfl)
    (hline : (apos.endLine == cpos.line) = true := by rfl) (hs : starEach [e] X.env = (false, eval e X.env) :: starEach [] X.env := by rfl) :
    PM X (.Call (.Attribute (.Name x pos) "append" apos) [e] [] cpos) (mAppend j m) := PE.weak (pe_bm PySem.F.plainAttrs_list PySem.F.slot_list_append PySem.F.type_list_append mt_append hx (pma_cons ha pma_nil hs) hbase hfew hline hs) fun σ H Q h => by
  obtain ⟨o, T, sa, r, sa', e, S, q⟩ := h
  unfold mAppend at e
  split at e
  · rename_i hl
    obtain ⟨p, ys, ep, hp⟩ := isL_ok S hl
    obtain ⟨r1, s1, e1, e2⟩ := bnd_some e
    refine ⟨_, ep, .inl ⟨rfl, ys, .of hp⟩, o, T, sa, [r1], s1, ?_, S, fun o1 vs H1 L1 S1 R1 => ?_⟩
    · unfold mCons bnd
      rw [e1]
      rfl
    · cases R1 with
      | @cons _ v _ _ h1 h2 =>
        cases h2
        split at e2
        · rename_i a l ea el
          cases el' : appA l a with
          | none => rw [el'] at e2; cases e2
          | some l' =>
            rw [el'] at e2
            cases e2
            have S1 : SRel X.K o1 (pushT r1 v T) s1 σ H1 := S1
            obtain ⟨fa, o2, ra, S2, rfl⟩ := od_one S1 h1 ea
            obtain ⟨fi, rl, so, ndi, dj, put⟩ := SRel.wr S2 el ep S1.nd ra.mem S1.sl
            obtain ⟨p', ys', ev, hp', hz, mp, rl', nd'⟩ := appA_ok rl ra el' ndi (List.nodup_append.mp S1.nd).1 dj
            cases ev
            obtain ⟨o3, S3, L3⟩ := put (fun b u e n => by rw [upd_ne (fun z => n (by rw [z]; exact mp))]; exact e) rl' nd' fun b hb => (List.mem_append.mp hb).elim .inl fun z => .inr (.inl z)
            exact ⟨p, ys', v, rfl, rfl, hp', hz, q o3 _ _ (L1.trans L3) S3 (RepS.d repD_non)⟩
        · cases e2
  · cases e
theorem pm_extend (hx : PE X (.Name x pos) (tVar j)) (ha : PM X e m)
    (hbase : attributeBase (.Name x pos) "extend" X.env (eval (.Name x pos) X.env) = eval (.Name x pos) X.env := by rfl)
    (hfew : ((backTo cpos (starEach [e] X.env)).all (fun x => !x.1) && (backToKw cpos (keywordEach [] X.env)).all (fun x => x.1.isSome)
      && decide ([e].length + ([] : List Keyword).length + (if ([] : List Keyword).isEmpty then 0 else 1) < 30)) = true := by rfl)
    (hline : (apos.endLine == cpos.line) = true := by rfl) (hs : starEach [e] X.env = (false, eval e X.env) :: starEach [] X.env := by rfl) :
    PM X (.Call (.Attribute (.Name x pos) "extend" apos) [e] [] cpos) (mExtend j m) := PE.weak (pe_bm PySem.F.plainAttrs_list PySem.F.slot_list_extend PySem.F.type_list_extend mt_extend hx (pma_cons ha pma_nil hs) hbase hfew hline hs) fun σ H Q h => by
  obtain ⟨o, T, sa, r, sa', e, S, q⟩ := h
  unfold mExtend at e
  split at e
  · rename_i hl
    obtain ⟨p, ys, ep, hp⟩ := isL_ok S hl
    obtain ⟨r1, s1, e1, e2⟩ := bnd_some e
    refine ⟨_, ep, .inl ⟨rfl, ys, .of hp⟩, o, T, sa, [r1], s1, ?_, S, fun o1 vs H1 L1 S1 R1 => ?_⟩
    · unfold mCons bnd
      rw [e1]
      rfl
    · cases R1 with
      | @cons _ v _ _ h1 h2 =>
        cases h2
        split at e2
        · rename_i a l ea el
          cases el' : extA l a with
          | none => rw [el'] at e2; cases e2
          | some l' =>
            rw [el'] at e2
            cases e2
            have S1 : SRel X.K o1 (pushT r1 v T) s1 σ H1 := S1
            obtain ⟨fp, ra⟩ := rv_rep S1 h1 ea
            obtain ⟨o2, S2, L2⟩ := SRel.pop S1
            obtain ⟨fi, rl, so, ndi, _, put⟩ := SRel.wr (fx := []) S2 el ep S2.nd (fun _ h => nomatch h) S2.sl
            unfold extA at el'
            split at el'
            · rename_i xs zs
              split at el'
              · rename_i hz
                cases el'
                obtain ⟨p1, ys1, ev, s1', rs1, rfl⟩ := ls_of rl
                cases ev
                obtain ⟨p2, ys2, rfl, s2', rs2, _⟩ := ls_of ra
                have imm : ∀ b u, H1 b = some u → isMut u = false → (upd H1 p (.lst (ys1 ++ ys2))) b = some u := fun b u e m => by
                  rw [upd_ne fun z => by
                    subst z
                    rw [s1'] at e
                    cases e
                    cases m]
                  exact e
                obtain ⟨o3, S3, L3⟩ := put (a' := .ls (xs ++ zs)) (fi' := [p]) (H' := upd H1 p (.lst (ys1 ++ ys2))) (fun b u e n => by rw [upd_ne (fun z => n (by rw [z]; simp))]; exact e) (by
                  unfold Rep
                  exact ⟨p, _, rfl, upd_same, (rs1.mono imm).append (rs2.mono imm), rfl⟩) (by simp) fun b hb => .inl hb
                exact ⟨p, p2, ys1, ys2, rfl, rfl, s1', s2', by rw [← rs1.len, ← rs2.len]; exact szB_ok hz, q o3 _ _ ((L1.trans L2).trans L3) S3 (RepS.d repD_non)⟩
              · cases el'
            · cases el'
        · cases e2
  · cases e
theorem pm_pop (hx : PE X (.Name x pos) (tVar j)) (hbase : attributeBase (.Name x pos) "pop" X.env (eval (.Name x pos) X.env) = eval (.Name x pos) X.env := by rfl) (hline : (apos.endLine == cpos.line) = true := by rfl) :
    PM X (.Call (.Attribute (.Name x pos) "pop" apos) [] [] cpos) (mPop j) := PE.weak (pe_bm0 PySem.F.plainAttrs_list PySem.F.slot_list_pop PySem.F.type_list_pop mt_pop hx hbase hline) fun σ H Q h => by
  obtain ⟨o, T, sa, r, sa', e, S, q⟩ := h
  unfold mPop at e
  split at e
  · rename_i xs el
    split at e
    · rename_i x ex
      cases e
      obtain ⟨v, ep, _⟩ := S.sl j _ _ el
      obtain ⟨fi, rl, so, ndi, _, put⟩ := SRel.wr (fx := []) S el ep S.nd (fun _ h => nomatch h) S.sl
      obtain ⟨p, ys, rfl, s, rs, rfl⟩ := ls_of rl
      obtain ⟨y, ey, ry⟩ := rs.get ex
      rw [rs.len] at ey
      have imm : ∀ b u, H b = some u → isMut u = false → (upd H p (.lst ys.dropLast)) b = some u := fun b u e m => by
        rw [upd_ne fun z => by
          subst z
          rw [s] at e
          cases e
          cases m]
        exact e
      obtain ⟨o3, S3, L3⟩ := put (a' := .ls xs.dropLast) (fi' := [p]) (H' := upd H p (.lst ys.dropLast)) (fun b u e n => by rw [upd_ne (fun z => n (by rw [z]; simp))]; exact e) (by
        unfold Rep
        exact ⟨p, _, rfl, upd_same, (rs.mono imm).dropLast, rfl⟩) (by simp) fun b hb => .inl hb
      exact ⟨_, ep, .inl ⟨rfl, ys, .of s⟩, p, ys, y, rfl, rfl, s, ey, q o3 y _ L3 S3 (RepS.d (ry.mono imm))⟩
    · cases e
  · cases e
theorem pm_popAt (hx : PE X (.Name x pos) (tVar j)) (ha : PM X e m)
    (hbase : attributeBase (.Name x pos) "pop" X.env (eval (.Name x pos) X.env) = eval (.Name x pos) X.env := by rfl)
    (hfew : ((backTo cpos (starEach [e] X.env)).all (fun x => !x.1) && (backToKw cpos (keywordEach [] X.env)).all (fun x => x.1.isSome)
      && decide ([e].length + ([] : List Keyword).length + (if ([] : List Keyword).isEmpty then 0 else 1) < 30)) = true := by rfl)
    (hline : (apos.endLine == cpos.line) = true := by rfl) (hs : starEach [e] X.env = (false, eval e X.env) :: starEach [] X.env := by rfl) :
    PM X (.Call (.Attribute (.Name x pos) "pop" apos) [e] [] cpos) (mPopAt j m) := PE.weak (pe_bm PySem.F.plainAttrs_list PySem.F.slot_list_pop PySem.F.type_list_pop mt_popAt hx (pma_cons ha pma_nil hs) hbase hfew hline hs) fun σ H Q h => by
  obtain ⟨o, T, sa, r, sa', e, S, q⟩ := h
  unfold mPopAt at e
  split at e
  · rename_i hl
    obtain ⟨p, ys, ep, hp⟩ := isL_ok S hl
    obtain ⟨r1, s1, e1, e2⟩ := bnd_some e
    refine ⟨_, ep, .inl ⟨rfl, ys, .of hp⟩, o, T, sa, [r1], s1, ?_, S, fun o1 vs H1 L1 S1 R1 => ?_⟩
    · unfold mCons bnd
      rw [e1]
      rfl
    · cases R1 with
      | @cons _ v _ _ h1 h2 =>
        cases h2
        have S1 : SRel X.K o1 (pushT r1 v T) s1 σ H1 := S1
        split at e2
        · rename_i i xs ea el
          split at e2
          · rename_i k ek
            split at e2
            · rename_i x ex
              cases e2
              have hsz : xs.length ≤ sizeLine ∧ xs[k]? = some x := by
                split at ex
                · rename_i hz
                  exact ⟨szB_ok hz, ex⟩
                · cases ex
              obtain ⟨hsz, ex⟩ := hsz
              obtain ⟨fp, ra⟩ := rv_rep S1 h1 ea
              obtain ⟨o2, S2, L2⟩ := SRel.pop S1
              obtain ⟨fi, rl, so, ndi, _, put⟩ := SRel.wr (fx := []) S2 el ep S2.nd (fun _ h => nomatch h) S2.sl
              obtain ⟨p1, ys1, ev, s1', rs1, rfl⟩ := ls_of rl
              cases ev
              obtain ⟨y, ey, ry⟩ := rs1.get ex
              rw [rs1.len] at ek
              obtain ⟨hk, hlt, hlo, hhi⟩ := ixN_seq ek
              have imm : ∀ b u, H1 b = some u → isMut u = false → (upd H1 p (.lst (ys1.eraseIdx k))) b = some u := fun b u e m => by
                rw [upd_ne fun z => by
                  subst z
                  rw [s1'] at e
                  cases e
                  cases m]
                exact e
              obtain ⟨o3, S3, L3⟩ := put (a' := .ls (xs.eraseIdx k)) (fi' := [p]) (H' := upd H1 p (.lst (ys1.eraseIdx k))) (fun b u e n => by rw [upd_ne (fun z => n (by rw [z]; simp))]; exact e) (by
                unfold Rep
                exact ⟨p, _, rfl, upd_same, (rs1.mono imm).erase k, rfl⟩) (by simp) fun b hb => .inl hb
              have hn := line63
              have hle := rs1.len
              refine ⟨p, ys1, i, k, y, rfl, by rw [int_of ra], s1', ?_, ?_, hk, ey, q o3 y _ ((L1.trans L2).trans L3) S3 (RepS.d (ry.mono imm))⟩
              · omega
              · omega
            · cases e2
          · cases e2
        · cases e2
  · cases e
end
end MM
namespace MM
open PySem PySem.Spec PyProof.Rows L2

/-! ### what a def promises: F gives its value from its arguments' values -/
def spF (K : PySem.W.Frag) (n : Nat) (F : List A → Option A) : Sp := fun vs H Q _ => ∃ as fp c, as.length = n ∧ Reps K H as vs fp ∧ F as = some c ∧ ∀ v H' o', Fresh H H' o' → Rep K H' c v o' → Q v H'
/-- a def that changes its first argument (an owned list), the others data -/
def spB (K : PySem.W.Frag) (n : Nat) (G : A → List D → Option (D × A)) : Sp := fun vs H Q _ => ∃ b v0 xs vr fb c b', vs = v0 :: vr ∧ xs.length + 1 = n ∧ Rep K H b v0 fb ∧ fb.Nodup ∧ RepDs K H xs vr ∧ G b xs = some (c, b') ∧
  ∀ v H' ob, Le fb H ob H' → ob.Nodup → RepD K H' c v → Rep K H' b' v0 ob → Q v H'
def fN (n : Nat) (F : List A → Option A) : List A → Option A := fun as => if as.length = n then F as else none
section
variable {X : Cx} {CX : CXT} {k n : Nat} {f : Addr} {fd : FuncData} {ps : List Str} {F : List A → Option A} {G : A → List D → Option (D × A)} {x : Str} {p pos : Pos} {e : Expr} {es : List Expr} {ms : SM (List R)}
theorem pm_call (F' : FnOk X.prog X.w X.K X.mg X.base CX0 k f fd ps (spF X.K n F)) (hr : Room k X.A) (hg : Gl X x) (hm : X.mg x = some (.ref f)) (hk : PySem.W.keepIn X.K (.ref f) = true) (hb : Binds X.K fd ps [])
    (ha : PMA X (e :: es) ms) (hdb : (x == ("__debug__" : Str)) = false := by decide) (he : starEach (e :: es) X.env = (false, eval e X.env) :: starEach es X.env := by rfl) (hpl : (backTo pos (starEach es X.env)).any (·.1) = false := by rfl) :
    PM X (.Call (.Name x p) (e :: es) [] pos) (mN (fN n F) ms) := PE.weak (pe_call (E := E0) F' hr hg hm hk hb .nil pass0 ha hdb he hpl) fun σ H Q h => by
  have pr : PrN X.K (fun xs H Q => spF X.K n F (xs ++ []) H Q E0) (fN n F) := fun H as xs fa c Q rs e q => by
    unfold fN at e
    split at e
    · rename_i hl
      rw [List.append_nil]
      exact ⟨as, fa, c, hl, rs, e, q⟩
    · cases e
  exact stepN pr h
theorem pm_call0 (F' : FnOk X.prog X.w X.K X.mg X.base CX0 k f fd ps (spF X.K n F)) (hr : Room k X.A) (hg : Gl X x) (hm : X.mg x = some (.ref f)) (hk : PySem.W.keepIn X.K (.ref f) = true) (hb : Binds X.K fd ps [])
    (hdb : (x == ("__debug__" : Str)) = false := by decide) : PM X (.Call (.Name x p) [] [] pos) (mN (fN n F) mNil) := PE.weak (pe_call0 (E := E0) F' hr hg hm hk hb .nil pass0 hdb) fun σ H Q h => by
  have pr : PrN X.K (fun xs H Q => spF X.K n F (xs ++ []) H Q E0) (fN n F) := fun H as xs fa c Q rs e q => by
    unfold fN at e
    split at e
    · rename_i hl
      rw [List.append_nil]
      exact ⟨as, fa, c, hl, rs, e, q⟩
    · cases e
  obtain ⟨o, T, sa, r', sa', e, S, q⟩ := stepN pr h
  cases e
  exact q o [] H Le.refl S .nil
/-- the arguments as data -/
def rds : List R → List Slot → Option (List D)
  | [], _ => some []
  | r :: rs, sa => match rv r sa, rds rs sa with
    | some (.d x), some xs => some (x :: xs)
    | _, _ => none
theorem rds_rep {K : PySem.W.Frag} {sa : List Slot} {σ : L2.St} {H : Hp} : ∀ {rs : List R} {vs : List V} {T : Tmp} {o : List Addr} {as : List D}, SRel K o (pushTs rs vs T) sa σ H → RRs K H o σ rs vs → rds rs sa = some as → RepDs K H as vs
  | [], vs, T, o, as, S, h, e => by
    cases h
    cases e
    unfold RepDs
    rfl
  | r :: rs, vs, T, o, as, S, h, e => by
    cases h with
    | @cons r v rs vs h1 h2 =>
      unfold rds at e
      split at e
      · rename_i a as' ea eas
        cases e
        have S' : SRel K o (pushTs rs vs (pushT r v T)) sa σ H := S
        have r2 := rds_rep S' h2 eas
        obtain ⟨o1, S1, L1⟩ := pushTs_pop S'
        obtain ⟨f1, r1⟩ := rv_rep S1 (h1.mono S L1) ea
        unfold RepDs
        exact ⟨v, vs, rfl, repD_d r1, r2⟩
      · cases e
def mCallB (n : Nat) (G : A → List D → Option (D × A)) (j : Nat) (ms : SM (List R)) : SM R := fun sa => match sa[j]? with
  | some (some (true, _)) => bnd ms (fun rs sa => match rds rs sa, sa[j]? with
    | some xs, some (some (true, b)) => if xs.length + 1 = n then (match G b xs with
      | some (c, b') => some (.val false (.d c), sa.set j (some (true, b')))
      | none => none) else none
    | _, _ => none) sa
  | _ => none
theorem pm_callBr {y : Str} {j : Nat} {py : Pos} (F' : FnOk X.prog X.w X.K X.mg X.base CX0 k f fd ps (spB X.K n G)) (hr : Room k X.A) (hg : Gl X x) (hm : X.mg x = some (.ref f)) (hk : PySem.W.keepIn X.K (.ref f) = true) (hb : Binds X.K fd ps [])
    (hy : PE X (.Name y py) (tVar j)) (ha : PMA X es ms) (hdb : (x == ("__debug__" : Str)) = false := by decide) (he : starEach (.Name y py :: es) X.env = (false, eval (.Name y py) X.env) :: starEach es X.env := by rfl) (hpl : (backTo pos (starEach es X.env)).any (·.1) = false := by rfl) :
    PM X (.Call (.Name x p) (.Name y py :: es) [] pos) (mCallB n G j ms) := PE.weak (pe_call (E := E0) F' hr hg hm hk hb .nil pass0 (pa_cons hy ha he) hdb he hpl) fun σ H Q h => by
  obtain ⟨o, T, sa, r, sa', e, S, q⟩ := h
  unfold mCallB at e
  split at e
  · rename_i b0 eb0
    obtain ⟨v0, ev0, _⟩ := S.sl j _ _ eb0
    obtain ⟨rs, s1, e1, e2⟩ := bnd_some e
    refine ⟨v0, ev0, o, T, sa, rs, s1, e1, S, fun o1 vs H1 L1 S1 R1 => ?_⟩
    split at e2
    · rename_i xs b ex eb
      split at e2
      · rename_i hn
        split at e2
        · rename_i c b' eG
          cases e2
          have rx := rds_rep S1 R1 ex
          obtain ⟨o2, S2, L2⟩ := pushTs_pop S1
          obtain ⟨fi, rb, so, ndi, _, put⟩ := SRel.wr (fx := []) S2 eb ev0 S2.nd (fun _ h => nomatch h) S2.sl
          refine ⟨b, v0, xs, vs, fi, c, b', by rw [List.append_nil], hn, rb, ndi, rx, eG, fun v H' ob L nd rc rb' => ?_⟩
          obtain ⟨o3, S3, L3⟩ := put (a' := b') (fi' := ob) (H' := H') (fun b u e n => (L b u e n).1) rb' nd (fun b hb => by
            by_cases z : b ∈ fi
            · exact .inl z
            · cases eh : H1 b with
              | none => exact .inr (.inr rfl)
              | some u => exact ((L b u eh z).2 hb).elim)
          have L3 : Le o2 H1 o3 H' := L3
          exact q o3 v H' ((L1.trans L2).trans L3) S3 (RepS.d rc)
        · cases e2
      · cases e2
    · cases e2
  · cases e
end

/-! ### statements -/
inductive Fl where
  | nx | bk | ct | rt (own : Bool) (a : A)
/-- what the end is to be, by the flow -/
def EndOk (K : PySem.W.Frag) (D : Ends) (T : Tmp) (f : Fl) (o' : List Addr) (sa' : List Slot) (σ' : L2.St) (H' : Hp) : Prop := match f with
  | .nx => SRel K o' T sa' σ' H' → D.nx σ' H'
  | .bk => SRel K o' T sa' σ' H' → D.bk σ' H'
  | .ct => SRel K o' T sa' σ' H' → D.ct σ' H'
  | .rt fl a => ∀ v, SRel K o' (pushT (.val fl a) v T) sa' σ' H' → RR K H' o' σ' (.val fl a) v → D.rt v H'
/-- the first pn slots are as they were -/
def Keep (pn : Nat) (σ σ' : L2.St) : Prop := ∀ i, i < pn → σ'[i]? = σ[i]?
theorem Keep.refl {pn : Nat} {σ : L2.St} : Keep pn σ σ := fun _ _ => rfl
theorem Keep.trans {pn : Nat} {σ σ1 σ2 : L2.St} (a : Keep pn σ σ1) (b : Keep pn σ1 σ2) : Keep pn σ σ2 := fun i h => (b i h).trans (a i h)
theorem Keep.set {pn : Nat} {σ : L2.St} {j : Nat} {w : Option V} (h : pn ≤ j) : Keep pn σ (σ.set j w) := fun i hi => List.getElem?_set_ne (by omega)
def tOfS (pn : Nat) (K : PySem.W.Frag) (m : SM Fl) : TS := fun D σ H => ∃ o T sa f sa', m sa = some (f, sa') ∧ SRel K o T sa σ H ∧ ∀ o' σ' H', Le o H o' H' → Keep pn σ σ' → EndOk K D T f o' sa' σ' H'
abbrev PMS (pn : Nat) (X : Cx) (st : Stmt) (m : SM Fl) : Prop := PS X st (tOfS pn X.K m)
abbrev PMB (pn : Nat) (X : Cx) (st : List Stmt) (m : SM Fl) : Prop := PSs X st (tOfS pn X.K m)
def sNop : SM Fl := ret .nx
def sBk : SM Fl := ret .bk
def sCt : SM Fl := ret .ct
def sSeq (a b : SM Fl) : SM Fl := bnd a fun f => match f with
  | .nx => b
  | f => ret f
def sIf (t : SM Bool) (a b : SM Fl) : SM Fl := bnd t fun k => if k then a else b
def sExpr (m : SM R) : SM Fl := bnd m fun _ => ret .nx
def sSet (j : Nat) (m : SM R) : SM Fl := bnd m fun r => bnd (use r) fun p sa => if j < sa.length then some (.nx, sa.set j (some p)) else none
/-- what leaves the def: a slot's own thing goes with it -/
def useM : R → SM (Bool × A)
  | .val fl a => ret (fl, a)
  | .peek j => fun sa => match sa[j]? with
    | some (some p) => some (p, sa.set j none)
    | _ => none
def sRet (m : SM R) : SM Fl := bnd m fun r => bnd (useM r) fun p => ret (.rt p.1 p.2)
def sRetN : SM Fl := ret (.rt false (.d .non))
section
variable {pn : Nat} {X : Cx} {st : Stmt} {rest : List Stmt} {m n : SM Fl} {mc : SM Bool} {me : SM R} {e : Expr} {pos : Pos}
theorem pmb_nil : PMB pn X [] sNop := PSs.weak pss_nil fun D σ H h => by
  obtain ⟨o, T, sa, f, sa', e, S, q⟩ := h
  cases e
  exact q o σ H Le.refl Keep.refl S
theorem pmb_one (h : PMS pn X st m) : PMB pn X [st] m := pss_one h
theorem pmb_cons (h1 : PMS pn X st m) (h2 : PMB pn X rest n) : PMB pn X (st :: rest) (sSeq m n) := PSs.weak (pss_cons h1 h2) fun D σ H h => by
  obtain ⟨o, T, sa, f, sa', e, S, q⟩ := h
  obtain ⟨f1, s1, e1, e2⟩ := bnd_some e
  refine ⟨o, T, sa, f1, s1, e1, S, fun o1 σ1 H1 L1 k1 => ?_⟩
  cases f1 with
  | nx => exact fun S1 => ⟨o1, T, s1, f, sa', e2, S1, fun o2 σ2 H2 L2 k2 => q o2 σ2 H2 (L1.trans L2) (k1.trans k2)⟩
  | bk => cases e2; exact q o1 σ1 H1 L1 k1
  | ct => cases e2; exact q o1 σ1 H1 L1 k1
  | rt fl a => cases e2; exact q o1 σ1 H1 L1 k1
theorem pms_pass : PMS pn X (.Pass pos) sNop := PS.weak ps_pass fun D σ H h => by
  obtain ⟨o, T, sa, f, sa', e, S, q⟩ := h
  cases e
  exact q o σ H Le.refl Keep.refl S
theorem pms_doc {x : Str} {j pos'} : PMS pn X (.Expr (.Constant (.str x) j pos) pos') sNop := PS.weak ps_doc fun D σ H h => by
  obtain ⟨o, T, sa, f, sa', e, S, q⟩ := h
  cases e
  exact q o σ H Le.refl Keep.refl S
theorem pms_break : PMS pn X (.Break pos) sBk := PS.weak ps_break fun D σ H h => by
  obtain ⟨o, T, sa, f, sa', e, S, q⟩ := h
  cases e
  exact q o σ H Le.refl Keep.refl S
theorem pms_continue : PMS pn X (.Continue pos) sCt := PS.weak ps_continue fun D σ H h => by
  obtain ⟨o, T, sa, f, sa', e, S, q⟩ := h
  cases e
  exact q o σ H Le.refl Keep.refl S
theorem pms_if {c : Expr} {a b : List Stmt} (hc : PMT X c mc) (ha : PMB pn X a m) (hb : PMB pn X b n) : PMS pn X (.If c a b pos) (sIf mc m n) := PS.weak (ps_if hc ha hb) fun D σ H h => by
  obtain ⟨o, T, sa, f, sa', e, S, q⟩ := h
  obtain ⟨k, s1, e1, e2⟩ := bnd_some e
  refine ⟨o, T, sa, k, s1, e1, S, fun o1 H1 L1 S1 => ?_⟩
  cases k with
  | true => exact iteT ⟨o1, T, s1, f, sa', e2, S1, fun o2 σ2 H2 L2 k2 => q o2 σ2 H2 (L1.trans L2) k2⟩
  | false => exact iteF ⟨o1, T, s1, f, sa', e2, S1, fun o2 σ2 H2 L2 k2 => q o2 σ2 H2 (L1.trans L2) k2⟩
theorem pms_expr (he : PM X e me) (hs : swapsWith e none pos.line X.env = pure false := by rfl) : PMS pn X (.Expr e pos) (sExpr me) := PS.weak (ps_expr he hs) fun D σ H h => by
  obtain ⟨o, T, sa, f, sa', e, S, q⟩ := h
  obtain ⟨r, s1, e1, e2⟩ := bnd_some e
  cases e2
  refine ⟨o, T, sa, r, _, e1, S, fun o1 v H1 L1 S1 R1 => ?_⟩
  obtain ⟨o2, S2, L2⟩ := SRel.pop S1
  exact q o2 σ H1 (L1.trans L2) Keep.refl S2
theorem bnd_useM {K : PySem.W.Frag} {H : Hp} {o : List Addr} {T : Tmp} {sa sa' : List Slot} {σ : L2.St} {r : R} {fl : Bool} {a : A} {v : V} (S : SRel K o (pushT r v T) sa σ H) (R : RR K H o σ r v) (e : useM r sa = some ((fl, a), sa')) :
    ∃ o', SRel K o' (pushT (.val fl a) v T) sa' σ H ∧ Le o H o' H ∧ RR K H o' σ (.val fl a) v := by
  cases r with
  | val fl' a' =>
    cases e
    exact ⟨o, S, Le.refl, R⟩
  | peek i =>
    have e : (match sa[i]? with
      | some (some p) => some (p, sa.set i none)
      | _ => none) = some ((fl, a), sa') := e
    split at e
    · rename_i p ep
      cases e
      have R : σ[i]? = some (some v) := R
      have S : SRel K o T sa σ H := S
      obtain ⟨fi, o', ra, S', sub, h1, h2⟩ := SRel.out S ep R
      cases fl with
      | false =>
        obtain ⟨rfl, n⟩ := h2 rfl
        exact ⟨o', S', Le.refl, ⟨fi, ra, n⟩⟩
      | true =>
        obtain ⟨m, nd, mo⟩ := h1 rfl
        have mm : ∀ b, b ∈ fi ++ o' → b ∈ o := fun b z => by
          rcases List.mem_append.mp z with z | z
          · exact mo b z
          · exact sub b z
        refine ⟨fi ++ o', ⟨S'.len, fun i' fl' a' q' => ?_, Reps.cons ra S'.own, nd⟩, Le.sub mm, True.intro⟩
        obtain ⟨w, e1, z⟩ := S.sl i' fl' a' (by
          by_cases hi : i' = i
          · subst hi
            rw [List.getElem?_set_self (List.getElem?_eq_some_iff.mp ep).1] at q'
            cases q'
          · rw [List.getElem?_set_ne (Ne.symm hi)] at q'
            exact q')
        exact ⟨w, e1, fun y => RepS.sub mm (z y)⟩
    · cases e
theorem pms_ret (he : PM X e me) : PMS pn X (.Return (some e) pos) (sRet me) := PS.weak (ps_ret he) fun D σ H h => by
  obtain ⟨o, T, sa, f, sa', e, S, q⟩ := h
  obtain ⟨r, s1, e1, e2⟩ := bnd_some e
  obtain ⟨⟨fl, a⟩, s2, e2, e3⟩ := bnd_some e2
  cases e3
  refine ⟨o, T, sa, r, s1, e1, S, fun o1 v H1 L1 S1 R1 => ?_⟩
  obtain ⟨o2, S2, L2, R2⟩ := bnd_useM S1 R1 e2
  exact q o2 σ H1 (L1.trans L2) Keep.refl v S2 R2
theorem pms_retN : PMS pn X (.Return none pos) sRetN := PS.weak ps_retN fun D σ H h => by
  obtain ⟨o, T, sa, f, sa', e, S, q⟩ := h
  cases e
  exact q o σ H Le.refl Keep.refl .non S (RepS.d repD_non)
theorem pms_set {i : Nat} {x : Str} {pos' : Pos} (hpn : pn ≤ i) (hN : X.N.Nodup) (hi : X.N[i]? = some x) (hx : Loc X.env.scope x) (he : PM X e me) (hs : swapsWith e (some (.Name x pos')) pos.line X.env = pure false := by rfl) (hf : X.fn x = true ∨ X.env.scope.names.lookup x = some .local := by first | exact .inl rfl | exact .inr rfl | assumption) :
    PMS pn X (.Assign [.Name x pos'] e pos) (sSet i me) := PS.weak (ps_set hN hi hx he hs hf) fun D σ H h => by
  obtain ⟨o, T, sa, f, sa', e, S, q⟩ := h
  obtain ⟨r, s1, e1, e2⟩ := bnd_some e
  obtain ⟨⟨fl, a⟩, s2, eu, e3⟩ := bnd_some e2
  split at e3
  · rename_i hl
    cases e3
    refine ⟨o, T, sa, r, s1, e1, S, fun o1 v H1 L1 S1 R1 => ?_⟩
    obtain ⟨o2, S2, L2, R2, _⟩ := bnd_use S1 R1 eu
    obtain ⟨o3, S3, L3⟩ := SRel.put S2 R2 hl
    exact q o3 _ H1 ((L1.trans L2).trans L3) (Keep.set hpn) S3
  · cases e3
end

/-! ### name op= int -/
def sAug (j : Nat) (g : Int → Int → Int) (m : SM R) : SM Fl := fun sa => match sa[j]? with
  | some (some (_, .d (.int i))) => bnd m (fun r sa => match r with
    | .val true _ => none
    | r => match rv r sa with
      | some (.d (.int k)) => if j < sa.length then some (.nx, sa.set j (some (false, .d (.int (g i k))))) else none
      | _ => none) sa
  | _ => none
section
variable {pn : Nat} {X : Cx} {e : Expr} {me : SM R} {pos : Pos}
theorem pms_aug {i : Nat} {x : Str} {op : Operator} {pos' : Pos} {g : Int → Int → Int} (hpn : pn ≤ i) (ho : PIp X op (ipI g)) (hN : X.N.Nodup) (hi : X.N[i]? = some x) (hx : Loc X.env.scope x) (he : PM X e me) (hf : X.fn x = true ∨ X.env.scope.names.lookup x = some .local := by first | exact .inl rfl | exact .inr rfl | assumption) :
    PMS pn X (.AugAssign (.Name x pos') op e pos) (sAug i g me) := PS.weak (ps_aug hN hi hx he ho hf) fun D σ H h => by
  obtain ⟨o, T, sa, f, sa', e, S, q⟩ := h
  unfold sAug at e
  split at e
  · rename_i fl z ez
    obtain ⟨v, ev, _⟩ := S.sl i _ _ ez
    obtain ⟨fz, rz, _⟩ := SRel.slot S ez ev
    have := int_of rz
    subst this
    obtain ⟨r, s1, e1, e2⟩ := bnd_some e
    refine ⟨_, ev, o, T, sa, r, s1, e1, S, fun o1 w H1 L1 S1 R1 => ?_⟩
    split at e2
    · cases e2
    · rename_i hr
      split at e2
      · rename_i k ek
        split at e2
        · rename_i hl
          cases e2
          obtain ⟨fk, rk⟩ := rv_rep S1 R1 ek
          refine ⟨z, k, rfl, int_of rk, ?_⟩
          have S2 : SRel X.K o1 T s1 σ H1 := by
            match r, hr, S1 with
            | .val true a, hr, _ => exact (hr a rfl).elim
            | .val false a, _, S => exact S
            | .peek j, _, S => exact S
          obtain ⟨o3, S3, L3⟩ := SRel.put (fl := false) (a := .d (.int (g z k))) (v := .int (g z k)) S2 (RepS.d (by unfold RepD; rfl)) hl
          exact q o3 _ H1 (L1.trans L3) (Keep.set hpn) S3
        · cases e2
      · cases e2
  · cases e
end

/-! ### several names -/
def mUse (m : SM R) : SM R := bnd m fun r => bnd (use r) fun p => ret (.val p.1 p.2)
def setAll : List Nat → List R → List Slot → Option (List Slot)
  | [], [], sa => some sa
  | j :: js, .val fl a :: rs, sa => match setAll js rs sa with
    | some sa' => if j < sa'.length then some (sa'.set j (some (fl, a))) else none
    | none => none
  | _, _, _ => none
def setSt : List Nat → List V → L2.St → L2.St
  | j :: js, v :: vs, σ => (setSt js vs σ).set j (some v)
  | _, _, σ => σ
def sPar (js : List Nat) (ms : SM (List R)) : SM Fl := bnd ms fun rs sa => if szB rs.length then (setAll js rs sa).map fun sa' => (.nx, sa') else none
section
variable {K : PySem.W.Frag} {H : Hp} {sa : List Slot} {σ : L2.St}
theorem setAll_ok : ∀ {js : List Nat} {rs : List R} {vs : List V} {T : Tmp} {o : List Addr} {sa' : List Slot}, SRel K o (pushTs rs vs T) sa σ H → RRs K H o σ rs vs → setAll js rs sa = some sa' →
    ∃ o', SRel K o' T sa' (setSt js vs σ) H ∧ Le o H o' H ∧ vs.length = js.length
  | [], [], vs, T, o, sa', S, h, e => by
    cases h
    cases e
    exact ⟨o, S, Le.refl, rfl⟩
  | j :: js, .val fl a :: rs, vs, T, o, sa', S, h, e => by
    cases h with
    | @cons _ v _ vs h1 h2 =>
      unfold setAll at e
      split at e
      · rename_i sb es
        split at e
        · rename_i hl
          cases e
          have S' : SRel K o (pushTs rs vs (pushT (.val fl a) v T)) sa σ H := S
          obtain ⟨o1, S1, L1, hn⟩ := setAll_ok S' h2 es
          have R1 : RR K H o1 (setSt js vs σ) (.val fl a) v := by
            cases fl with
            | true => exact True.intro
            | false => exact RepS.mono S' L1 h1
          obtain ⟨o2, S2, L2⟩ := SRel.put S1 R1 hl
          exact ⟨o2, S2, L1.trans L2, by simp [hn]⟩
        · cases e
      · cases e
  | [], _ :: _, _, _, _, _, _, _, e => by cases e
  | _ :: _, [], _, _, _, _, _, _, e => by cases e
  | _ :: _, .peek _ :: _, _, _, _, _, _, _, e => by cases e
theorem setSt_keep {pn : Nat} : ∀ {js : List Nat} {vs : List V} {σ : L2.St}, (∀ j ∈ js, pn ≤ j) → Keep pn σ (setSt js vs σ)
  | [], _, _, _ => Keep.refl
  | _ :: _, [], _, _ => Keep.refl
  | j :: js, v :: vs, σ, h => (setSt_keep (js := js) (vs := vs) fun j hj => h j (List.mem_cons_of_mem _ hj)).trans (Keep.set (h j List.mem_cons_self))
theorem setSt_comm {js : List Nat} {vs : List V} {σ : L2.St} {i : Nat} {w : Option V} (h : i ∉ js) : setSt js vs (σ.set i w) = (setSt js vs σ).set i w := by
  induction js generalizing vs with
  | nil => cases vs <;> rfl
  | cons j js ih =>
    cases vs with
    | nil => rfl
    | cons v vs =>
      unfold setSt
      rw [ih fun z => h (List.mem_cons_of_mem _ z), List.set_comm _ _ fun z => h (by rw [z]; exact List.mem_cons_self)]
end
section
variable {pn : Nat} {X : Cx} {e : Expr} {me : SM R} {pos : Pos}
theorem pm_use (h : PM X e me) : PM X e (mUse me) := PE.weak h fun σ H Q h => by
  obtain ⟨o, T, sa, r, sa', e, S, q⟩ := h
  obtain ⟨r1, s1, e1, e2⟩ := bnd_some e
  obtain ⟨⟨fl, a⟩, s2, e2, e3⟩ := bnd_some e2
  cases e3
  refine ⟨o, T, sa, r1, s1, e1, S, fun o1 v H1 L1 S1 R1 => ?_⟩
  obtain ⟨o2, S2, L2, R2, _⟩ := bnd_use S1 R1 e2
  exact q o2 v H1 (L1.trans L2) S2 R2
theorem pms_par2 {i j : Nat} {x y : Str} {a b : Expr} {ms : SM (List R)} {px py pt : Pos} {kt k2 pt2} (hpn : ∀ k ∈ [i, j], pn ≤ k) (hc : X.calm = true) (hN : X.N.Nodup) (hi : X.N[i]? = some x) (hj : X.N[j]? = some y) (hij : i ≠ j)
    (hx : X.env.scope.names.lookup x = some .local) (hy : X.env.scope.names.lookup y = some .local) (ha : PMA X [a, b] ms)
    (hw : swappedStores [.Tuple [.Name x px, .Name y py] kt pt] (.Tuple [a, b] k2 pt2) X.env = pure (some [x, y]))
    (hs : swapsWithSole [.Tuple [.Name x px, .Name y py] kt pt] (.Tuple [a, b] k2 pt2) pos.line X.env = pure false := by rfl) :
    PMS pn X (.Assign [.Tuple [.Name x px, .Name y py] kt pt] (.Tuple [a, b] k2 pt2) pos) (sPar [i, j] ms) := PS.weak (ps_par hc hN hi hj hij hx hy ha hw hs) fun D σ H h => by
  obtain ⟨o, T, sa, f, sa', e, S, q⟩ := h
  obtain ⟨rs, s1, e1, e2⟩ := bnd_some e
  split at e2
  · cases es : setAll [i, j] rs s1 with
    | none => rw [es] at e2; cases e2
    | some sb =>
      rw [es] at e2
      cases e2
      refine ⟨o, T, sa, rs, s1, e1, S, fun o1 vs H1 L1 S1 R1 => ?_⟩
      obtain ⟨o2, S2, L2, hn⟩ := setAll_ok S1 R1 es
      match vs, hn, S2 with
      | [v, w], _, S2 =>
        refine ⟨v, w, rfl, ?_⟩
        have : (σ.set i (some v)).set j (some w) = setSt [i, j] [v, w] σ := by
          show _ = (σ.set j (some w)).set i (some v)
          rw [List.set_comm _ _ hij]
        rw [this]
        exact q o2 _ H1 (L1.trans L2) (setSt_keep hpn) S2
  · cases e2
theorem pms_par3 {i j l : Nat} {x y z : Str} {a b c : Expr} {ms : SM (List R)} {px py pz pt : Pos} {kt k2 pt2} (t : ∀ ta, PA X [a, b, c] ta → PS X (.Assign [.Tuple [.Name x px, .Name y py, .Name z pz] kt pt] (.Tuple [a, b, c] k2 pt2) pos) (tPar3 i j l ta)) (hpn : ∀ k ∈ [i, j, l], pn ≤ k)
    (hij : i ≠ j) (hil : i ≠ l) (hjl : j ≠ l) (ha : PMA X [a, b, c] ms) : PMS pn X (.Assign [.Tuple [.Name x px, .Name y py, .Name z pz] kt pt] (.Tuple [a, b, c] k2 pt2) pos) (sPar [i, j, l] ms) := PS.weak (t _ ha) fun D σ H h => by
  obtain ⟨o, T, sa, f, sa', e, S, q⟩ := h
  obtain ⟨rs, s1, e1, e2⟩ := bnd_some e
  split at e2
  · cases es : setAll [i, j, l] rs s1 with
    | none => rw [es] at e2; cases e2
    | some sb =>
      rw [es] at e2
      cases e2
      refine ⟨o, T, sa, rs, s1, e1, S, fun o1 vs H1 L1 S1 R1 => ?_⟩
      obtain ⟨o2, S2, L2, hn⟩ := setAll_ok S1 R1 es
      match vs, hn, S2 with
      | [v, w, u], _, S2 =>
        refine ⟨v, w, u, rfl, ?_⟩
        have : ((σ.set i (some v)).set j (some w)).set l (some u) = setSt [i, j, l] [v, w, u] σ := by
          show _ = ((σ.set l (some u)).set j (some w)).set i (some v)
          rw [List.set_comm (some v) (some w) hij, List.set_comm (some v) (some u) hil, List.set_comm (some w) (some u) hjl]
        rw [this]
        exact q o2 _ H1 (L1.trans L2) (setSt_keep hpn) S2
  · cases e2
theorem RRs.len {K : PySem.W.Frag} {H : Hp} {o : List Addr} {σ : L2.St} {rs : List R} {vs : List V} (h : RRs K H o σ rs vs) : rs.length = vs.length := by
  induction h with
  | nil => rfl
  | cons _ _ ih => simp [ih]
/-- the targets of a tuple, names -/
def gNames : List Nat → TGs
  | [] => gNil
  | i :: is => gCons (gName i) (gNames is)
theorem gNames_ok : ∀ {is : List Nat} {vs : List V} {σ : L2.St} {H : Hp} {Q : L2.St → Hp → Prop}, is.Nodup → vs.length = is.length → Q (setSt is vs σ) H → gNames is vs σ H Q
  | [], [], σ, H, Q, _, _, q => ⟨rfl, q⟩
  | i :: is, v :: vs, σ, H, Q, nd, hn, q => by
    refine ⟨v, vs, rfl, gNames_ok (List.nodup_cons.mp nd).2 (by simpa using hn) ?_⟩
    rw [setSt_comm (List.nodup_cons.mp nd).1]
    exact q
  | [], _ :: _, _, _, _, _, hn, _ => by cases hn
  | _ :: _, [], _, _, _, _, hn, _ => by cases hn
theorem SRel.tupNew {K : PySem.W.Frag} {H : Hp} {o : List Addr} {T : Tmp} {sa : List Slot} {σ : L2.St} {p : Addr} {ys : List V} (S : SRel K o T sa σ H) (n : H p = none) : SRel K o T sa σ (upd H p (.tup ys)) :=
  ⟨S.len, fun i fl a e => by
    obtain ⟨w, e1, q⟩ := S.sl i fl a e
    exact ⟨w, e1, fun z => by simpa using RepS.fresh S (Fresh.new0 (o := .tup ys) n) (q z)⟩, Reps.fresh (Fresh.new0 n) S.own, S.nd⟩
theorem Le.new {H : Hp} {o : List Addr} {p : Addr} {u : HO} (n : H p = none) : Le o H o (upd H p u) := fun b w e nb => ⟨by rw [upd_ne (ne_of_none e n)]; exact e, nb⟩
/-- a, b, .. = x, y, .. by way of a tuple (names that are cells, or four and more) -/
theorem pms_parT {es : List Expr} {x1} {kt : Nat} {tg : List Expr} {pt pt2 : Pos} {is : List Nat} {ms : SM (List R)} (hpn : ∀ k ∈ is, pn ≤ k) (hnd : is.Nodup) (ha : PMA X es ms) (hg : PG X (.Tuple tg kt pt) (gTup X.K is.length (gNames is)))
    (hs : swapsWithSole [.Tuple tg kt pt] (.Tuple es x1 pt2) pos.line X.env = pure false := by rfl) (hw : swappedStores [.Tuple tg kt pt] (.Tuple es x1 pt2) X.env = pure none := by rfl)
    (h1 : (assignEach [.Tuple tg kt pt] X.env).map (·.2) = [assign (.Tuple tg kt pt) X.env] := by rfl) :
    PMS pn X (.Assign [.Tuple tg kt pt] (.Tuple es x1 pt2) pos) (sPar is ms) := PS.weak (ps_asg (pe_tup ha) hg hs hw h1) fun D σ H h => by
  obtain ⟨o, T, sa, f, sa', e, S, q⟩ := h
  obtain ⟨rs, s1, e1, e2⟩ := bnd_some e
  split at e2
  · rename_i hz
    cases es : setAll is rs s1 with
    | none => rw [es] at e2; cases e2
    | some sb =>
      rw [es] at e2
      cases e2
      refine ⟨o, T, sa, rs, s1, e1, S, fun o1 vs H1 L1 S1 R1 => ?_⟩
      have hrl : rs.length = vs.length := R1.len
      refine ⟨by rw [← hrl]; exact szB_ok hz, fun p hp => ?_⟩
      obtain ⟨o2, S2, L2, hn⟩ := setAll_ok S1 R1 es
      exact ⟨p, vs, rfl, .inl (.inl upd_same), hn, gNames_ok hnd hn (q o2 _ _ ((L1.trans L2).trans (Le.new hp)) (setSt_keep hpn) (SRel.tupNew S2 hp))⟩
  · cases e2
end
end MM
namespace MM
open PySem PySem.Spec PyProof.Rows L2

/-! ### targets -/
/-- a target's meaning: the slots that it stores, and what of an item goes where -/
inductive Tg where
  | nm (j : Nat) | tp (ts : List Tg)
mutual
def Tg.slots : Tg → List Nat
  | .nm j => [j]
  | .tp ts => Tg.slotss ts
def Tg.slotss : List Tg → List Nat
  | [] => []
  | t :: ts => t.slots ++ Tg.slotss ts
end
mutual
/-- store data into a target -/
def Tg.put : Tg → D → List Slot → Option (List Slot)
  | .nm j, x, sa => if j < sa.length then some (sa.set j (some (false, .d x))) else none
  | .tp ts, .tup xs, sa => Tg.puts ts xs sa
  | .tp _, _, _ => none
def Tg.puts : List Tg → List D → List Slot → Option (List Slot)
  | [], [], sa => some sa
  | t :: ts, x :: xs, sa => match t.put x sa with
    | some sa' => Tg.puts ts xs sa'
    | none => none
  | _, _, _ => none
end
mutual
def Tg.rd (K : PySem.W.Frag) : Tg → TG
  | .nm j => gName j
  | .tp ts => gTup K ts.length (Tg.rds K ts)
def Tg.rds (K : PySem.W.Frag) : List Tg → TGs
  | [] => gNil
  | t :: ts => gCons (t.rd K) (Tg.rds K ts)
end
/-- an item: data anywhere, another shared thing at a name alone -/
def putI (t : Tg) (a : A) (sa : List Slot) : Option (List Slot) := match a with
  | .d x => t.put x sa
  | a => match t with
    | .nm j => if j < sa.length then some (sa.set j (some (false, a))) else none
    | .tp _ => none
section
variable {K : PySem.W.Frag}
theorem wipe_get {σ : L2.St} {i : Nat} : ∀ {vs : List Nat}, i ∉ vs → (wipe σ vs)[i]? = σ[i]? := wipe_out
theorem SRel.putS {o : List Addr} {T : Tmp} {sa : List Slot} {σ : L2.St} {H : Hp} {a : A} {v : V} {j : Nat} (S : SRel K o T sa σ H) (r : RepS K H o a v) (hj : j < sa.length) : ∃ o', SRel K o' T (sa.set j (some (false, a))) (σ.set j (some v)) H ∧ Le o H o' H :=
  SRel.put (fl := false) S r hj
/-- only these slots are others -/
def SetAt (is : List Nat) (σ σ' : L2.St) : Prop := σ'.length = σ.length ∧ ∀ i, i ∉ is → σ'[i]? = σ[i]?
theorem SetAt.refl {is : List Nat} {σ : L2.St} : SetAt is σ σ := ⟨rfl, fun _ _ => rfl⟩
theorem SetAt.trans {is js : List Nat} {σ σ1 σ2 : L2.St} (a : SetAt is σ σ1) (b : SetAt js σ1 σ2) : SetAt (is ++ js) σ σ2 := ⟨b.1.trans a.1, fun i h => by
  rw [b.2 i (fun z => h (List.mem_append_right _ z)), a.2 i (fun z => h (List.mem_append_left _ z))]⟩
theorem SetAt.keep {pn : Nat} {is : List Nat} {σ σ' : L2.St} (a : SetAt is σ σ') (h : ∀ k ∈ is, pn ≤ k) : Keep pn σ σ' := fun i hi => a.2 i fun z => by have := h i z; omega
theorem SetAt.one {j : Nat} {σ : L2.St} {w : Option V} : SetAt [j] σ (σ.set j w) := ⟨by simp, fun i h => List.getElem?_set_ne fun z => h (by simp [z])⟩
mutual
theorem Tg.put_ok : ∀ {t : Tg} {x : D} {v : V} {o : List Addr} {T : Tmp} {sa sa' : List Slot} {σ : L2.St} {H : Hp} {Q : L2.St → Hp → Prop}, SRel K o T sa σ H → RepD K H x v → t.put x sa = some sa' →
    (∀ o' σ', SetAt t.slots σ σ' → Le o H o' H → SRel K o' T sa' σ' H → Q σ' H) → t.rd K v σ H Q
  | .nm j, x, v, o, T, sa, sa', σ, H, Q, S, r, e, q => by
    have e : (if j < sa.length then some (sa.set j (some (false, A.d x))) else none) = some sa' := e
    split at e
    · rename_i hj
      cases e
      obtain ⟨o', S', L⟩ := SRel.putS S (RepS.d r) hj
      show Q (σ.set j (some v)) H
      exact q o' _ SetAt.one L S'
    · cases e
  | .tp ts, .tup xs, v, o, T, sa, sa', σ, H, Q, S, r, e, q => by
    unfold RepD at r
    obtain ⟨p, ys, rfl, s, rs⟩ := r
    have hn : ts.length = xs.length := Tg.puts_len e
    show gTup K ts.length (Tg.rds K ts) (.ref p) σ H Q
    exact ⟨p, ys, rfl, s, by rw [← rs.len, hn], Tg.puts_ok S rs e q⟩
  | .tp _, .non, _, _, _, _, _, _, _, _, _, _, e, _ => by cases e
  | .tp _, .bl _, _, _, _, _, _, _, _, _, _, _, e, _ => by cases e
  | .tp _, .int _, _, _, _, _, _, _, _, _, _, _, e, _ => by cases e
  | .tp _, .str _, _, _, _, _, _, _, _, _, _, _, e, _ => by cases e
  | .tp _, .opq _, _, _, _, _, _, _, _, _, _, _, e, _ => by cases e
  | .tp _, .scr _, _, _, _, _, _, _, _, _, _, _, e, _ => by cases e
theorem Tg.puts_len : ∀ {ts : List Tg} {xs : List D} {sa sa' : List Slot}, Tg.puts ts xs sa = some sa' → ts.length = xs.length
  | [], [], sa, sa', e => rfl
  | t :: ts, x :: xs, sa, sa', e => by
    unfold Tg.puts at e
    split at e
    · simp [Tg.puts_len e]
    · cases e
  | [], _ :: _, _, _, e => by cases e
  | _ :: _, [], _, _, e => by cases e
theorem Tg.puts_ok : ∀ {ts : List Tg} {xs : List D} {vs : List V} {o : List Addr} {T : Tmp} {sa sa' : List Slot} {σ : L2.St} {H : Hp} {Q : L2.St → Hp → Prop}, SRel K o T sa σ H → RepDs K H xs vs → Tg.puts ts xs sa = some sa' →
    (∀ o' σ', SetAt (Tg.slotss ts) σ σ' → Le o H o' H → SRel K o' T sa' σ' H → Q σ' H) → Tg.rds K ts vs σ H Q
  | [], [], vs, o, T, sa, sa', σ, H, Q, S, r, e, q => by
    unfold RepDs at r
    subst r
    cases e
    exact ⟨rfl, q o σ SetAt.refl Le.refl S⟩
  | t :: ts, x :: xs, vs, o, T, sa, sa', σ, H, Q, S, r, e, q => by
    unfold RepDs at r
    obtain ⟨y, ys, rfl, r1, r2⟩ := r
    unfold Tg.puts at e
    split at e
    · rename_i sb es
      refine ⟨y, ys, rfl, Tg.put_ok S r1 es fun o1 σ1 a1 L1 S1 => ?_⟩
      exact Tg.puts_ok S1 r2 e fun o2 σ2 a2 L2 S2 => q o2 σ2 (a1.trans a2) (L1.trans L2) S2
    · cases e
  | [], _ :: _, _, _, _, _, _, _, _, _, _, _, e, _ => by cases e
  | _ :: _, [], _, _, _, _, _, _, _, _, _, _, e, _ => by cases e
end
theorem putI_ok {t : Tg} {a : A} {v : V} {o : List Addr} {T : Tmp} {sa sa' : List Slot} {σ : L2.St} {H : Hp} {Q : L2.St → Hp → Prop} (S : SRel K o T sa σ H) (r : RepS K H o a v) (e : putI t a sa = some sa')
    (q : ∀ o' σ', SetAt t.slots σ σ' → Le o H o' H → SRel K o' T sa' σ' H → Q σ' H) : t.rd K v σ H Q := by
  cases a with
  | d x =>
    obtain ⟨fp, r, _⟩ := r
    exact Tg.put_ok S (repD_d r) e q
  | _ =>
    cases t with
    | nm j =>
      have e : (if j < sa.length then some (sa.set j (some (false, _))) else none) = some sa' := e
      split at e
      · rename_i hj
        cases e
        obtain ⟨o', S', L⟩ := SRel.putS S r hj
        show Q (σ.set j (some v)) H
        exact q o' _ SetAt.one L S'
      · cases e
    | tp ts => cases e
end
/-- target = value, a tuple of data taken apart -/
def sUnp (t : Tg) (m : SM R) : SM Fl := bnd m fun r sa => match r with
  | .val true _ => none
  | r => match rv r sa with
    | some (.d x) => (t.put x sa).map fun sa' => (.nx, sa')
    | _ => none
section
variable {X : Cx} {pos : Pos}
abbrev PGM (X : Cx) (e : Expr) (t : Tg) : Prop := PG X e (t.rd X.K)
abbrev PGMs (X : Cx) (es : List Expr) (ts : List Tg) : Prop := PGs X es (Tg.rds X.K ts)
theorem pgm_name {i : Nat} {x : Str} (hN : X.N.Nodup) (hi : X.N[i]? = some x) (hx : Loc X.env.scope x) (hf : X.fn x = true ∨ X.env.scope.names.lookup x = some .local := by first | exact .inl rfl | exact .inr rfl | assumption) : PGM X (.Name x pos) (.nm i) := pg_name hN hi hx hf
theorem pgms_nil : PGMs X [] [] := pgs_nil
theorem pgms_cons {e : Expr} {es : List Expr} {t : Tg} {ts : List Tg} (h1 : PGM X e t) (h2 : PGMs X es ts) (hs : (assignEach (e :: es) X.env).map (·.2) = assign e X.env :: (assignEach es X.env).map (·.2) := by rfl) : PGMs X (e :: es) (t :: ts) := pgs_cons h1 h2 hs
theorem pgm_tup {es : List Expr} {k : Nat} {ts : List Tg} (hc : X.calm = true) (h : PGMs X es ts) (hn : (assignEach es X.env).length = ts.length := by rfl) (hst : (assignEach es X.env).findIdx? (·.1) = none := by rfl) : PGM X (.Tuple es k pos) (.tp ts) := pg_tup hc h hn hst
theorem pms_unp {pn : Nat} {tg e : Expr} {t : Tg} {m : SM R} (hpn : ∀ k ∈ t.slots, pn ≤ k) (he : PM X e m) (hg : PGM X tg t) (hs : swapsWithSole [tg] e pos.line X.env = pure false := by rfl) (hw : swappedStores [tg] e X.env = pure none := by rfl)
    (h1 : (assignEach [tg] X.env).map (·.2) = [assign tg X.env] := by rfl) : PMS pn X (.Assign [tg] e pos) (sUnp t m) := PS.weak (ps_asg he hg hs hw h1) fun D σ H h => by
  obtain ⟨o, T, sa, f, sa', e, S, q⟩ := h
  obtain ⟨r, s1, e1, e2⟩ := bnd_some e
  refine ⟨o, T, sa, r, s1, e1, S, fun o1 v H1 L1 S1 R1 => ?_⟩
  split at e2
  · cases e2
  · rename_i hr
    split at e2
    · rename_i x ex
      cases ep : t.put x s1 with
      | none => rw [ep] at e2; cases e2
      | some sb =>
        rw [ep] at e2
        cases e2
        obtain ⟨fp, ra⟩ := rv_rep S1 R1 ex
        have S2 : SRel X.K o1 T s1 σ H1 := by
          match r, hr, S1 with
          | .val true a, hr, _ => exact (hr a rfl).elim
          | .val false a, _, S => exact S
          | .peek j, _, S => exact S
        exact Tg.put_ok S2 (repD_d ra) ep fun o2 σ2 a2 L2 S2 => q o2 σ2 H1 (L1.trans L2) (a2.keep hpn) S2
    · cases e2
end

/-! ### what is walked -/
/-- from the state (o, H) on the walk gives these items -/
def Wk (K : PySem.W.Frag) (o : List Addr) (H : Hp) (J : It) (its : List A) : Prop := ∀ o1 H1, Le o H o1 H1 → J.stop its.length H1 ∧ ∀ (i : Nat) (a : A), its[i]? = some a → J.go i H1 ∧
  ∀ x H2, J.yld i H1 x H2 → (∀ b u, H1 b = some u → H2 b = some u) ∧ RepS K H2 o1 a x
def tOfI (K : PySem.W.Frag) (m : SM (List A)) : TI := fun σ H R => ∃ o T sa its sa', m sa = some (its, sa') ∧ SRel K o T sa σ H ∧
  ∀ o' H' J, Le o H o' H' → SRel K o' T sa' σ H' → Wk K o' H' J its → R J H'
abbrev PMI (X : Cx) (tg e : Expr) (m : SM (List A)) : Prop := PI X tg e (tOfI X.K m)
theorem PI.weak {X : Cx} {tg e : Expr} {t u : TI} (h : PI X tg e t) (w : ∀ σ H R, u σ H R → t σ H R) : PI X tg e u := ⟨fun pins s σ H R I q => h.run pins s σ H R I (w σ H R q)⟩
theorem PI.or {X : Cx} {tg e : Expr} {t u : TI} (h : PI X tg e t) (h' : PI X tg e u) : PI X tg e (fun σ H R => t σ H R ∨ u σ H R) := ⟨fun pins s σ H R I q => q.elim (h.run pins s σ H R I) (h'.run pins s σ H R I)⟩
def iterA : A → Option (List A)
  | .d (.tup xs) => some (xs.map .d)
  | .ls xs => some (xs.map .d)
  | .lst xs => some xs
  | _ => none
/-- what a list or tuple gives; a list is shared from then on -/
def mIter (m : SM R) : SM (List A) := bnd m fun r => bnd (use r) fun p sa => (iterA p.2).map fun its => (its, sa)
section
variable {K : PySem.W.Frag} {H : Hp} {o : List Addr}
theorem wk_tup {a : Addr} {ys : List V} {xs : List D} {T : Tmp} {sa : List Slot} {σ : L2.St} (S : SRel K o T sa σ H) (s : SqT K H a ys) (r : RepDs K H xs ys) : Wk K o H (Itt K a) (xs.map .d) := fun o1 H1 L => by
  have s1 : SqT K H1 a ys := sqT_mono (S.imm L) s
  have r1 : RepDs K H1 xs ys := r.mono (S.imm L)
  refine ⟨⟨ys, s1, by simp [r.len]⟩, fun i a e => ?_⟩
  rw [List.getElem?_map] at e
  cases e1 : xs[i]? with
  | none => rw [e1] at e; cases e
  | some d =>
    rw [e1] at e
    cases e
    obtain ⟨y, ey, ry⟩ := r1.get e1
    exact ⟨⟨ys, y, s1, ey⟩, fun x H2 ⟨h1, h2⟩ => by
      subst h1
      have := h2 ys s1
      rw [ey] at this
      cases this
      exact ⟨fun _ _ h => h, RepS.d ry⟩⟩
theorem wk_lst {a : Addr} {ys : List V} {xs : List A} {f : List Addr} {T : Tmp} {sa : List Slot} {σ : L2.St} (S : SRel K o T sa σ H) (s : H a = some (.lst ys)) (na : a ∉ o) (r : Reps K H xs ys f) (nf : ∀ b ∈ f, b ∉ o) : Wk K o H (Itl K a) xs := fun o1 H1 L => by
  have s1 : SqL K H1 a ys := .of (L a _ s na).1
  refine ⟨⟨ys, s1, by simp [r.len]⟩, fun i a e => ?_⟩
  obtain ⟨y, g, ey, ry, sub⟩ := Reps.get r e
  have rs : RepS K H1 o1 a y := RepS.mono S L ⟨g, ry, fun b hb => nf b (sub.subset hb)⟩
  exact ⟨⟨ys, y, s1, ey⟩, fun x H2 ⟨h1, h2⟩ => by
    subst h1
    have := h2 ys s1
    rw [ey] at this
    cases this
    exact ⟨fun _ _ h => h, rs⟩⟩
end
section
variable {X : Cx} {tg e : Expr} {m : SM R}
theorem pmi_seq (he : PM X e m) : PMI X tg e (mIter m) := PI.weak (PI.or (pi_list he) (pi_tup he)) fun σ H R h => by
  obtain ⟨o, T, sa, its, sa', e, S, q⟩ := h
  obtain ⟨r, s1, e1, e2⟩ := bnd_some e
  obtain ⟨⟨fl, a⟩, s2, e2, e3⟩ := bnd_some e2
  cases ei : iterA a with
  | none => rw [ei] at e3; cases e3
  | some its' =>
    rw [ei] at e3
    cases e3
    -- the thing, shared
    have key : ∀ o1 v H1, SRel X.K o1 (pushT r v T) s1 σ H1 → RR X.K H1 o1 σ r v → ∃ o2, SRel X.K o2 T sa' σ H1 ∧ Le o1 H1 o2 H1 ∧ RepS X.K H1 o2 a v := fun o1 v H1 S1 R1 => by
      obtain ⟨o2, S2, L2, R2, _⟩ := bnd_use S1 R1 e2
      cases fl with
      | false => exact ⟨o2, S2, L2, R2⟩
      | true =>
        obtain ⟨f, o3, rfl, ra, S3⟩ := SRel.top S2
        exact ⟨o3, S3, L2.trans Le.drop, f, ra, fun b hb z => (List.nodup_append.mp S2.nd).2.2 b hb b z rfl⟩
    cases a with
    | d x =>
      cases x with
      | tup xs =>
        cases ei
        refine .inr ⟨o, T, sa, r, s1, e1, S, fun o1 v H1 L1 S1 R1 => ?_⟩
        obtain ⟨o2, S2, L2, fp, ra, nf⟩ := key o1 v H1 S1 R1
        obtain ⟨p, ys, rfl, s, rs⟩ := tup_of ra
        exact ⟨p, rfl, ⟨ys, s⟩, q o2 H1 _ (L1.trans L2) S2 (wk_tup S2 s rs)⟩
      | _ => cases ei
    | ls xs =>
      cases ei
      refine .inl ⟨o, T, sa, r, s1, e1, S, fun o1 v H1 L1 S1 R1 => ?_⟩
      obtain ⟨o2, S2, L2, fp, ra, nf⟩ := key o1 v H1 S1 R1
      obtain ⟨p, ys, rfl, s, rs, rfl⟩ := ls_of ra
      exact ⟨p, rfl, ⟨ys, .of s⟩, q o2 H1 _ (L1.trans L2) S2 (wk_lst S2 s (nf p (by simp)) (Reps.ofData rs) (fun _ h => nomatch h))⟩
    | lst xs =>
      cases ei
      refine .inl ⟨o, T, sa, r, s1, e1, S, fun o1 v H1 L1 S1 R1 => ?_⟩
      obtain ⟨o2, S2, L2, fp, ra, nf⟩ := key o1 v H1 S1 R1
      obtain ⟨p, ys, g, rfl, s, rs, rfl⟩ := lst_of ra
      exact ⟨p, rfl, ⟨ys, .of s⟩, q o2 H1 _ (L1.trans L2) S2 (wk_lst S2 s (nf p (by simp)) rs (fun b hb => nf b (by simp [hb])))⟩
    | tpl xs => cases ei
    | dd xs => cases ei
end
def rgB (j : Int) : Bool := decide (-(2 ^ 62) ≤ j ∧ j < 2 ^ 62)
def rangeL (lo : Int) (n : Nat) : List A := (List.range n).map fun k => .d (.int (lo + (k : Nat)))
def mRange1 (ms : SM (List R)) : SM (List A) := bnd ms fun rs sa => match rds rs sa with
  | some [.int j] => if rgB j then some (rangeL 0 j.toNat, sa) else none
  | _ => none
def mRange2 (ms : SM (List R)) : SM (List A) := bnd ms fun rs sa => match rds rs sa with
  | some [.int i, .int j] => if rgB i && rgB j then some (rangeL i (j - i).toNat, sa) else none
  | _ => none
theorem wk_range {K : PySem.W.Frag} {H : Hp} {o : List Addr} {lo : Int} {n : Nat} : Wk K o H (Itr lo n) (rangeL lo n) := fun o1 H1 L => by
  refine ⟨?_, fun i a e => ?_⟩
  · show n ≤ _
    simp [rangeL]
  · unfold rangeL at e
    rw [List.getElem?_map] at e
    cases e1 : (List.range n)[i]? with
    | none => rw [e1] at e; cases e
    | some d =>
      rw [e1] at e
      cases e
      obtain ⟨h1, h2⟩ := List.getElem?_eq_some_iff.mp e1
      simp at h1 h2
      subst h2
      exact ⟨h1, fun x H2 ⟨h3, h4⟩ => by
        subst h3 h4
        exact ⟨fun _ _ h => h, RepS.d (by unfold RepD; rfl)⟩⟩
section
variable {X : Cx} {tg a b : Expr} {ms : SM (List R)} {p pos : Pos}
theorem pmi_range1 (hg : Gl X "range") (hm : X.mg "range" = none) (ha : PMA X [a] ms) (hs : starEach [a] X.env = [(false, eval a X.env)] := by rfl) : PMI X tg (.Call (.Name "range" p) [a] [] pos) (mRange1 ms) := PI.weak (pi_range1 hg hm ha hs) fun σ H R h => by
  obtain ⟨o, T, sa, its, sa', e, S, q⟩ := h
  obtain ⟨rs, s1, e1, e2⟩ := bnd_some e
  refine ⟨o, T, sa, rs, s1, e1, S, fun o1 vs H1 L1 S1 R1 => ?_⟩
  split at e2
  · rename_i j ej
    split at e2
    · rename_i hb
      cases e2
      have rd := rds_rep S1 R1 ej
      unfold RepDs at rd
      obtain ⟨y, r, rfl, h1, h2⟩ := rd
      unfold RepDs at h2
      subst h2
      unfold RepD at h1
      subst h1
      have hb := of_decide_eq_true hb
      obtain ⟨o2, S2, L2⟩ := pushTs_pop S1
      exact ⟨j, rfl, hb.1, hb.2, q o2 H1 _ (L1.trans L2) S2 wk_range⟩
    · cases e2
  · cases e2
theorem pmi_range2 (hg : Gl X "range") (hm : X.mg "range" = none) (ha : PMA X [a, b] ms) (hs : starEach [a, b] X.env = [(false, eval a X.env), (false, eval b X.env)] := by rfl) (hs2 : starEach [b] X.env = [(false, eval b X.env)] := by rfl) :
    PMI X tg (.Call (.Name "range" p) [a, b] [] pos) (mRange2 ms) := PI.weak (pi_range2 hg hm ha hs hs2) fun σ H R h => by
  obtain ⟨o, T, sa, its, sa', e, S, q⟩ := h
  obtain ⟨rs, s1, e1, e2⟩ := bnd_some e
  refine ⟨o, T, sa, rs, s1, e1, S, fun o1 vs H1 L1 S1 R1 => ?_⟩
  split at e2
  · rename_i i j ej
    split at e2
    · rename_i hb
      cases e2
      have rd := rds_rep S1 R1 ej
      unfold RepDs at rd
      obtain ⟨y, r, rfl, h1, h2⟩ := rd
      unfold RepDs at h2
      obtain ⟨z, r, rfl, h3, h2⟩ := h2
      unfold RepDs at h2
      subst h2
      unfold RepD at h1 h3
      subst h1 h3
      rw [Bool.and_eq_true] at hb
      have hb1 := of_decide_eq_true hb.1
      have hb2 := of_decide_eq_true hb.2
      obtain ⟨o2, S2, L2⟩ := pushTs_pop S1
      exact ⟨i, j, rfl, ⟨hb1.1, hb1.2, hb2.1, hb2.2⟩, q o2 H1 _ (L1.trans L2) S2 wk_range⟩
    · cases e2
  · cases e2
end

/-! ### for, while -/
def forL (t : Tg) (b : SM Fl) : List A → SM Fl
  | [] => ret .nx
  | a :: r => fun sa => match putI t a sa with
    | some sa' => match b sa' with
      | some (.nx, s2) => forL t b r s2
      | some (.ct, s2) => forL t b r s2
      | some (.bk, s2) => some (.nx, s2)
      | some (.rt fl v, s2) => some (.rt fl v, s2)
      | none => none
    | none => none
def sFor (t : Tg) (mi : SM (List A)) (b : SM Fl) : SM Fl := bnd mi fun its => forL t b its
def whileN (c : SM Bool) (b : SM Fl) : Nat → SM Fl
  | 0 => fun _ => none
  | n + 1 => fun sa => match c sa with
    | some (true, s1) => match b s1 with
      | some (.nx, s2) => whileN c b n s2
      | some (.ct, s2) => whileN c b n s2
      | some (.bk, s2) => some (.nx, s2)
      | some (.rt fl v, s2) => some (.rt fl v, s2)
      | none => none
    | some (false, s1) => some (.nx, s1)
    | none => none
open Classical in
noncomputable def sWhile (c : SM Bool) (b : SM Fl) : SM Fl := fun sa => if h : ∃ n r, whileN c b n sa = some r then some h.choose_spec.choose else none
theorem SRel.yld {K : PySem.W.Frag} {o : List Addr} {T : Tmp} {sa : List Slot} {σ : L2.St} {H H2 : Hp} (S : SRel K o T sa σ H) (same : ∀ b u, H b = some u → H2 b = some u) : SRel K o T sa σ H2 ∧ Le o H o H2 :=
  ⟨⟨S.len, fun i fl a e => by
    obtain ⟨w, e1, q⟩ := S.sl i fl a e
    refine ⟨w, e1, fun z => ?_⟩
    obtain ⟨fp, r, n⟩ := q z
    exact ⟨fp, r.mono (fun b u e _ => same b u e) (fun b _ u e => same b u e), n⟩, S.own.mono (fun b u e _ => same b u e) (fun b _ u e => same b u e), S.nd⟩, fun b u e n => ⟨same b u e, n⟩⟩
section
variable {pn : Nat} {X : Cx} {tg iter c : Expr} {body : List Stmt} {t : Tg} {mi : SM (List A)} {mb : SM Fl} {mc : SM Bool} {pos : Pos}
theorem pms_for (hpn : ∀ k ∈ t.slots, pn ≤ k) (hp : PassesOwn (model X.prog X.w) X.A X.env X.xe) (hc : X.calm = true) (hi : PMI X tg iter mi) (hg : PGM X tg t) (hb : PMB pn X body mb)
    (hs : ∀ x, foldedSetIterable iter X.env x = pure x := by intro _; rfl) : PMS pn X (.For tg iter body [] pos) (sFor t mi mb) := PS.weak (ps_for hp hc hi hg hb hs) fun D σ H h => by
  obtain ⟨o, T, sa, f, sa', e, S, q⟩ := h
  obtain ⟨its, s1, e1, e2⟩ := bnd_some e
  refine ⟨o, T, sa, its, s1, e1, S, fun o1 H1 J L1 S1 W => ?_⟩
  refine ⟨fun i m σ2 H => m = its.length - i ∧ i ≤ its.length ∧ ∃ o2 s2, Le o1 H1 o2 H ∧ Keep pn σ σ2 ∧ SRel X.K o2 T s2 σ2 H ∧ forL t mb (its.drop i) s2 = some (f, sa'), ⟨its.length, by simp, Nat.zero_le _, o1, s1, Le.refl, Keep.refl, S1, e2⟩, ?_⟩
  rintro i m σ2 H2 ⟨rfl, hi, o2, s2, L2, k2, S2, e2⟩
  obtain ⟨w1, w2⟩ := W o2 H2 L2
  by_cases hlt : i < its.length
  · have ea : its[i]? = some its[i] := List.getElem?_eq_getElem hlt
    obtain ⟨go, yl⟩ := w2 i _ ea
    have ed : its.drop i = its[i] :: its.drop (i + 1) := (List.drop_eq_getElem_cons hlt)
    rw [ed] at e2
    unfold forL at e2
    split at e2
    · rename_i s3 e3
      refine .inr ⟨go, fun σ' H' => ∃ o3 s4, Le o2 H2 o3 H' ∧ Keep pn σ2 σ' ∧ SRel X.K o3 T s4 σ' H' ∧ forL t mb (its.drop (i + 1)) s4 = some (f, sa'), fun σ' H' ⟨o3, s4, L3, k3, S3, e4⟩ => ⟨_, by omega, rfl, hlt, o3, s4, L2.trans L3, k2.trans k3, S3, e4⟩, fun x H3 y => ?_⟩
      obtain ⟨same, rx⟩ := yl x H3 y
      obtain ⟨S3, L3⟩ := SRel.yld S2 same
      refine putI_ok S3 rx e3 fun o4 σ4 a4 L4 S4 => ?_
      have k4 := a4.keep hpn
      split at e2
      · rename_i s5 e5
        exact ⟨o4, T, s3, _, _, e5, S4, fun o6 σ6 H6 L6 k6 S6 => ⟨o6, _, (L3.trans L4).trans L6, k4.trans k6, S6, e2⟩⟩
      · rename_i s5 e5
        exact ⟨o4, T, s3, _, _, e5, S4, fun o6 σ6 H6 L6 k6 S6 => ⟨o6, _, (L3.trans L4).trans L6, k4.trans k6, S6, e2⟩⟩
      · rename_i s5 e5
        cases e2
        exact ⟨o4, T, s3, _, _, e5, S4, fun o6 σ6 H6 L6 k6 => q o6 σ6 H6 ((((L1.trans L2).trans L3).trans L4).trans L6) ((k2.trans k4).trans k6)⟩
      · rename_i fl v s5 e5
        cases e2
        exact ⟨o4, T, s3, _, _, e5, S4, fun o6 σ6 H6 L6 k6 => q o6 σ6 H6 ((((L1.trans L2).trans L3).trans L4).trans L6) ((k2.trans k4).trans k6)⟩
      · cases e2
    · cases e2
  · have ei : i = its.length := by omega
    subst ei
    rw [List.drop_length] at e2
    cases e2
    exact .inl ⟨w1, q o2 σ2 H2 (L1.trans L2) k2 S2⟩
theorem pms_while (hp : PassesOwn (model X.prog X.w) X.A X.env X.xe) (hc : PMT X c mc) (hb : PMB pn X body mb) : PMS pn X (.While c body [] pos) (sWhile mc mb) := PS.weak (ps_while hp hc hb) fun D σ H h => by
  obtain ⟨o, T, sa, f, sa', e, S, q⟩ := h
  unfold sWhile at e
  split at e
  · rename_i h
    have hw : ∃ n, whileN mc mb n sa = some (f, sa') := ⟨_, (Option.some.inj e) ▸ h.choose_spec.choose_spec⟩
    obtain ⟨n, hw⟩ := hw
    refine ⟨fun m σ2 H2 => ∃ o2 s2, Le o H o2 H2 ∧ Keep pn σ σ2 ∧ SRel X.K o2 T s2 σ2 H2 ∧ whileN mc mb m s2 = some (f, sa'), ⟨n, o, sa, Le.refl, Keep.refl, S, hw⟩, ?_⟩
    rintro m σ2 H2 ⟨o2, s2, L2, k2, S2, e2⟩
    cases m with
    | zero => cases e2
    | succ m =>
      unfold whileN at e2
      split at e2
      · rename_i s3 e3
        refine ⟨o2, T, s2, true, s3, e3, S2, fun o3 H3 L3 S3 => iteT ?_⟩
        refine ⟨fun σ' H' => ∃ o4 s4, Le o H o4 H' ∧ Keep pn σ σ' ∧ SRel X.K o4 T s4 σ' H' ∧ whileN mc mb m s4 = some (f, sa'), fun σ' H' h => ⟨m, by omega, h⟩, ?_⟩
        split at e2
        · rename_i s5 e5
          exact ⟨o3, T, s3, _, _, e5, S3, fun o6 σ6 H6 L6 k6 S6 => ⟨o6, _, (L2.trans L3).trans L6, k2.trans k6, S6, e2⟩⟩
        · rename_i s5 e5
          exact ⟨o3, T, s3, _, _, e5, S3, fun o6 σ6 H6 L6 k6 S6 => ⟨o6, _, (L2.trans L3).trans L6, k2.trans k6, S6, e2⟩⟩
        · rename_i s5 e5
          cases e2
          exact ⟨o3, T, s3, _, _, e5, S3, fun o6 σ6 H6 L6 k6 => q o6 σ6 H6 ((L2.trans L3).trans L6) (k2.trans k6)⟩
        · rename_i fl v s5 e5
          cases e2
          exact ⟨o3, T, s3, _, _, e5, S3, fun o6 σ6 H6 L6 k6 => q o6 σ6 H6 ((L2.trans L3).trans L6) (k2.trans k6)⟩
        · cases e2
      · rename_i s3 e3
        cases e2
        exact ⟨o2, T, s2, false, _, e3, S2, fun o3 H3 L3 S3 => iteF (q o3 σ2 H3 (L2.trans L3) k2 S3)⟩
      · cases e2
  · cases e
theorem whileN_mono {c : SM Bool} {b : SM Fl} : ∀ {n m : Nat} {sa : List Slot} {r : Fl × List Slot}, whileN c b n sa = some r → n ≤ m → whileN c b m sa = some r
  | 0, _, _, _, e, _ => by cases e
  | n + 1, 0, _, _, _, h => by omega
  | n + 1, m + 1, sa, r, e, h => by
    have ih := fun s2 => @whileN_mono c b n m s2 r
    unfold whileN at e ⊢
    cases e1 : c sa with
    | none => rw [e1] at e; cases e
    | some p =>
      obtain ⟨k, s1⟩ := p
      rw [e1] at e
      cases k with
      | false => exact e
      | true =>
        dsimp only at e ⊢
        cases e2 : b s1 with
        | none => rw [e2] at e; cases e
        | some p =>
          obtain ⟨f, s2⟩ := p
          rw [e2] at e
          cases f with
          | nx => exact ih s2 e (by omega)
          | ct => exact ih s2 e (by omega)
          | bk => exact e
          | rt fl v => exact e
theorem sWhile_of {c : SM Bool} {b : SM Fl} {n : Nat} {sa : List Slot} {r : Fl × List Slot} (h : whileN c b n sa = some r) : sWhile c b sa = some r := by
  unfold sWhile
  have ex : ∃ n r, whileN c b n sa = some r := ⟨n, r, h⟩
  rw [dif_pos ex]
  have hw := ex.choose_spec.choose_spec
  have h1 := whileN_mono h (Nat.le_max_left n ex.choose)
  have h2 := whileN_mono hw (Nat.le_max_right n ex.choose)
  rw [h1] at h2
  exact congrArg some (Option.some.inj h2).symm
end
end MM
namespace MM
open PySem PySem.Spec PyProof.Rows L2

/-! ### comprehensions -/
def wipeA : List Nat → List Slot → List Slot
  | [], sa => sa
  | j :: js, sa => (wipeA js sa).set j none
def restA : List Nat → List Slot → List Slot → List Slot
  | [], _, sa => sa
  | j :: js, s0, sa => match s0[j]? with
    | some (some (false, a)) => (restA js s0 sa).set j (some (false, a))
    | _ => restA js s0 sa
def compL (ws : List Nat) (t : Tg) (tt : SM Bool) (te : SM R) : List A → A → SM A
  | [], l => ret l
  | a :: r, l => fun sa => match putI t a sa with
    | some s1 => match tt s1 with
      | some (true, s2) => match te s2 with
        | some (r1, s3) => match od r1 s3 with
          | some y => match appA l y with
            | some l' => compL ws t tt te r l' (wipeA ws s3)
            | none => none
          | none => none
        | none => none
      | some (false, s2) => compL ws t tt te r l (wipeA ws s2)
      | none => none
    | none => none
def mComp (ws : List Nat) (mi : SM (List A)) (t : Tg) (tt : SM Bool) (te : SM R) : SM R := fun sa => match mi sa with
  | some (its, s1) => match compL ws t tt te its (.ls []) (wipeA ws s1) with
    | some (l, s2) => some (fin l, restA ws s1 s2)
    | none => none
  | none => none
section
variable {K : PySem.W.Frag} {H : Hp} {o : List Addr} {T : Tmp} {sa : List Slot} {σ : L2.St}
/-- slots that are not known may hold anything -/
theorem SRel.any {σ2 : L2.St} (S : SRel K o T sa σ H) (hl : σ.length = σ2.length) (h : ∀ i : Nat, sa[i]? = some none ∨ σ[i]? = σ2[i]?) : SRel K o T sa σ2 H := by
  refine ⟨S.len.trans hl, fun i fl a e => ?_, ?_, S.nd⟩
  · obtain ⟨w, e1, q⟩ := S.sl i fl a e
    rcases h i with z | z
    · rw [e] at z; cases z
    · exact ⟨w, z ▸ e1, q⟩
  · have : ownVs sa σ2 = ownVs sa σ := by
      unfold ownVs
      apply List.ext_getElem?
      intro i
      rw [List.getElem?_zipWith, List.getElem?_zipWith]
      rcases h i with z | z
      · rw [z]
        have hi : i < sa.length := (List.getElem?_eq_some_iff.mp z).1
        have h1 : i < σ.length := by rw [← S.len]; exact hi
        have h2 : i < σ2.length := by rw [← hl]; exact h1
        rw [List.getElem?_eq_getElem h1, List.getElem?_eq_getElem h2]
        rfl
      · rw [z]
    rw [this]
    exact S.own
/-- a slot is forgotten -/
theorem SRel.forget {j : Nat} (S : SRel K o T sa σ H) : ∃ o', SRel K o' T (sa.set j none) σ H ∧ (∀ b, b ∈ o' → b ∈ o) := by
  by_cases hj : j < sa.length
  · cases q : sa[j] with
    | none =>
      have : sa.set j none = sa := by
        apply List.ext_getElem?
        intro i
        by_cases e : i = j
        · subst e
          rw [List.getElem?_set_self hj, List.getElem?_eq_getElem hj, q]
        · rw [List.getElem?_set_ne (Ne.symm e)]
      rw [this]
      exact ⟨o, S, fun _ h => h⟩
    | some p =>
      have e : sa[j]? = some (some p) := by rw [List.getElem?_eq_getElem hj, q]
      obtain ⟨w, e1, _⟩ := S.sl j p.1 p.2 e
      obtain ⟨fi, o', _, S', sub, _⟩ := SRel.out S e e1
      exact ⟨o', S', sub⟩
  · rw [List.set_eq_of_length_le (by omega)]
    exact ⟨o, S, fun _ h => h⟩
theorem wipeA_len : ∀ {ws : List Nat} {sa : List Slot}, (wipeA ws sa).length = sa.length
  | [], _ => rfl
  | j :: js, sa => by unfold wipeA; rw [List.length_set, wipeA_len]
theorem SRel.wiped : ∀ {ws : List Nat} {o : List Addr}, SRel K o T sa σ H → ∃ o', SRel K o' T (wipeA ws sa) σ H ∧ (∀ b, b ∈ o' → b ∈ o)
  | [], o, S => ⟨o, S, fun _ h => h⟩
  | j :: js, o, S => by
    obtain ⟨o1, S1, h1⟩ := SRel.wiped (ws := js) S
    obtain ⟨o2, S2, h2⟩ := SRel.forget (j := j) S1
    exact ⟨o2, S2, fun b h => h1 b (h2 b h)⟩
theorem wipeA_in : ∀ {ws : List Nat} {sa : List Slot} {i : Nat}, i ∈ ws → i < sa.length → (wipeA ws sa)[i]? = some none
  | j :: js, sa, i, h, hl => by
    unfold wipeA
    by_cases e : i = j
    · subst e
      exact List.getElem?_set_self (by rw [wipeA_len]; exact hl)
    · rw [List.getElem?_set_ne (Ne.symm e)]
      exact wipeA_in ((List.mem_cons.mp h).resolve_left e) hl
theorem SRel.wipedS {ws : List Nat} (S : SRel K o T sa σ H) : ∃ o', SRel K o' T (wipeA ws sa) (wipe σ ws) H ∧ (∀ b, b ∈ o' → b ∈ o) := by
  obtain ⟨o1, S1, h1⟩ := SRel.wiped (ws := ws) S
  refine ⟨o1, S1.any (wipe_length σ ws).symm fun i => ?_, h1⟩
  by_cases hi : i ∈ ws
  · by_cases hl : i < sa.length
    · exact .inl (wipeA_in hi hl)
    · refine .inr ?_
      rw [List.getElem?_eq_none (by rw [← S.len]; omega), List.getElem?_eq_none (by rw [wipe_length, ← S.len]; omega)]
  · exact .inr (wipe_out hi).symm
theorem wipe_eq {ws : List Nat} {σ σ2 : L2.St} (h : wipe σ ws = wipe σ2 ws) {i : Nat} (hi : i ∉ ws) : σ[i]? = σ2[i]? := by
  rw [← wipe_out hi, ← wipe_out (σ := σ2) hi, h]
theorem wipe_len {ws : List Nat} {σ σ2 : L2.St} (h : wipe σ ws = wipe σ2 ws) : σ.length = σ2.length := by
  rw [← wipe_length σ ws, ← wipe_length σ2 ws, h]
theorem wipe_setAt {ws is : List Nat} {σ σ2 : L2.St} (a : SetAt is σ σ2) (h : ∀ i ∈ is, i ∈ ws) : wipe σ2 ws = wipe σ ws := by
  have none_in : ∀ {ws : List Nat} {σ : L2.St} {i : Nat}, i ∈ ws → i < σ.length → (wipe σ ws)[i]? = some none := by
    intro ws
    induction ws with
    | nil => intro σ i h; cases h
    | cons j js ih =>
      intro σ i h hl
      unfold wipe
      by_cases e : i = j
      · subst e
        exact List.getElem?_set_self (by rw [wipe_length]; exact hl)
      · rw [List.getElem?_set_ne (Ne.symm e)]
        exact ih ((List.mem_cons.mp h).resolve_left e) hl
  apply List.ext_getElem?
  intro i
  by_cases hi : i ∈ ws
  · by_cases hl : i < σ.length
    · rw [none_in hi (by rw [a.1]; exact hl), none_in hi hl]
    · rw [List.getElem?_eq_none (by rw [wipe_length, a.1]; omega), List.getElem?_eq_none (by rw [wipe_length]; omega)]
  · rw [wipe_out hi, wipe_out hi]
    exact a.2 i fun z => hi (h i z)
/-- back in the def's own slots -/
theorem SRel.back {ws : List Nat} {σ2 : L2.St} (S : SRel K o T sa σ2 H) (hw : ∀ i ∈ ws, i < sa.length → sa[i]? = some none) (h : wipe σ2 ws = wipe σ ws) : SRel K o T sa σ H := S.any (wipe_len h) fun i => by
  by_cases hi : i ∈ ws
  · by_cases hl : i < sa.length
    · exact .inl (hw i hi hl)
    · refine .inr ?_
      rw [List.getElem?_eq_none (by rw [← S.len]; omega), List.getElem?_eq_none (by rw [← wipe_len h, ← S.len]; omega)]
  · exact .inr (wipe_eq h hi)
theorem restA_len : ∀ {ws : List Nat} {s0 sa : List Slot}, (restA ws s0 sa).length = sa.length
  | [], _, _ => rfl
  | j :: js, s0, sa => by
    unfold restA
    split
    · rw [List.length_set, restA_len]
    · exact restA_len
theorem SRel.rest {s0 : List Slot} (hl : s0.length = sa.length) (sl0 : ∀ (i : Nat) fl a, s0[i]? = some (some (fl, a)) → ∃ v, σ[i]? = some (some v) ∧ (fl = false → RepS K H o a v)) :
    ∀ {ws : List Nat}, SRel K o T sa σ H → ∃ o', SRel K o' T (restA ws s0 sa) σ H ∧ (∀ b, b ∈ o' → b ∈ o)
  | [], S => ⟨o, S, fun _ h => h⟩
  | j :: js, S => by
    obtain ⟨o1, S1, h1⟩ := SRel.rest hl sl0 (ws := js) S
    unfold restA
    split
    · rename_i a e
      obtain ⟨v, ev, q⟩ := sl0 j false a e
      have hj : j < (restA js s0 sa).length := by rw [restA_len, ← hl]; exact (List.getElem?_eq_some_iff.mp e).1
      obtain ⟨o2, S2, L2⟩ := SRel.put (fl := false) (a := a) (v := v) (T := T) S1 (RepS.sub h1 (q rfl)) hj
      have e3 : σ.set j (some v) = σ := by
        apply List.ext_getElem?
        intro i
        by_cases e : i = j
        · subst e
          rw [List.getElem?_set_self (List.getElem?_eq_some_iff.mp ev).1, ev]
        · rw [List.getElem?_set_ne (Ne.symm e)]
      rw [e3] at S2
      refine ⟨o2, S2, fun b hb => ?_⟩
      obtain ⟨u, eu, _⟩ := S2.mut b hb
      by_cases z : b ∈ o1
      · exact h1 b z
      · exact ((L2 b u eu z).2 hb).elim
    · exact ⟨o1, S1, h1⟩
/-- the list on top grows -/
theorem SRel.grow {l l' a : A} {D : Addr} {fa : List Addr} {y : V} (S : SRel K o ((l, .ref D) :: T) sa σ H) (ra : Rep K H a y fa) (nd : (fa ++ o).Nodup) (e : appA l a = some l')
    (sl : ∀ (i : Nat) fl a, sa[i]? = some (some (fl, a)) → ∃ v, σ[i]? = some (some v) ∧ (fl = false → RepS K H (fa ++ o) a v)) :
    ∃ acc o', H D = some (.lst acc) ∧ acc.length < sizeLine ∧ SRel K o' ((l', .ref D) :: T) sa σ (upd H D (.lst (acc ++ [y]))) ∧ Le (fa ++ o) H o' (upd H D (.lst (acc ++ [y]))) := by
  obtain ⟨fD, o2, rfl, rD, S2⟩ := SRel.top S
  have ndD := (List.nodup_append.mp S.nd).1
  have nda := (List.nodup_append.mp nd).1
  have dj : ∀ b ∈ fa, b ∉ fD := fun b hb z => (List.nodup_append.mp nd).2.2 b hb b (List.mem_append_left _ z) rfl
  obtain ⟨p, ys, ep, hp, hz, mp, r', nd'⟩ := appA_ok rD ra e ndD nda dj
  cases ep
  have same : ∀ b u, H b = some u → b ≠ D → (upd H D (.lst (ys ++ [y]))) b = some u := fun b u e n => by rw [upd_ne n]; exact e
  have imm : ∀ b u, H b = some u → isMut u = false → (upd H D (.lst (ys ++ [y]))) b = some u := fun b u e m => same b u e fun z => by
    subst z
    rw [hp] at e
    cases e
    cases m
  have n2 : ∀ b ∈ o2, b ≠ D := fun b hb z => (List.nodup_append.mp S.nd).2.2 D mp b hb z.symm
  have ndn : ((fD ++ fa) ++ o2).Nodup := by
    have := (List.perm_append_comm_assoc fa fD o2).nodup nd
    rw [List.append_assoc]
    exact this
  refine ⟨ys, (fD ++ fa) ++ o2, hp, hz, ⟨S.len, fun i fl a e => ?_, Reps.cons r' (S2.own.mono imm fun b hb u e => same b u e (n2 b hb)), ndn⟩, fun b u e n => ?_⟩
  · obtain ⟨w, e1, q⟩ := sl i fl a e
    refine ⟨w, e1, fun z => ?_⟩
    obtain ⟨fp, r, n⟩ := q z
    exact ⟨fp, r.mono imm fun b hb u e => same b u e fun z => n b hb (by simp [z, mp]), fun b hb z => n b hb (by
      simp only [List.mem_append] at z ⊢
      rcases z with (z | z) | z
      · exact .inr (.inl z)
      · exact .inl z
      · exact .inr (.inr z))⟩
  · have nD : b ≠ D := fun z => n (by simp [z, mp])
    exact ⟨same b u e nD, fun z => n (by
      simp only [List.mem_append] at z ⊢
      rcases z with (z | z) | z
      · exact .inr (.inl z)
      · exact .inl z
      · exact .inr (.inr z))⟩
end
/-- the tests of a clause -/
abbrev PMTs (X : Cx) (ifs : List Expr) (tt : SM Bool) : Prop := PTs X ifs (tOfT X.K tt)
theorem PTs.weak {X : Cx} {e : List Expr} {t u : TT} (h : PTs X e t) (w : ∀ σ H Q, u σ H Q → t σ H Q) : PTs X e u := ⟨fun pins s σ H Q I q => h.run pins s σ H Q I (w σ H Q q)⟩
def tYesM : SM Bool := ret true
theorem pmts_nil {X : Cx} : PMTs X [] tYesM := PTs.weak pts_nil fun σ H Q h => by
  obtain ⟨o, T, sa, k, sa', e, S, q⟩ := h
  cases e
  exact q o H Le.refl S
theorem pmts_one {X : Cx} {c : Expr} {t : SM Bool} (h : PMT X c t) : PMTs X [c] t := pts_one h
section
variable {X : Cx}
theorem SRel.newL {K : PySem.W.Frag} {H : Hp} {o : List Addr} {T : Tmp} {sa : List Slot} {σ : L2.St} {D : Addr} (S : SRel K o T sa σ H) (hD : H D = none) : SRel K ([D] ++ o) ((.ls [], .ref D) :: T) sa σ (upd H D (.lst [])) ∧ Le o H ([D] ++ o) (upd H D (.lst [])) := by
  have r : Rep K (upd H D (.lst [])) (.ls []) (.ref D) [D] := rep_ls (by unfold RepDs; rfl) hD
  obtain ⟨h1, h2, _⟩ := SRel.fresh S (Fresh.one hD) r
  exact ⟨h1, h2⟩
theorem lc_ok {wi : SM (List A)} {t : Tg} {tt : SM Bool} {te : SM R} {ws : List Nat} (hws : ∀ i ∈ t.slots, i ∈ ws) {σ : L2.St} {H : Hp} {Q : VK} (h : tOf X.K (mComp ws wi t tt te) σ H Q) :
    tLc (tOfI X.K wi) (t.rd X.K) (tOfT X.K tt) (tOf X.K te) ws σ H Q := by
  obtain ⟨o, T, sa, r, sa', e, S, q⟩ := h
  unfold mComp at e
  split at e
  · rename_i its s1 ei
    split at e
    · rename_i lf sf ec
      cases e
      refine ⟨o, T, sa, its, s1, ei, S, fun o1 H1 J L1 S1 W D hD => ?_⟩
      obtain ⟨o2, S2, sub2⟩ := SRel.wipedS (ws := ws) S1
      obtain ⟨S3, L3⟩ := SRel.newL S2 hD
      have L13 : Le o1 H1 ([D] ++ o2) (upd H1 D (.lst [])) := (Le.sub sub2).trans L3
      refine ⟨fun i m H => m = its.length - i ∧ i ≤ its.length ∧ ∃ o4 s4 l, Le o1 H1 o4 H ∧ SRel X.K o4 ((l, .ref D) :: T) s4 (wipe σ ws) H ∧ s4.length = s1.length ∧ (∀ i ∈ ws, i < s4.length → s4[i]? = some none) ∧ compL ws t tt te (its.drop i) l s4 = some (lf, sf),
        ⟨its.length, by simp, Nat.zero_le _, _, _, .ls [], L13, S3, wipeA_len, fun i hi hl => wipeA_in hi (by rw [wipeA_len] at hl; exact hl), ec⟩, ?_⟩
      rintro i m H4 ⟨rfl, hi, o4, s4, l, L4, S4, len4, none4, e4⟩
      obtain ⟨w1, w2⟩ := W o4 H4 L4
      by_cases hlt : i < its.length
      · have ea : its[i]? = some its[i] := List.getElem?_eq_getElem hlt
        obtain ⟨go, yl⟩ := w2 i _ ea
        have ed : its.drop i = its[i] :: its.drop (i + 1) := List.drop_eq_getElem_cons hlt
        rw [ed] at e4
        unfold compL at e4
        split at e4
        · rename_i s5 e5
          refine .inr ⟨go, fun H' => ∃ o6 s6 l6, Le o4 H4 o6 H' ∧ SRel X.K o6 ((l6, .ref D) :: T) s6 (wipe σ ws) H' ∧ s6.length = s1.length ∧ (∀ i ∈ ws, i < s6.length → s6[i]? = some none) ∧ compL ws t tt te (its.drop (i + 1)) l6 s6 = some (lf, sf),
            fun H' ⟨o6, s6, l6, L6, S6, z1, z2, z3⟩ => ⟨_, by omega, rfl, hlt, o6, s6, l6, L4.trans L6, S6, z1, z2, z3⟩, fun x H5 y => ?_⟩
          obtain ⟨same, rx⟩ := yl x H5 y
          obtain ⟨S5, L5⟩ := SRel.yld S4 same
          refine putI_ok S5 rx e5 fun o6 σ6 a6 L6 S6 => ⟨?_, ?_⟩
          · have hh := wipe_setAt a6 hws
            rw [hh]
            exact wipe_setAt ⟨(wipe_length σ ws), fun i hi => wipe_out hi⟩ (fun i hi => hi)
          · have hw6 : wipe σ6 ws = wipe σ ws := by
              have hh := wipe_setAt a6 hws
              rw [hh]
              exact wipe_setAt ⟨(wipe_length σ ws), fun i hi => wipe_out hi⟩ (fun i hi => hi)
            have back : ∀ {o9 : List Addr} {s9 : List Slot} {H9 : Hp} {l9 : A}, SRel X.K o9 ((l9, .ref D) :: T) s9 σ6 H9 → ∃ o10, SRel X.K o10 ((l9, .ref D) :: T) (wipeA ws s9) (wipe σ ws) H9 ∧ Le o9 H9 o10 H9 ∧ (wipeA ws s9).length = s1.length ∧ (∀ i ∈ ws, i < (wipeA ws s9).length → (wipeA ws s9)[i]? = some none) := fun {o9 s9 H9 l9} S9 => by
              obtain ⟨o10, S10, sub10⟩ := SRel.wipedS (ws := ws) S9
              rw [hw6] at S10
              refine ⟨o10, S10, Le.sub sub10, ?_, fun i hi hl => wipeA_in hi (by rw [wipeA_len] at hl; exact hl)⟩
              rw [S10.len, wipe_length, ← S1.len]
            split at e4
            · rename_i s7 e7
              refine ⟨o6, _, s5, true, s7, e7, S6, fun o7 H7 L7 S7 => ?_⟩
              refine iteT ?_
              split at e4
              · rename_i r8 s8 e8
                split at e4
                · rename_i y8 ey
                  split at e4
                  · rename_i l8 el
                    refine ⟨o7, _, s7, r8, s8, e8, S7, fun o8 v8 H8 L8 S8 R8 => ?_⟩
                    obtain ⟨f8, o9, ra, S9, rfl⟩ := od_one S8 R8 ey
                    obtain ⟨acc, o10, hD8, hz, S10, L10⟩ := SRel.grow S9 ra S8.nd el S8.sl
                    obtain ⟨o11, S11, L11, z1, z2⟩ := back S10
                    exact ⟨acc, hD8, hz, o11, _, l8, ((((L5.trans L6).trans L7).trans L8).trans L10).trans L11, S11, z1, z2, e4⟩
                  · cases e4
                · cases e4
              · cases e4
            · rename_i s7 e7
              refine ⟨o6, _, s5, false, s7, e7, S6, fun o7 H7 L7 S7 => ?_⟩
              refine iteF ?_
              obtain ⟨o11, S11, L11, z1, z2⟩ := back S7
              exact ⟨o11, _, l, ((L5.trans L6).trans L7).trans L11, S11, z1, z2, e4⟩
            · cases e4
        · cases e4
      · have ei : i = its.length := by omega
        subst ei
        rw [List.drop_length] at e4
        cases e4
        refine .inl ⟨w1, ?_⟩
        have S5 : SRel X.K o4 ((lf, .ref D) :: T) sf σ H4 := S4.back none4 (wipe_setAt ⟨(wipe_length σ ws), fun i hi => wipe_out hi⟩ (fun i hi => hi))
        obtain ⟨o6, S6, sub6⟩ := SRel.rest (s0 := s1) (by rw [len4]) (fun i fl a e => by
          obtain ⟨w, e1, q⟩ := S1.sl i fl a e
          exact ⟨w, e1, fun z => RepS.mono S1 L4 (q z)⟩) (ws := ws) S5
        obtain ⟨fl, ol, hol, rl, _⟩ := SRel.top S6
        cases lf with
        | d z =>
          -- a list is never data
          exfalso
          have rl' := repD_d rl
          have hne : ∀ {its : List A} {l lf : A} {s sf : List Slot}, compL ws t tt te its l s = some (lf, sf) → (∀ z, l ≠ .d z) → ∀ z, lf ≠ .d z := by
            intro its
            induction its with
            | nil => intro l lf s sf e h; cases e; exact h
            | cons a r ih =>
              intro l lf s sf e h
              unfold compL at e
              split at e
              · split at e
                · split at e
                  · split at e
                    · split at e
                      · rename_i l' el
                        refine ih e fun z hz => ?_
                        subst hz
                        unfold appA at el
                        split at el <;> (try split at el) <;> cases el
                      · cases e
                    · cases e
                  · cases e
                · exact ih e h
                · cases e
              · cases e
          exact hne ec (fun z h => nomatch h) z rfl
        | ls xs => exact q o6 _ H4 ((L1.trans L4).trans (Le.sub sub6)) S6 True.intro
        | lst xs => exact q o6 _ H4 ((L1.trans L4).trans (Le.sub sub6)) S6 True.intro
        | tpl xs => exact q o6 _ H4 ((L1.trans L4).trans (Le.sub sub6)) S6 True.intro
        | dd xs => exact q o6 _ H4 ((L1.trans L4).trans (Le.sub sub6)) S6 True.intro
    · cases e
  · cases e
theorem pm_lc {elt tg iter : Expr} {ifs : List Expr} {scope : Scope} {own : List (Str × Nat)} {pos : Pos} {wi : SM (List A)} {t : Tg} {tt : SM Bool} {te : SM R} (hc : X.calm = true) (hN : X.N.Nodup) (hi : PMI X tg iter wi) (ok : BlkOk X.N X.env.scope scope own) (hws : ∀ i ∈ t.slots, i ∈ own.map (·.2))
    (hg : ∀ (s : Shared) (H : Hp) (C : Addr) (cl : List (Str × Addr)) (fp : List Addr), PGM (X.blk s H scope (compEnvC scope cl C X.env) fp) tg t) (ht : ∀ (s : Shared) (H : Hp) (C : Addr) (cl : List (Str × Addr)) (fp : List Addr), PMTs (X.blk s H scope (compEnvC scope cl C X.env) fp) ifs tt)
    (he : ∀ (s : Shared) (H : Hp) (C : Addr) (cl : List (Str × Addr)) (fp : List Addr), PM (X.blk s H scope (compEnvC scope cl C X.env) fp) elt te) (hs : ∀ x, foldedSetIterable iter X.env x = pure x := by intro _; rfl) :
    PM X (.ListComp elt [⟨tg, iter, ifs, 0⟩] scope pos) (mComp (own.map (·.2)) wi t tt te) := PE.weak (pe_lc hc hN hi ok hg ht he hs) fun σ H Q h => lc_ok hws h
theorem pms_setLc {pn i : Nat} {y : Str} {py : Pos} {elt tg iter : Expr} {ifs : List Expr} {scope : Scope} {own : List (Str × Nat)} {pos spos : Pos} {wi : SM (List A)} {t : Tg} {tt : SM Bool} {te : SM R} (hpn : pn ≤ i) (hc : X.calm = true) (hN : X.N.Nodup) (hy : X.N[i]? = some y) (hyl : X.env.scope.names.lookup y = some .local)
    (hsw : swapsWith (.ListComp elt [⟨tg, iter, ifs, 0⟩] scope pos) (some (.Name y py)) spos.line X.env = pure true) (hi : PMI X tg iter wi) (ok : BlkOk X.N X.env.scope scope own) (hws : ∀ i ∈ t.slots, i ∈ own.map (·.2))
    (hg : ∀ (s : Shared) (H : Hp) (C : Addr) (cl : List (Str × Addr)) (fp : List Addr), PGM (X.blk s H scope (compEnvC scope cl C X.env) fp) tg t) (ht : ∀ (s : Shared) (H : Hp) (C : Addr) (cl : List (Str × Addr)) (fp : List Addr), PMTs (X.blk s H scope (compEnvC scope cl C X.env) fp) ifs tt)
    (he : ∀ (s : Shared) (H : Hp) (C : Addr) (cl : List (Str × Addr)) (fp : List Addr), PM (X.blk s H scope (compEnvC scope cl C X.env) fp) elt te) (hs : ∀ x, foldedSetIterable iter X.env x = pure x := by intro _; rfl) :
    PMS pn X (.Assign [.Name y py] (.ListComp elt [⟨tg, iter, ifs, 0⟩] scope pos) spos) (sSet i (mComp (own.map (·.2)) wi t tt te)) := PS.weak (ps_setLc hc hN hy hyl hsw hi ok hg ht he hs) fun D σ H h => by
  obtain ⟨o, T, sa, f, sa', e, S, q⟩ := h
  obtain ⟨r, s1, e1, e2⟩ := bnd_some e
  obtain ⟨⟨fl, a⟩, s2, eu, e3⟩ := bnd_some e2
  split at e3
  · rename_i hl
    cases e3
    refine lc_ok hws ⟨o, T, sa, r, s1, e1, S, fun o1 v H1 L1 S1 R1 => ?_⟩
    obtain ⟨o2, S2, L2, R2, _⟩ := bnd_use S1 R1 eu
    obtain ⟨o3, S3, L3⟩ := SRel.put S2 R2 hl
    exact q o3 _ H1 ((L1.trans L2).trans L3) (Keep.set hpn) S3
  · cases e3
end
end MM
namespace MM
open PySem PySem.Spec PyProof.Rows L2

/-! ### a def as a function -/
def initS (N : Nat) (as : List A) : List Slot := as.map (fun a => some (false, a)) ++ List.replicate (N - as.length) none
def endF : Option (Fl × List Slot) → Option A
  | some (.nx, _) => some (.d .non)
  | some (.rt _ (.d x), _) => some (.d x)
  | some (.rt true a, _) => some a
  | _ => none
/-- the value of a def with N names and the body m -/
def runF (N : Nat) (m : SM Fl) (as : List A) : Option A := endF (m (initS N as))
def initB (N : Nat) (b : A) (xs : List D) : List Slot := some (true, b) :: xs.map (fun x => some (false, .d x)) ++ List.replicate (N - (xs.length + 1)) none
def endB : Option (Fl × List Slot) → Option (D × A)
  | some (.nx, some (true, b) :: _) => some (.non, b)
  | some (.rt _ (.d x), some (true, b) :: _) => some (x, b)
  | _ => none
/-- .. of a def that changes its first argument -/
def runB (N : Nat) (m : SM Fl) (b : A) (xs : List D) : Option (D × A) := endB (m (initB N b xs))
section
variable {K : PySem.W.Frag} {H : Hp}
theorem init_rel {as : List A} {vs : List V} {fp : List Addr} {N : List Str} (h : Reps K H as vs fp) : SRel K [] [] (initS N.length as) (start N vs) H := by
  have hl := h.len
  refine ⟨by simp [initS, L2.start, hl], fun i fl a e => ?_, ?_, List.nodup_nil⟩
  · unfold initS at e
    by_cases hi : i < as.length
    · rw [List.getElem?_append_left (by simpa using hi), List.getElem?_map, List.getElem?_eq_getElem hi] at e
      cases e
      obtain ⟨y, g, ey, ry, _⟩ := h.get (List.getElem?_eq_getElem hi)
      refine ⟨y, ?_, fun _ => ⟨g, ry, fun _ _ h => nomatch h⟩⟩
      unfold L2.start
      rw [List.getElem?_append_left (by simp [← hl, hi]), List.getElem?_map, ey]
      rfl
    · rw [List.getElem?_append_right (by simpa using Nat.le_of_not_lt hi)] at e
      rw [List.getElem?_replicate] at e
      split at e <;> cases e
  · have e1 : ∀ (as : List A) (n : Nat), (as.map (fun a => (some (false, a) : Slot)) ++ List.replicate n none).map ownA = List.replicate (as.length + n) (.d .non) := fun as n => by
      induction as with
      | nil => simp [ownA]
      | cons a r ih =>
        simp only [List.map_cons, List.cons_append, List.length_cons]
        rw [ih, show r.length + 1 + n = (r.length + n) + 1 by omega, List.replicate_succ]
        rfl
    have e2 : ∀ (sa : List Slot) (σ : L2.St), sa.length = σ.length → (∀ s ∈ sa, ∀ a, s ≠ some (true, a)) → ownVs sa σ = List.replicate sa.length .non := fun sa => by
      induction sa with
      | nil =>
        intro σ hl _
        cases σ with
        | nil => rfl
        | cons _ _ => cases hl
      | cons s r ih =>
        intro σ hl hn
        cases σ with
        | nil => cases hl
        | cons w σ =>
          show ownV s w :: ownVs r σ = _
          rw [ih σ (by simpa using hl) (fun s hs => hn s (List.mem_cons_of_mem _ hs)), List.length_cons, List.replicate_succ]
          congr 1
          have := hn s List.mem_cons_self
          unfold ownV
          split
          · exact (this _ rfl).elim
          · rfl
    have e3 : ∀ n : Nat, Reps K H (List.replicate n (.d .non)) (List.replicate n .non) [] := fun n => by
      induction n with
      | zero => exact Reps.nil
      | succ n ih =>
        rw [List.replicate_succ, List.replicate_succ]
        exact Reps.cons rep_non ih
    show Reps K H ([] ++ (initS N.length as).map ownA) ([] ++ ownVs (initS N.length as) (start N vs)) []
    rw [List.nil_append, List.nil_append]
    unfold initS
    rw [e1, e2]
    · have : (as.map (fun a => (some (false, a) : Slot)) ++ List.replicate (N.length - as.length) none).length = as.length + (N.length - as.length) := by simp
      rw [this]
      exact e3 _
    · simp [L2.start, hl]
    · intro s hs a
      rcases List.mem_append.mp hs with hs | hs
      · obtain ⟨x, _, rfl⟩ := List.mem_map.mp hs
        exact fun z => nomatch z
      · obtain ⟨_, rfl⟩ := List.mem_replicate.mp hs
        exact fun z => nomatch z
theorem Fresh.of {H H' : Hp} {o : List Addr} (L : Le [] H o H') (nd : o.Nodup) : Fresh H H' o := ⟨fun b u e => (L b u e (fun h => nomatch h)).1, nd, fun b hb => by
  cases e : H b with
  | none => rfl
  | some u => exact ((L b u e (fun h => nomatch h)).2 hb).elim⟩
end
section
variable {P : Program} {w : World} {K : PySem.W.Frag} {mg : Str → Option Value} {base : Heap}
theorem fn_ok {x qual : Str} {st : Stmt} {f : Addr} {fd : FuncData} {N ps : List Str} {k : Nat} {m : SM Fl} (F : Fun K x qual st f fd) (S : FnScope N ps (defScope st))
    (hb : ∀ (cdv : Value) (A : Around) (outer : List Env) (s : Shared) (H : Hp), Room k (A.deeper (envOfC qual (defScope st) s.heap.objs.size f cdv)) → ∀ E, PMB 0 (cxOf CX0 P w K mg base N qual (defScope st) f cdv A outer s H E).nox (defBody st) m) :
    FnOk P w K mg base CX0 (k + 1) f fd ps (spF K ps.length (runF N.length m)) := by
  refine F.ok S (fun vs H Q E h => ?_) fun cdv A outer s H vs Q E hr h => ?_
  · obtain ⟨as, fp, c, hl, r, _⟩ := h
    rw [← hl, r.len]
  · obtain ⟨as, fp, c, hl, r, e, q⟩ := h
    refine ⟨_, hb cdv A outer s H hr E, ?_⟩
    have S0 := init_rel (N := N) r
    unfold runF at e
    cases em : m (initS N.length as) with
    | none => rw [em] at e; cases e
    | some p =>
      obtain ⟨fl, sa'⟩ := p
      rw [em] at e
      refine ⟨[], [], _, fl, sa', em, S0, fun o' σ' H' L _ => ?_⟩
      cases fl with
      | nx =>
        cases e
        intro S1
        exact q _ H' [] (Fresh.of (fun b u e n => ⟨(L b u e n).1, fun h => nomatch h⟩) List.nodup_nil) rep_non
      | bk => cases e
      | ct => cases e
      | rt own a =>
        intro v S1 R1
        cases a with
        | d z =>
          cases e
          have rz : RepD K H' z v := by
            cases own with
            | false =>
              obtain ⟨fp, r, _⟩ := R1
              exact repD_d r
            | true =>
              obtain ⟨f, o2, _, r, _⟩ := SRel.top S1
              exact repD_d r
          exact q v H' [] (Fresh.of (fun b u e n => ⟨(L b u e n).1, fun h => nomatch h⟩) List.nodup_nil) (rep_d rz)
        | _ =>
          cases own with
          | false => cases e
          | true =>
            cases e
            obtain ⟨g, o2, rfl, r, _⟩ := SRel.top S1
            exact q v H' g (Fresh.of (fun b u e n => ⟨(L b u e n).1, fun h => (L b u e n).2 (List.mem_append_left _ h)⟩) (List.nodup_append.mp S1.nd).1) r
theorem initB_rel {b : A} {v0 : V} {xs : List D} {vr : List V} {fb : List Addr} {H : Hp} {N : List Str} (hb : Rep K H b v0 fb) (nd : fb.Nodup) (h : RepDs K H xs vr) : SRel K fb [] (initB N.length b xs) (start N (v0 :: vr)) H := by
  have h0 := init_rel (N := N) (Reps.cons (rep_non (K := K) (H := H)) (Reps.ofData h))
  have hl : (initS N.length (.d .non :: xs.map .d)).length = (start N (.non :: vr)).length := h0.len
  have e0 : initS N.length (.d .non :: xs.map .d) = some (false, .d .non) :: (xs.map (fun x => (some (false, .d x) : Slot)) ++ List.replicate (N.length - (xs.length + 1)) none) := by
    simp [initS, Function.comp_def]
  have es : start N (.non :: vr) = some .non :: (vr.map some ++ List.replicate (N.length - (vr.length + 1)) none) := by simp [L2.start]
  have es2 : start N (v0 :: vr) = some v0 :: (vr.map some ++ List.replicate (N.length - (vr.length + 1)) none) := by simp [L2.start]
  have e2 : initB N.length b xs = some (true, b) :: (xs.map (fun x => (some (false, .d x) : Slot)) ++ List.replicate (N.length - (xs.length + 1)) none) := by simp [initB]
  have own0 := h0.own
  rw [e0, es] at own0
  have own0 : Reps K H (.d .non :: (xs.map (fun x => (some (false, .d x) : Slot)) ++ List.replicate (N.length - (xs.length + 1)) none).map ownA) (.non :: ownVs (xs.map (fun x => (some (false, .d x) : Slot)) ++ List.replicate (N.length - (xs.length + 1)) none) (vr.map some ++ List.replicate (N.length - (vr.length + 1)) none)) [] := own0
  unfold Reps at own0
  obtain ⟨y, r, f, g, e, efg, _, hr⟩ := own0
  cases e
  have : g = [] := (List.append_eq_nil_iff.mp efg.symm).2
  subst this
  refine ⟨?_, fun i fl a e => ?_, ?_, nd⟩
  · rw [e2, es2]
    rw [e0, es] at hl
    simpa using hl
  · rw [e2] at e
    rw [es2]
    cases i with
    | zero =>
      simp at e
      obtain ⟨rfl, rfl⟩ := e
      exact ⟨v0, rfl, fun z => nomatch z⟩
    | succ i =>
      have q := h0.sl (i + 1) fl a (by rw [e0]; simpa using e)
      rw [es] at q
      obtain ⟨v, ev, q⟩ := q
      refine ⟨v, by simpa using ev, fun z => ?_⟩
      obtain ⟨fp, rp, n⟩ := q z
      -- it is data
      have hd : ∃ x, a = .d x := by
        have e : (xs.map (fun x => (some (false, .d x) : Slot)) ++ List.replicate (N.length - (xs.length + 1)) none)[i]? = some (some (fl, a)) := by simpa using e
        have mem := List.mem_of_getElem? e
        rcases List.mem_append.mp mem with hs | hs
        · obtain ⟨x, _, hx⟩ := List.mem_map.mp hs
          cases hx
          exact ⟨x, rfl⟩
        · obtain ⟨_, hx⟩ := List.mem_replicate.mp hs
          cases hx
      obtain ⟨x, rfl⟩ := hd
      exact RepS.d (repD_d rp)
  · rw [e2, es2]
    show Reps K H (b :: _) (v0 :: _) fb
    have := Reps.cons hb hr
    rw [List.append_nil] at this
    exact this
theorem fnB_ok {x qual : Str} {st : Stmt} {f : Addr} {fd : FuncData} {N ps : List Str} {k : Nat} {m : SM Fl} (F : Fun K x qual st f fd) (S : FnScope N ps (defScope st)) (hN : 0 < N.length)
    (hb : ∀ (cdv : Value) (A : Around) (outer : List Env) (s : Shared) (H : Hp), Room k (A.deeper (envOfC qual (defScope st) s.heap.objs.size f cdv)) → ∀ E, PMB 1 (cxOf CX0 P w K mg base N qual (defScope st) f cdv A outer s H E).nox (defBody st) m) :
    FnOk P w K mg base CX0 (k + 1) f fd ps (spB K ps.length (runB N.length m)) := by
  refine F.ok S (fun vs H Q E h => ?_) fun cdv AA outer s H vs Q E hr h => ?_
  · obtain ⟨b, v0, xs, vr, fb, c, b', rfl, hl, _, _, r, _⟩ := h
    rw [← hl, r.len]
    rfl
  · obtain ⟨b, v0, xs, vr, fb, c, b', rfl, hl, rb, nd, r, e, q⟩ := h
    refine ⟨_, hb cdv AA outer s H hr E, ?_⟩
    have S0 := initB_rel (N := N) rb nd r
    have st0 : (start N (v0 :: vr))[0]? = some (some v0) := by simp [L2.start]
    unfold runB at e
    cases em : m (initB N.length b xs) with
    | none => rw [em] at e; cases e
    | some p =>
      obtain ⟨fl, sa'⟩ := p
      rw [em] at e
      refine ⟨fb, [], _, fl, sa', em, S0, fun o' σ' H' L kp => ?_⟩
      have k0 : σ'[0]? = some (some v0) := (kp 0 (by omega)).trans st0
      -- the first slot at the end
      have fin : ∀ {T : Tmp} {o2 : List Addr} {b2 : MM.A} {rest : List Slot} {z : D} {v : V}, sa' = some (true, b2) :: rest → SRel K o2 T sa' σ' H' → Le fb H o2 H' → c = z → b' = b2 → RepD K H' z v → Q v H' := fun {T o2 b2 rest z v} es S1 L1 ec eb rz => by
        subst es ec eb
        obtain ⟨fi, o3, ri, S2, sub, h1, _⟩ := SRel.out (j := 0) S1 rfl k0
        obtain ⟨_, nd1, mo⟩ := h1 rfl
        exact q v H' fi (fun b u e n => ⟨(L1 b u e n).1, fun z => (L1 b u e n).2 (mo b z)⟩) (List.nodup_append.mp nd1).1 rz ri
      unfold endB at e
      split at e
      · rename_i b2 rest heq
        cases heq
        cases e
        intro S1
        exact fin rfl S1 L rfl rfl repD_non
      · rename_i own z b2 rest heq
        cases heq
        cases e
        intro v S1 R1
        have rz : RepD K H' c v := by
          cases own with
          | false =>
            obtain ⟨fp, r, _⟩ := R1
            exact repD_d r
          | true =>
            obtain ⟨f, o2, _, r, _⟩ := SRel.top S1
            exact repD_d r
        exact fin rfl S1 L rfl rfl rz
      · cases e
/-- the law's own promise: over the script as a value that is not looked into -/
def spLaw (K : PySem.W.Frag) (n : Nat) (G : V → Prop) : Sp := fun vs H Q _ => ∃ (a : Addr) (ns : List Int), vs = [.ref a] ∧ SqL K H a (ns.map V.int) ∧ ns.length ≤ n ∧ (∀ H', Same H H' → Q (.bl true) H')
end
end MM
namespace MM
open PySem PySem.Spec PyProof.Rows L2

/-! ### xs[i] = e, the list in a slot, e data -/
def setA : MM.A → Int → D → Option MM.A
  | .ls xs, i, z => match ixN xs.length i with
    | some k => some (.ls (xs.set k z))
    | none => none
  | .lst xs, i, z => match ixN xs.length i with
    | some k => some (.lst (xs.set k (.d z)))
    | none => none
  | _, _, _ => none
def sSetIx (j : Nat) (mi me : SM R) : SM Fl := bnd me fun r s0 => if isL s0[j]? then bnd mi (fun ri sa => match rv r sa, rv ri sa, sa[j]? with
  | some (.d z), some (.d (.int i)), some (some (true, l)) => (setA l i z).map fun l' => (.nx, sa.set j (some (true, l')))
  | _, _, _ => none) s0 else none
section
variable {K : PySem.W.Frag} {H : Hp}
theorem RepDs.set {xs : List D} {ys : List V} {z : D} {y : V} (k : Nat) (h : RepDs K H xs ys) (hk : k < xs.length) (hz : RepD K H z y) : RepDs K H (xs.set k z) (ys.set k y) := by
  rw [set_parts hk, set_parts (by rw [← h.len]; exact hk)]
  refine (h.take k).append ?_
  unfold RepDs
  exact ⟨y, _, rfl, hz, h.drop (k + 1)⟩
end
theorem setA_ok {K : PySem.W.Frag} {H : Hp} {l l' : MM.A} {i : Int} {z : D} {v y : V} {fi : List Addr} (r : Rep K H l v fi) (rz : RepD K H z y) (e : setA l i z = some l') (nd : fi.Nodup) :
    ∃ p ys k fi', v = .ref p ∧ H p = some (.lst ys) ∧ ixN ys.length i = some k ∧ p ∈ fi ∧ Rep K (upd H p (.lst (ys.set k y))) l' v fi' ∧ fi'.Nodup ∧ ∀ b ∈ fi', b ∈ fi := by
  have imm : ∀ {p : Addr} {ys ys' : List V}, H p = some (.lst ys) → ∀ b u, H b = some u → isMut u = false → (upd H p (.lst ys')) b = some u := fun {p ys ys'} hp b u e m => by
    rw [upd_ne fun z => by
      subst z
      rw [hp] at e
      cases e
      cases m]
    exact e
  unfold setA at e
  split at e
  · rename_i xs
    split at e
    · rename_i k ek
      cases e
      obtain ⟨p, ys, rfl, s, rs, rfl⟩ := ls_of r
      have hk : k < xs.length := (ixN_seq ek).2.1
      rw [rs.len] at ek
      refine ⟨p, ys, k, [p], rfl, s, ek, by simp, ?_, by simp, fun b hb => hb⟩
      unfold Rep
      exact ⟨p, _, rfl, upd_same, RepDs.set k (rs.mono (imm s)) hk (rz.mono (imm s)), rfl⟩
    · cases e
  · rename_i xs
    split at e
    · rename_i k ek
      cases e
      obtain ⟨p, ys, g, rfl, s, rs, rfl⟩ := lst_of r
      have hk : k < xs.length := (ixN_seq ek).2.1
      have hky : k < ys.length := by rw [← rs.len]; exact hk
      obtain ⟨f1, f0, f2, rfl, r1, r2, r3⟩ := Reps.at rs (List.getElem?_eq_getElem hk) (List.getElem?_eq_getElem hky)
      rw [rs.len] at ek
      have np : ∀ b, b ∈ f1 ++ f0 ++ f2 → b ≠ p := fun b hb z => by
        subst z
        exact (List.nodup_cons.mp nd).1 hb
      have same : ∀ b, b ∈ f1 ++ f0 ++ f2 → ∀ u, H b = some u → (upd H p (.lst (ys.set k y))) b = some u := fun b hb u e => by
        rw [upd_ne (np b hb)]
        exact e
      refine ⟨p, ys, k, p :: (f1 ++ f2), rfl, s, ek, by simp, ?_, ?_, fun b hb => ?_⟩
      · unfold Rep
        refine ⟨p, _, f1 ++ f2, rfl, upd_same, ?_, rfl⟩
        have h1 := r2.mono (imm s) fun b hb => same b (by simp [hb])
        have h2 := r3.mono (imm s) fun b hb => same b (by simp [hb])
        have h3 := rep_d (rz.mono (imm (ys' := ys.set k y) s))
        generalize upd H p (.lst (ys.set k y)) = H' at h1 h2 h3
        rw [set_parts hk, set_parts hky]
        exact Reps.append h1 (Reps.cons h3 h2)
      · refine List.nodup_cons.mpr ⟨fun z => np p (by
          rcases List.mem_append.mp z with z | z <;> simp [z]) rfl, ?_⟩
        have n2 := (List.nodup_cons.mp nd).2
        rw [List.append_assoc] at n2
        have := (List.perm_append_comm_assoc f1 f0 f2).nodup n2
        exact (List.nodup_append.mp this).2.1
      · rcases List.mem_cons.mp hb with rfl | hb
        · simp
        · rcases List.mem_append.mp hb with hb | hb <;> simp [hb]
    · cases e
  · cases e
section
variable {pn : Nat} {X : Cx} {x : Str} {px pos tpos : Pos} {e i : Expr} {j : Nat} {me mi : SM R}
theorem pms_setIx (hx : PE X (.Name x px) (tVar j)) (hi : PM X i mi) (he : PM X e me) (ha : ∀ v, assign (.Subscript (.Name x px) i tpos) X.env v = (do
      let ov ← holding [v] (eval (.Name x px) X.env)
      let iv ← holding [v, ov] (eval i X.env)
      standAt tpos
      holding [v, ov, iv] (setItem ov iv v)
      release [v, ov, iv] []) := by intro _; rfl)
    (hs : swapsWithSole [.Subscript (.Name x px) i tpos] e pos.line X.env = pure false := by rfl) (hw : swappedStores [.Subscript (.Name x px) i tpos] e X.env = pure none := by rfl)
    (h1 : (assignEach [.Subscript (.Name x px) i tpos] X.env).map (·.2) = [assign (.Subscript (.Name x px) i tpos) X.env] := by rfl) :
    PMS pn X (.Assign [.Subscript (.Name x px) i tpos] e pos) (sSetIx j mi me) := PS.weak (ps_asg he (pg_sub hx hi set_list ha) hs hw h1) fun D σ H h => by
  obtain ⟨o, T, sa, f, sa', e, S, q⟩ := h
  obtain ⟨r1, s1, e1, e2⟩ := bnd_some e
  split at e2
  · rename_i hl
    obtain ⟨r2, s2, em, e3⟩ := bnd_some e2
    split at e3
    · rename_i z i l ez ei el
      cases el' : setA l i z with
      | none => rw [el'] at e3; cases e3
      | some l' =>
        rw [el'] at e3
        cases e3
        refine ⟨o, T, sa, r1, s1, e1, S, fun o1 v H1 L1 S1 R1 => ?_⟩
        obtain ⟨p, ys, ep, hp⟩ := isL_ok S1 hl
        refine ⟨_, ep, o1, _, s1, r2, s2, em, S1, fun o2 v2 H2 L2 S2 R2 => ?_⟩
        obtain ⟨fb, rb⟩ := rv_rep S2 R2 ei
        obtain ⟨o3, S3, L3⟩ := SRel.pop S2
        obtain ⟨fa, ra⟩ := rv_rep S3 ((R1.mono S1 L2).mono S2 L3) ez
        obtain ⟨o4, S4, L4⟩ := SRel.pop S3
        obtain ⟨fi, rl, so, ndi, _, put⟩ := SRel.wr (fx := []) S4 el ep S4.nd (fun _ h => nomatch h) S4.sl
        obtain ⟨p', ys', k, fi', ev, hp', hk, mp, rl', nd', sub⟩ := setA_ok rl (repD_d ra) el' ndi
        cases ev
        obtain ⟨o5, S5, L5⟩ := put (fun b u e n => by rw [upd_ne (fun z => n (by rw [z]; exact mp))]; exact e) rl' nd' fun b hb => .inl (sub b hb)
        exact ⟨p, ys', i, k, rfl, int_of rb, hp', hk, q o5 σ _ ((((L1.trans L2).trans L3).trans L4).trans L5) Keep.refl S5⟩
    · cases e3
  · cases e2
end
end MM
namespace MM
open PySem PySem.Spec PyProof.Rows L2

/-! ### enumerate over a tuple -/
theorem call_enumB {prog : Program} {w : World} {A : Around} {E : Value → Shared → Prop} {s : Shared} {v : Value} {o : Obj} {H : Heap → Prop} {Q : Value → Shared → Prop} (B : Begins v o H) (h1 : H s.heap)
    (h : ∀ h', IsEnum h' (s.heap.objs.size + 1) s.heap.objs.size 0 .none → h'.get? s.heap.objs.size = some o → h'.objs.size = s.heap.objs.size + 2 →
      (∀ b o, s.heap.get? b = some o → h'.get? b = some o) → Q (.ref (s.heap.objs.size + 1)) { s with heap := h' }) :
    wpAny (model prog w) A (call (.type "enumerate") [v]) Q E s := by
  have meets : Meets (Builtin.«enumerate.__new__» ⟨[.type "enumerate", v], []⟩) (fun _ R s => H s.heap ∧
      R (.ok (.ret (.ref (s.heap.push o).objs.size))) { s with heap := (s.heap.push o).push { cls := .type "enumerate", data := .fields #[.none, .bool false, .ref s.heap.objs.size, rawInt 0, .none, .none] } }) :=
    .of_wp fun prog w A R s h => by
      obtain ⟨hp, g, d, tk, os⟩ := s; obtain ⟨h1, h⟩ := h
      have hsub := sub_enumerate
      have q1 : ∀ {A' : Around} {E : Value → Shared → Prop} {Q : Value → Shared → Prop}, Q (.ref hp.objs.size) ⟨hp.push o, g, d, tk, os⟩ → wpAny (model prog w) A' (pyIter v) Q E ⟨hp, g, d, tk, os⟩ :=
        fun q => B.iter prog w _ _ ⟨hp, g, d, tk, os⟩ _ h1 q
      wp_walk using q1
      refine wpAny_stack_any fun st => wpAny_pure ?_
      split
      · rename_i c _ _ _ _ _
        cases (c == Value.type "enumerate")
        · wp_walk using q1
          exact ⟨_, rfl, h⟩
        · wp_walk using q1
          exact ⟨_, rfl, h⟩
      · wp_walk using q1
        exact ⟨_, rfl, h⟩
  refine callType_new F.called_enumerate (by decide) (F.typeCall_enumerate_1 _) (F.newCall_enumerate_1 _) (fun obj => F.args_object_init_2 obj _) F.entry_enumerate_new meets ⟨h1, ?_⟩
  have hz : (s.heap.push o).objs.size = s.heap.objs.size + 1 := Heap.size_push ..
  show _ ∧ _
  rw [hz]
  have he : IsEnum ((s.heap.push o).push { cls := .type "enumerate", data := .fields #[.none, .bool false, .ref s.heap.objs.size, rawInt 0, .none, .none] }) (s.heap.objs.size + 1) s.heap.objs.size 0 .none := by
    have := Heap.get?_push_size (s.heap.push o) (o := { cls := .type "enumerate", data := .fields #[.none, .bool false, .ref s.heap.objs.size, rawInt 0, .none, .none] }) rfl
    rw [hz] at this; exact this
  refine ⟨⟨_, he, rfl⟩, h _ he (Heap.get?_push_of_some _ (Heap.get?_push_size _ B.free)) (by rw [Heap.size_push, hz]) fun b o x => Heap.get?_push_of_some _ (Heap.get?_push_of_some _ x)⟩
/-- the tuple at a, each item in a new pair -/
def IteT (K : PySem.W.Frag) (a : Addr) : It :=
  ⟨fun i H => ∃ (xs : List V) (x : V), SqT K H a xs ∧ xs[i]? = some x, fun i H v H' => ∃ T x, v = .ref T ∧ H T = none ∧ H' = upd H T (.tup [.int (i : Nat), x]) ∧ ∀ xs, SqT K H a xs → xs[i]? = some x, fun i H => ∃ xs : List V, SqT K H a xs ∧ xs.length = i⟩
theorem turn_enumT {P : Program} {w : World} {K : PySem.W.Frag} {elts : List Expr} {kk : Nat} {tpos : Pos} (a e it : Addr) (hae : a ≠ e) (hai : a ≠ it) :
    Turn P w K (.Tuple elts kk tpos) (IteT K a) [e, it] e (fun i h => (∃ old, IsEnum h e it ((i : Nat) : Int) old) ∧ h.IsTupleIter it a i ∧ e ≠ it) where
  mem := by simp
  obj := fun i h st b hb => by
    obtain ⟨⟨old, he⟩, ⟨o, ho, hc, hd⟩, _⟩ := st
    have e' : b = e ∨ b = it := by simpa using hb
    rcases e' with z | z
    · rw [z]; exact ⟨_, he, fun v q => nomatch q⟩
    · rw [z]; exact ⟨o, ho, fun v q => by rw [hd] at q; cases q⟩
  keep := fun i h h' st k => let ⟨⟨old, he⟩, hi, hne⟩ := st; ⟨⟨old, k e (by simp) _ he⟩, hi.at fun o q => k it (by simp) o q, hne⟩
  item := by
    intro X hP hw hK hc i pins s σ H E I hf st hg
    subst hP hw hK
    obtain ⟨⟨old, he⟩, hit, hne⟩ := st
    obtain ⟨xs, x, hq, hx⟩ := hg
    obtain ⟨its, rv, p, hz⟩ := I.tuple hq
    obtain ⟨u, hu, ru⟩ := rv.get hx
    have hel : e < s.heap.objs.size := Heap.lt_size he
    have hil : it < s.heap.objs.size := by obtain ⟨_, q, _⟩ := hit; exact Heap.lt_size q
    have hlt : i < its.toArray.size := by
      have := (List.getElem?_eq_some_iff.mp hu).1
      simpa using this
    refine wpAny_pyNext_enum_itemD (PySem.Draws.tuple (A := X.A.in1) (I.ok.hd hc) it a hai its.toArray) he ⟨hit, p⟩ hlt hne (by simp [hne, Ne.symm hae]) fun x' h' tk hx' ho hit' hT hsz hk => ?_
    have ex : x' = u := by
      have h1 : its[i]? = some x' := by simpa using hx'
      rw [hu] at h1
      exact (Option.some.inj h1).symm
    subst ex
    refine ⟨_, rfl, wpAny_letOwnedTupleGo_enum (s := { s with heap := h', toks := tk + 1 }) ho fun h'' he' sb => ?_⟩
    have hT2 : h''.get? s.heap.objs.size = some { cls := .type "tuple", data := .seq #[.int i tk, x'] } := (sb.2 _ (Nat.ne_of_gt hel)).trans hT
    have new : ObjOk X.prog X.w (upd H s.heap.objs.size (.tup [.int (i : Nat), x])) h'' s.heap.objs.size (.tup [.int (i : Nat), x]) :=
      ⟨by show 2 ≤ sizeLine; decide, [.int i tk, x'], .cons ⟨_, rfl⟩ (.cons ru .nil), ⟨_, hT2, rfl, _, rfl⟩⟩
    have I1 : Inv X pins σ (upd H s.heap.objs.size (.tup [.int (i : Nat), x])) { s with heap := h'', toks := tk + 1 } :=
      I.turnedNew (ch := [e, it]) (fun b ob hb q => (sb.2 b (fun z => hb (by simp [z]))).trans (hk b ob (fun z => hb (by simp [z])) (fun z => hb (by simp [z])) q)) hf (Nat.le_refl _) new
    refine ⟨.ref s.heap.objs.size, _, I1, rfl, ⟨_, x, rfl, I.hok.fresh (Nat.le_refl _), rfl, fun ys hy => by rw [I.tuple_inj hy hq]; exact hx⟩, ⟨⟨x', ?_⟩, hit'.1.at fun o q => (sb.2 it (Ne.symm hne)).trans q, hne⟩, fun b hb => ?_⟩
    · have e1 : ((i + 1 : Nat) : Int) = (i : Int) + 1 := by omega
      rw [e1]; exact he'
    · have hb' : b < s.heap.objs.size := by
        have e' : b = e ∨ b = it := by simpa using hb
        rcases e' with z | z
        · rw [z]; exact hel
        · rw [z]; exact hil
      rw [upd_ne (Nat.ne_of_lt hb')]
      exact (hf b hb).1
  done := by
    intro X hP hw hK hc i pins s σ H E I hf st hg
    subst hP hw hK
    obtain ⟨⟨old, he⟩, hit, hne⟩ := st
    obtain ⟨xs, hq, hx⟩ := hg
    obtain ⟨its, rv, p, hz⟩ := I.tuple hq
    obtain ⟨f0, f1, f2, f3, f4, f5⟩ := hf it (by simp)
    have hl := rv.length
    have hn : its.toArray.size = i := by simp; omega
    refine wpAny_pyNext_enum_endD (PySem.Draws.tuple (A := X.A.in1) (I.ok.hd hc) it a hai its.toArray) he ⟨by rw [hn]; exact hit, p⟩ fun h' eb => ⟨rfl, I.turned (t' := s.toks) (fun b o hb q => eb b o hb q) f0 f1 f3 f4 f5⟩
  self := fun A i s Q E st h => let ⟨⟨_, he⟩, _⟩ := st; wpAny_pyIter_enum he h
def iEnumT (K : PySem.W.Frag) (ta : TA) : TI := fun σ H R => ta σ H fun vs H1 => ∃ a xs, vs = [.ref a] ∧ SqT K H1 a xs ∧ R (IteT K a) H1
theorem pi_enumT {X : Cx} {e : Expr} {ta : TA} {p pos tpos : Pos} {elts : List Expr} {kk : Nat} (hg : Gl X "enumerate") (hm : X.mg "enumerate" = none) (ha : PA X [e] ta) (hs : starEach [e] X.env = [(false, eval e X.env)] := by rfl) :
    PI X (.Tuple elts kk tpos) (.Call (.Name "enumerate" p) [e] [] pos) (iEnumT X.K ta) := by
  refine ⟨fun pins s σ H R I h => ?_⟩
  refine Call_ (ld_blt I hg hm boot_enumerate (PyProof.Rows.callWith_type1 (thn (ha.run pos pins s σ H _ I h) fun us s1 ⟨vs, H1, I1, r1, q1⟩ => ?_) hs rfl))
  obtain ⟨a, xs, ex, hq, q⟩ := q1
  subst ex
  cases r1 with
  | cons r rr =>
    cases rr
    cases r
    obtain ⟨its, rv, p', hz⟩ := I1.tuple hq
    have hal : a < s1.heap.objs.size := by obtain ⟨_, q, _⟩ := p'; exact Heap.lt_size q
    refine call_enumB (begins_tuple a its.toArray) p' fun h' he hit hsz hk => wpAny_pyIter_enum he ?_
    have I2 : Inv X pins σ H1 { s1 with heap := h' } := I1.kept (t' := s1.toks) hk
    refine ⟨s1.heap.objs.size + 1, [s1.heap.objs.size + 1, s1.heap.objs.size], _, _, H1, rfl, I2, turn_enumT a (s1.heap.objs.size + 1) s1.heap.objs.size (Nat.ne_of_lt (Nat.lt_succ_of_lt hal)) (Nat.ne_of_lt hal), ⟨⟨.none, he⟩, ⟨_, hit, rfl, rfl⟩, Nat.succ_ne_self _⟩, fun b hb => ?_, q⟩
    have e' : b = s1.heap.objs.size + 1 ∨ b = s1.heap.objs.size := by simpa using hb
    have hle : s1.heap.objs.size ≤ b := by
      rcases e' with z | z
      · rw [z]; exact Nat.le_add_right _ _
      · rw [z]; exact Nat.le_refl _
    exact I1.fpOk hle (I1.hok.fresh hle)

/-! ### ... as items -/
def enumL (xs : List D) : List A := xs.zipIdx.map fun p => .d (.tup [.int (p.2 : Nat), p.1])
def enA : A → Option (List A)
  | .d (.tup xs) => some (enumL xs)
  | .ls xs => some (enumL xs)
  | _ => none
def mEnum (m : SM R) : SM (List A) := bnd m fun r => bnd (use r) fun p sa => (enA p.2).map fun its => (its, sa)
section
variable {K : PySem.W.Frag} {H : Hp} {o : List Addr}
theorem enumL_len {xs : List D} : (enumL xs).length = xs.length := by simp [enumL]
theorem enumL_get {xs : List D} {i : Nat} {a : A} (e : (enumL xs)[i]? = some a) : ∃ d, xs[i]? = some d ∧ a = .d (.tup [.int (i : Nat), d]) := by
  unfold enumL at e
  rw [List.getElem?_map, List.getElem?_zipIdx] at e
  cases e1 : xs[i]? with
  | none => rw [e1] at e; cases e
  | some d =>
    rw [e1] at e
    simp at e
    exact ⟨d, rfl, e.symm⟩
theorem repS_pair {T : Addr} {x : V} {d : D} {i : Nat} (hT : H T = none) (r : RepD K H d x) (o1 : List Addr) : RepS K (upd H T (.tup [.int (i : Nat), x])) o1 (.d (.tup [.int (i : Nat), d])) (.ref T) := by
  refine RepS.d ?_
  unfold RepD
  refine ⟨T, [.int (i : Nat), x], rfl, .inl (.inl upd_same), ?_⟩
  have r' : RepD K (upd H T (.tup [.int (i : Nat), x])) d x := r.mono fun b u e _ => by rw [upd_ne (ne_of_none e hT)]; exact e
  unfold RepDs
  refine ⟨_, _, rfl, by unfold RepD; rfl, ?_⟩
  unfold RepDs
  exact ⟨_, _, rfl, r', by unfold RepDs; rfl⟩
theorem wk_enT {a : Addr} {ys : List V} {xs : List D} {T : Tmp} {sa : List Slot} {σ : L2.St} (S : SRel K o T sa σ H) (s : SqT K H a ys) (r : RepDs K H xs ys) : Wk K o H (IteT K a) (enumL xs) := fun o1 H1 L => by
  have s1 : SqT K H1 a ys := sqT_mono (S.imm L) s
  have r1 : RepDs K H1 xs ys := r.mono (S.imm L)
  refine ⟨⟨ys, s1, by rw [enumL_len, r.len]⟩, fun i a e => ?_⟩
  obtain ⟨d, e1, rfl⟩ := enumL_get e
  obtain ⟨y, ey, ry⟩ := r1.get e1
  refine ⟨⟨ys, y, s1, ey⟩, ?_⟩
  rintro x H2 ⟨T, z, rfl, hT, rfl, hz⟩
  have := hz ys s1
  rw [ey] at this
  cases this
  exact ⟨fun b u e => by rw [upd_ne (ne_of_none e hT)]; exact e, repS_pair hT ry o1⟩
theorem wk_enL {a : Addr} {ys : List V} {xs : List D} {T : Tmp} {sa : List Slot} {σ : L2.St} (S : SRel K o T sa σ H) (s : H a = some (.lst ys)) (na : a ∉ o) (r : RepDs K H xs ys) : Wk K o H (Ite K a) (enumL xs) := fun o1 H1 L => by
  have s1 : SqL K H1 a ys := .of (L a _ s na).1
  have r1 : RepDs K H1 xs ys := r.mono (S.imm L)
  refine ⟨⟨ys, s1, by rw [enumL_len, r.len]; exact Nat.le_refl _⟩, fun i a e => ?_⟩
  obtain ⟨d, e1, rfl⟩ := enumL_get e
  obtain ⟨y, ey, ry⟩ := r1.get e1
  refine ⟨⟨ys, y, s1, ey⟩, ?_⟩
  rintro x H2 ⟨T, z, rfl, hT, rfl, hz⟩
  have := hz ys s1
  rw [ey] at this
  cases this
  exact ⟨fun b u e => by rw [upd_ne (ne_of_none e hT)]; exact e, repS_pair hT ry o1⟩
end
section
variable {X : Cx} {e : Expr} {m : SM R} {p pos tpos : Pos} {elts : List Expr} {kk : Nat}
theorem pmi_enum (hg : Gl X "enumerate") (hm : X.mg "enumerate" = none) (he : PM X e m) (hs : starEach [e] X.env = [(false, eval e X.env)] := by rfl) : PMI X (.Tuple elts kk tpos) (.Call (.Name "enumerate" p) [e] [] pos) (mEnum m) :=
  PI.weak (PI.or (pi_enum hg hm (pa_cons he pa_nil hs) hs) (pi_enumT hg hm (pa_cons he pa_nil hs) hs)) fun σ H R h => by
  obtain ⟨o, T, sa, its, sa', e, S, q⟩ := h
  obtain ⟨r, s1, e1, e2⟩ := bnd_some e
  obtain ⟨⟨fl, a⟩, s2, e2, e3⟩ := bnd_some e2
  cases ei : enA a with
  | none => rw [ei] at e3; cases e3
  | some its' =>
    rw [ei] at e3
    cases e3
    have key : ∀ o1 v H1, SRel X.K o1 (pushT r v T) s1 σ H1 → RR X.K H1 o1 σ r v → ∃ o2, SRel X.K o2 T sa' σ H1 ∧ Le o1 H1 o2 H1 ∧ RepS X.K H1 o2 a v := fun o1 v H1 S1 R1 => by
      obtain ⟨o2, S2, L2, R2, _⟩ := bnd_use S1 R1 e2
      cases fl with
      | false => exact ⟨o2, S2, L2, R2⟩
      | true =>
        obtain ⟨f, o3, rfl, ra, S3⟩ := SRel.top S2
        exact ⟨o3, S3, L2.trans Le.drop, f, ra, fun b hb z => (List.nodup_append.mp S2.nd).2.2 b hb b z rfl⟩
    cases a with
    | d x =>
      cases x with
      | tup xs =>
        cases ei
        refine .inr ⟨o, T, sa, r, s1, e1, S, fun o1 v H1 L1 S1 R1 => ?_⟩
        obtain ⟨o2, S2, L2, fp, ra, nf⟩ := key o1 v H1 S1 R1
        obtain ⟨p, ys, rfl, s, rs⟩ := tup_of ra
        exact ⟨p, ys, rfl, s, q o2 H1 _ (L1.trans L2) S2 (wk_enT S2 s rs)⟩
      | _ => cases ei
    | ls xs =>
      cases ei
      refine .inl ⟨o, T, sa, r, s1, e1, S, fun o1 v H1 L1 S1 R1 => ?_⟩
      obtain ⟨o2, S2, L2, fp, ra, nf⟩ := key o1 v H1 S1 R1
      obtain ⟨p, ys, rfl, s, rs, rfl⟩ := ls_of ra
      exact ⟨p, ys, rfl, .of s, q o2 H1 _ (L1.trans L2) S2 (wk_enL S2 s (nf p (by simp)) rs)⟩
    | lst xs => cases ei
    | tpl xs => cases ei
    | dd xs => cases ei
end

/-! ### nothing promised -/
section
variable {P : Program} {w : World} {K : PySem.W.Frag} {mg : Str → Option Value} {base : Heap}
theorem ok_noneF {k n : Nat} {f : Addr} {fd : FuncData} {ps : List Str} : FnOk P w K mg base CX0 k f fd ps (spF K n fun _ => none) :=
  ⟨fun vs H Q E h => (by obtain ⟨as, fp, c, _, _, e, _⟩ := h; cases e), fun A outer s H args us vs Q E _ _ _ _ h => by obtain ⟨as, fp, c, _, _, e, _⟩ := h; cases e⟩
theorem ok_noneB {k n : Nat} {f : Addr} {fd : FuncData} {ps : List Str} : FnOk P w K mg base CX0 k f fd ps (spB K n fun _ _ => none) :=
  ⟨fun vs H Q E h => (by obtain ⟨b, v0, xs, vr, fb, c, b', _, _, _, _, _, e, _⟩ := h; cases e), fun A outer s H args us vs Q E _ _ _ _ h => by obtain ⟨b, v0, xs, vr, fb, c, b', _, _, _, _, _, e, _⟩ := h; cases e⟩
end
end MM
namespace MM
open PySem PySem.Spec PyProof.Rows L2

/-! ### sorted(list of data) -/
def pdOf (x : D) : PyData := (toPD x).getD .none
def isTup1 : PyData → Bool
  | .tuple (_ :: _) => true
  | _ => false
def isOther : PyData → Bool
  | .none => false
  | .tuple _ => false
  | _ => true
def sortOk (xs : List D) : Bool := xs.all (fun x => (toPD x).isSome && decide ((pdOf x).depth ≤ 60)) && xs.all (fun x => xs.all fun y => PySem.W.alike (pdOf x) (pdOf y)) &&
  (xs.all (fun x => isTup1 (pdOf x)) || xs.all (fun x => isOther (pdOf x)))
def sortL (xs : List D) : List D := xs.mergeSort (PySem.W.dataLe false pdOf)
def sortA : A → Option A
  | .ls xs => if sortOk xs then some (.ls (sortL xs)) else none
  | _ => none
def rSortA (K : PySem.W.Frag) : List V → Hp → VK → Prop := fun vs H Q => ∃ a xs ys, vs = [.ref a] ∧ SqL K H a ys ∧ RepDs K H xs ys ∧ sortOk xs = true ∧ ∀ zs p, RepDs K H (sortL xs) zs → H p = none → Q (.ref p) (upd H p (.lst zs))
theorem repDs_zip {K : PySem.W.Frag} {H : Hp} : ∀ {xs : List D} {ys : List V}, RepDs K H xs ys → ∀ p ∈ ys.zip xs, RepD K H p.2 p.1
  | [], ys, h, p, hp => by simp at hp
  | x :: xs, ys, h, p, hp => by
    unfold RepDs at h
    obtain ⟨y, r, rfl, h1, h2⟩ := h
    rcases List.mem_cons.mp hp with rfl | hp
    · exact h1
    · exact repDs_zip h2 p hp
theorem repDs_of {K : PySem.W.Frag} {H : Hp} : ∀ {l : List (V × D)}, (∀ p ∈ l, RepD K H p.2 p.1) → RepDs K H (l.map (·.2)) (l.map (·.1))
  | [], h => by unfold RepDs; rfl
  | p :: l, h => by
    show RepDs K H (p.2 :: l.map (·.2)) (p.1 :: l.map (·.1))
    unfold RepDs
    exact ⟨_, _, rfl, h p List.mem_cons_self, repDs_of fun q hq => h q (List.mem_cons_of_mem _ hq)⟩
theorem call_sortA {X : Cx} (hu : X.A.units + 65 < cLine) : CallR X (.builtin "sorted") (rSortA X.K) := by
  intro pins s σ H vs us Q I r h
  obtain ⟨a, xs, ys, rfl, hs, rd, ok, q⟩ := h
  obtain ⟨its, rv, hl, hz⟩ := I.list hs
  rw [Vals.ref1 r]
  unfold sortOk at ok
  simp only [Bool.and_eq_true, Bool.or_eq_true, List.all_eq_true, decide_eq_true_eq] at ok
  obtain ⟨⟨ok1, ok2⟩, ok3⟩ := ok
  have hlen := rd.len
  -- the pairs
  have e0 : PySem.W.EachIs (fun (v : Value) (b : V × D) => RelV b.1 v ∧ RepD X.K H b.2 b.1 ∧ b.2 ∈ xs) its (ys.zip xs) := by
    have gen : ∀ (xs' : List D) (ys : List V) (its : List Value), (∀ x ∈ xs', x ∈ xs) → RepDs X.K H xs' ys → Vals ys its → PySem.W.EachIs (fun (v : Value) (b : V × D) => RelV b.1 v ∧ RepD X.K H b.2 b.1 ∧ b.2 ∈ xs) its (ys.zip xs') := by
      intro xs'
      induction xs' with
      | nil =>
        intro ys its _ h1 h2
        unfold RepDs at h1
        subst h1
        cases h2
        exact .nil
      | cons x xs' ih =>
        intro ys its hm h1 h2
        unfold RepDs at h1
        obtain ⟨y, r, rfl, h3, h4⟩ := h1
        cases h2 with
        | cons h5 h6 => exact .cons ⟨h5, h3, hm x List.mem_cons_self⟩ (ih _ _ (fun z hz => hm z (List.mem_cons_of_mem _ hz)) h4 h6)
    exact gen xs ys its (fun _ h => h) rd rv
  have e1 : PySem.W.EachIs (fun (v : Value) (b : V × D) => ∃ as, Reads s.heap v (pdOf b.2) as) its (ys.zip xs) := e0.mono fun v b ⟨h1, h2, h3⟩ => by
    obtain ⟨z, hz'⟩ := Option.isSome_iff_exists.mp (ok1 _ h3).1
    have : pdOf b.2 = z := by unfold pdOf; rw [hz']; rfl
    rw [this]
    exact Dp.reads I z b.1 v (RepD.dp h2 hz') h1
  have hm2 : (ys.zip xs).map (fun b => pdOf b.2) = xs.map pdOf := by
    rw [show (fun b : V × D => pdOf b.2) = pdOf ∘ (fun b => b.2) from rfl, ← List.map_map]
    congr 1
    exact List.map_snd_zip (by omega)
  have hal : PySem.W.AllAlike ((ys.zip xs).map fun b => pdOf b.2) := by
    rw [hm2]
    intro d hd d' hd'
    obtain ⟨x, hx, rfl⟩ := List.mem_map.mp hd
    obtain ⟨x', hx', rfl⟩ := List.mem_map.mp hd'
    exact ok2 x hx x' hx'
  have hk : PySem.W.Sortable ((ys.zip xs).map fun b => pdOf b.2) := by
    rw [hm2]
    rcases ok3 with ok3 | ok3
    · refine .inl fun d hd => ?_
      obtain ⟨x, hx, rfl⟩ := List.mem_map.mp hd
      have := ok3 x hx
      unfold isTup1 at this
      split at this
      · rename_i a b c
        exact ⟨a, b, c⟩
      · cases this
    · refine .inr fun d hd => ?_
      obtain ⟨x, hx, rfl⟩ := List.mem_map.mp hd
      have := ok3 x hx
      refine ⟨fun z => ?_, fun ws z => ?_⟩
      · rw [z] at this; cases this
      · rw [z] at this; cases this
  have hL : (ys.zip xs).length ≤ sizeLine := by rw [List.length_zip]; omega
  have hdu : ∀ b, b ∈ ys.zip xs → X.A.units + 2 + (pdOf b.2).depth < cLine := fun b hb => by
    have hx : b.2 ∈ xs := (List.of_mem_zip hb).2
    have := (ok1 _ hx).2
    omega
  refine PySem.W.sorted_data (s := s) (R := fun (v : Value) (b : V × D) => RelV b.1 v ∧ RepD X.K H b.2 b.1 ∧ b.2 ∈ xs) (enc := fun b => pdOf b.2) hl.isList e0 e1 hal hk hL hdu fun out hlo eo => ?_
  generalize hbs : (ys.zip xs).mergeSort (PySem.W.dataLe false fun b => pdOf b.2) = bs at eo
  have hsnd : bs.map (·.2) = sortL xs := by
    rw [← hbs]
    unfold sortL
    refine (PySem.W.sort_maps (r := PySem.W.dataLe false fun b : V × D => pdOf b.2) (s := PySem.W.dataLe false pdOf) (fun b => b.2) (fun a _ b _ => rfl)).trans ?_
    congr 1
    exact List.map_snd_zip (by omega)
  have hlb : bs.length ≤ sizeLine := by rw [← hbs, List.length_mergeSort]; exact hL
  have rz : RepDs X.K H (sortL xs) (bs.map (·.1)) := by
    rw [← hsnd]
    refine repDs_of fun p hp => ?_
    rw [← hbs] at hp
    exact repDs_zip rd p ((List.mergeSort_perm _ _).mem_iff.mp hp)
  have vz : Vals (bs.map (·.1)) out := by
    have gen : ∀ (bs : List (V × D)) (out : List Value), PySem.W.EachIs (fun (v : Value) (b : V × D) => RelV b.1 v ∧ RepD X.K H b.2 b.1 ∧ b.2 ∈ xs) out bs → Vals (bs.map (·.1)) out := by
      intro bs
      induction bs with
      | nil => intro out h; cases h; exact .nil
      | cons b bs ih =>
        intro out h
        cases h with
        | cons h1 h2 => exact .cons h1.1 (ih _ h2)
    exact gen bs out eo
  obtain ⟨ep, he'⟩ := PyProof.Rows.sortedAll_at s.heap its out.toArray
  exact ⟨.ref _, upd H (s.heap.objs.size + 1) (.lst (bs.map (·.1))), I.laid (t' := s.toks) (fun _ _ => PyProof.Rows.sortedAll_old) (Nat.le_succ _) ⟨by rw [List.length_map]; exact hlb, out, ep, vz, he'⟩, rfl, q _ _ rz (I.hok.fresh (Nat.le_succ _))⟩
theorem pr_sort {K : PySem.W.Frag} : PrN K (rSortA K) (f1 sortA) := prN1 fun H a x fa c Q r e q => by
  unfold sortA at e
  split at e
  · rename_i xs
    split at e
    · rename_i ok
      cases e
      obtain ⟨p, ys, rfl, s, rs, _⟩ := ls_of r
      exact ⟨p, xs, ys, rfl, .of s, rs, ok, fun zs l rz hl => q _ _ [l] (Fresh.one hl) (rep_ls rz hl)⟩
    · cases e
  · cases e
end MM
namespace MM
open PySem PySem.Spec PyProof.Rows L2

/-! ### comprehensions with two clauses -/
def compL2 (ws ws1 : List Nat) (t : Tg) (tt : SM Bool) (wi1 : SM (List A)) (t1 : Tg) (tt1 : SM Bool) (te : SM R) : List A → A → SM A
  | [], l => ret l
  | a :: r, l => fun sa => match putI t a sa with
    | some s1 => match tt s1 with
      | some (true, s2) => match wi1 s2 with
        | some (its1, s3) => match compL ws1 t1 tt1 te its1 l (wipeA ws1 s3) with
          | some (l', s4) => compL2 ws ws1 t tt wi1 t1 tt1 te r l' (wipeA ws s4)
          | none => none
        | none => none
      | some (false, s2) => compL2 ws ws1 t tt wi1 t1 tt1 te r l (wipeA ws s2)
      | none => none
    | none => none
def mComp2 (ws ws1 : List Nat) (mi : SM (List A)) (t : Tg) (tt : SM Bool) (wi1 : SM (List A)) (t1 : Tg) (tt1 : SM Bool) (te : SM R) : SM R := fun sa => match mi sa with
  | some (its, s1) => match compL2 ws ws1 t tt wi1 t1 tt1 te its (.ls []) (wipeA ws s1) with
    | some (l, s2) => some (fin l, restA ws s1 s2)
    | none => none
  | none => none
theorem compL_nd {ws : List Nat} {t : Tg} {tt : SM Bool} {te : SM R} : ∀ {its : List A} {l lf : A} {s sf : List Slot}, compL ws t tt te its l s = some (lf, sf) → (∀ z, l ≠ .d z) → ∀ z, lf ≠ .d z := by
  intro its
  induction its with
  | nil => intro l lf s sf e h; cases e; exact h
  | cons a r ih =>
    intro l lf s sf e h
    unfold compL at e
    split at e
    · split at e
      · split at e
        · split at e
          · split at e
            · rename_i l' el
              refine ih e fun z hz => ?_
              subst hz
              unfold appA at el
              split at el <;> (try split at el) <;> cases el
            · cases e
          · cases e
        · cases e
      · exact ih e h
      · cases e
    · cases e
theorem compL2_nd {ws ws1 : List Nat} {t t1 : Tg} {tt tt1 : SM Bool} {wi1 : SM (List A)} {te : SM R} : ∀ {its : List A} {l lf : A} {s sf : List Slot}, compL2 ws ws1 t tt wi1 t1 tt1 te its l s = some (lf, sf) → (∀ z, l ≠ .d z) → ∀ z, lf ≠ .d z := by
  intro its
  induction its with
  | nil => intro l lf s sf e h; cases e; exact h
  | cons a r ih =>
    intro l lf s sf e h
    unfold compL2 at e
    split at e
    · split at e
      · split at e
        · split at e
          · rename_i l' s4 el
            exact ih e (compL_nd el h)
          · cases e
        · cases e
      · exact ih e h
      · cases e
    · cases e
section
variable {K : PySem.W.Frag}
/-- one turn of a comprehension's loop -/
theorem lc_turn {t : Tg} {tt : SM Bool} {te : SM R} {ws : List Nat} (hws : ∀ i ∈ t.slots, i ∈ ws) {σ0 : L2.St} {H4 H5 : Hp} {o4 : List Addr} {l : A} {s4 : List Slot} {D : Addr} {T : Tmp} {a : A} {r : List A} {res : A × List Slot} {n : Nat} {x : V}
    (S4 : SRel K o4 ((l, .ref D) :: T) s4 σ0 H4) (hw0 : wipe σ0 ws = σ0) (len4 : s4.length = n) (e4 : compL ws t tt te (a :: r) l s4 = some res) (same : ∀ b u, H4 b = some u → H5 b = some u) (rx : RepS K H5 o4 a x) :
    t.rd K x σ0 H5 fun σ2 H2 => wipe σ2 ws = σ0 ∧ tOfT K tt σ2 H2 fun b H3 => if b = true then tOf K te σ2 H3 fun y H7 => ∃ acc, H7 D = some (.lst acc) ∧ acc.length < sizeLine ∧
        (∃ o6 s6 l6, Le o4 H4 o6 (upd H7 D (.lst (acc ++ [y]))) ∧ SRel K o6 ((l6, .ref D) :: T) s6 σ0 (upd H7 D (.lst (acc ++ [y]))) ∧ s6.length = n ∧ (∀ i ∈ ws, i < s6.length → s6[i]? = some none) ∧ compL ws t tt te r l6 s6 = some res)
      else (∃ o6 s6 l6, Le o4 H4 o6 H3 ∧ SRel K o6 ((l6, .ref D) :: T) s6 σ0 H3 ∧ s6.length = n ∧ (∀ i ∈ ws, i < s6.length → s6[i]? = some none) ∧ compL ws t tt te r l6 s6 = some res) := by
  unfold compL at e4
  split at e4
  · rename_i s5 e5
    obtain ⟨S5, L5⟩ := SRel.yld S4 same
    refine putI_ok S5 rx e5 fun o6 σ6 a6 L6 S6 => ?_
    have hw6 : wipe σ6 ws = σ0 := by
      rw [wipe_setAt a6 hws]
      exact hw0
    have back : ∀ {o9 : List Addr} {s9 : List Slot} {H9 : Hp} {l9 : A}, SRel K o9 ((l9, .ref D) :: T) s9 σ6 H9 → ∃ o10, SRel K o10 ((l9, .ref D) :: T) (wipeA ws s9) σ0 H9 ∧ Le o9 H9 o10 H9 ∧ (wipeA ws s9).length = n ∧ (∀ i ∈ ws, i < (wipeA ws s9).length → (wipeA ws s9)[i]? = some none) := fun {o9 s9 H9 l9} S9 => by
      obtain ⟨o10, S10, sub10⟩ := SRel.wipedS (ws := ws) S9
      rw [hw6] at S10
      refine ⟨o10, S10, Le.sub sub10, ?_, fun i hi hl => wipeA_in hi (by rw [wipeA_len] at hl; exact hl)⟩
      rw [S10.len, ← len4, S4.len]
    refine ⟨hw6, ?_⟩
    split at e4
    · rename_i s7 e7
      refine ⟨o6, _, s5, true, s7, e7, S6, fun o7 H7 L7 S7 => ?_⟩
      refine iteT ?_
      split at e4
      · rename_i r8 s8 e8
        split at e4
        · rename_i y8 ey
          split at e4
          · rename_i l8 el
            refine ⟨o7, _, s7, r8, s8, e8, S7, fun o8 v8 H8 L8 S8 R8 => ?_⟩
            obtain ⟨f8, o9, ra, S9, rfl⟩ := od_one S8 R8 ey
            obtain ⟨acc, o10, hD8, hz, S10, L10⟩ := SRel.grow S9 ra S8.nd el S8.sl
            obtain ⟨o11, S11, L11, z1, z2⟩ := back S10
            exact ⟨acc, hD8, hz, o11, _, l8, ((((L5.trans L6).trans L7).trans L8).trans L10).trans L11, S11, z1, z2, e4⟩
          · cases e4
        · cases e4
      · cases e4
    · rename_i s7 e7
      refine ⟨o6, _, s5, false, s7, e7, S6, fun o7 H7 L7 S7 => ?_⟩
      refine iteF ?_
      obtain ⟨o11, S11, L11, z1, z2⟩ := back S7
      exact ⟨o11, _, l, ((L5.trans L6).trans L7).trans L11, S11, z1, z2, e4⟩
    · cases e4
  · cases e4
end
section
variable {X : Cx}
theorem wipe_idem {σ : L2.St} {ws : List Nat} : wipe (wipe σ ws) ws = wipe σ ws := wipe_setAt ⟨(wipe_length σ ws), fun i hi => wipe_out hi⟩ (fun i hi => hi)
theorem wipe_sub {σ : L2.St} {ws ws1 : List Nat} (h : ∀ i ∈ ws1, i ∈ ws) : wipe (wipe σ ws1) ws = wipe σ ws := wipe_setAt (is := ws1) ⟨(wipe_length σ ws1), fun i hi => wipe_out hi⟩ h
theorem lc2_ok {wi wi1 : SM (List A)} {t t1 : Tg} {tt tt1 : SM Bool} {te : SM R} {ws ws1 : List Nat} (hws : ∀ i ∈ t.slots, i ∈ ws) (hws1 : ∀ i ∈ t1.slots, i ∈ ws1) (hsub : ∀ i ∈ ws1, i ∈ ws) {σ : L2.St} {H : Hp} {Q : VK} (h : tOf X.K (mComp2 ws ws1 wi t tt wi1 t1 tt1 te) σ H Q) :
    tLc2 (tOfI X.K wi) (t.rd X.K) (tOfT X.K tt) (tOfI X.K wi1) (t1.rd X.K) (tOfT X.K tt1) (tOf X.K te) ws ws1 σ H Q := by
  obtain ⟨o, T, sa, r, sa', e, S, q⟩ := h
  unfold mComp2 at e
  split at e
  · rename_i its s1 ei
    split at e
    · rename_i lf sf ec
      cases e
      refine ⟨o, T, sa, its, s1, ei, S, fun o1 H1 J L1 S1 W D hD => ?_⟩
      obtain ⟨o2, S2, sub2⟩ := SRel.wipedS (ws := ws) S1
      obtain ⟨S3, L3⟩ := SRel.newL S2 hD
      have L13 : Le o1 H1 ([D] ++ o2) (upd H1 D (.lst [])) := (Le.sub sub2).trans L3
      refine ⟨fun i m H => m = its.length - i ∧ i ≤ its.length ∧ ∃ o4 s4 l, Le o1 H1 o4 H ∧ SRel X.K o4 ((l, .ref D) :: T) s4 (wipe σ ws) H ∧ s4.length = s1.length ∧ (∀ i ∈ ws, i < s4.length → s4[i]? = some none) ∧ compL2 ws ws1 t tt wi1 t1 tt1 te (its.drop i) l s4 = some (lf, sf),
        ⟨its.length, by simp, Nat.zero_le _, _, _, .ls [], L13, S3, wipeA_len, fun i hi hl => wipeA_in hi (by rw [wipeA_len] at hl; exact hl), ec⟩, ?_⟩
      rintro i m H4 ⟨rfl, hi, o4, s4, l, L4, S4, len4, none4, e4⟩
      obtain ⟨w1, w2⟩ := W o4 H4 L4
      by_cases hlt : i < its.length
      · have ea : its[i]? = some its[i] := List.getElem?_eq_getElem hlt
        obtain ⟨go, yl⟩ := w2 i _ ea
        have ed : its.drop i = its[i] :: its.drop (i + 1) := List.drop_eq_getElem_cons hlt
        rw [ed] at e4
        unfold compL2 at e4
        split at e4
        · rename_i s5 e5
          refine .inr ⟨go, fun H' => ∃ o6 s6 l6, Le o4 H4 o6 H' ∧ SRel X.K o6 ((l6, .ref D) :: T) s6 (wipe σ ws) H' ∧ s6.length = s1.length ∧ (∀ i ∈ ws, i < s6.length → s6[i]? = some none) ∧ compL2 ws ws1 t tt wi1 t1 tt1 te (its.drop (i + 1)) l6 s6 = some (lf, sf),
            fun H' ⟨o6, s6, l6, L6, S6, z1, z2, z3⟩ => ⟨_, by omega, rfl, hlt, o6, s6, l6, L4.trans L6, S6, z1, z2, z3⟩, fun x H5 y => ?_⟩
          obtain ⟨same, rx⟩ := yl x H5 y
          obtain ⟨S5, L5⟩ := SRel.yld S4 same
          refine putI_ok S5 rx e5 fun o6 σ6 a6 L6 S6 => ?_
          have hw6 : wipe σ6 ws = wipe σ ws := by
            rw [wipe_setAt a6 hws]
            exact wipe_idem
          have back : ∀ {o9 : List Addr} {s9 : List Slot} {H9 : Hp} {l9 : A} {σ9 : L2.St}, wipe σ9 ws = wipe σ ws → SRel X.K o9 ((l9, .ref D) :: T) s9 σ9 H9 → ∃ o10, SRel X.K o10 ((l9, .ref D) :: T) (wipeA ws s9) (wipe σ ws) H9 ∧ Le o9 H9 o10 H9 ∧ (wipeA ws s9).length = s1.length ∧ (∀ i ∈ ws, i < (wipeA ws s9).length → (wipeA ws s9)[i]? = some none) := fun {o9 s9 H9 l9 σ9} hw9 S9 => by
            obtain ⟨o10, S10, sub10⟩ := SRel.wipedS (ws := ws) S9
            rw [hw9] at S10
            refine ⟨o10, S10, Le.sub sub10, ?_, fun i hi hl => wipeA_in hi (by rw [wipeA_len] at hl; exact hl)⟩
            rw [S10.len, wipe_length, ← S1.len]
          refine ⟨hw6, ?_⟩
          split at e4
          · rename_i s7 e7
            refine ⟨o6, _, s5, true, s7, e7, S6, fun o7 H7 L7 S7 => ?_⟩
            refine iteT ?_
            split at e4
            · rename_i its1 s8 e8
              split at e4
              · rename_i l9 s9 e9
                refine ⟨o7, _, s7, its1, s8, e8, S7, fun o8 H8 J1 L8 S8 W1 => ?_⟩
                obtain ⟨oa, Sa, suba⟩ := SRel.wipedS (ws := ws1) S8
                have La : Le o8 H8 oa H8 := Le.sub suba
                have hw1 : wipe (wipe σ6 ws1) ws = wipe σ ws := (wipe_sub hsub).trans hw6
                refine ⟨fun j k H => k = its1.length - j ∧ j ≤ its1.length ∧ ∃ ob sb l, Le o8 H8 ob H ∧ SRel X.K ob ((l, .ref D) :: T) sb (wipe σ6 ws1) H ∧ compL ws1 t1 tt1 te (its1.drop j) l sb = some (l9, s9),
                  ⟨its1.length, by simp, Nat.zero_le _, _, _, l, La, Sa, e9⟩, ?_⟩
                rintro j k Hb ⟨rfl, hj, ob, sb, lb, Lb, Sb, eb⟩
                obtain ⟨v1, v2⟩ := W1 ob Hb Lb
                by_cases hlt1 : j < its1.length
                · have ea1 : its1[j]? = some its1[j] := List.getElem?_eq_getElem hlt1
                  obtain ⟨go1, yl1⟩ := v2 j _ ea1
                  have ed1 : its1.drop j = its1[j] :: its1.drop (j + 1) := List.drop_eq_getElem_cons hlt1
                  rw [ed1] at eb
                  refine .inr ⟨go1, fun H' => ∃ o6 s6 l6, Le ob Hb o6 H' ∧ SRel X.K o6 ((l6, .ref D) :: T) s6 (wipe σ6 ws1) H' ∧ s6.length = sb.length ∧ (∀ i ∈ ws1, i < s6.length → s6[i]? = some none) ∧ compL ws1 t1 tt1 te (its1.drop (j + 1)) l6 s6 = some (l9, s9),
                    fun H' ⟨o6, s6, l6, L6, S6, z1, z2, z3⟩ => ⟨_, by omega, rfl, hlt1, o6, s6, l6, Lb.trans L6, S6, z3⟩, fun x1 H51 y1 => ?_⟩
                  obtain ⟨same1, rx1⟩ := yl1 x1 H51 y1
                  exact lc_turn hws1 Sb wipe_idem rfl eb same1 rx1
                · have ej : j = its1.length := by omega
                  subst ej
                  rw [List.drop_length] at eb
                  cases eb
                  obtain ⟨oc, Sc, Lc, z1, z2⟩ := back hw1 Sb
                  exact .inl ⟨v1, oc, _, l9, (((((L5.trans L6).trans L7).trans L8).trans Lb)).trans Lc, Sc, z1, z2, e4⟩
              · cases e4
            · cases e4
          · rename_i s7 e7
            refine ⟨o6, _, s5, false, s7, e7, S6, fun o7 H7 L7 S7 => ?_⟩
            refine iteF ?_
            obtain ⟨o11, S11, L11, z1, z2⟩ := back hw6 S7
            exact ⟨o11, _, l, ((L5.trans L6).trans L7).trans L11, S11, z1, z2, e4⟩
          · cases e4
        · cases e4
      · have ei : i = its.length := by omega
        subst ei
        rw [List.drop_length] at e4
        cases e4
        refine .inl ⟨w1, ?_⟩
        have S5 : SRel X.K o4 ((lf, .ref D) :: T) sf σ H4 := S4.back none4 wipe_idem
        obtain ⟨o6, S6, sub6⟩ := SRel.rest (s0 := s1) (by rw [len4]) (fun i fl a e => by
          obtain ⟨w, e1, q⟩ := S1.sl i fl a e
          exact ⟨w, e1, fun z => RepS.mono S1 L4 (q z)⟩) (ws := ws) S5
        cases lf with
        | d z => exact (compL2_nd ec (fun z h => nomatch h) z rfl).elim
        | ls xs => exact q o6 _ H4 ((L1.trans L4).trans (Le.sub sub6)) S6 True.intro
        | lst xs => exact q o6 _ H4 ((L1.trans L4).trans (Le.sub sub6)) S6 True.intro
        | tpl xs => exact q o6 _ H4 ((L1.trans L4).trans (Le.sub sub6)) S6 True.intro
        | dd xs => exact q o6 _ H4 ((L1.trans L4).trans (Le.sub sub6)) S6 True.intro
    · cases e
  · cases e
theorem pm_lc2 {elt tg iter tg1 iter1 : Expr} {ifs ifs1 : List Expr} {scope : Scope} {own : List (Str × Nat)} {ws1 : List Nat} {pos : Pos} {wi wi1 : SM (List A)} {t t1 : Tg} {tt tt1 : SM Bool} {te : SM R} (hc : X.calm = true) (hN : X.N.Nodup) (hi : PMI X tg iter wi) (ok : BlkOk X.N X.env.scope scope own)
    (hws : ∀ i ∈ t.slots, i ∈ own.map (·.2)) (hws1 : ∀ i ∈ t1.slots, i ∈ ws1) (hsub : ∀ i ∈ ws1, i ∈ own.map (·.2))
    (hg : ∀ (s : Shared) (H : Hp) (C : Addr) (cl : List (Str × Addr)) (fp : List Addr), PGM (X.blk s H scope (compEnvC scope cl C X.env) fp) tg t) (ht : ∀ (s : Shared) (H : Hp) (C : Addr) (cl : List (Str × Addr)) (fp : List Addr), PMTs (X.blk s H scope (compEnvC scope cl C X.env) fp) ifs tt)
    (hi1 : ∀ (s : Shared) (H : Hp) (C : Addr) (cl : List (Str × Addr)) (fp : List Addr), PMI (X.blk s H scope (compEnvC scope cl C X.env) fp) tg1 iter1 wi1)
    (hg1 : ∀ (s : Shared) (H : Hp) (C : Addr) (cl : List (Str × Addr)) (fp : List Addr), PGM (X.blk s H scope (compEnvC scope cl C X.env) fp) tg1 t1) (ht1 : ∀ (s : Shared) (H : Hp) (C : Addr) (cl : List (Str × Addr)) (fp : List Addr), PMTs (X.blk s H scope (compEnvC scope cl C X.env) fp) ifs1 tt1)
    (he : ∀ (s : Shared) (H : Hp) (C : Addr) (cl : List (Str × Addr)) (fp : List Addr), PM (X.blk s H scope (compEnvC scope cl C X.env) fp) elt te) (hs : ∀ x, foldedSetIterable iter X.env x = pure x := by intro _; rfl) (hs1 : ∀ env x, foldedSetIterable iter1 env x = pure x := by intro _ _; rfl) :
    PM X (.ListComp elt [⟨tg, iter, ifs, 0⟩, ⟨tg1, iter1, ifs1, 0⟩] scope pos) (mComp2 (own.map (·.2)) ws1 wi t tt wi1 t1 tt1 te) := PE.weak (pe_lc2 (vs1 := ws1) hc hN hi ok hsub hg ht hi1 hg1 ht1 he hs hs1) fun σ H Q h => lc2_ok hws hws1 hsub h
theorem pms_setLc2 {pn i : Nat} {y : Str} {py : Pos} {elt tg iter tg1 iter1 : Expr} {ifs ifs1 : List Expr} {scope : Scope} {own : List (Str × Nat)} {ws1 : List Nat} {pos spos : Pos} {wi wi1 : SM (List A)} {t t1 : Tg} {tt tt1 : SM Bool} {te : SM R} (hpn : pn ≤ i) (hc : X.calm = true) (hN : X.N.Nodup) (hy : X.N[i]? = some y) (hyl : X.env.scope.names.lookup y = some .local)
    (hsw : swapsWith (.ListComp elt [⟨tg, iter, ifs, 0⟩, ⟨tg1, iter1, ifs1, 0⟩] scope pos) (some (.Name y py)) spos.line X.env = pure true) (hi : PMI X tg iter wi) (ok : BlkOk X.N X.env.scope scope own)
    (hws : ∀ i ∈ t.slots, i ∈ own.map (·.2)) (hws1 : ∀ i ∈ t1.slots, i ∈ ws1) (hsub : ∀ i ∈ ws1, i ∈ own.map (·.2))
    (hg : ∀ (s : Shared) (H : Hp) (C : Addr) (cl : List (Str × Addr)) (fp : List Addr), PGM (X.blk s H scope (compEnvC scope cl C X.env) fp) tg t) (ht : ∀ (s : Shared) (H : Hp) (C : Addr) (cl : List (Str × Addr)) (fp : List Addr), PMTs (X.blk s H scope (compEnvC scope cl C X.env) fp) ifs tt)
    (hi1 : ∀ (s : Shared) (H : Hp) (C : Addr) (cl : List (Str × Addr)) (fp : List Addr), PMI (X.blk s H scope (compEnvC scope cl C X.env) fp) tg1 iter1 wi1)
    (hg1 : ∀ (s : Shared) (H : Hp) (C : Addr) (cl : List (Str × Addr)) (fp : List Addr), PGM (X.blk s H scope (compEnvC scope cl C X.env) fp) tg1 t1) (ht1 : ∀ (s : Shared) (H : Hp) (C : Addr) (cl : List (Str × Addr)) (fp : List Addr), PMTs (X.blk s H scope (compEnvC scope cl C X.env) fp) ifs1 tt1)
    (he : ∀ (s : Shared) (H : Hp) (C : Addr) (cl : List (Str × Addr)) (fp : List Addr), PM (X.blk s H scope (compEnvC scope cl C X.env) fp) elt te) (hs : ∀ x, foldedSetIterable iter X.env x = pure x := by intro _; rfl) (hs1 : ∀ env x, foldedSetIterable iter1 env x = pure x := by intro _ _; rfl) :
    PMS pn X (.Assign [.Name y py] (.ListComp elt [⟨tg, iter, ifs, 0⟩, ⟨tg1, iter1, ifs1, 0⟩] scope pos) spos) (sSet i (mComp2 (own.map (·.2)) ws1 wi t tt wi1 t1 tt1 te)) := PS.weak (ps_setLc2 (vs1 := ws1) hc hN hy hyl hsw hi ok hsub hg ht hi1 hg1 ht1 he hs hs1) fun D σ H h => by
  obtain ⟨o, T, sa, f, sa', e, S, q⟩ := h
  obtain ⟨r, s1, e1, e2⟩ := bnd_some e
  obtain ⟨⟨fl, a⟩, s2, eu, e3⟩ := bnd_some e2
  split at e3
  · rename_i hl
    cases e3
    refine lc2_ok hws hws1 hsub ⟨o, T, sa, r, s1, e1, S, fun o1 v H1 L1 S1 R1 => ?_⟩
    obtain ⟨o2, S2, L2, R2, _⟩ := bnd_use S1 R1 eu
    obtain ⟨o3, S3, L3⟩ := SRel.put S2 R2 hl
    exact q o3 _ H1 ((L1.trans L2).trans L3) (Keep.set hpn) S3
  · cases e3
end
end MM
namespace MM
open PySem PySem.Spec PyProof.Rows L2

/-! ### xs[i], xs[k] = two data -/
def st1Ix (j : Nat) (mi : SM R) (z : D) (k : SM Fl) : SM Fl := fun sa => if isL sa[j]? then bnd mi (fun ri sa => match rv ri sa, sa[j]? with
  | some (.d (.int i)), some (some (true, l)) => match setA l i z with
    | some l' => k (sa.set j (some (true, l')))
    | none => none
  | _, _ => none) sa else none
def sSwapIx (j : Nat) (mi mk me : SM R) : SM Fl := bnd me fun r sa => match rv r sa with
  | some (.d (.tup [z1, z2])) => st1Ix j mi z1 (st1Ix j mk z2 (ret .nx)) sa
  | _ => none
section
variable {pn : Nat} {X : Cx} {x : Str} {px pos tpos : Pos} {i : Expr} {j : Nat} {mi : SM R}
theorem st1_ok (hi : PM X i mi) {k : SM Fl} {z : D} {y : V} {sa sa' : List Slot} {f : Fl} {σ : L2.St} {H : Hp} {o : List Addr} {T : Tmp} {Q : L2.St → Hp → Prop} (e : st1Ix j mi z k sa = some (f, sa')) (S : SRel X.K o T sa σ H) (rz : RepD X.K H z y)
    (q : ∀ o' sb H', k sb = some (f, sa') → Le o H o' H' → SRel X.K o' T sb σ H' → Q σ H') : gSub (tVar j) (tOf X.K mi) rSetL y σ H Q := by
  unfold st1Ix at e
  split at e
  · rename_i hl
    obtain ⟨p, ys, ep, hp⟩ := isL_ok S hl
    obtain ⟨r2, s2, em, e3⟩ := bnd_some e
    split at e3
    · rename_i i l ei el
      split at e3
      · rename_i l' el'
        refine ⟨_, ep, o, _, sa, r2, s2, em, S, fun o2 v2 H2 L2 S2 R2 => ?_⟩
        obtain ⟨fb, rb⟩ := rv_rep S2 R2 ei
        obtain ⟨o3, S3, L3⟩ := SRel.pop S2
        obtain ⟨fi, rl, so, ndi, _, put⟩ := SRel.wr (fx := []) S3 el ep S3.nd (fun _ h => nomatch h) S3.sl
        have rz2 : RepD X.K H2 z y := rz.mono (S.imm L2)
        obtain ⟨p', ys', k, fi', ev, hp', hk, mp, rl', nd', sub⟩ := setA_ok rl rz2 el' ndi
        cases ev
        obtain ⟨o5, S5, L5⟩ := put (fun b u e n => by rw [upd_ne (fun z => n (by rw [z]; exact mp))]; exact e) rl' nd' fun b hb => .inl (sub b hb)
        exact ⟨p, ys', i, k, rfl, int_of rb, hp', hk, q o5 _ _ e3 ((L2.trans L3).trans L5) S5⟩
      · cases e3
    · cases e3
  · cases e
theorem pms_swapIx {px2 tpos2 tp : Pos} {kt : Nat} {k e : Expr} {mk me : SM R} (hx : PE X (.Name x px) (tVar j)) (hx2 : PE X (.Name x px2) (tVar j)) (hi : PM X i mi) (hk : PM X k mk) (he : PM X e me) (hc : X.calm = true := by rfl)
    (ha : ∀ v, assign (.Subscript (.Name x px) i tpos) X.env v = (do
      let ov ← holding [v] (eval (.Name x px) X.env)
      let iv ← holding [v, ov] (eval i X.env)
      standAt tpos
      holding [v, ov, iv] (setItem ov iv v)
      release [v, ov, iv] []) := by intro _; rfl)
    (ha2 : ∀ v, assign (.Subscript (.Name x px2) k tpos2) X.env v = (do
      let ov ← holding [v] (eval (.Name x px2) X.env)
      let iv ← holding [v, ov] (eval k X.env)
      standAt tpos2
      holding [v, ov, iv] (setItem ov iv v)
      release [v, ov, iv] []) := by intro _; rfl)
    (hs : swapsWithSole [.Tuple [.Subscript (.Name x px) i tpos, .Subscript (.Name x px2) k tpos2] kt tp] e pos.line X.env = pure false := by rfl) (hw : swappedStores [.Tuple [.Subscript (.Name x px) i tpos, .Subscript (.Name x px2) k tpos2] kt tp] e X.env = pure none := by rfl)
    (h1 : (assignEach [.Tuple [.Subscript (.Name x px) i tpos, .Subscript (.Name x px2) k tpos2] kt tp] X.env).map (·.2) = [assign (.Tuple [.Subscript (.Name x px) i tpos, .Subscript (.Name x px2) k tpos2] kt tp) X.env] := by rfl)
    (hn : (assignEach [.Subscript (.Name x px) i tpos, .Subscript (.Name x px2) k tpos2] X.env).length = 2 := by rfl) (hst : (assignEach [.Subscript (.Name x px) i tpos, .Subscript (.Name x px2) k tpos2] X.env).findIdx? (·.1) = none := by rfl)
    (hp1 : (assignEach [.Subscript (.Name x px) i tpos, .Subscript (.Name x px2) k tpos2] X.env).map (·.2) = assign (.Subscript (.Name x px) i tpos) X.env :: (assignEach [.Subscript (.Name x px2) k tpos2] X.env).map (·.2) := by rfl)
    (hp2 : (assignEach [.Subscript (.Name x px2) k tpos2] X.env).map (·.2) = assign (.Subscript (.Name x px2) k tpos2) X.env :: (assignEach [] X.env).map (·.2) := by rfl) :
    PMS pn X (.Assign [.Tuple [.Subscript (.Name x px) i tpos, .Subscript (.Name x px2) k tpos2] kt tp] e pos) (sSwapIx j mi mk me) :=
  PS.weak (ps_asg he (pg_tup (n := 2) hc (pgs_cons (pg_sub hx hi set_list ha) (pgs_cons (pg_sub hx2 hk set_list ha2) pgs_nil hp2) hp1) hn hst) hs hw h1) fun D σ H h => by
  obtain ⟨o, T, sa, f, sa', e, S, q⟩ := h
  obtain ⟨r1, s1, e1, e2⟩ := bnd_some e
  split at e2
  · rename_i z1 z2 ez
    refine ⟨o, T, sa, r1, s1, e1, S, fun o1 v H1 L1 S1 R1 => ?_⟩
    obtain ⟨fa, ra⟩ := rv_rep S1 R1 ez
    obtain ⟨p, ys, rfl, s, rs⟩ := tup_of ra
    unfold RepDs at rs
    obtain ⟨y1, yr, rfl, ra1, rs⟩ := rs
    unfold RepDs at rs
    obtain ⟨y2, yr, rfl, ra2, rs⟩ := rs
    unfold RepDs at rs
    subst rs
    obtain ⟨o2, S2, L2⟩ := SRel.pop S1
    refine ⟨p, _, rfl, s, rfl, y1, [y2], rfl, st1_ok hi e2 S2 ra1 fun o3 sb H3 e3 L3 S3 => ?_⟩
    refine ⟨y2, [], rfl, st1_ok hk e3 S3 (ra2.mono (S2.imm L3)) fun o4 sc H4 e4 L4 S4 => ?_⟩
    cases e4
    exact ⟨rfl, q o4 σ H4 (((L1.trans L2).trans L3).trans L4) Keep.refl S4⟩
  · cases e2
end
end MM
namespace MM
open PySem PySem.Spec PyProof.Rows L2
section
variable {X : Cx}
theorem pm_lcW {ws : List Nat} {elt tg iter : Expr} {ifs : List Expr} {scope : Scope} {own : List (Str × Nat)} {pos : Pos} {wi : SM (List A)} {t : Tg} {tt : SM Bool} {te : SM R} (hc : X.calm = true) (hN : X.N.Nodup) (hi : PMI X tg iter wi) (ok : BlkOk X.N X.env.scope scope own) (hw : own.map (·.2) = ws) (hws : ∀ i ∈ t.slots, i ∈ ws)
    (hg : ∀ (s : Shared) (H : Hp) (C : Addr) (cl : List (Str × Addr)) (fp : List Addr), PGM (X.blk s H scope (compEnvC scope cl C X.env) fp) tg t) (ht : ∀ (s : Shared) (H : Hp) (C : Addr) (cl : List (Str × Addr)) (fp : List Addr), PMTs (X.blk s H scope (compEnvC scope cl C X.env) fp) ifs tt)
    (he : ∀ (s : Shared) (H : Hp) (C : Addr) (cl : List (Str × Addr)) (fp : List Addr), PM (X.blk s H scope (compEnvC scope cl C X.env) fp) elt te) (hs : ∀ x, foldedSetIterable iter X.env x = pure x := by intro _; rfl) :
    PM X (.ListComp elt [⟨tg, iter, ifs, 0⟩] scope pos) (mComp ws wi t tt te) := by
  subst hw
  exact pm_lc hc hN hi ok hws hg ht he hs
theorem pm_lc2W {ws : List Nat} {elt tg iter tg1 iter1 : Expr} {ifs ifs1 : List Expr} {scope : Scope} {own : List (Str × Nat)} {ws1 : List Nat} {pos : Pos} {wi wi1 : SM (List A)} {t t1 : Tg} {tt tt1 : SM Bool} {te : SM R} (hc : X.calm = true) (hN : X.N.Nodup) (hi : PMI X tg iter wi) (ok : BlkOk X.N X.env.scope scope own) (hw : own.map (·.2) = ws)
    (hws : ∀ i ∈ t.slots, i ∈ ws) (hws1 : ∀ i ∈ t1.slots, i ∈ ws1) (hsub : ∀ i ∈ ws1, i ∈ ws)
    (hg : ∀ (s : Shared) (H : Hp) (C : Addr) (cl : List (Str × Addr)) (fp : List Addr), PGM (X.blk s H scope (compEnvC scope cl C X.env) fp) tg t) (ht : ∀ (s : Shared) (H : Hp) (C : Addr) (cl : List (Str × Addr)) (fp : List Addr), PMTs (X.blk s H scope (compEnvC scope cl C X.env) fp) ifs tt)
    (hi1 : ∀ (s : Shared) (H : Hp) (C : Addr) (cl : List (Str × Addr)) (fp : List Addr), PMI (X.blk s H scope (compEnvC scope cl C X.env) fp) tg1 iter1 wi1)
    (hg1 : ∀ (s : Shared) (H : Hp) (C : Addr) (cl : List (Str × Addr)) (fp : List Addr), PGM (X.blk s H scope (compEnvC scope cl C X.env) fp) tg1 t1) (ht1 : ∀ (s : Shared) (H : Hp) (C : Addr) (cl : List (Str × Addr)) (fp : List Addr), PMTs (X.blk s H scope (compEnvC scope cl C X.env) fp) ifs1 tt1)
    (he : ∀ (s : Shared) (H : Hp) (C : Addr) (cl : List (Str × Addr)) (fp : List Addr), PM (X.blk s H scope (compEnvC scope cl C X.env) fp) elt te) (hs : ∀ x, foldedSetIterable iter X.env x = pure x := by intro _; rfl) (hs1 : ∀ env x, foldedSetIterable iter1 env x = pure x := by intro _ _; rfl) :
    PM X (.ListComp elt [⟨tg, iter, ifs, 0⟩, ⟨tg1, iter1, ifs1, 0⟩] scope pos) (mComp2 ws ws1 wi t tt wi1 t1 tt1 te) := by
  subst hw
  exact pm_lc2 hc hN hi ok hws hws1 hsub hg ht hi1 hg1 ht1 he hs hs1
theorem pms_setLcW {ws : List Nat} {pn i : Nat} {y : Str} {py : Pos} {elt tg iter : Expr} {ifs : List Expr} {scope : Scope} {own : List (Str × Nat)} {pos spos : Pos} {wi : SM (List A)} {t : Tg} {tt : SM Bool} {te : SM R} (hpn : pn ≤ i) (hc : X.calm = true) (hN : X.N.Nodup) (hy : X.N[i]? = some y) (hyl : X.env.scope.names.lookup y = some .local)
    (hsw : swapsWith (.ListComp elt [⟨tg, iter, ifs, 0⟩] scope pos) (some (.Name y py)) spos.line X.env = pure true) (hi : PMI X tg iter wi) (ok : BlkOk X.N X.env.scope scope own) (hw : own.map (·.2) = ws) (hws : ∀ i ∈ t.slots, i ∈ ws)
    (hg : ∀ (s : Shared) (H : Hp) (C : Addr) (cl : List (Str × Addr)) (fp : List Addr), PGM (X.blk s H scope (compEnvC scope cl C X.env) fp) tg t) (ht : ∀ (s : Shared) (H : Hp) (C : Addr) (cl : List (Str × Addr)) (fp : List Addr), PMTs (X.blk s H scope (compEnvC scope cl C X.env) fp) ifs tt)
    (he : ∀ (s : Shared) (H : Hp) (C : Addr) (cl : List (Str × Addr)) (fp : List Addr), PM (X.blk s H scope (compEnvC scope cl C X.env) fp) elt te) (hs : ∀ x, foldedSetIterable iter X.env x = pure x := by intro _; rfl) :
    PMS pn X (.Assign [.Name y py] (.ListComp elt [⟨tg, iter, ifs, 0⟩] scope pos) spos) (sSet i (mComp ws wi t tt te)) := by
  subst hw
  exact pms_setLc hpn hc hN hy hyl hsw hi ok hws hg ht he hs
theorem pms_setLc2W {ws : List Nat} {pn i : Nat} {y : Str} {py : Pos} {elt tg iter tg1 iter1 : Expr} {ifs ifs1 : List Expr} {scope : Scope} {own : List (Str × Nat)} {ws1 : List Nat} {pos spos : Pos} {wi wi1 : SM (List A)} {t t1 : Tg} {tt tt1 : SM Bool} {te : SM R} (hpn : pn ≤ i) (hc : X.calm = true) (hN : X.N.Nodup) (hy : X.N[i]? = some y) (hyl : X.env.scope.names.lookup y = some .local)
    (hsw : swapsWith (.ListComp elt [⟨tg, iter, ifs, 0⟩, ⟨tg1, iter1, ifs1, 0⟩] scope pos) (some (.Name y py)) spos.line X.env = pure true) (hi : PMI X tg iter wi) (ok : BlkOk X.N X.env.scope scope own) (hw : own.map (·.2) = ws)
    (hws : ∀ i ∈ t.slots, i ∈ ws) (hws1 : ∀ i ∈ t1.slots, i ∈ ws1) (hsub : ∀ i ∈ ws1, i ∈ ws)
    (hg : ∀ (s : Shared) (H : Hp) (C : Addr) (cl : List (Str × Addr)) (fp : List Addr), PGM (X.blk s H scope (compEnvC scope cl C X.env) fp) tg t) (ht : ∀ (s : Shared) (H : Hp) (C : Addr) (cl : List (Str × Addr)) (fp : List Addr), PMTs (X.blk s H scope (compEnvC scope cl C X.env) fp) ifs tt)
    (hi1 : ∀ (s : Shared) (H : Hp) (C : Addr) (cl : List (Str × Addr)) (fp : List Addr), PMI (X.blk s H scope (compEnvC scope cl C X.env) fp) tg1 iter1 wi1)
    (hg1 : ∀ (s : Shared) (H : Hp) (C : Addr) (cl : List (Str × Addr)) (fp : List Addr), PGM (X.blk s H scope (compEnvC scope cl C X.env) fp) tg1 t1) (ht1 : ∀ (s : Shared) (H : Hp) (C : Addr) (cl : List (Str × Addr)) (fp : List Addr), PMTs (X.blk s H scope (compEnvC scope cl C X.env) fp) ifs1 tt1)
    (he : ∀ (s : Shared) (H : Hp) (C : Addr) (cl : List (Str × Addr)) (fp : List Addr), PM (X.blk s H scope (compEnvC scope cl C X.env) fp) elt te) (hs : ∀ x, foldedSetIterable iter X.env x = pure x := by intro _; rfl) (hs1 : ∀ env x, foldedSetIterable iter1 env x = pure x := by intro _ _; rfl) :
    PMS pn X (.Assign [.Name y py] (.ListComp elt [⟨tg, iter, ifs, 0⟩, ⟨tg1, iter1, ifs1, 0⟩] scope pos) spos) (sSet i (mComp2 ws ws1 wi t tt wi1 t1 tt1 te)) := by
  subst hw
  exact pms_setLc2 hpn hc hN hy hyl hsw hi ok hws hws1 hsub hg ht hi1 hg1 ht1 he hs hs1
end
end MM
namespace MM
open PySem PySem.Spec PyProof.Rows L2

/-! ### running: the terms on a given state -/
/-- m ends in r with Q -/
def Ok {α : Type} (m : SM α) (sa : List Slot) (Q : α → List Slot → Prop) : Prop := ∃ r sa', m sa = some (r, sa') ∧ Q r sa'
def obind {α β : Type} (x : Option (α × List Slot)) (f : α → SM β) : Option (β × List Slot) := match x with
  | some (a, s) => f a s
  | none => none
section
variable {α β : Type} {s : List Slot} {a : α} {f : α → SM β} {x : A} {fl : Bool} {j : Nat}
@[simp] theorem obind_some : obind (some (a, s)) f = f a s := rfl
@[simp] theorem obind_none : obind none f = none := rfl
@[simp] theorem run_bnd {m : SM α} : bnd m f s = obind (m s) f := by unfold bnd obind; cases m s <;> rfl
@[simp] theorem run_ret : ret a s = some (a, s) := rfl
@[simp] theorem run_mC {z : D} : mC z s = some (.val false (.d z), s) := rfl
/-- a slot that is known -/
def peekO : Option Slot → Nat → List Slot → Option (R × List Slot)
  | some (some _), j, s => some (.peek j, s)
  | _, _, _ => none
@[simp] theorem peekO_some {p : Bool × A} : peekO (some (some p)) j s = some (.peek j, s) := rfl
@[simp] theorem run_mV : mV j s = peekO s[j]? j s := by unfold mV peekO; split <;> simp_all
@[simp] theorem rv_val : rv (.val fl x) s = some x := rfl
def rvO : Option Slot → Option A
  | some (some p) => some p.2
  | _ => none
@[simp] theorem rvO_some {p : Bool × A} : rvO (some (some p)) = some p.2 := rfl
@[simp] theorem rv_peek : rv (.peek j) s = rvO s[j]? := by unfold rv rvO; rfl
@[simp] theorem use_val : use (.val fl x) s = some ((fl, x), s) := rfl
def useO : Option Slot → Nat → List Slot → Option ((Bool × A) × List Slot)
  | some (some (_, a)), j, s => some ((false, a), s.set j (some (false, a)))
  | _, _, _ => none
@[simp] theorem useO_some : useO (some (some (fl, x))) j s = some ((false, x), s.set j (some (false, x))) := rfl
@[simp] theorem use_peek : use (.peek j) s = useO s[j]? j s := by
  show (match s[j]? with
    | some (some (_, a)) => some ((false, a), s.set j (some (false, a)))
    | _ => none) = _
  unfold useO
  split <;> simp_all
def useMO : Option Slot → Nat → List Slot → Option ((Bool × A) × List Slot)
  | some (some p), j, s => some (p, s.set j none)
  | _, _, _ => none
@[simp] theorem useMO_some {p : Bool × A} : useMO (some (some p)) j s = some (p, s.set j none) := rfl
@[simp] theorem useM_val : useM (.val fl x) s = some ((fl, x), s) := rfl
@[simp] theorem useM_peek : useM (.peek j) s = useMO s[j]? j s := by
  show (match s[j]? with
    | some (some p) => some (p, s.set j none)
    | _ => none) = _
  unfold useMO
  split <;> simp_all
def o1 (x : Option A) (g : A → Option A) (s : List Slot) : Option (R × List Slot) := match x with
  | some a => match g a with
    | some c => some (fin c, s)
    | none => none
  | none => none
def ofin (x : Option A) (s : List Slot) : Option (R × List Slot) := match x with
  | some c => some (fin c, s)
  | none => none
@[simp] theorem ofin_some {c : A} : ofin (some c) s = some (fin c, s) := rfl
@[simp] theorem fin_d {z : D} : fin (.d z) = .val false (.d z) := rfl
@[simp] theorem fin_ls {z : List D} : fin (.ls z) = .val true (.ls z) := rfl
@[simp] theorem fin_lst {z : List A} : fin (.lst z) = .val true (.lst z) := rfl
@[simp] theorem fin_tpl {z : List A} : fin (.tpl z) = .val true (.tpl z) := rfl
def ob1 (x : Option A) (g : A → Option A) : Option A := x.bind g
@[simp] theorem run_app1 {g : A → Option A} {r : R} : app1 g r s = ofin ((rv r s).bind g) s := by
  unfold app1 ofin
  cases rv r s with
  | none => rfl
  | some a => rfl
def bind2 {γ : Type} (x y : Option A) (g : A → A → Option γ) : Option γ := match x, y with
  | some a, some b => g a b
  | _, _ => none
@[simp] theorem bind2_some {γ : Type} {a b : A} {g : A → A → Option γ} : bind2 (some a) (some b) g = g a b := rfl
@[simp] theorem run_app2 {g : A → A → Option A} {r1 r2 : R} : app2 g r1 r2 s = ofin (bind2 (rv r1 s) (rv r2 s) g) s := by
  unfold app2 ofin bind2
  cases rv r1 s <;> cases rv r2 s <;> rfl
@[simp] theorem rvs_nil : rvs [] s = some [] := rfl
def ocons {γ : Type} : Option γ → Option (List γ) → Option (List γ)
  | some a, some as => some (a :: as)
  | _, _ => none
@[simp] theorem ocons_some {γ : Type} {a : γ} {as : List γ} : ocons (some a) (some as) = some (a :: as) := rfl
@[simp] theorem rvs_cons {r : R} {rs : List R} : rvs (r :: rs) s = ocons (rv r s) (rvs rs s) := by
  show (match rv r s, rvs rs s with
    | some a, some as => some (a :: as)
    | _, _ => none) = _
  unfold ocons
  split <;> simp_all
@[simp] theorem run_appN {g : List A → Option A} {rs : List R} : appN g rs s = ofin ((rvs rs s).bind g) s := by
  unfold appN ofin
  cases rvs rs s with
  | none => rfl
  | some a => rfl
@[simp] theorem run_m1 {g : A → Option A} {m : SM R} : m1 g m s = obind (m s) fun r => app1 g r := by unfold m1; exact run_bnd
@[simp] theorem run_m2 {g : A → A → Option A} {m n : SM R} : m2 g m n s = obind (m s) fun r1 => bnd n fun r2 => app2 g r1 r2 := by unfold m2; exact run_bnd
@[simp] theorem run_mN {g : List A → Option A} {m : SM (List R)} : mN g m s = obind (m s) fun rs => appN g rs := by unfold mN; exact run_bnd
@[simp] theorem run_mNil : mNil s = some ([], s) := rfl
@[simp] theorem run_mCons {m : SM R} {ms : SM (List R)} : mCons m ms s = obind (m s) fun r => bnd ms fun rs => ret (r :: rs) := by unfold mCons; exact run_bnd
def okB (x : Option Bool) (s : List Slot) : Option (Bool × List Slot) := match x with
  | some k => some (k, s)
  | none => none
@[simp] theorem okB_some {k : Bool} : okB (some k) s = some (k, s) := rfl
@[simp] theorem run_cmp2 {g : A → A → Option Bool} {r1 r2 : R} : cmp2 g r1 r2 s = okB (bind2 (rv r1 s) (rv r2 s) g) s := by
  unfold cmp2 okB bind2
  cases rv r1 s with
  | none => cases rv r2 s <;> rfl
  | some a =>
    cases rv r2 s with
    | none => rfl
    | some b => cases h : g a b <;> simp [h]
@[simp] theorem run_tCmpM {g : A → A → Option Bool} {m n : SM R} : tCmpM g m n s = obind (m s) fun r1 => bnd n fun r2 => cmp2 g r1 r2 := by unfold tCmpM; exact run_bnd
@[simp] theorem run_asV {m : SM Bool} : asV m s = obind (m s) fun k => ret (.val false (.d (.bl k))) := by unfold asV; exact run_bnd
@[simp] theorem run_tru1 {r : R} : tru1 r s = okB ((rv r s).bind truA) s := by
  unfold tru1 okB
  cases rv r s with
  | none => rfl
  | some a => cases h : truA a <;> simp [h]
@[simp] theorem run_mTru {m : SM R} : mTru m s = obind (m s) tru1 := by unfold mTru; exact run_bnd
@[simp] theorem run_tNotM {m : SM Bool} : tNotM m s = obind (m s) fun k => ret (!k) := by unfold tNotM; exact run_bnd
def iteM {γ : Type} (k : Bool) (a b : SM γ) : SM γ := if k then a else b
@[simp] theorem iteM_t {γ : Type} {a b : SM γ} : iteM true a b = a := rfl
@[simp] theorem iteM_f {γ : Type} {a b : SM γ} : iteM false a b = b := rfl
@[simp] theorem run_tAndM {m n : SM Bool} : tAndM m n s = obind (m s) fun k => iteM k n (ret false) := by unfold tAndM; exact run_bnd
@[simp] theorem run_tOrM {m n : SM Bool} : tOrM m n s = obind (m s) fun k => iteM k (ret true) n := by unfold tOrM; exact run_bnd
@[simp] theorem run_mIf {t : SM Bool} {m n : SM R} : mIf t m n s = obind (t s) fun k => iteM k m n := by unfold mIf; exact run_bnd
def andO (x : Option Bool) (n : SM R) (s : List Slot) : Option (R × List Slot) := match x with
  | some true => n s
  | some false => some (.val false (.d (.bl false)), s)
  | none => none
def orO (x : Option Bool) (n : SM R) (s : List Slot) : Option (R × List Slot) := match x with
  | some false => n s
  | some true => some (.val false (.d (.bl true)), s)
  | none => none
@[simp] theorem andO_t {n : SM R} : andO (some true) n s = n s := rfl
@[simp] theorem andO_f {n : SM R} : andO (some false) n s = some (.val false (.d (.bl false)), s) := rfl
@[simp] theorem orO_t {n : SM R} : orO (some true) n s = some (.val false (.d (.bl true)), s) := rfl
@[simp] theorem orO_f {n : SM R} : orO (some false) n s = n s := rfl
@[simp] theorem run_mAndV {m n : SM R} : mAndV m n s = obind (m s) fun r s => andO (boolOf r s) n s := by unfold mAndV; exact run_bnd
@[simp] theorem run_mOrV {m n : SM R} : mOrV m n s = obind (m s) fun r s => orO (boolOf r s) n s := by unfold mOrV; exact run_bnd
def notO (x : Option Bool) (s : List Slot) : Option (R × List Slot) := match x with
  | some k => some (.val false (.d (.bl (!k))), s)
  | none => none
@[simp] theorem notO_some {k : Bool} : notO (some k) s = some (.val false (.d (.bl (!k))), s) := rfl
@[simp] theorem run_mNotV {m : SM R} : mNotV m s = obind (m s) fun r s => notO (boolOf r s) s := by unfold mNotV; exact run_bnd
@[simp] theorem boolOf_val {b : Bool} : boolOf (.val false (.d (.bl b))) s = some b := rfl
def boO : Option Slot → Option Bool
  | some (some (_, .d (.bl b))) => some b
  | _ => none
@[simp] theorem boO_some {b : Bool} : boO (some (some (fl, .d (.bl b)))) = some b := rfl
@[simp] theorem boolOf_peek : boolOf (.peek j) s = boO s[j]? := by
  show (match rv (.peek j) s with
    | some (.d (.bl b)) => some b
    | _ => none) = _
  rw [rv_peek]
  unfold rvO boO
  cases s[j]? with
  | none => rfl
  | some p =>
    cases p with
    | none => rfl
    | some q =>
      obtain ⟨f, a⟩ := q
      cases a with
      | d z => cases z <;> rfl
      | _ => rfl
@[simp] theorem run_chain {g g' : A → A → Option Bool} {ma mb mc : SM R} : tChainM g g' ma mb mc s = obind (ma s) fun r1 => bnd mb fun r2 => bnd (cmp2 g r1 r2) fun k => iteM k (bnd mc fun r3 => cmp2 g' r2 r3) (ret false) := by unfold tChainM; exact run_bnd
@[simp] theorem od_val {a : A} : od (.val true a) s = some a := rfl
@[simp] theorem od_d {z : D} : od (.val false (.d z)) s = some (.d z) := rfl
def odO : Option Slot → Option A
  | some (some (_, .d z)) => some (.d z)
  | _ => none
@[simp] theorem odO_some {z : D} : odO (some (some (fl, .d z))) = some (.d z) := rfl
@[simp] theorem od_peek : od (.peek j) s = odO s[j]? := by
  show (match rv (.peek j) s with
    | some (A.d x) => some (A.d x)
    | _ => none) = _
  rw [rv_peek]
  unfold rvO odO
  cases s[j]? with
  | none => rfl
  | some p =>
    cases p with
    | none => rfl
    | some q =>
      obtain ⟨f, a⟩ := q
      cases a <;> rfl
@[simp] theorem ods_nil : ods [] s = some [] := rfl
@[simp] theorem ods_cons {r : R} {rs : List R} : ods (r :: rs) s = ocons (od r s) (ods rs s) := by
  show (match od r s, ods rs s with
    | some a, some as => some (a :: as)
    | _, _ => none) = _
  unfold ocons
  split <;> simp_all
def seqO (x : Option (List A)) (g : List A → A) (s : List Slot) : Option (R × List Slot) := match x with
  | some as => if szB as.length then some (fin (g as), s) else none
  | none => none
theorem seqO_some {as : List A} {g : List A → A} (h : szB as.length = true) : seqO (some as) g s = some (fin (g as), s) := by unfold seqO; simp only [h]; rfl
@[simp] theorem run_mTup {ms : SM (List R)} : mTup ms s = obind (ms s) fun rs s => seqO (ods rs s) mkT s := by unfold mTup; exact run_bnd
@[simp] theorem run_mLst {ms : SM (List R)} : mLst ms s = obind (ms s) fun rs s => seqO (ods rs s) mkL s := by unfold mLst; exact run_bnd
def ixO (x i : Option A) (r1 : R) (s : List Slot) : Option (R × List Slot) := match x, i with
  | some a, some i => match ixA a i with
    | some (.d z) => some (.val false (.d z), s)
    | some c => match r1 with
      | .val fl _ => some (.val fl c, s)
      | .peek j => some (.val false c, downg j s)
    | none => none
  | _, _ => none
@[simp] theorem run_mIx {m n : SM R} : mIx m n s = obind (m s) fun r1 => bnd n fun r2 s => ixO (rv r1 s) (rv r2 s) r1 s := by unfold mIx; exact run_bnd
theorem ixO_d {a i : A} {r1 : R} {z : D} (h : ixA a i = some (.d z)) : ixO (some a) (some i) r1 s = some (.val false (.d z), s) := by unfold ixO; simp [h]
@[simp] theorem run_mSl {m : SM R} {l h : SM (Option Int)} : mSl m l h s = obind (m s) fun r => bnd l fun lo => bnd h fun hi => app1 (slA lo hi) r := by unfold mSl; exact run_bnd
@[simp] theorem run_partN : partN s = some (none, s) := rfl
def partO : Option A → List Slot → Option (Option Int × List Slot)
  | some (.d (.int i)), s => some (some i, s)
  | _, _ => none
@[simp] theorem partO_some {i : Int} : partO (some (.d (.int i))) s = some (some i, s) := rfl
def partR (r : R) (s : List Slot) : Option (Option Int × List Slot) := match r with
  | .val true _ => none
  | r => partO (rv r s) s
@[simp] theorem partR_val {i : Int} : partR (.val false (.d (.int i))) s = some (some i, s) := rfl
@[simp] theorem partR_peek : partR (.peek j) s = partO (rvO s[j]?) s := rfl
@[simp] theorem run_partS {m : SM R} : partS m s = obind (m s) partR := by
  unfold partS
  rw [run_bnd]
  congr 1
  funext r s
  have key : ∀ x : Option A, (match x with
    | some (.d (.int i)) => some (some i, s)
    | _ => none) = partO x s := fun x => by
    cases x with
    | none => rfl
    | some a =>
      cases a with
      | d z => cases z <;> rfl
      | _ => rfl
  cases r with
  | val f a =>
    cases f with
    | true => rfl
    | false => exact key _
  | peek i => exact key _
@[simp] theorem run_sNop : sNop s = some (.nx, s) := rfl
@[simp] theorem run_sBk : sBk s = some (.bk, s) := rfl
@[simp] theorem run_sCt : sCt s = some (.ct, s) := rfl
def seqF (b : SM Fl) (f : Fl) : SM Fl := match f with
  | .nx => b
  | f => ret f
@[simp] theorem seqF_nx {b : SM Fl} : seqF b .nx = b := rfl
@[simp] theorem seqF_bk {b : SM Fl} : seqF b .bk = ret .bk := rfl
@[simp] theorem seqF_ct {b : SM Fl} : seqF b .ct = ret .ct := rfl
@[simp] theorem seqF_rt {b : SM Fl} {a : A} : seqF b (.rt fl a) = ret (.rt fl a) := rfl
@[simp] theorem run_sSeq {m n : SM Fl} : sSeq m n s = obind (m s) (seqF n) := by unfold sSeq; exact run_bnd
@[simp] theorem run_sIf {t : SM Bool} {m n : SM Fl} : sIf t m n s = obind (t s) fun k => iteM k m n := by unfold sIf; exact run_bnd
@[simp] theorem run_sExpr {m : SM R} : sExpr m s = obind (m s) fun _ => ret .nx := by unfold sExpr; exact run_bnd
def setO (j : Nat) (p : Bool × A) : SM Fl := fun s => if j < s.length then some (.nx, s.set j (some p)) else none
@[simp] theorem setO_run {p : Bool × A} (h : j < s.length) : setO j p s = some (.nx, s.set j (some p)) := by unfold setO; rw [if_pos h]
@[simp] theorem run_sSet {m : SM R} : sSet j m s = obind (m s) fun r => bnd (use r) (setO j) := by unfold sSet; exact run_bnd
@[simp] theorem run_sRet {m : SM R} : sRet m s = obind (m s) fun r => bnd (useM r) fun p => ret (.rt p.1 p.2) := by unfold sRet; exact run_bnd
@[simp] theorem run_sRetN : sRetN s = some (.rt false (.d .non), s) := rfl
def six (j : Nat) (z i : Option A) (l : Option Slot) (s : List Slot) : Option (Fl × List Slot) := match z, i, l with
  | some (.d z), some (.d (.int i)), some (some (true, l)) => match setA l i z with
    | some l' => some (.nx, s.set j (some (true, l')))
    | none => none
  | _, _, _ => none
theorem six_some {z : D} {i : Int} {l l' : A} (h : setA l i z = some l') : six j (some (.d z)) (some (.d (.int i))) (some (some (true, l))) s = some (.nx, s.set j (some (true, l'))) := by unfold six; simp [h]
theorem run_sSetIx {mi me : SM R} {r ri : R} {s1 s2 : List Slot} (h1 : me s = some (r, s1)) (h2 : isL s1[j]? = true) (h3 : mi s1 = some (ri, s2)) : sSetIx j mi me s = six j (rv r s2) (rv ri s2) s2[j]? s2 := by
  unfold sSetIx
  rw [run_bnd, h1, obind_some, if_pos h2, run_bnd, h3, obind_some]
  unfold six
  split
  · rename_i z i l q1 q2 q3
    first
    | (rw [q1, q2, q3]; cases h : setA l i z <;> simp [h])
    | (cases h : setA l i z <;> rfl)
  · rename_i q
    first
    | rfl
    | (split
       · rename_i q1 q2 q3
         exact (q _ _ _ q1 q2 q3).elim
       · rfl)
end
theorem mulB_l {i j : Int} (h : (-(2 ^ 64) < i ∧ i < 2 ^ 64)) : mulB i j = true := by
  unfold mulB
  rw [decide_eq_true h]
  rfl
theorem mulB_r {i j : Int} (h : (-(2 ^ 64) < j ∧ j < 2 ^ 64)) : mulB i j = true := by
  unfold mulB
  rw [decide_eq_true h, Bool.or_true]
  rfl
@[simp] theorem mulA_int {i j : Int} : mulA (.d (.int i)) (.d (.int j)) = if mulB i j then some (.i (i * j)) else none := rfl
@[simp] theorem addA_int {i j : Int} : addA (.d (.int i)) (.d (.int j)) = some (.i (i + j)) := rfl
@[simp] theorem subA_int {i j : Int} : subA (.d (.int i)) (.d (.int j)) = some (.i (i - j)) := rfl
@[simp] theorem modA_int {i j : Int} : modA (.d (.int i)) (.d (.int j)) = if j = 0 then none else some (.i (i.fmod j)) := rfl
@[simp] theorem fdivA_int {i j : Int} : fdivA (.d (.int i)) (.d (.int j)) = if divB j then some (.i (i.fdiv j)) else none := rfl
@[simp] theorem negA_int {i : Int} : negA (.d (.int i)) = some (.i (-i)) := rfl
@[simp] theorem ltA_int {i j : Int} : ltA (.d (.int i)) (.d (.int j)) = some (decide (i < j)) := rfl
@[simp] theorem leA_int {i j : Int} : leA (.d (.int i)) (.d (.int j)) = some (decide (i ≤ j)) := rfl
@[simp] theorem gtA_int {i j : Int} : gtA (.d (.int i)) (.d (.int j)) = some (decide (j < i)) := rfl
@[simp] theorem geA_int {i j : Int} : geA (.d (.int i)) (.d (.int j)) = some (decide (j ≤ i)) := rfl
@[simp] theorem intA_int {i : Int} : intA (.d (.int i)) = some (.i i) := rfl
@[simp] theorem f1_one {g : A → Option A} {a : A} : f1 g [a] = g a := rfl
@[simp] theorem f2_two {g : A → A → Option A} {a b : A} : f2 g [a, b] = g a b := rfl
theorem szB_of {n : Nat} (h : n ≤ 16777216) : szB n = true := decide_eq_true h
end MM
namespace MM
open PySem PySem.Spec PyProof.Rows L2

/-! ### _law_load: its cells are lent out of the box while it runs -/
def m_mix : SM Fl := (sSeq (sSet 4 (m2 modA (mN (f1 intA) (mCons (m2 addA (m2 mulA (mIx (mV 0) (mC (.int 2))) (mC (.int 48271))) (mC (.int 17))) mNil)) (mC (.int 2147483629))))
    (sSeq (sSet 5 (m2 modA (mN (f1 intA) (mCons (m2 addA (m2 mulA (mV 4) (mC (.int 69621))) (mC (.int 5))) mNil)) (mC (.int 2147483587))))
    (sSeq (sSetIx 0 (mC (.int 2)) (m2 modA (mN (f1 intA) (mCons (m2 addA (m2 mulA (mV 5) (mC (.int 40692))) (mC (.int 3))) mNil)) (mC (.int 2147483563))))
    (sRet (m2 addA (m2 addA (m2 mulA (mV 4) (mC (.int 4611686014132420609))) (m2 mulA (mV 5) (mC (.int 2147483647)))) (mIx (mV 0) (mC (.int 2))))))))
def m_pop : SM Fl := sIf (tCmpM gtA (mN (f1 lenA) (mCons (mV 1) mNil)) (mC (.int 0))) (sSeq (sSet 2 (mN (f1 intA) (mCons (mPopAt 1 (mC (.int 0))) mNil)))
    (sSeq (sSet 3 (mIf (tCmpM geA (mV 2) (mC (.int 0))) (m2 mulA (mC (.int 2)) (mV 2)) (m2 subA (m2 mulA (m1 negA (mC (.int 2))) (mV 2)) (mC (.int 1)))))
    (sSeq (sIf (tCmpM geA (mV 3) (mC (.int 1000000000000000000))) (sRet (mV 3)) sNop)
    (sSetIx 0 (mC (.int 2)) (m2 modA (mN (f1 intA) (mCons (m2 addA (m2 addA (m2 mulA (mIx (mV 0) (mC (.int 2))) (mC (.int 69621))) (m2 mulA (mV 3) (mC (.int 48271)))) (mC (.int 11))) mNil)) (mC (.int 2147483647))))))) sNop
def m_load : SM Fl := sSeq m_pop m_mix
/-- two more numbers and the last -/
def mixV (y : Int) : Int × Int :=
  ((y * 48271 + 17).fmod 2147483629 * 4611686014132420609 + ((y * 48271 + 17).fmod 2147483629 * 69621 + 5).fmod 2147483587 * 2147483647 + (((y * 48271 + 17).fmod 2147483629 * 69621 + 5).fmod 2147483587 * 40692 + 3).fmod 2147483563,
   (((y * 48271 + 17).fmod 2147483629 * 69621 + 5).fmod 2147483587 * 40692 + 3).fmod 2147483563)
def sizeV (c : Int) : Int := if 0 ≤ c then 2 * c else -2 * c - 1
def loadV (cs : List Int) (y : Int) : Int × List Int × Int := match cs with
  | [] => ((mixV y).1, [], (mixV y).2)
  | c :: r => if 1000000000000000000 ≤ sizeV c then (sizeV c, r, y) else ((mixV ((y * 69621 + sizeV c * 48271 + 11).fmod 2147483647)).1, r, (mixV ((y * 69621 + sizeV c * 48271 + 11).fmod 2147483647)).2)
def F_load : A → List D → Option (D × A)
  | .lst [.ls ds, .d (.int x), .d (.int y)], [] => match intsD ds with
    | some cs => if szB cs.length then some (.int (loadV cs y).1, .lst [.ls ((loadV cs y).2.1.map .int), .d (.int x), .d (.int (loadV cs y).2.2)]) else none
    | none => none
  | _, _ => none
theorem ix2 {v x y : A} : ixA (.lst [v, x, y]) (.d (.int 2)) = some y := rfl
theorem set2 {v x y : A} {z : D} : setA (.lst [v, x, y]) 2 z = some (.lst [v, x, .d z]) := rfl
theorem mix_run (v : D) (l : A) (x y : Int) (s2 s3 : Slot) : ∃ t : List Slot, m_mix [some (true, .lst [.d v, .d (.int x), .d (.int y)]), some (true, l), s2, s3, none, none] =
    some (.rt false (.d (.int (mixV y).1)), some (true, .lst [.d v, .d (.int x), .d (.int (mixV y).2)]) :: some (true, l) :: t) := by
  refine ⟨[s2, s3, some (false, .d (.int ((y * 48271 + 17).fmod 2147483629))), some (false, .d (.int ((((y * 48271 + 17).fmod 2147483629) * 69621 + 5).fmod 2147483587)))], ?_⟩
  have e3 : ∀ (b : Int) (s1 : List Slot), s1[5]? = some (some (false, .d (.int b))) → (m2 modA (mN (f1 intA) (mCons (m2 addA (m2 mulA (mV 5) (mC (.int 40692))) (mC (.int 3))) mNil)) (mC (.int 2147483563))) s1 = some (.val false (.d (.int ((b * 40692 + 3).fmod 2147483563))), s1) := fun b s1 h => by
    simp [h, mulB_r]
  unfold m_mix
  simp [ixO_d ix2, mulB_r]
  rw [run_sSetIx (e3 _ _ rfl) rfl run_mC]
  simp [six_some set2]
  simp [ixO_d ix2, mulB_r]
  simp [mixV]
@[simp] theorem lenA_ls {xs : List D} : lenA (.ls xs) = some (.i xs.length) := rfl
theorem popAt_run {s : List Slot} {j : Nat} {x : D} {xs : List D} (h : s[j]? = some (some (true, .ls (x :: xs)))) (hz : szB (xs.length + 1) = true) : mPopAt j (mC (.int 0)) s = some (.val false (.d x), s.set j (some (true, .ls xs))) := by
  unfold mPopAt
  rw [h, if_pos (show isL (some (some (true, .ls (x :: xs)))) = true from rfl), run_bnd, run_mC, obind_some]
  simp only [rv_val, h]
  have e1 : ixN (xs.length + 1) 0 = some 0 := by
    unfold ixN
    rw [if_pos (by omega), if_pos (by omega)]
    rfl
  simp only [List.length_cons, e1, hz, if_true, List.getElem?_cons_zero, List.eraseIdx_zero, List.tail_cons]
theorem load_run (v : D) (cs : List Int) (x y : Int) (hz : szB cs.length = true) : ∃ t : List Slot, m_load [some (true, .lst [.d v, .d (.int x), .d (.int y)]), some (true, .ls (cs.map .int)), none, none, none, none] =
    some (.rt false (.d (.int (loadV cs y).1)), some (true, .lst [.d v, .d (.int x), .d (.int (loadV cs y).2.2)]) :: some (true, .ls ((loadV cs y).2.1.map .int)) :: t) := by
  unfold m_load
  rw [run_sSeq]
  cases cs with
  | nil =>
    have e : m_pop [some (true, .lst [.d v, .d (.int x), .d (.int y)]), some (true, .ls []), none, none, none, none] = some (.nx, [some (true, .lst [.d v, .d (.int x), .d (.int y)]), some (true, .ls []), none, none, none, none]) := by
      unfold m_pop
      simp
    rw [List.map_nil, e, obind_some, seqF_nx]
    exact mix_run v _ x y _ _
  | cons c r =>
    have hz' : szB ((r.map D.int).length + 1) = true := by simpa using hz
    have e0 := popAt_run (j := 1) (s := [some (true, .lst [.d v, .d (.int x), .d (.int y)]), some (true, .ls (.int c :: r.map .int)), none, none, none, none]) rfl hz'
    have e1 : (mIf (tCmpM geA (mV 2) (mC (.int 0))) (m2 mulA (mC (.int 2)) (mV 2)) (m2 subA (m2 mulA (m1 negA (mC (.int 2))) (mV 2)) (mC (.int 1)))) [some (true, .lst [.d v, .d (.int x), .d (.int y)]), some (true, .ls (r.map .int)), some (false, .d (.int c)), none, none, none] =
        some (.val false (.d (.int (sizeV c))), [some (true, .lst [.d v, .d (.int x), .d (.int y)]), some (true, .ls (r.map .int)), some (false, .d (.int c)), none, none, none]) := by
      unfold sizeV
      by_cases hc : 0 ≤ c
      · simp [hc, mulB_l]
      · simp [hc, mulB_l]
    have e3 : ∀ (s1 : List Slot), s1[0]? = some (some (true, .lst [.d v, .d (.int x), .d (.int y)])) → s1[3]? = some (some (false, .d (.int (sizeV c)))) → (m2 modA (mN (f1 intA) (mCons (m2 addA (m2 addA (m2 mulA (mIx (mV 0) (mC (.int 2))) (mC (.int 69621))) (m2 mulA (mV 3) (mC (.int 48271)))) (mC (.int 11))) mNil)) (mC (.int 2147483647))) s1 = some (.val false (.d (.int ((y * 69621 + sizeV c * 48271 + 11).fmod 2147483647))), s1) := fun s1 h h' => by
      simp [h, h', ixO_d ix2, mulB_r]
    have hgt : decide ((0 : Int) < ((r.map D.int).length : Int) + 1) = true := decide_eq_true (by omega)
    by_cases hs : 1000000000000000000 ≤ sizeV c
    · have e : m_pop [some (true, .lst [.d v, .d (.int x), .d (.int y)]), some (true, .ls ((c :: r).map .int)), none, none, none, none] = some (.rt false (.d (.int (sizeV c))), [some (true, .lst [.d v, .d (.int x), .d (.int y)]), some (true, .ls (r.map .int)), some (false, .d (.int c)), none, none, none]) := by
        unfold m_pop
        rw [List.map_cons]
        generalize hm : mIf (tCmpM geA (mV 2) (mC (.int 0))) (m2 mulA (mC (.int 2)) (mV 2)) (m2 subA (m2 mulA (m1 negA (mC (.int 2))) (mV 2)) (mC (.int 1))) = mm at e1
        have h0 : (0 : Int) < (r.length : Int) + 1 := by omega
        simp [e0, e1, h0, hs]
      rw [e, obind_some, seqF_rt, run_ret]
      simp only [loadV, if_pos hs]
      exact ⟨_, rfl⟩
    · have e : m_pop [some (true, .lst [.d v, .d (.int x), .d (.int y)]), some (true, .ls ((c :: r).map .int)), none, none, none, none] =
          some (.nx, [some (true, .lst [.d v, .d (.int x), .d (.int ((y * 69621 + sizeV c * 48271 + 11).fmod 2147483647))]), some (true, .ls (r.map .int)), some (false, .d (.int c)), some (false, .d (.int (sizeV c))), none, none]) := by
        unfold m_pop
        rw [List.map_cons]
        generalize hm : mIf (tCmpM geA (mV 2) (mC (.int 0))) (m2 mulA (mC (.int 2)) (mV 2)) (m2 subA (m2 mulA (m1 negA (mC (.int 2))) (mV 2)) (mC (.int 1))) = mm at e1
        generalize hn : (m2 modA (mN (f1 intA) (mCons (m2 addA (m2 addA (m2 mulA (mIx (mV 0) (mC (.int 2))) (mC (.int 69621))) (m2 mulA (mV 3) (mC (.int 48271)))) (mC (.int 11))) mNil)) (mC (.int 2147483647))) = nn at e3
        have h0 : (0 : Int) < (r.length : Int) + 1 := by omega
        simp [e0, e1, h0, hs]
        rw [run_sSetIx (e3 _ rfl rfl) rfl run_mC]
        simp [six_some set2]
      rw [e, obind_some, seqF_nx]
      simp only [loadV, if_neg hs]
      exact mix_run v _ x _ _ _
/-- cells = box[0] : the list is lent -/
def tBor (K : PySem.W.Frag) : TS := fun D σ H => ∃ o T sa ds b, sa = some (true, .lst (.ls ds :: b)) :: none :: sa.drop 2 ∧ SRel K o T sa σ H ∧
  ∀ v o' σ' H', Le o H o' H' → Keep 1 σ σ' → σ'[1]? = some (some v) → SRel K o' T (some (true, .lst (.d (.opq v) :: b)) :: some (true, .ls ds) :: sa.drop 2) σ' H' → D.nx σ' H'
end MM
namespace MM
open PySem PySem.Spec PyProof.Rows L2
theorem atI_zero {α : Type} {x : α} {xs : List α} : atI (x :: xs) 0 = some x := by
  have e : ixN (x :: xs).length 0 = some 0 := by
    unfold ixN
    rw [if_pos (by omega), if_pos (by simp)]
    rfl
  unfold atI
  rw [e]
  rfl
section
variable {X : Cx} {y b : Str} {py px sp cp pos : Pos} {k0 : Nat}
theorem ps_bor (hx : PE X (.Name b px) (tVar 0)) (hN : X.N.Nodup) (hi : X.N[1]? = some y) (hy : Loc X.env.scope y) (hs : swapsWith (.Subscript (.Name b px) (.Constant (.int 0) k0 cp) sp) (some (.Name y py)) pos.line X.env = pure false := by rfl)
    (hf : X.fn y = true ∨ X.env.scope.names.lookup y = some .local := by first | exact .inl rfl | exact .inr rfl | assumption) :
    PS X (.Assign [.Name y py] (.Subscript (.Name b px) (.Constant (.int 0) k0 cp) sp) pos) (tBor X.K) := PS.weak (ps_set hN hi hy (pe_ix ix_seq hx pe_int (fun _ _ => rfl)) hs hf) fun D σ H h => by
  obtain ⟨o, T, sa, ds, bx, es, S, q⟩ := h
  have e0 : sa[0]? = some (some (true, .lst (.ls ds :: bx))) := by rw [es]; rfl
  have hl : 1 < sa.length := by rw [es]; simp
  obtain ⟨v0, ev0, _⟩ := S.sl 0 _ _ e0
  obtain ⟨fi, o', r0, S', sub, h1, _⟩ := SRel.out S e0 ev0
  obtain ⟨mo, nd, mi⟩ := h1 rfl
  obtain ⟨p, ys, g, rfl, hp, rs, rfl⟩ := lst_of r0
  unfold Reps at rs
  obtain ⟨v1, yr, f, g', rfl, rfl, r1, r2⟩ := rs
  obtain ⟨c, zs, rfl, hc, rd, rfl⟩ := ls_of r1
  have nd : (p :: ([c] ++ g') ++ o').Nodup := nd
  have nd2 : ([c] ++ o').Nodup := by
    have this : (([c] ++ g') ++ o').Nodup := (List.nodup_cons.mp nd).2
    rw [List.append_assoc] at this
    exact (List.nodup_append.mp ((List.perm_append_comm_assoc [c] g' o').nodup this)).2.1
  have nd3 : ((p :: g') ++ ([c] ++ o')).Nodup := by
    have h2 : (p :: ([c] ++ g') ++ o').Perm ((p :: g') ++ ([c] ++ o')) := by
      refine List.Perm.cons p ?_
      show (([c] ++ g') ++ o').Perm (g' ++ ([c] ++ o'))
      rw [List.append_assoc]
      exact List.perm_append_comm_assoc [c] g' o'
    exact h2.nodup nd
  have all : ∀ b, b ∈ (p :: g') ++ ([c] ++ o') → b ∈ o := fun b hb => by
    simp only [List.mem_append, List.mem_cons, List.mem_singleton] at hb
    rcases hb with (hb | hb) | hb | hb
    · exact mi b (by simp [hb])
    · exact mi b (by simp [hb])
    · exact mi b (by rcases hb with rfl | hb; · simp
                     · cases hb)
    · exact sub b hb
  have S1 : SRel X.K ([c] ++ o') ((.ls ds, .ref c) :: T) (sa.set 0 none) σ H := by
    refine ⟨S'.len, fun i fl a e => ?_, Reps.cons r1 S'.own, nd2⟩
    have e' : sa[i]? = some (some (fl, a)) := by
      by_cases hi0 : i = 0
      · subst hi0
        rw [List.getElem?_set_self (by omega)] at e
        cases e
      · rwa [List.getElem?_set_ne (Ne.symm hi0)] at e
    obtain ⟨w, e1, z⟩ := S.sl i fl a e'
    exact ⟨w, e1, fun y => RepS.sub (fun b hb => all b (List.mem_append_right _ hb)) (z y)⟩
  obtain ⟨o2, S2, L2⟩ := SRel.put (j := 1) (fl := true) S1 True.intro (by simpa using hl)
  have r3 : Rep X.K H (.lst (.d (.opq (.ref c)) :: bx)) (.ref p) (p :: g') := by
    unfold Rep
    refine ⟨p, .ref c :: yr, g', rfl, hp, ?_, rfl⟩
    have := Reps.cons (K := X.K) (H := H) (x := .d (.opq (.ref c))) (y := .ref c) (f := []) (rep_d (by unfold RepD; rfl)) r2
    simpa using this
  have nd4 : ((p :: g') ++ o2).Nodup := List.nodup_append.mpr ⟨(List.nodup_append.mp nd3).1, S2.nd, fun a ha b hb e => by
    subst e
    obtain ⟨u, eu, _⟩ := r3.mem a ha
    exact (L2 a u eu fun z => (List.nodup_append.mp nd3).2.2 a ha a z rfl).2 hb⟩
  have hs2 : ∀ b, b ∈ o2 → b ∈ [c] ++ o' := fun b hb => by
    obtain ⟨u, eu, _⟩ := S2.mut b hb
    by_cases z : b ∈ [c] ++ o'
    · exact z
    · exact ((L2 b u eu z).2 hb).elim
  have e1' : (σ.set 1 (some (V.ref c)))[0]? = some (some (.ref p)) := by
    rw [List.getElem?_set_ne (by omega)]
    exact ev0
  have S3 : SRel X.K ((p :: g') ++ o2) ((.lst (.d (.opq (.ref c)) :: bx), .ref p) :: T) ((sa.set 0 none).set 1 (some (true, .ls ds))) (σ.set 1 (some (.ref c))) H := by
    refine ⟨S2.len, fun i fl a e => ?_, Reps.cons r3 S2.own, nd4⟩
    by_cases hi1 : i = 1
    · subst hi1
      rw [List.getElem?_set_self (by simpa using hl)] at e
      cases e
      exact ⟨.ref c, List.getElem?_set_self (by rw [← S.len]; exact hl), fun z => nomatch z⟩
    · rw [List.getElem?_set_ne (Ne.symm hi1)] at e
      have e' : sa[i]? = some (some (fl, a)) := by
        by_cases hi0 : i = 0
        · subst hi0
          rw [List.getElem?_set_self (by omega)] at e
          cases e
        · rwa [List.getElem?_set_ne (Ne.symm hi0)] at e
      obtain ⟨w, e1, z⟩ := S.sl i fl a e'
      exact ⟨w, by rw [List.getElem?_set_ne (Ne.symm hi1)]; exact e1, fun y => RepS.sub (fun b hb => all b (by
        rcases List.mem_append.mp hb with hb | hb
        · exact List.mem_append_left _ hb
        · exact List.mem_append_right _ (hs2 b hb))) (z y)⟩
  obtain ⟨o4, S4, L4⟩ := SRel.put (j := 0) (fl := true) S3 True.intro (by simp; omega)
  have eσ : ((σ.set 1 (some (V.ref c))).set 0 (some (.ref p))) = σ.set 1 (some (.ref c)) := by
    apply List.ext_getElem?
    intro i
    by_cases hi0 : i = 0
    · subst hi0
      rw [List.getElem?_set_self (by rw [List.length_set, ← S.len]; omega), e1']
    · rw [List.getElem?_set_ne (Ne.symm hi0)]
  have esa : ((sa.set 0 none).set 1 (some (true, A.ls ds))).set 0 (some (true, .lst (.d (.opq (.ref c)) :: bx))) = some (true, .lst (.d (.opq (.ref c)) :: bx)) :: some (true, .ls ds) :: sa.drop 2 := by
    rw [es]
    rfl
  rw [eσ, esa] at S4
  have L0 : Le o H o4 H := fun b u e n => by
    refine ⟨e, fun z => ?_⟩
    have h2 : b ∈ (p :: g') ++ o2 := by
      by_cases z2 : b ∈ (p :: g') ++ o2
      · exact z2
      · exact ((L4 b u e z2).2 z).elim
    exact n (all b (by
        rcases List.mem_append.mp h2 with hb | hb
        · exact List.mem_append_left _ hb
        · exact List.mem_append_right _ (hs2 b hb)))
  exact ⟨.ref p, ev0, .inl ⟨p, _, 0, .ref c, rfl, rfl, .of hp, atI_zero, q (.ref c) o4 _ H L0 (Keep.set (by omega)) (List.getElem?_set_self (by rw [← S.len]; exact hl)) S4⟩⟩
end
section
variable {P : Program} {w : World} {K : PySem.W.Frag} {mg : Str → Option Value} {base : Heap}
theorem load_ok {x qual : Str} {st : Stmt} {f : Addr} {fd : FuncData} {N ps : List Str} {k : Nat} {st1 : Stmt} {rest : List Stmt} (F : Fun K x qual st f fd) (S : FnScope N ps (defScope st)) (hN : N.length = 6) (hps : ps.length = 1) (hst : defBody st = st1 :: rest)
    (h1 : ∀ (cdv : Value) (A : Around) (outer : List Env) (s : Shared) (H : Hp), Room k (A.deeper (envOfC qual (defScope st) s.heap.objs.size f cdv)) → ∀ E, PS (cxOf CX0 P w K mg base N qual (defScope st) f cdv A outer s H E).nox st1 (tBor K))
    (hb : ∀ (cdv : Value) (A : Around) (outer : List Env) (s : Shared) (H : Hp), Room k (A.deeper (envOfC qual (defScope st) s.heap.objs.size f cdv)) → ∀ E, PMB 2 (cxOf CX0 P w K mg base N qual (defScope st) f cdv A outer s H E).nox rest m_load) :
    FnOk P w K mg base CX0 (k + 1) f fd ps (spB K 1 F_load) := by
  refine F.ok S (fun vs H Q E h => ?_) fun cdv AA outer s H vs Q E hr h => ?_
  · obtain ⟨b, v0, xs, vr, fb, c, b', rfl, hl, _, _, r, _⟩ := h
    rw [hps, ← hl, r.len]
    rfl
  · obtain ⟨b, v0, xs, vr, fb, c, b', rfl, hl, rb, nd, r, e, q⟩ := h
    refine ⟨tSeq (tBor K) (tOfS 2 K m_load), by rw [hst]; exact pss_cons (h1 cdv AA outer s H hr E) (hb cdv AA outer s H hr E), ?_⟩
    unfold F_load at e
    split at e
    · rename_i ds x y
      split at e
      · rename_i cs ecs
        split at e
        · rename_i hz
          cases e
          unfold RepDs at r
          subst r
          have S0 := initB_rel (N := N) (xs := []) (vr := []) rb nd (by unfold RepDs; rfl)
          rw [hN] at S0
          have st0 : (start N [v0])[0]? = some (some v0) := by simp [L2.start]
          refine ⟨fb, [], _, ds, _, rfl, S0, fun v o1 σ1 H1 L1 k1 ev1 S1 => ?_⟩
          have eds : ds = cs.map .int := by
            have gen : ∀ (ds : List D) (cs : List Int), intsD ds = some cs → ds = cs.map .int := by
              intro ds
              induction ds with
              | nil => intro cs h; cases h; rfl
              | cons d r ih =>
                intro cs h
                cases d with
                | int i =>
                  unfold intsD at h
                  cases h2 : intsD r with
                  | none => rw [h2] at h; cases h
                  | some z =>
                    rw [h2] at h
                    cases h
                    rw [ih z h2]
                    rfl
                | _ => cases h
            exact gen ds cs ecs
          subst eds
          obtain ⟨t, er⟩ := load_run (.opq v) cs x y hz
          refine ⟨o1, [], _, _, _, er, S1, fun o2 σ2 H2 L2 k2 => ?_⟩
          intro vz S2 R2
          have e20 : σ2[0]? = some (some v0) := (k2 0 (by omega)).trans ((k1 0 (by omega)).trans st0)
          have e21 : σ2[1]? = some (some v) := (k2 1 (by omega)).trans ev1
          have S2 : SRel K o2 [] _ σ2 H2 := S2
          have rz : RepD K H2 (.int (loadV cs y).1) vz := by
            obtain ⟨fp, r, _⟩ := R2
            exact repD_d r
          obtain ⟨fi, o3, ri, S3, sub3, h3, _⟩ := SRel.out (j := 0) S2 rfl e20
          obtain ⟨_, nd3, mo3⟩ := h3 rfl
          obtain ⟨fj, o4, rj, S4, sub4, h4, _⟩ := SRel.out (j := 1) S3 rfl e21
          obtain ⟨_, nd4, mo4⟩ := h4 rfl
          obtain ⟨p, ys, g, rfl, hp, rs, rfl⟩ := lst_of ri
          unfold Reps at rs
          obtain ⟨v1, yr, f1, g1, rfl, rfl, r1, r2⟩ := rs
          have hv : v1 = v ∧ f1 = [] := by
            unfold Rep at r1
            refine ⟨?_, r1.2⟩
            have := r1.1
            unfold RepD at this
            exact this
          obtain ⟨rfl, rfl⟩ := hv
          have rf : Rep K H2 (.lst (.ls ((loadV cs y).2.1.map .int) :: [.d (.int x), .d (.int (loadV cs y).2.2)])) (.ref p) (p :: (fj ++ g1)) := by
            unfold Rep
            exact ⟨p, _, _, rfl, hp, Reps.cons rj r2, rfl⟩
          have nd3 : (p :: g1 ++ o3).Nodup := nd3
          have ndf : (p :: (fj ++ g1)).Nodup := by
            have a1 : ∀ b ∈ fj, b ∈ o3 := mo4
            have a2 := (List.nodup_append.mp nd4).1
            have a3 := List.nodup_append.mp nd3
            have a4 := List.nodup_cons.mp a3.1
            refine List.nodup_cons.mpr ⟨fun z => ?_, List.nodup_append.mpr ⟨a2, a4.2, fun u hu w hw e => a3.2.2 w (List.mem_cons_of_mem _ hw) u (a1 u hu) e.symm⟩⟩
            rcases List.mem_append.mp z with z | z
            · exact a3.2.2 p List.mem_cons_self p (a1 p z) rfl
            · exact a4.1 z
          refine q vz H2 (p :: (fj ++ g1)) (fun b u e n => ?_) ndf rz rf
          obtain ⟨e1, n1⟩ := (L1.trans L2) b u e n
          refine ⟨e1, fun z => n1 ?_⟩
          rcases List.mem_cons.mp z with rfl | z
          · exact mo3 b (by simp)
          · rcases List.mem_append.mp z with z | z
            · exact sub3 b (mo4 b z)
            · exact mo3 b (by simp [z])
        · cases e
      · cases e
    · cases e
end
end MM
namespace MM
open PySem PySem.Spec PyProof.Rows L2

/-! ### what the laws share -/
def m__law_box : SM Fl :=
    sRet (mLst (mCons (mN (f1 listA) (mCons (mSl (mV 0) partN (partS (mC (.int 63)))) mNil)) (mCons (mC (.int 0)) (mCons (m2 addA (mC (.int 4711)) (mN (f1 lenA) (mCons (mV 0) mNil))) mNil))))
def F__law_box : List MM.A → Option MM.A := runF 1 m__law_box
def m__law_draw : SM Fl :=
    sSeq (sIf (tCmpM ltA (mIx (mV 0) (mC (.int 1))) (mV 1)) (sSetIx 0 (mC (.int 1)) (mCallB 1 F_load 0 mNil)) sNop)
    (sSeq (sSet 2 (m2 modA (mN (f1 intA) (mCons (mIx (mV 0) (mC (.int 1))) mNil)) (mV 1)))
    (sSeq (sSetIx 0 (mC (.int 1)) (m2 fdivA (mIx (mV 0) (mC (.int 1))) (mV 1)))
    (sRet (mV 2))))
def F__law_draw : MM.A → List D → Option (D × MM.A) := runB 3 m__law_draw
def m__law_same (self : List MM.A → Option MM.A) : SM Fl :=
    sSeq (sIf (tOrM (tAndM (mTru (mN (fIsi .tuple) (mCons (mV 0) (mCons (mC (.opq (.ty "tuple"))) mNil)))) (mTru (mN (fIsi .tuple) (mCons (mV 1) (mCons (mC (.opq (.ty "tuple"))) mNil))))) (tAndM (mTru (mN (fIsi .list) (mCons (mV 0) (mCons (mC (.opq (.ty "list"))) mNil)))) (mTru (mN (fIsi .list) (mCons (mV 1) (mCons (mC (.opq (.ty "list"))) mNil)))))) (sRet (mAndV (asV (tCmpM eqA (mN (f1 lenA) (mCons (mV 0) mNil)) (mN (f1 lenA) (mCons (mV 1) mNil)))) (mN (f1 allA) (mCons (mComp [2] (mRange1 (mCons (mN (f1 lenA) (mCons (mV 0) mNil)) mNil)) (.nm 2) tYesM (mN (fN 2 self) (mCons (mIx (mV 0) (mV 2)) (mCons (mIx (mV 1) (mV 2)) mNil)))) mNil)))) sNop)
    (sSeq (sIf (tOrM (mTru (mN (fIsi .bool) (mCons (mV 0) (mCons (mC (.opq (.ty "bool"))) mNil)))) (mTru (mN (fIsi .bool) (mCons (mV 1) (mCons (mC (.opq (.ty "bool"))) mNil))))) (sRet (mAndV (mN (fIsi .bool) (mCons (mV 0) (mCons (mC (.opq (.ty "bool"))) mNil))) (mAndV (mN (fIsi .bool) (mCons (mV 1) (mCons (mC (.opq (.ty "bool"))) mNil))) (asV (tCmpM eqA (mV 0) (mV 1)))))) sNop)
    (sSeq (sIf (tOrM (tAndM (mTru (mN (fIsi .int) (mCons (mV 0) (mCons (mC (.opq (.ty "int"))) mNil)))) (mTru (mN (fIsi .int) (mCons (mV 1) (mCons (mC (.opq (.ty "int"))) mNil))))) (tAndM (mTru (mN (fIsi .str) (mCons (mV 0) (mCons (mC (.opq (.ty "str"))) mNil)))) (mTru (mN (fIsi .str) (mCons (mV 1) (mCons (mC (.opq (.ty "str"))) mNil)))))) (sRet (asV (tCmpM eqA (mV 0) (mV 1)))) sNop)
    (sRet (mAndV (asV (tCmpM isA (mV 0) (mC .non))) (asV (tCmpM isA (mV 1) (mC .non)))))))
def F__law_same : Nat → (List MM.A → Option MM.A)
  | 0 => fun _ => none
  | k + 1 => runF 3 (m__law_same (F__law_same k))

/-! ### running: statements with lists and loops -/
section
variable {s s1 s2 : List Slot} {j n : Nat} {r : R} {m : SM R} {fl : Bool}
theorem run_append {a l l' : A} (h0 : isL s[j]? = true) (h : m s = some (r, s1)) (ha : od r s1 = some a) (hl : s1[j]? = some (some (true, l))) (h' : appA l a = some l') : mAppend j m s = some (.val false (.d .non), s1.set j (some (true, l'))) := by
  unfold mAppend
  rw [if_pos h0, run_bnd, h, obind_some]
  simp only [ha, hl, h', Option.map_some]
theorem run_popAt {xs : List D} {i : Int} {x : D} {k : Nat} (h0 : isL s[j]? = true) (h : m s = some (r, s1)) (hr : rv r s1 = some (.d (.int i))) (hl : s1[j]? = some (some (true, .ls xs))) (hi : ixN xs.length i = some k) (hz : szB xs.length = true) (hx : xs[k]? = some x) :
    mPopAt j m s = some (.val false (.d x), s1.set j (some (true, .ls (xs.eraseIdx k)))) := by
  unfold mPopAt
  rw [if_pos h0, run_bnd, h, obind_some]
  simp only [hr, hl, hi, hz, hx, if_true]
theorem run_callB {G : A → List D → Option (D × A)} {ms : SM (List R)} {rs : List R} {xs : List D} {b b' : A} {c : D} (h0 : s[j]? = some (some (true, b))) (h : ms s = some (rs, s1)) (hx : rds rs s1 = some xs) (hb : s1[j]? = some (some (true, b))) (hn : xs.length + 1 = n) (hG : G b xs = some (c, b')) :
    mCallB n G j ms s = some (.val false (.d c), s1.set j (some (true, b'))) := by
  unfold mCallB
  rw [h0]
  simp only [run_bnd, h, obind_some, hx, hb, hn, if_true, hG]
@[simp] theorem rds_nil : rds [] s = some [] := rfl
theorem rds_cons {rs : List R} {x : D} {xs : List D} (h1 : rv r s = some (.d x)) (h2 : rds rs s = some xs) : rds (r :: rs) s = some (x :: xs) := by unfold rds; rw [h1, h2]
theorem rds_one {x : D} (h1 : rv r s = some (.d x)) : rds [r] s = some [x] := rds_cons h1 rds_nil
@[simp] theorem fN1 {F : List A → Option A} {a : A} : fN 1 F [a] = F [a] := rfl
@[simp] theorem fN2 {F : List A → Option A} {a b : A} : fN 2 F [a, b] = F [a, b] := rfl
@[simp] theorem fN3 {F : List A → Option A} {a b c : A} : fN 3 F [a, b, c] = F [a, b, c] := rfl
@[simp] theorem fN4 {F : List A → Option A} {a b c d : A} : fN 4 F [a, b, c, d] = F [a, b, c, d] := rfl
@[simp] theorem fN5 {F : List A → Option A} {a b c d e : A} : fN 5 F [a, b, c, d, e] = F [a, b, c, d, e] := rfl
@[simp] theorem run_mUse : mUse m s = obind (m s) fun r => bnd (use r) fun p => ret (.val p.1 p.2) := by unfold mUse; exact run_bnd
@[simp] theorem setAll_nil : setAll [] [] s = some s := rfl
theorem setAll_cons {js : List Nat} {rs : List R} {a : A} (h : setAll js rs s = some s1) (hj : j < s1.length) : setAll (j :: js) (.val fl a :: rs) s = some (s1.set j (some (fl, a))) := by
  unfold setAll
  simp only [h, hj, if_true]
theorem setAll_two {i k : Nat} {f g : Bool} {a b : A} (h1 : k < s.length) (h2 : i < s.length) : setAll [i, k] [.val f a, .val g b] s = some ((s.set k (some (g, b))).set i (some (f, a))) := setAll_cons (setAll_cons setAll_nil h1) (by simpa using h2)
theorem run_sPar {js : List Nat} {ms : SM (List R)} {rs : List R} (h : ms s = some (rs, s1)) (hz : szB rs.length = true) (h2 : setAll js rs s1 = some s2) : sPar js ms s = some (.nx, s2) := by
  unfold sPar
  rw [run_bnd, h, obind_some, if_pos hz, h2]
  rfl
theorem run_swap {mi mk me : SM R} {z1 z2 : D} {ri rk : R} {i k : Int} {l1 l2 l3 : A} {s3 s4 : List Slot} (h : me s = some (r, s1)) (hr : rv r s1 = some (.d (.tup [z1, z2]))) (h1 : isL s1[j]? = true) (hi : mi s1 = some (ri, s2)) (hri : rv ri s2 = some (.d (.int i))) (hl : s2[j]? = some (some (true, l1))) (hs : setA l1 i z1 = some l2)
    (h2 : isL (s2.set j (some (true, l2)))[j]? = true) (hk : mk (s2.set j (some (true, l2))) = some (rk, s3)) (hrk : rv rk s3 = some (.d (.int k))) (hl3 : s3[j]? = some (some (true, l2))) (hs2 : setA l2 k z2 = some l3) :
    sSwapIx j mi mk me s = some (.nx, s3.set j (some (true, l3))) := by
  unfold sSwapIx
  rw [run_bnd, h, obind_some]
  simp only [hr]
  unfold st1Ix
  rw [if_pos h1, run_bnd, hi, obind_some]
  simp only [hri, hl, hs]
  rw [if_pos h2, run_bnd, hk, obind_some]
  simp only [hrk, hl3, hs2]
  rfl
/-! targets -/
theorem putI_nm {a : A} (h : j < s.length) : putI (.nm j) a s = some (s.set j (some (false, a))) := by
  cases a with
  | d x =>
    show Tg.put (.nm j) x s = _
    unfold Tg.put
    rw [if_pos h]
  | _ => exact if_pos h
theorem put_nm {x : D} (h : j < s.length) : Tg.put (.nm j) x s = some (s.set j (some (false, .d x))) := by
  unfold Tg.put
  rw [if_pos h]
@[simp] theorem puts_nil : Tg.puts [] [] s = some s := by unfold Tg.puts; rfl
theorem puts_cons {t : Tg} {ts : List Tg} {x : D} {xs : List D} (h : t.put x s = some s1) (h2 : Tg.puts ts xs s1 = some s2) : Tg.puts (t :: ts) (x :: xs) s = some s2 := by
  unfold Tg.puts
  simp only [h, h2]
theorem putI_tp {ts : List Tg} {xs : List D} (h : Tg.puts ts xs s = some s1) : putI (.tp ts) (.d (.tup xs)) s = some s1 := by
  show Tg.put (.tp ts) (.tup xs) s = _
  unfold Tg.put
  exact h
theorem putI_pair {i k : Nat} {x y : D} (h1 : i < s.length) (h2 : k < s.length) : putI (.tp [.nm i, .nm k]) (.d (.tup [x, y])) s = some ((s.set i (some (false, .d x))).set k (some (false, .d y))) :=
  putI_tp (puts_cons (put_nm h1) (puts_cons (put_nm (by simpa using h2)) puts_nil))
theorem putI_trip {i k l : Nat} {x y z : D} (h1 : i < s.length) (h2 : k < s.length) (h3 : l < s.length) : putI (.tp [.nm i, .nm k, .nm l]) (.d (.tup [x, y, z])) s = some (((s.set i (some (false, .d x))).set k (some (false, .d y))).set l (some (false, .d z))) :=
  putI_tp (puts_cons (put_nm h1) (puts_cons (put_nm (by simpa using h2)) (puts_cons (put_nm (by simpa using h3)) puts_nil)))
/-! what is walked -/
theorem run_iter {p : Bool × A} {its : List A} (h : m s = some (r, s1)) (hu : use r s1 = some (p, s2)) (hi : iterA p.2 = some its) : mIter m s = some (its, s2) := by
  unfold mIter
  rw [run_bnd, h, obind_some, run_bnd, hu, obind_some, hi]
  rfl
theorem run_enum {p : Bool × A} {its : List A} (h : m s = some (r, s1)) (hu : use r s1 = some (p, s2)) (hi : enA p.2 = some its) : mEnum m s = some (its, s2) := by
  unfold mEnum
  rw [run_bnd, h, obind_some, run_bnd, hu, obind_some, hi]
  rfl
theorem run_range1 {i : Int} (h : m s = some (r, s1)) (hr : rv r s1 = some (.d (.int i))) (hj : rgB i = true) : mRange1 (mCons m mNil) s = some (rangeL 0 i.toNat, s1) := by
  unfold mRange1
  have e : mCons m mNil s = some ([r], s1) := by simp [h]
  rw [run_bnd, e, obind_some, rds_one hr]
  simp only [hj, if_true]
theorem run_range2 {i k : Int} {m2 : SM R} {r2 : R} (h : m s = some (r, s1)) (h2 : m2 s1 = some (r2, s2)) (hr : rv r s2 = some (.d (.int i))) (hr2 : rv r2 s2 = some (.d (.int k))) (hj : rgB i = true) (hk : rgB k = true) : mRange2 (mCons m (mCons m2 mNil)) s = some (rangeL i (k - i).toNat, s2) := by
  unfold mRange2
  have e : mCons m (mCons m2 mNil) s = some ([r, r2], s2) := by simp [h, h2]
  rw [run_bnd, e, obind_some, rds_cons hr (rds_one hr2)]
  simp only [hj, hk, Bool.and_self, if_true]
theorem rgB_of {i : Int} (h0 : -4000000000000000000 ≤ i) (h : i < 4000000000000000000) : rgB i = true := decide_eq_true ⟨by omega, by omega⟩
theorem rangeL_len {lo : Int} {n : Nat} : (rangeL lo n).length = n := by simp [rangeL]
theorem rangeL_get {lo : Int} {n i : Nat} (h : i < n) : (rangeL lo n)[i]? = some (.d (.int (lo + (i : Nat)))) := by simp [rangeL, h]
@[simp] theorem run_sFor {t : Tg} {mi : SM (List A)} {b : SM Fl} : sFor t mi b s = obind (mi s) fun its => forL t b its := by unfold sFor; exact run_bnd
/-- a loop that goes to its end -/
theorem forL_ok {t : Tg} {b : SM Fl} {its : List A} (Inv : Nat → List Slot → Prop) (h0 : Inv 0 s)
    (h : ∀ (i : Nat) (a : A) (s : List Slot), its[i]? = some a → Inv i s → ∃ s1 s2, putI t a s = some s1 ∧ b s1 = some (.nx, s2) ∧ Inv (i + 1) s2) : ∃ s', forL t b its s = some (.nx, s') ∧ Inv its.length s' := by
  have gen : ∀ (k i : Nat) (s : List Slot), its.length = i + k → Inv i s → ∃ s', forL t b (its.drop i) s = some (.nx, s') ∧ Inv its.length s' := by
    intro k
    induction k with
    | zero =>
      intro i s e hs
      rw [List.drop_eq_nil_of_le (by omega)]
      exact ⟨s, rfl, by rw [e]; exact hs⟩
    | succ k ih =>
      intro i s e hs
      have hi : i < its.length := by omega
      obtain ⟨s1, s2, e1, e2, hs2⟩ := h i its[i] s (List.getElem?_eq_getElem hi) hs
      rw [List.drop_eq_getElem_cons hi]
      unfold forL
      simp only [e1, e2]
      exact ih (i + 1) s2 (by omega) hs2
  have := gen its.length 0 s (by omega) h0
  rwa [List.drop_zero] at this
/-- a comprehension, turn by turn -/
theorem compL_ok {ws : List Nat} {t : Tg} {tt : SM Bool} {te : SM R} {its : List A} {l : A} (Inv : Nat → A → List Slot → Prop) (h0 : Inv 0 l s)
    (h : ∀ (i : Nat) (a l : A) (s : List Slot), its[i]? = some a → Inv i l s → ∃ s1 k s2, putI t a s = some s1 ∧ tt s1 = some (k, s2) ∧ (k = true → ∃ r s3 y l', te s2 = some (r, s3) ∧ od r s3 = some y ∧ appA l y = some l' ∧ Inv (i + 1) l' (wipeA ws s3)) ∧ (k = false → Inv (i + 1) l (wipeA ws s2))) :
    ∃ l' s', compL ws t tt te its l s = some (l', s') ∧ Inv its.length l' s' := by
  have gen : ∀ (k i : Nat) (l : A) (s : List Slot), its.length = i + k → Inv i l s → ∃ l' s', compL ws t tt te (its.drop i) l s = some (l', s') ∧ Inv its.length l' s' := by
    intro k
    induction k with
    | zero =>
      intro i l s e hs
      rw [List.drop_eq_nil_of_le (by omega)]
      exact ⟨l, s, rfl, by rw [e]; exact hs⟩
    | succ k ih =>
      intro i l s e hs
      have hi : i < its.length := by omega
      obtain ⟨s1, q, s2, e1, e2, ht, hf⟩ := h i its[i] l s (List.getElem?_eq_getElem hi) hs
      rw [List.drop_eq_getElem_cons hi]
      unfold compL
      cases q with
      | true =>
        obtain ⟨r, s3, y, l', e3, e4, e5, hs3⟩ := ht rfl
        simp only [e1, e2, e3, e4, e5]
        exact ih (i + 1) l' _ (by omega) hs3
      | false =>
        simp only [e1, e2]
        exact ih (i + 1) l _ (by omega) (hf rfl)
  have := gen its.length 0 l s (by omega) h0
  rwa [List.drop_zero] at this
/-- a comprehension whose turns leave the state: data of each item -/
theorem compL_map {ws : List Nat} {t : Tg} {tt : SM Bool} {te : SM R} {α : Type} (enc : α → A) (p : α → Bool) (g : α → D) {acc : List D} :
    ∀ {xs : List α}, (∀ a ∈ xs, ∃ s1, putI t (enc a) s = some s1 ∧ wipeA ws s1 = s ∧ tt s1 = some (p a, s1) ∧ (p a = true → ∃ r, te s1 = some (r, s1) ∧ od r s1 = some (.d (g a)))) → szB (acc.length + xs.length) = true →
    compL ws t tt te (xs.map enc) (.ls acc) s = some (.ls (acc ++ (xs.filter p).map g), s)
  | [], _, _ => by simp [compL]
  | a :: xs, h, hz => by
    obtain ⟨s1, e1, e2, e3, e4⟩ := h a List.mem_cons_self
    have hx := fun b hb => h b (List.mem_cons_of_mem _ hb)
    rw [List.map_cons]
    unfold compL
    have hle := of_decide_eq_true hz
    rw [List.length_cons] at hle
    cases hp : p a with
    | true =>
      obtain ⟨r, e5, e6⟩ := e4 hp
      have e7 : appA (.ls acc) (.d (g a)) = some (.ls (acc ++ [g a])) := by
        show (if szB (acc.length + 1) then some (A.ls (acc ++ [g a])) else none) = _
        rw [if_pos (szB_of (by omega))]
      simp only [e1, e3, hp, e5, e6, e7, e2]
      rw [compL_map enc p g hx (szB_of (by simp; omega)), List.filter_cons_of_pos hp]
      simp
    | false =>
      simp only [e1, e3, hp, e2]
      rw [compL_map enc p g hx (szB_of (by omega)), List.filter_cons_of_neg (by simp [hp])]
/-- .. with the source -/
theorem run_comp {ws : List Nat} {mi : SM (List A)} {t : Tg} {tt : SM Bool} {te : SM R} {its : List A} {l : A} (h : mi s = some (its, s1)) (h2 : compL ws t tt te its (.ls []) (wipeA ws s1) = some (l, s2)) : mComp ws mi t tt te s = some (fin l, restA ws s1 s2) := by
  unfold mComp
  simp only [h, h2]
theorem run_compM {ws : List Nat} {mi : SM (List A)} {t : Tg} {tt : SM Bool} {te : SM R} {α : Type} (enc : α → A) (p : α → Bool) (g : α → D) {xs : List α} (h : mi s = some (xs.map enc, s1))
    (ht : ∀ a ∈ xs, ∃ s2, putI t (enc a) (wipeA ws s1) = some s2 ∧ wipeA ws s2 = wipeA ws s1 ∧ tt s2 = some (p a, s2) ∧ (p a = true → ∃ r, te s2 = some (r, s2) ∧ od r s2 = some (.d (g a)))) (hz : xs.length ≤ 16777216) :
    mComp ws mi t tt te s = some (.val true (.ls ((xs.filter p).map g)), restA ws s1 (wipeA ws s1)) := by
  have := compL_map (acc := []) enc p g ht (szB_of (by simpa using hz))
  rw [run_comp h this]
  rfl
@[simp] theorem run_tYes : tYesM s = some (true, s) := rfl
theorem filter_yes {α : Type} {xs : List α} : xs.filter (fun _ => true) = xs := by simp
end

/-! ### data -/
theorem toPDs_map {α : Type} {f : α → D} {g : α → PyData} : ∀ {xs : List α}, (∀ x ∈ xs, toPD (f x) = some (g x)) → toPDs (xs.map f) = some (xs.map g)
  | [], _ => by simp [toPDs]
  | x :: xs, h => by
    rw [List.map_cons, List.map_cons]
    unfold toPDs
    rw [h x List.mem_cons_self, toPDs_map fun y hy => h y (List.mem_cons_of_mem _ hy)]
theorem toPD_str {x : Str} (h : PyData.strOk x = true) : toPD (.str x) = some (.str x) := by
  unfold toPD
  rw [if_pos h]
theorem toPD_int {i : Int} : toPD (.int i) = some (.int i) := by unfold toPD; rfl
theorem toPD_bl {i : Bool} : toPD (.bl i) = some (.bool i) := by unfold toPD; rfl
theorem toPD_tup {xs : List D} {ds : List PyData} (h : toPDs xs = some ds) : toPD (.tup xs) = some (.tuple ds) := by
  unfold toPD
  rw [h]
  rfl
theorem canAll {ds : List PyData} (h : ∀ d ∈ ds, PyData.canLay0 d = true) : PyData.canLayAll0 ds = true := by
  induction ds with
  | nil => simp [PyData.canLayAll0]
  | cons d r ih =>
    unfold PyData.canLayAll0
    rw [h d List.mem_cons_self, ih fun x hx => h x (List.mem_cons_of_mem _ hx)]
    rfl
theorem shaped_str {x : Str} (h : PyData.strOk x = true) : SeqAt.shaped (.str x) = true := by
  unfold SeqAt.shaped PyData.canLay0
  simp [h, PyData.depth]
theorem shaped_int {i : Int} : SeqAt.shaped (.int i) = true := by
  unfold SeqAt.shaped PyData.canLay0
  simp [PyData.depth]
theorem shaped_bool {i : Bool} : SeqAt.shaped (.bool i) = true := by
  unfold SeqAt.shaped PyData.canLay0
  simp [PyData.depth]
@[simp] theorem eqA_int {i j : Int} : eqA (.d (.int i)) (.d (.int j)) = some (decide (i = j)) := by
  unfold eqA toP
  simp only [toPD_int, shaped_int, Bool.and_self, if_true]
  simp [PyData.eqv]
  by_cases h : i = j <;> simp [h]
@[simp] theorem neA_int {i j : Int} : neA (.d (.int i)) (.d (.int j)) = some (!decide (i = j)) := by
  unfold neA
  rw [eqA_int]
  rfl
@[simp] theorem eqA_bl {i j : Bool} : eqA (.d (.bl i)) (.d (.bl j)) = some (i == j) := by
  unfold eqA toP
  simp only [toPD_bl, shaped_bool, Bool.and_self, if_true]
  simp [PyData.eqv]
theorem eqA_str {x y : Str} (hx : PyData.strOk x = true) (hy : PyData.strOk y = true) : eqA (.d (.str x)) (.d (.str y)) = some (x == y) := by
  unfold eqA toP
  simp only [toPD_str hx, toPD_str hy, shaped_str hx, shaped_str hy, Bool.and_self, if_true]
  simp [PyData.eqv]
theorem inA_strs {x : Str} {ys : List Str} (hx : PyData.strOk x = true) (hy : ∀ y ∈ ys, PyData.strOk y = true) : inA (.d (.str x)) (.d (.tup (ys.map .str))) = some (ys.any fun y => y == x) := by
  have e1 : toPDs (ys.map .str) = some (ys.map PyData.str) := toPDs_map fun y h => toPD_str (hy y h)
  have e2 : PyData.canLayAll0 (ys.map PyData.str) = true := canAll fun d hd => by
    obtain ⟨y, h, rfl⟩ := List.mem_map.mp hd
    unfold PyData.canLay0
    exact hy y h
  unfold inA itemsP toP
  simp only [toPD_str hx, toPD_tup e1, shaped_str hx, e2, Bool.and_self, if_true]
  simp [List.any_map, Function.comp_def, PyData.eqv]
end MM
namespace MM
open PySem PySem.Spec PyProof.Rows L2

/-! ### the box of draws -/
def BoxOk (b : A) : Prop := ∃ (cs : List Int) (x y : Int), b = .lst [.ls (cs.map .int), .d (.int x), .d (.int y)] ∧ cs.length ≤ 63
theorem cutL_map {α β : Type} (f : α → β) (xs : List α) (lo hi : Option Int) : cutL (xs.map f) lo hi = (cutL xs lo hi).map f := by
  unfold cutL
  rw [List.length_map, List.map_take, List.map_drop]
theorem cutL_le {α : Type} (xs : List α) (lo hi : Option Int) : (cutL xs lo hi).length ≤ xs.length := by
  unfold cutL
  rw [List.length_take, List.length_drop]
  omega
theorem seqO_mk {s : List Slot} {as : List A} {g : List A → A} (h : as.length ≤ 16777216) : seqO (some as) g s = some (fin (g as), s) := seqO_some (szB_of h)
theorem box_ok {ns : List Int} (hl : ns.length ≤ 63) : ∃ b, F__law_box [.d (.scr ns)] = some b ∧ BoxOk b ∧ fin b = .val true b := by
  refine ⟨_, ?_, ⟨cutL ns none (some 63), 0, 4711 + ns.length, rfl, Nat.le_trans (cutL_le _ _ _) hl⟩, rfl⟩
  unfold F__law_box runF m__law_box
  show endF (sRet _ [some (false, .d (.scr ns))]) = _
  have e1 : slA none (some 63) (.d (.scr ns)) = some (.ls ((cutL ns none (some 63)).map .int)) := by rw [← cutL_map]; rfl
  have e2 : lenA (.d (.scr ns)) = some (.i ns.length) := rfl
  have e3 : ∀ xs, listA (.ls xs) = some (.ls xs) := fun _ => rfl
  simp [e1, e2, e3, seqO_mk, mkL, allD, endF]
theorem ix1 {v x y : A} : ixA (.lst [v, x, y]) (.d (.int 1)) = some x := rfl
theorem set1 {v x y : A} {z : D} : setA (.lst [v, x, y]) 1 z = some (.lst [v, .d z, y]) := rfl
theorem load_box {cs : List Int} {x y : Int} (h : cs.length ≤ 63) : ∃ (v : Int) (cs' : List Int) (y' : Int), F_load (.lst [.ls (cs.map .int), .d (.int x), .d (.int y)]) [] = some (.int v, .lst [.ls (cs'.map .int), .d (.int x), .d (.int y')]) ∧ cs'.length ≤ 63 := by
  refine ⟨(loadV cs y).1, (loadV cs y).2.1, (loadV cs y).2.2, ?_, ?_⟩
  · unfold F_load
    simp only [intsD_map]
    rw [if_pos (szB_of (by omega))]
  · unfold loadV
    cases cs with
    | nil => simp
    | cons c r =>
      simp at h
      simp only
      split <;> simp <;> omega
theorem divB_of {m : Int} (h0 : 0 < m) (h : m < 1073741824) : divB m = true := by
  unfold divB
  rw [decide_eq_true (show m ≠ 0 ∧ m.natAbs < 1073741824 from ⟨by omega, by omega⟩)]
  rfl
theorem draw_ok {b : A} {m : Int} (B : BoxOk b) (h0 : 0 < m) (h : m < 1073741824) : ∃ (k : Int) (b' : A), F__law_draw b [.int m] = some (.int k, b') ∧ 0 ≤ k ∧ k < m ∧ BoxOk b' := by
  obtain ⟨cs, x, y, rfl, hc⟩ := B
  have fin : ∀ (cs : List Int) (x y : Int), cs.length ≤ 63 → ∃ (k : Int) (b' : A), endB ((sSeq (sSet 2 (m2 modA (mN (f1 intA) (mCons (mIx (mV 0) (mC (.int 1))) mNil)) (mV 1)))
    (sSeq (sSetIx 0 (mC (.int 1)) (m2 fdivA (mIx (mV 0) (mC (.int 1))) (mV 1)))
    (sRet (mV 2)))) [some (true, .lst [.ls (cs.map .int), .d (.int x), .d (.int y)]), some (false, .d (.int m)), none]) = some (.int k, b') ∧ 0 ≤ k ∧ k < m ∧ BoxOk b' := fun cs x y hc => by
    refine ⟨x.fmod m, .lst [.ls (cs.map .int), .d (.int (x.fdiv m)), .d (.int y)], ?_, ?_, ?_, cs, x.fdiv m, y, rfl, hc⟩
    · have e : ∀ s : List Slot, s[0]? = some (some (true, .lst [.ls (cs.map .int), .d (.int x), .d (.int y)])) → s[1]? = some (some (false, .d (.int m))) → (m2 fdivA (mIx (mV 0) (mC (.int 1))) (mV 1)) s = some (.val false (.d (.int (x.fdiv m))), s) := fun s h1 h2 => by
        simp [h1, h2, ixO_d ix1, divB_of h0 h]
      simp [ixO_d ix1, show m ≠ 0 by omega]
      rw [run_sSetIx (e _ rfl rfl) rfl run_mC]
      simp [six_some set1, endB]
    · exact Int.fmod_nonneg_of_pos x h0
    · exact Int.fmod_lt_of_pos x h0
  unfold F__law_draw runB m__law_draw
  show ∃ k b', endB (sSeq _ _ [some (true, .lst [.ls (cs.map .int), .d (.int x), .d (.int y)]), some (false, .d (.int m)), none]) = _ ∧ _
  rw [run_sSeq]
  by_cases hx : x < m
  · obtain ⟨v, cs', y', e1, hc'⟩ := load_box (x := x) (y := y) hc
    have e2 : (sIf (tCmpM ltA (mIx (mV 0) (mC (.int 1))) (mV 1)) (sSetIx 0 (mC (.int 1)) (mCallB 1 F_load 0 mNil)) sNop) [some (true, .lst [.ls (cs.map .int), .d (.int x), .d (.int y)]), some (false, .d (.int m)), none] =
        some (.nx, [some (true, .lst [.ls (cs'.map .int), .d (.int v), .d (.int y')]), some (false, .d (.int m)), none]) := by
      have e3 := run_callB (j := 0) (n := 1) (G := F_load) (s := [some (true, .lst [.ls (cs.map .int), .d (.int x), .d (.int y)]), some (false, .d (.int m)), none]) (ms := mNil) rfl run_mNil rds_nil rfl rfl e1
      simp [ixO_d ix1, hx]
      rw [run_sSetIx e3 rfl run_mC]
      simp [six_some set1]
    rw [e2, obind_some, seqF_nx]
    exact fin cs' v y' hc'
  · have e2 : (sIf (tCmpM ltA (mIx (mV 0) (mC (.int 1))) (mV 1)) (sSetIx 0 (mC (.int 1)) (mCallB 1 F_load 0 mNil)) sNop) [some (true, .lst [.ls (cs.map .int), .d (.int x), .d (.int y)]), some (false, .d (.int m)), none] =
        some (.nx, [some (true, .lst [.ls (cs.map .int), .d (.int x), .d (.int y)]), some (false, .d (.int m)), none]) := by
      simp [ixO_d ix1, hx]
    rw [e2, obind_some, seqF_nx]
    exact fin cs x y hc
/-- a draw, as a term -/
theorem run_draw {s s1 : List Slot} {m : SM R} {r : R} {j : Nat} {b : A} {i : Int} (hs : s[j]? = some (some (true, b))) (h : m s = some (r, s1)) (hr : rv r s1 = some (.d (.int i))) (hs1 : s1[j]? = some (some (true, b))) (B : BoxOk b) (h0 : 0 < i) (h1 : i < 1073741824) :
    ∃ (k : Int) (b' : A), mCallB 2 F__law_draw j (mCons m mNil) s = some (.val false (.d (.int k)), s1.set j (some (true, b'))) ∧ 0 ≤ k ∧ k < i ∧ BoxOk b' := by
  obtain ⟨k, b', e, h2, h3, B'⟩ := draw_ok B h0 h1
  have e1 : mCons m mNil s = some ([r], s1) := by simp [h]
  exact ⟨k, b', run_callB hs e1 (rds_one hr) hs1 rfl e, h2, h3, B'⟩

/-! ### _law_same over data -/
def okD : Nat → D → Bool
  | 0, _ => false
  | n + 1, .tup xs => xs.all (okD n) && szB xs.length
  | _ + 1, .str x => PyData.strOk x
  | _ + 1, .opq _ => false
  | _ + 1, .scr _ => false
  | _ + 1, _ => true
def sameN : Nat → D → D → Bool
  | n + 1, .tup xs, .tup ys => xs.length == ys.length && (List.range xs.length).all fun k => sameN n (xs.getD k .non) (ys.getD k .non)
  | _ + 1, .bl a, .bl b => a == b
  | _ + 1, .int a, .int b => decide (a = b)
  | _ + 1, .str a, .str b => a == b
  | _ + 1, .non, .non => true
  | _, _, _ => false
@[simp] theorem isi_tup {x : A} : fIsi .tuple [x, .d (.opq (.ty "tuple"))] = (isiA .tuple x).map fun b => .d (.bl b) := rfl
@[simp] theorem isi_list {x : A} : fIsi .list [x, .d (.opq (.ty "list"))] = (isiA .list x).map fun b => .d (.bl b) := rfl
@[simp] theorem isi_bool {x : A} : fIsi .bool [x, .d (.opq (.ty "bool"))] = (isiA .bool x).map fun b => .d (.bl b) := rfl
@[simp] theorem isi_int {x : A} : fIsi .int [x, .d (.opq (.ty "int"))] = (isiA .int x).map fun b => .d (.bl b) := rfl
@[simp] theorem isi_str {x : A} : fIsi .str [x, .d (.opq (.ty "str"))] = (isiA .str x).map fun b => .d (.bl b) := rfl
@[simp] theorem truA_bl {b : Bool} : truA (.d (.bl b)) = some b := rfl
@[simp] theorem lenA_tup {xs : List D} : lenA (.d (.tup xs)) = some (.i xs.length) := rfl
@[simp] theorem isA_non {x : A} : isA x (.d .non) = isNon x := by cases x with
  | d z => cases z <;> rfl
  | _ => rfl
theorem iteM_bl {γ : Type} {k : Bool} {a b : SM γ} {s : List Slot} : iteM k a b s = if k then a s else b s := by cases k <;> rfl
theorem blsD_mapF {α : Type} {f : α → Bool} {xs : List α} : blsD (xs.map fun a => .bl (f a)) = some (xs.map f) := by
  have := blsD_map (xs.map f)
  rwa [List.map_map] at this
theorem ix_tup {xs : List D} {k : Nat} (h : k < xs.length) : ixA (.d (.tup xs)) (.d (.int (k : Int))) = some (.d (xs.getD k .non)) := by
  show (atI xs (k : Int)).map A.d = _
  have e : ixN xs.length (k : Int) = some k := by
    unfold ixN
    rw [if_pos (by omega), if_pos (by omega)]
    simp
  unfold atI
  rw [e]
  simp [h]
def SameAt (n : Nat) (F : List A → Option A) : Prop := ∀ (a b : D), okD n a = true → okD n b = true → F [.d a, .d b] = some (.d (.bl (sameN n a b)))
theorem okD_tup {n : Nat} {xs : List D} (h : okD (n + 1) (.tup xs) = true) : (∀ x ∈ xs, okD n x = true) ∧ xs.length ≤ 16777216 := by
  have hx := Bool.and_eq_true_iff.mp h
  exact ⟨List.all_eq_true.mp hx.1, of_decide_eq_true hx.2⟩
theorem same_comp {n : Nat} {F : List A → Option A} (ih : SameAt n F) {xs ys : List D} (hx : ∀ x ∈ xs, okD n x = true) (hy : ∀ x ∈ ys, okD n x = true) (hz : xs.length ≤ 16777216) (hl : xs.length = ys.length) :
    (mComp [2] (mRange1 (mCons (mN (f1 lenA) (mCons (mV 0) mNil)) mNil)) (.nm 2) tYesM (mN (fN 2 F) (mCons (mIx (mV 0) (mV 2)) (mCons (mIx (mV 1) (mV 2)) mNil)))) [some (false, .d (.tup xs)), some (false, .d (.tup ys)), none] =
      some (.val true (.ls ((List.range xs.length).map fun k => .bl (sameN n (xs.getD k .non) (ys.getD k .non)))), [some (false, .d (.tup xs)), some (false, .d (.tup ys)), none]) := by
  have e1 : (mRange1 (mCons (mN (f1 lenA) (mCons (mV 0) mNil)) mNil)) [some (false, .d (.tup xs)), some (false, .d (.tup ys)), none] = some ((List.range xs.length).map (fun k : Nat => A.d (.int ((0 : Int) + (k : Nat)))), [some (false, .d (.tup xs)), some (false, .d (.tup ys)), none]) := by
    have h0 : (mN (f1 lenA) (mCons (mV 0) mNil)) [some (false, .d (.tup xs)), some (false, .d (.tup ys)), none] = some (.val false (.d (.int xs.length)), [some (false, .d (.tup xs)), some (false, .d (.tup ys)), none]) := by simp
    refine (run_range1 h0 rfl (rgB_of (by omega) (by omega))).trans ?_
    rfl
  have e2 := run_compM (ws := [2]) (t := .nm 2) (tt := tYesM) (te := mN (fN 2 F) (mCons (mIx (mV 0) (mV 2)) (mCons (mIx (mV 1) (mV 2)) mNil))) (fun k : Nat => A.d (.int ((0 : Int) + (k : Nat)))) (fun _ => true) (fun k => D.bl (sameN n (xs.getD k .non) (ys.getD k .non))) e1 (fun k hk => by
    have hk := List.mem_range.mp hk
    refine ⟨[some (false, .d (.tup xs)), some (false, .d (.tup ys)), some (false, .d (.int ((0 : Int) + (k : Nat))))], putI_nm (by simp [wipeA]), rfl, rfl, fun _ => ⟨.val false (.d (.bl (sameN n (xs.getD k .non) (ys.getD k .non)))), ?_, rfl⟩⟩
    have ex : okD n (xs.getD k .non) = true := hx _ (by simp [List.getD_eq_getElem?_getD, hk])
    have ey : okD n (ys.getD k .non) = true := hy _ (by simp [List.getD_eq_getElem?_getD, hl ▸ hk])
    have ih := ih _ _ ex ey
    simp only [List.getD_eq_getElem?_getD] at ih
    simp only [Int.zero_add]
    simp [ixO_d (ix_tup hk), ixO_d (ix_tup (hl ▸ hk)), ih]) (by simp; exact hz)
  rw [e2, filter_yes]
  rfl
theorem same_tup1 {n : Nat} {F : List A → Option A} {xs ys : List D} (hl : xs.length = ys.length) {zs : List D} {b : Bool}
    (hc : (mComp [2] (mRange1 (mCons (mN (f1 lenA) (mCons (mV 0) mNil)) mNil)) (.nm 2) tYesM (mN (fN 2 F) (mCons (mIx (mV 0) (mV 2)) (mCons (mIx (mV 1) (mV 2)) mNil)))) [some (false, .d (.tup xs)), some (false, .d (.tup ys)), none] = some (.val true (.ls zs), [some (false, .d (.tup xs)), some (false, .d (.tup ys)), none]))
    (e1 : allA (.ls zs) = some (.d (.bl b))) : endF (m__law_same F [some (false, .d (.tup xs)), some (false, .d (.tup ys)), none]) = some (.d (.bl b)) := by
  have e0 : decide ((xs.length : Int) = ys.length) = true := decide_eq_true (by omega)
  unfold m__law_same
  generalize mComp [2] (mRange1 (mCons (mN (f1 lenA) (mCons (mV 0) mNil)) mNil)) (.nm 2) tYesM (mN (fN 2 F) (mCons (mIx (mV 0) (mV 2)) (mCons (mIx (mV 1) (mV 2)) mNil))) = mm at hc ⊢
  simp (implicitDefEqProofs := false) only [run_sSeq, run_sIf, run_tOrM, run_tAndM, run_mTru, run_mN, run_mCons, run_mV, List.getElem?_cons_zero, List.getElem?_cons_succ, peekO_some, obind_some, run_bnd, run_mC, run_mNil, run_ret, run_appN, rvs_cons, rvs_nil, rv_peek, rvO_some, rv_val, ocons_some, Option.bind_some, isi_tup, isiA, tyOf, Option.map_some, isT, ofin_some, fin_d, run_tru1, truA_bl, okB_some, decide_true, Bool.true_or, iteM_t, run_sRet, run_mAndV, run_asV, run_tCmpM, f1_one, lenA_tup, run_cmp2, bind2_some, eqA_int, e0, boolOf_val, andO_t, hc, e1, useM_val, seqF_rt]
  rfl
theorem same_tup2 {F : List A → Option A} {xs ys : List D} (h2 : decide ((xs.length : Int) = ys.length) = false) :
    endF (m__law_same F [some (false, .d (.tup xs)), some (false, .d (.tup ys)), none]) = some (.d (.bl false)) := by
  unfold m__law_same
  generalize mComp [2] (mRange1 (mCons (mN (f1 lenA) (mCons (mV 0) mNil)) mNil)) (.nm 2) tYesM (mN (fN 2 F) (mCons (mIx (mV 0) (mV 2)) (mCons (mIx (mV 1) (mV 2)) mNil))) = mm
  simp (implicitDefEqProofs := false) only [run_sSeq, run_sIf, run_tOrM, run_tAndM, run_mTru, run_mN, run_mCons, run_mV, List.getElem?_cons_zero, List.getElem?_cons_succ, peekO_some, obind_some, run_bnd, run_mC, run_mNil, run_ret, run_appN, rvs_cons, rvs_nil, rv_peek, rvO_some, rv_val, ocons_some, Option.bind_some, isi_tup, isiA, tyOf, Option.map_some, isT, ofin_some, fin_d, run_tru1, truA_bl, okB_some, decide_true, Bool.true_or, iteM_t, run_sRet, run_mAndV, run_asV, run_tCmpM, f1_one, lenA_tup, run_cmp2, bind2_some, eqA_int, h2, boolOf_val, andO_f, useM_val, seqF_rt]
  rfl
theorem sameN_tup {n : Nat} {xs ys : List D} : sameN (n + 1) (.tup xs) (.tup ys) = (xs.length == ys.length && (List.range xs.length).all fun k => sameN n (xs.getD k .non) (ys.getD k .non)) := by conv => lhs; unfold sameN
theorem all_bl {α : Type} {f : α → Bool} {xs : List α} : allA (.ls (xs.map fun a => .bl (f a))) = some (.d (.bl (xs.all f))) := by
  show (blsD (xs.map fun a => .bl (f a))).map (fun bs => A.b (bs.all id)) = _
  rw [blsD_mapF]
  simp [List.all_map, Function.comp_def]
theorem same_tup {n : Nat} {F : List A → Option A} (ih : SameAt n F) {xs ys : List D} (hx : ∀ x ∈ xs, okD n x = true) (hy : ∀ x ∈ ys, okD n x = true) (hz : xs.length ≤ 16777216) :
    endF (m__law_same F [some (false, .d (.tup xs)), some (false, .d (.tup ys)), none]) = some (.d (.bl (sameN (n + 1) (.tup xs) (.tup ys)))) := by
  by_cases hl : xs.length = ys.length
  · have e := same_tup1 (n := n) hl (same_comp ih hx hy hz hl) all_bl
    rw [e, sameN_tup]
    rw [show (xs.length == ys.length) = true from beq_iff_eq.mpr hl, Bool.true_and]
  · rw [same_tup2 (decide_eq_false (by clear hz; omega)), sameN_tup, show (xs.length == ys.length) = false from beq_eq_false_iff_ne.mpr hl, Bool.false_and]
theorem same_flat {n : Nat} {F : List A → Option A} {a b : D} (ha : okD (n + 1) a = true) (hb : okD (n + 1) b = true) (h : ∀ xs ys, ¬ (a = .tup xs ∧ b = .tup ys)) : endF (m__law_same F [some (false, .d a), some (false, .d b), none]) = some (.d (.bl (sameN (n + 1) a b))) := by
  unfold m__law_same
  cases a with
  | opq v => cases ha
  | scr v => cases ha
  | tup xs =>
    cases b with
    | opq v => cases hb
    | scr v => cases hb
    | tup ys => exact (h _ _ ⟨rfl, rfl⟩).elim
    | _ => simp (implicitDefEqProofs := false) [isiA, tyOf, isT, isNon, endF, sameN]
  | str x =>
    cases b with
    | opq v => cases hb
    | scr v => cases hb
    | str y =>
      have e := eqA_str (x := x) (y := y) ha hb
      simp (implicitDefEqProofs := false) [isiA, tyOf, isT, isNon, endF, sameN, e]
    | _ => simp (implicitDefEqProofs := false) [isiA, tyOf, isT, isNon, endF, sameN]
  | bl x =>
    cases b with
    | opq v => cases hb
    | scr v => cases hb
    | _ => simp (implicitDefEqProofs := false) [isiA, tyOf, isT, isNon, endF, sameN]
  | int x =>
    cases b with
    | opq v => cases hb
    | scr v => cases hb
    | _ => simp (implicitDefEqProofs := false) [isiA, tyOf, isT, isNon, endF, sameN]
  | non =>
    cases b with
    | opq v => cases hb
    | scr v => cases hb
    | _ => simp (implicitDefEqProofs := false) [isiA, tyOf, isT, isNon, endF, sameN]
theorem same_run (n : Nat) : SameAt n (F__law_same n) := by
  induction n with
  | zero =>
    intro a b h
    cases h
  | succ n ih =>
    intro a b ha hb
    show endF (m__law_same (F__law_same n) [some (false, .d a), some (false, .d b), none]) = _
    by_cases h : ∃ xs ys, a = .tup xs ∧ b = .tup ys
    · obtain ⟨xs, ys, rfl, rfl⟩ := h
      have hx := okD_tup ha
      have hy := okD_tup hb
      exact same_tup ih hx.1 hy.1 hx.2
    · exact same_flat ha hb fun xs ys e => h ⟨xs, ys, e⟩
end MM
namespace MM
open PySem PySem.Spec PyProof.Rows L2

/-! ### comprehensions of two clauses, parts of lists -/
section
variable {s s1 s2 : List Slot}
theorem compL2_map {ws ws1 : List Nat} {t t1 : Tg} {tt tt1 : SM Bool} {wi1 : SM (List A)} {te : SM R} {α β : Type} (enc : α → A) (p : α → Bool) (ys : α → List β) (enc1 : α → β → A) (p1 : α → β → Bool) (g : α → β → D) :
    ∀ {xs : List α} {acc : List D}, (∀ a ∈ xs, ∃ s1, putI t (enc a) s = some s1 ∧ tt s1 = some (p a, s1) ∧ (p a = false → wipeA ws s1 = s) ∧ (p a = true → ∃ s2, wi1 s1 = some ((ys a).map (enc1 a), s2) ∧ wipeA ws (wipeA ws1 s2) = s ∧
      ∀ b ∈ ys a, ∃ s3, putI t1 (enc1 a b) (wipeA ws1 s2) = some s3 ∧ wipeA ws1 s3 = wipeA ws1 s2 ∧ tt1 s3 = some (p1 a b, s3) ∧ (p1 a b = true → ∃ r, te s3 = some (r, s3) ∧ od r s3 = some (.d (g a b))))) →
    acc.length + (xs.map fun a => (ys a).length).sum ≤ 16777216 → compL2 ws ws1 t tt wi1 t1 tt1 te (xs.map enc) (.ls acc) s = some (.ls (acc ++ (xs.filter p).flatMap fun a => ((ys a).filter (p1 a)).map (g a)), s)
  | [], acc, _, _ => by simp [compL2]
  | a :: xs, acc, h, hz => by
    obtain ⟨s1, e1, e2, ef, et⟩ := h a List.mem_cons_self
    have hx := fun b hb => h b (List.mem_cons_of_mem _ hb)
    rw [List.map_cons]
    unfold compL2
    rw [List.map_cons, List.sum_cons] at hz
    cases hp : p a with
    | true =>
      obtain ⟨s2, e3, e4, hb⟩ := et hp
      have e5 := compL_map (acc := acc) (enc1 a) (p1 a) (g a) hb (szB_of (by omega))
      simp only [e1, e2, hp, e3, e5, e4]
      have hle : (((ys a).filter (p1 a)).map (g a)).length ≤ (ys a).length := by rw [List.length_map]; exact List.length_filter_le _ _
      rw [compL2_map enc p ys enc1 p1 g hx (by rw [List.length_append]; omega), List.filter_cons_of_pos hp]
      simp
    | false =>
      simp only [e1, e2, hp, ef hp]
      rw [compL2_map enc p ys enc1 p1 g hx (by omega), List.filter_cons_of_neg (by simp [hp])]
theorem run_comp2 {ws ws1 : List Nat} {mi wi1 : SM (List A)} {t t1 : Tg} {tt tt1 : SM Bool} {te : SM R} {its : List A} {l : A} (h : mi s = some (its, s1)) (h2 : compL2 ws ws1 t tt wi1 t1 tt1 te its (.ls []) (wipeA ws s1) = some (l, s2)) : mComp2 ws ws1 mi t tt wi1 t1 tt1 te s = some (fin l, restA ws s1 s2) := by
  unfold mComp2
  simp only [h, h2]
end
theorem sIx_hi {n : Nat} {f : Nat} : HT.sIx n n (some (f : Int)) = min n f := by
  rw [HT.sIx_nat, Nat.min_comm]
theorem cutL_to {α : Type} {xs : List α} {f : Nat} : cutL xs none (some (f : Int)) = xs.take f := by
  unfold cutL
  rw [sIx_hi]
  have : HT.sIx xs.length 0 none = 0 := rfl
  rw [this, List.drop_zero, Nat.sub_zero]
  rcases Nat.le_total xs.length f with h | h
  · rw [Nat.min_eq_left h, List.take_length, List.take_of_length_le h]
  · rw [Nat.min_eq_right h]
@[simp] theorem ix_cons0 {x : D} {xs : List D} : ixA (.d (.tup (x :: xs))) (.d (.int 0)) = some (.d x) := by
  show (atI (x :: xs) 0).map A.d = _
  rw [atI_zero]
  rfl
end MM
namespace MM
open PySem PySem.Spec PyProof.Rows L2

/-! ### xs[::-1] -/
section
variable {prog : Program} {w : World} {A : Around} {E : Value → Shared → Prop} {s : Shared}
theorem adjust_rev (n : Nat) : Builtin.Slice.sliceAdjust none none (-1) (n : Int) = ((n : Int) - 1, -1) := rfl
theorem places_rev (n : Nat) : Builtin.Slice.slicePlaces ((n : Int) - 1) (-1) (-1) = n := by
  unfold Builtin.Slice.slicePlaces
  have h1 : ¬ ((-1 : Int) > 0) := by omega
  simp only [h1, if_false]
  by_cases h : (n : Int) - 1 > -1
  · rw [if_pos h]
    have : ((n : Int) - 1 - -1 - 1) / (- -1) = (n : Int) - 1 := by
      rw [show (- -1 : Int) = 1 by rfl, Int.ediv_one]
      omega
    omega
  · rw [if_neg h]
    omega
theorem sliceApplied_rev {sl : Addr} {u : Tok} {n : Nat} {Q : Int × Int × Nat → Shared → Prop} (hs : s.heap.IsSliceOf sl .none .none (.int (-1) u)) (h : Q ((n : Int) - 1, -1, n) s) :
    wpAny (model prog w) A (Builtin.Slice.sliceApplied (.ref sl) (pure (n : Int))) Q E s := by
  obtain ⟨os, hos, hcs, hds⟩ := id hs
  unfold Builtin.Slice.sliceApplied Builtin.Slice.sliceFields
  refine wpAny_bind (wpAny_bind (wpAny_field hos hds (x := .none) rfl (wpAny_bind (wpAny_field hos hds (x := .none) rfl (wpAny_bind (wpAny_field hos hds (x := .int (-1) u) rfl (wpAny_pure ?_)))))))
  refine wpAny_bind (slicePart_int ?_)
  show wpAny _ _ (if ((-1 : Int) == 0) = true then _ else _) _ _ s
  rw [if_neg (by decide)]
  refine wpAny_bind (slicePart_none (wpAny_bind (slicePart_none (wpAny_bind (wpAny_pure ?_)))))
  show wpAny _ _ (match Builtin.Slice.sliceAdjust none none (-1) (n : Int) with | (lo, hi) => pure (lo, (-1 : Int), Builtin.Slice.slicePlaces lo hi (-1))) _ _ s
  rw [adjust_rev n]
  show wpAny _ _ (pure ((n : Int) - 1, (-1 : Int), Builtin.Slice.slicePlaces ((n : Int) - 1) (-1) (-1))) _ _ s
  rw [places_rev]
  exact wpAny_pure h
theorem fm_congr {α β : Type} {f g : α → Option β} : ∀ {l : List α}, (∀ a ∈ l, f a = g a) → l.filterMap f = l.filterMap g
  | [], _ => rfl
  | a :: l, h => by
    rw [List.filterMap_cons, List.filterMap_cons, h a List.mem_cons_self, fm_congr fun b hb => h b (List.mem_cons_of_mem _ hb)]
theorem pick_rev (xs : Array Value) : ((List.range xs.size).filterMap fun (m : Nat) => xs[((xs.size : Int) - 1 + (m : Int) * (-1)).toNat]?).toArray = xs.toList.reverse.toArray := by
  congr 1
  have h : ∀ l : List Value, (List.range l.length).filterMap (fun k => l[k]?) = l := fun l => by
    have e := pick_run l.toArray 0 l.length
    rw [List.filterMap_map] at e
    simpa [Function.comp_def] using e
  conv => rhs; rw [← h xs.toList.reverse]
  rw [List.length_reverse, Array.length_toList]
  apply fm_congr
  intro k hk
  have hk := List.mem_range.mp hk
  rw [List.getElem?_reverse (by simpa using hk), Array.getElem?_toList]
  congr 1
  simp
  omega
theorem getItem_tuple_rev {t sl : Addr} {items : Array Value} {u : Tok} {Q : Value → Shared → Prop} (ht : IsTup s.heap t items) (hs : s.heap.IsSliceOf sl .none .none (.int (-1) u))
    (h : Q (.ref s.heap.objs.size) { s with heap := s.heap.push { cls := .type "tuple", data := .seq items.toList.reverse.toArray } }) (hsz : items.size ≤ sizeLine) : wpAny (model prog w) A (getItem (.ref t) (.ref sl)) Q E s := by
  have htake : sizeOk (.seq items.toList.reverse.toArray) := by
    show items.toList.reverse.toArray.size ≤ sizeLine
    rw [List.size_toArray, List.length_reverse, Array.length_toList]
    exact hsz
  obtain ⟨os, hos, hcs, hds⟩ := id hs
  have hTs : s.TypeIs (.ref sl) "slice" := ⟨os, hos, hcs⟩
  unfold getItem
  try with_reducible refine wpAny_holding ?_
  first | refine wpAny_bind (wpAny_pure ?_) | skip
  refine wpAny_bind (wpAny_sequenceKey ht.typeIs (by decide) ?_)
  refine wpAny_bind (wpAny_callSpecial?_slot (name := Str.ofString "__getitem__") ht.typeIs PyProof.Rows.slot_tuple_getitem
    (wpAny_call_entry PyProof.Rows.slot_tuple_getitem ht.typeIs entry_tuple_getitem ?_ (args_tuple_getitem _ _)))
  show wpAny _ _ (Builtin.Tuple.tupleItemsOf (.ref t) >>= _) _ _ s
  refine wpAny_bind (tupleItemsOf_ ht ?_)
  refine wpAny_bind (wpAny_typeOf hTs ?_)
  rw [if_pos (by decide)]
  refine wpAny_bind (sliceApplied_rev hs ?_)
  have hno : ¬ ((((items.size : Int) - 1) == 0 && (-1 : Int) == 1 && items.size == items.size) = true) := by
    intro q
    rw [Bool.and_eq_true, Bool.and_eq_true] at q
    exact absurd q.1.2 (by decide)
  show wpAny _ _ (if (((items.size : Int) - 1) == 0 && (-1 : Int) == 1 && items.size == items.size) = true then _ else _) _ _ s
  rw [if_neg hno, pick_rev]
  first
    | exact wpAny_bind (m := Builtin.Tuple.tupleExact _) (wpAny_newObj_type (wpAny_pure ⟨_, rfl, wpAny_pure h⟩) htake)
    | exact wpAny_bind (m := Builtin.Tuple.tupleExact _) (wpAny_newObj_type (wpAny_bind (wpAny_pure (wpAny_pure ⟨_, rfl, wpAny_pure h⟩))) htake)
    | exact wpAny_bind (wpAny_bind (m := Builtin.Tuple.tupleExact _) (wpAny_newObj_type (wpAny_pure (wpAny_pure ⟨_, rfl, wpAny_pure h⟩)) htake))
    | exact wpAny_bind (wpAny_bind (m := Builtin.Tuple.tupleExact _) (wpAny_newObj_type (wpAny_pure ⟨_, rfl, wpAny_pure h⟩) htake))
end
def tRevT (K : PySem.W.Frag) (te : TE) : TE := fun σ H Q => te σ H fun x H1 => ∃ a xs, x = .ref a ∧ SqT K H1 a xs ∧ ∀ p, H1 p = none → Q (.ref p) (upd H1 p (.tup xs.reverse))
section
variable {X : Cx}
theorem pe_revT {e : Expr} {te : TE} {k : Nat} {p1 p2 p3 pos : Pos} (he : PE X e te) : PE X (.Subscript e (.Slice none none (some (.UnaryOp .USub (.Constant (.int 1) k p1) p2)) p3) pos) (tRevT X.K te) := by
  refine ⟨fun pins s σ H Q I h => ?_⟩
  refine Subscript_ (thn (he.run pins s σ H _ I h) fun v s1 ⟨x, H1, I1, r1, q1⟩ => ?_)
  obtain ⟨a, xs, ex, hx, q⟩ := q1
  subst ex
  cases r1
  have hst : PO X (some (.UnaryOp .USub (.Constant (.int 1) k p1) p2)) (tPart (tUn (rU fun i => .int (-i)) (tC (.int 1)))) := po_some (pe_un un_neg pe_int)
  refine wpAny_Slice (thn (po_none.run pins s1 σ H1 (fun o H2 => o = none ∧ H2 = H1) I1 ⟨rfl, rfl⟩) fun vl s2 ⟨l, H2, I2, pl, el, e2⟩ => ?_)
  subst el e2
  refine thn (po_none.run pins s2 σ H2 (fun o H3 => o = none ∧ H3 = H2) I2 ⟨rfl, rfl⟩) fun vu s3 ⟨u, H3, I3, pu, eu, e3⟩ => ?_
  subst eu e3
  refine thn (hst.run pins s3 σ H3 (fun o H4 => o = some (-1) ∧ H4 = H3) I3 ⟨1, rfl, -1, rfl, rfl, rfl⟩) fun vs s4 ⟨o, H4, I4, ps, eo, e4⟩ => ?_
  subst eo e4
  cases pl
  cases pu
  cases ps with
  | int i t =>
    have I5 : Inv X pins σ H4 { s4 with heap := s4.heap.push { cls := .type "slice", data := .fields #[.none, .none, .int (-1) t] } } := I4.kept (t' := s4.toks) fun b ob q => Heap.get?_push_of_some _ q
    obtain ⟨its, r, ht, hz⟩ := I5.tuple hx
    have hlen := r.length
    show wpAny (model X.prog X.w) X.A (subscriptTail e (.Slice none none (some (.UnaryOp .USub (.Constant (.int 1) k p1) p2)) p3) (.ref a) (.ref s4.heap.objs.size)) (EP X pins σ Q) X.xe { s4 with heap := s4.heap.push { cls := .type "slice", data := .fields #[.none, .none, .int (-1) t] } }
    refine tail_any (ops := [.ref a, .ref s4.heap.objs.size]) ht.typeIs (PyProof.Rows.slot_tuple_getitem.lookup) ?_ (by with_unfolding_all rfl)
    refine getItem_tuple_rev ht (Heap.IsSliceOf.new _ .none .none (.int (-1) t)) ?_ (by rw [List.size_toArray]; omega)
    refine ⟨.ref _, _, I5.laid (t' := s4.toks) (o := .tup xs.reverse) (fun b ob q => Heap.get?_push_of_some _ q) (Nat.le_refl _) ?_, rfl, q _ (I5.hok.fresh (Nat.le_refl _))⟩
    exact ⟨by rw [List.length_reverse]; exact hz, _, r.reverse, IsTup.new _ _⟩
end
def revA : MM.A → Option MM.A
  | .d (.tup xs) => some (.d (.tup xs.reverse))
  | .ls xs => some (.ls xs.reverse)
  | _ => none
theorem RepDs.rev {K : PySem.W.Frag} {H : Hp} : ∀ {xs : List D} {ys : List V}, RepDs K H xs ys → RepDs K H xs.reverse ys.reverse
  | [], ys, h => by
    unfold RepDs at h
    subst h
    unfold RepDs
    rfl
  | x :: xs, ys, h => by
    unfold RepDs at h
    obtain ⟨y, r, rfl, h1, h2⟩ := h
    rw [List.reverse_cons, List.reverse_cons]
    refine RepDs.append (RepDs.rev h2) ?_
    unfold RepDs
    exact ⟨y, [], rfl, h1, by unfold RepDs; rfl⟩
section
variable {X : Cx} {e : Expr} {m : SM R} {k : Nat} {p1 p2 p3 pos : Pos}
theorem PE.or {X : Cx} {e : Expr} {t u : TE} (h : PE X e t) (h' : PE X e u) : PE X e (fun σ H Q => t σ H Q ∨ u σ H Q) := ⟨fun pins s σ H Q I q => q.elim (h.run pins s σ H Q I) (h'.run pins s σ H Q I)⟩
def revT : MM.A → Option MM.A
  | .d (.tup xs) => some (.d (.tup xs.reverse))
  | _ => none
def revL : MM.A → Option MM.A
  | .ls xs => some (.ls xs.reverse)
  | _ => none
theorem pm_rev (he : PM X e m) : PM X (.Subscript e (.Slice none none (some (.UnaryOp .USub (.Constant (.int 1) k p1) p2)) p3) pos) (m1 revA m) :=
  PE.weak (PE.or (pe_revL he) (pe_revT he)) fun σ H Q h => by
  have prT : Pr1 X.K (fun x H1 Q => ∃ a xs, x = .ref a ∧ SqT X.K H1 a xs ∧ ∀ p, H1 p = none → Q (.ref p) (upd H1 p (.tup xs.reverse))) revT := fun H a x fa c Q r e q => by
    unfold revT at e
    split at e
    · cases e
      obtain ⟨p, ys, rfl, s, rs⟩ := tup_of r
      exact ⟨p, ys, rfl, s, fun l hl => q _ _ [] ⟨fun b u e => by rw [upd_ne (ne_of_none e hl)]; exact e, List.nodup_nil, fun _ h => nomatch h⟩ (rep_d (by
        unfold RepD
        exact ⟨l, _, rfl, .inl (.inl upd_same), (rs.rev).mono fun b u e _ => by rw [upd_ne (ne_of_none e hl)]; exact e⟩))⟩
    · cases e
  have prL : Pr1 X.K (fun x H1 Q => ∃ a xs, x = .ref a ∧ SqL X.K H1 a xs ∧ ∀ p, H1 p = none → Q (.ref p) (upd H1 p (.lst xs.reverse))) revL := fun H a x fa c Q r e q => by
    unfold revL at e
    split at e
    · cases e
      obtain ⟨p, ys, rfl, s, rs, _⟩ := ls_of r
      exact ⟨p, ys, rfl, .of s, fun l hl => q _ _ [l] (Fresh.one hl) (rep_ls rs.rev hl)⟩
    · cases e
  obtain ⟨o, T, sa, r', sa', e, S, q⟩ := h
  obtain ⟨r1, s1, e1, e2⟩ := bnd_some e
  obtain ⟨a, c, ea, ec, rfl, rfl⟩ := app1_some e2
  have mk : ∀ f : MM.A → Option MM.A, f a = some c → tOf X.K (m1 f m) σ H Q := fun f hf => ⟨o, T, sa, _, _, (by
    unfold m1 bnd
    simp only [e1]
    unfold app1
    simp only [ea, hf]), S, q⟩
  unfold revA at ec
  split at ec
  · exact .inr (step1 prT (mk revT ec))
  · exact .inl (step1 prL (mk revL ec))
  · cases ec
end
end MM
namespace MM
open PySem PySem.Spec PyProof.Rows L2

/-! ### xs[i].append(name), xs a list of lists of data -/
def mAppendIx (j n : Nat) (mi : SM R) : SM R := fun sa => if isL sa[j]? then bnd mi (fun ri sa => match rv ri sa, sa[j]?, sa[n]? with
  | some (.d (.int i)), some (some (true, .lst xs)), some (some (_, .d z)) => match ixN xs.length i with
    | some k => match xs[k]? with
      | some (.ls ys) => if szB (ys.length + 1) then some (.val false (.d .non), sa.set j (some (true, .lst (xs.set k (.ls (ys ++ [z])))))) else none
      | _ => none
    | none => none
  | _, _, _ => none) sa else none
theorem appIx_ok {K : PySem.W.Frag} {H : Hp} {xs : List A} {ys : List D} {v y : V} {fi : List Addr} {i : Int} {k : Nat} {z : D} (r : Rep K H (.lst xs) v fi) (nd : fi.Nodup) (hk : ixN xs.length i = some k) (hx : xs[k]? = some (.ls ys)) (rz : RepD K H z y) (hz : szB (ys.length + 1) = true) :
    ∃ p vs c zs, v = .ref p ∧ H p = some (.lst vs) ∧ atI vs i = some (.ref c) ∧ H c = some (.lst zs) ∧ zs.length < sizeLine ∧ c ∈ fi ∧ Rep K (upd H c (.lst (zs ++ [y]))) (.lst (xs.set k (.ls (ys ++ [z])))) v fi := by
  obtain ⟨p, vs, g, rfl, hp, rs, rfl⟩ := lst_of r
  have hkx : k < xs.length := (ixN_seq hk).2.1
  have hkv : k < vs.length := by rw [← rs.len]; exact hkx
  have ev : vs[k]? = some vs[k] := List.getElem?_eq_getElem hkv
  obtain ⟨f1, f0, f2, rfl, r1, r2, r3⟩ := Reps.at rs hx ev
  obtain ⟨c, zs, ec, hc, rd, rfl⟩ := ls_of r1
  have np := (List.nodup_cons.mp nd).1
  have n2 := (List.nodup_cons.mp nd).2
  have pc : p ≠ c := fun e => np (by simp [e])
  have c1 : ∀ b ∈ f1, b ≠ c := fun b hb e => by
    subst e
    have := (List.nodup_append.mp (List.nodup_append.mp n2).1).2.2 b hb b (by simp)
    exact this rfl
  have c2 : ∀ b ∈ f2, b ≠ c := fun b hb e => by
    subst e
    exact (List.nodup_append.mp n2).2.2 b (by simp) b hb rfl
  have imm : ∀ b u, H b = some u → isMut u = false → (upd H c (.lst (zs ++ [y]))) b = some u := fun b u e m => by
    rw [upd_ne fun z => by
      subst z
      rw [hc] at e
      cases e
      cases m]
    exact e
  have hlen : zs.length < sizeLine := by
    have h1 := szB_ok hz
    have h2 := rd.len
    omega
  refine ⟨p, vs, c, zs, rfl, hp, ?_, hc, hlen, by simp, ?_⟩
  · unfold atI
    rw [← rs.len, hk, Option.bind_some, ev, ec]
  · have h1 := r2.mono imm fun b hb u e => by rw [upd_ne (c1 b hb)]; exact e
    have h2 := r3.mono imm fun b hb u e => by rw [upd_ne (c2 b hb)]; exact e
    have rn : Rep K (upd H c (.lst (zs ++ [y]))) (.ls (ys ++ [z])) (.ref c) [c] := by
      unfold Rep
      refine ⟨c, _, rfl, upd_same, (rd.mono imm).append ?_, rfl⟩
      unfold RepDs
      exact ⟨y, [], rfl, rz.mono imm, by unfold RepDs; rfl⟩
    have hp' : (upd H c (.lst (zs ++ [y]))) p = some (.lst vs) := by rw [upd_ne pc]; exact hp
    unfold Rep
    refine ⟨p, vs, f1 ++ [c] ++ f2, rfl, hp', ?_, rfl⟩
    have ev2 : vs = vs.take k ++ .ref c :: vs.drop (k + 1) := by
      have e3 := set_parts (x := vs[k]) hkv
      rw [List.set_getElem_self, ec] at e3
      exact e3
    generalize upd H c (.lst (zs ++ [y])) = H' at h1 h2 rn
    rw [set_parts hkx, ev2, List.append_assoc]
    rw [ev2] at h1 h2
    have t1 : (vs.take k ++ .ref c :: vs.drop (k + 1)).take k = vs.take k := by rw [← ev2]
    have t2 : (vs.take k ++ .ref c :: vs.drop (k + 1)).drop (k + 1) = vs.drop (k + 1) := by rw [← ev2]
    rw [t1] at h1
    rw [t2] at h2
    exact Reps.append h1 (Reps.cons rn h2)
section
variable {X : Cx} {x y : Str} {px py ps apos cpos : Pos} {i : Expr} {j n : Nat} {mi : SM R}
theorem pm_appendIx (hx : PE X (.Name x px) (tVar j)) (hi : PM X i mi) (hp : PlainIx i) (hy : PE X (.Name y py) (tVar n))
    (hbase : attributeBase (.Subscript (.Name x px) i ps) "append" X.env (eval (.Subscript (.Name x px) i ps) X.env) = eval (.Subscript (.Name x px) i ps) X.env := by rfl)
    (hfew : ((backTo cpos (starEach [.Name y py] X.env)).all (fun x => !x.1) && (backToKw cpos (keywordEach [] X.env)).all (fun x => x.1.isSome)
      && decide ([(.Name y py : Expr)].length + ([] : List Keyword).length + (if ([] : List Keyword).isEmpty then 0 else 1) < 30)) = true := by rfl)
    (hline : (apos.endLine == cpos.line) = true := by rfl) (hs : starEach [.Name y py] X.env = (false, eval (.Name y py) X.env) :: starEach [] X.env := by rfl) :
    PM X (.Call (.Attribute (.Subscript (.Name x px) i ps) "append" apos) [.Name y py] [] cpos) (mAppendIx j n mi) :=
  PE.weak (pe_bm PySem.F.plainAttrs_list PySem.F.slot_list_append PySem.F.type_list_append mt_append (pe_ix ix_seq hx hi hp) (pa_cons hy pa_nil hs) hbase hfew hline hs) fun σ H Q h => by
  obtain ⟨o, T, sa, r, sa', e, S, q⟩ := h
  unfold mAppendIx at e
  split at e
  · rename_i hl
    obtain ⟨p0, ys0, ep, hp0⟩ := isL_ok S hl
    obtain ⟨ri, s1, e1, e2⟩ := bnd_some e
    split at e2
    · rename_i i' xs fl z eri exs ez
      split at e2
      · rename_i k hk
        split at e2
        · rename_i ys hxk
          split at e2
          · rename_i hz
            cases e2
            refine ⟨_, ep, o, T, sa, ri, s1, e1, S, fun o1 v1 H1 L1 S1 R1 => ?_⟩
            obtain ⟨fr, rr⟩ := rv_rep S1 R1 eri
            obtain ⟨o2, S2, L2⟩ := SRel.pop S1
            obtain ⟨w, ew, _⟩ := S2.sl n _ _ ez
            obtain ⟨fw, rw', _⟩ := SRel.slot S2 ez ew
            obtain ⟨fi, rl, so, ndi, _, put⟩ := SRel.wr (fx := []) S2 exs ep S2.nd (fun _ h => nomatch h) S2.sl
            obtain ⟨p, vs, c, zs, ev, hp', ha, hc, hzl, mc, rl'⟩ := appIx_ok rl ndi hk hxk (repD_d rw') hz
            cases ev
            obtain ⟨o3, S3, L3⟩ := put (fun b u e n => by rw [upd_ne (fun z => n (by rw [z]; exact mc))]; exact e) rl' ndi fun b hb => .inl hb
            refine .inl ⟨_, vs, i', .ref c, rfl, int_of rr, .of hp', ha, ?_⟩
            exact ⟨.inl ⟨rfl, zs, .of hc⟩, w, ew, ⟨c, zs, w, rfl, rfl, hc, hzl, q o3 _ _ ((L1.trans L2).trans L3) S3 (RepS.d repD_non)⟩⟩
          · cases e2
        · cases e2
      · cases e2
    · cases e2
  · cases e
end
end MM
namespace MM
open PySem PySem.Spec PyProof.Rows L2 RZ

/-! ### zip of two lists or of two tuples of data -/
def zipL (xs ys : List D) : List A := (xs.zip ys).map fun p => .d (.tup [p.1, p.2])
def zipA : A → A → Option (List A)
  | .d (.tup xs), .d (.tup ys) => some (zipL xs ys)
  | .ls xs, .ls ys => some (zipL xs ys)
  | _, _ => none
def mZip (ma mb : SM R) : SM (List A) := bnd ma fun r1 => bnd mb fun r2 => bnd (use r2) fun p2 => bnd (use r1) fun p1 sa => (zipA p1.2 p2.2).map fun its => (its, sa)
section
variable {K : PySem.W.Frag} {H : Hp} {o : List Addr} {T : Tmp} {sa sa' : List Slot} {σ : L2.St}
theorem share {r : R} {v : V} {fl : Bool} {a : A} (S1 : SRel K o (pushT r v T) sa σ H) (R1 : RR K H o σ r v) (e2 : use r sa = some ((fl, a), sa')) : ∃ o2, SRel K o2 T sa' σ H ∧ Le o H o2 H ∧ RepS K H o2 a v := by
  obtain ⟨o2, S2, L2, R2, _⟩ := bnd_use S1 R1 e2
  cases fl with
  | false => exact ⟨o2, S2, L2, R2⟩
  | true =>
    obtain ⟨f, o3, rfl, ra, S3⟩ := SRel.top S2
    exact ⟨o3, S3, L2.trans Le.drop, f, ra, fun b hb z => (List.nodup_append.mp S2.nd).2.2 b hb b z rfl⟩
theorem zipL_len {xs ys : List D} : (zipL xs ys).length = min xs.length ys.length := by simp [zipL]
theorem zipL_get {xs ys : List D} {i : Nat} {a : A} (e : (zipL xs ys)[i]? = some a) : ∃ c d, xs[i]? = some c ∧ ys[i]? = some d ∧ a = .d (.tup [c, d]) := by
  unfold zipL at e
  rw [List.getElem?_map] at e
  cases e1 : (xs.zip ys)[i]? with
  | none => rw [e1] at e; cases e
  | some p =>
    rw [e1] at e
    cases e
    obtain ⟨h1, h2⟩ := List.getElem?_zip_eq_some.mp e1
    exact ⟨p.1, p.2, h1, h2, rfl⟩
theorem repS_two {P : Addr} {x y : V} {c d : D} (hT : H P = none) (r : RepD K H c x) (r2 : RepD K H d y) (o1 : List Addr) : RepS K (upd H P (.tup [x, y])) o1 (.d (.tup [c, d])) (.ref P) := by
  refine RepS.d ?_
  unfold RepD
  have mo : ∀ {z : D} {w : V}, RepD K H z w → RepD K (upd H P (.tup [x, y])) z w := fun r => r.mono fun b u e _ => by rw [upd_ne (ne_of_none e hT)]; exact e
  refine ⟨P, [x, y], rfl, .inl (.inl upd_same), ?_⟩
  unfold RepDs
  refine ⟨_, _, rfl, mo r, ?_⟩
  unfold RepDs
  exact ⟨_, _, rfl, mo r2, by unfold RepDs; rfl⟩
theorem wk_zipT {a b : Addr} {xv yv : List V} {xs ys : List D} (S : SRel K o T sa σ H) (s : SqT K H a xv) (s2 : SqT K H b yv) (r : RepDs K H xs xv) (r2 : RepDs K H ys yv) : Wk K o H (ItzT K a b) (zipL xs ys) := fun o1 H1 L => by
  have t1 : SqT K H1 a xv := sqT_mono (S.imm L) s
  have t2 : SqT K H1 b yv := sqT_mono (S.imm L) s2
  have q1 : RepDs K H1 xs xv := r.mono (S.imm L)
  have q2 : RepDs K H1 ys yv := r2.mono (S.imm L)
  refine ⟨⟨xv, yv, t1, t2, by rw [zipL_len, r.len, r2.len]; omega⟩, fun i w e => ?_⟩
  obtain ⟨c, d, e1, e2, rfl⟩ := zipL_get e
  obtain ⟨y1, ey1, ry1⟩ := q1.get e1
  obtain ⟨y2, ey2, ry2⟩ := q2.get e2
  refine ⟨⟨xv, yv, y1, y2, t1, t2, ey1, ey2⟩, ?_⟩
  rintro x H2 ⟨P, z1, z2, rfl, hT, rfl, hz1, hz2⟩
  have h1 := hz1 xv t1
  have h2 := hz2 yv t2
  rw [ey1] at h1
  rw [ey2] at h2
  cases h1
  cases h2
  exact ⟨fun b u e => by rw [upd_ne (ne_of_none e hT)]; exact e, repS_two hT ry1 ry2 o1⟩
theorem wk_zipL {a b : Addr} {xv yv : List V} {xs ys : List D} (S : SRel K o T sa σ H) (s : H a = some (.lst xv)) (na : a ∉ o) (s2 : H b = some (.lst yv)) (nb : b ∉ o) (r : RepDs K H xs xv) (r2 : RepDs K H ys yv) : Wk K o H (Itz K a b) (zipL xs ys) := fun o1 H1 L => by
  have t1 : SqL K H1 a xv := .of (L a _ s na).1
  have t2 : SqL K H1 b yv := .of (L b _ s2 nb).1
  have q1 : RepDs K H1 xs xv := r.mono (S.imm L)
  have q2 : RepDs K H1 ys yv := r2.mono (S.imm L)
  refine ⟨⟨xv, yv, t1, t2, by rw [zipL_len, r.len, r2.len]; omega⟩, fun i w e => ?_⟩
  obtain ⟨c, d, e1, e2, rfl⟩ := zipL_get e
  obtain ⟨y1, ey1, ry1⟩ := q1.get e1
  obtain ⟨y2, ey2, ry2⟩ := q2.get e2
  refine ⟨⟨xv, yv, y1, y2, t1, t2, ey1, ey2⟩, ?_⟩
  rintro x H2 ⟨P, z1, z2, rfl, hT, rfl, hz1, hz2⟩
  have h1 := hz1 xv t1
  have h2 := hz2 yv t2
  rw [ey1] at h1
  rw [ey2] at h2
  cases h1
  cases h2
  exact ⟨fun b u e => by rw [upd_ne (ne_of_none e hT)]; exact e, repS_two hT ry1 ry2 o1⟩
end
section
variable {X : Cx} {e e2 : Expr} {m m2 : SM R} {p pos tpos : Pos} {elts : List Expr} {kk : Nat}
theorem pmi_zip (hg : Gl X "zip") (hm : X.mg "zip" = none) (he : PM X e m) (he2 : PM X e2 m2) (hs1 : starEach [e, e2] X.env = (false, eval e X.env) :: starEach [e2] X.env := by rfl) (hs2 : starEach [e2] X.env = (false, eval e2 X.env) :: starEach [] X.env := by rfl)
    (hpl : (backTo pos (starEach [e2] X.env)).any (·.1) = false := by rfl) : PMI X (.Tuple elts kk tpos) (.Call (.Name "zip" p) [e, e2] [] pos) (mZip m m2) :=
  PI.weak (pi_zipA hg hm (pa_cons he (pa_cons he2 pa_nil hs2) hs1) hs1 hpl) fun σ H R h => by
  obtain ⟨o, T, sa, its, sa', e, S, q⟩ := h
  obtain ⟨r1, s1, e1, e2⟩ := bnd_some e
  obtain ⟨r2, s2, e2, e3⟩ := bnd_some e2
  obtain ⟨⟨fl2, a2⟩, s3, u2, e3⟩ := bnd_some e3
  obtain ⟨⟨fl1, a1⟩, s4, u1, e3⟩ := bnd_some e3
  cases ei : zipA a1 a2 with
  | none => rw [ei] at e3; cases e3
  | some its' =>
    rw [ei] at e3
    cases e3
    refine ⟨o, T, sa, r1, s1, e1, S, fun o1 v1 H1 L1 S1 R1 => ?_⟩
    refine ⟨o1, _, s1, r2, s2, e2, S1, fun o2 v2 H2 L2 S2 R2 => ?_⟩
    obtain ⟨o3, S3, L3, P2⟩ := share S2 R2 u2
    obtain ⟨o4, S4, L4, P1⟩ := share S3 ((R1.mono S1 L2).mono S2 L3) u1
    have P2' := RepS.mono S3 L4 P2
    have LL := (L1.trans L2).trans (L3.trans L4)
    unfold zipA at ei
    split at ei
    · cases ei
      obtain ⟨f1, g1, _⟩ := P1
      obtain ⟨f2, g2, _⟩ := P2'
      obtain ⟨p1, y1, rfl, t1, q1⟩ := tup_of g1
      obtain ⟨p2, y2, rfl, t2, q2⟩ := tup_of g2
      exact ⟨p1, p2, y1, y2, rfl, .inr ⟨t1, t2, q o4 H2 _ LL S4 (wk_zipT S4 t1 t2 q1 q2)⟩⟩
    · cases ei
      obtain ⟨f1, g1, n1⟩ := P1
      obtain ⟨f2, g2, n2⟩ := P2'
      obtain ⟨p1, y1, rfl, t1, q1, rfl⟩ := ls_of g1
      obtain ⟨p2, y2, rfl, t2, q2, rfl⟩ := ls_of g2
      exact ⟨p1, p2, y1, y2, rfl, .inl ⟨.of t1, .of t2, q o4 H2 _ LL S4 (wk_zipL S4 t1 (n1 p1 (by simp)) t2 (n2 p2 (by simp)) q1 q2)⟩⟩
    · cases ei
end
end MM
namespace MM
open PySem PySem.Spec PyProof.Rows L2

/-! ### two new lists of lists, one behind the other -/
def mCatL (ma mb : SM R) : SM R := bnd ma fun r1 => bnd mb fun r2 sa => match r1, r2 with
  | .val true (.lst xs), .val true (.lst ys) => if szB (xs.length + ys.length) then some (.val true (.lst (xs ++ ys)), sa) else none
  | _, _ => none
section
variable {X : Cx} {a b : Expr} {ma mb : SM R} {pos : Pos}
theorem pm_catL (ha : PM X a ma) (hb : PM X b mb) : PM X (.BinOp a .Add b pos) (mCatL ma mb) := PE.weak (pe_op op_addA ha hb) fun σ H Q h => by
  obtain ⟨o, T, sa, r', sa', e, S, q⟩ := h
  obtain ⟨r1, s1, e1, e2⟩ := bnd_some e
  obtain ⟨r2, s2, e2, e3⟩ := bnd_some e2
  split at e3
  · rename_i xs ys _
    split at e3
    · rename_i hz
      cases e3
      refine ⟨o, T, sa, _, s1, e1, S, fun o1 v H1 L1 S1 R1 => ?_⟩
      refine ⟨o1, _, s1, _, _, e2, S1, fun o2 v2 H2 L2 S2 R2 => ?_⟩
      have S2 : SRel X.K o2 ((.lst ys, v2) :: (.lst xs, v) :: T) sa' σ H2 := S2
      obtain ⟨f2, o3, eo2, rp2, S3⟩ := S2.top
      obtain ⟨f1, o4, eo3, rp1, S4⟩ := S3.top
      obtain ⟨p2, us2, g2, rfl, h2, rs2, rfl⟩ := lst_of rp2
      obtain ⟨p1, us1, g1, rfl, h1, rs1, rfl⟩ := lst_of rp1
      have l1 := rs1.len
      have l2 := rs2.len
      refine .inr (.inr ⟨p1, p2, us1, us2, rfl, rfl, h1, h2, by rw [← l1, ← l2]; exact szB_ok hz, fun p hp => ?_⟩)
      subst eo3
      subst eo2
      have hsame : ∀ b u, H2 b = some u → upd H2 p (.lst (us1 ++ us2)) b = some u := fun b u e => by rw [upd_ne (ne_of_none e hp)]; exact e
      have hnp : ∀ b, b ∈ p2 :: g2 ++ (p1 :: g1 ++ o4) → b ≠ p := fun b hb e => by
        obtain ⟨u, eu, _⟩ := S2.mut b hb
        rw [e, hp] at eu
        cases eu
      have sub : ∀ b, b ∈ (g1 ++ g2) ++ o4 → b ∈ p2 :: g2 ++ (p1 :: g1 ++ o4) := fun b hb => by
        simp only [List.mem_append, List.mem_cons] at hb ⊢
        rcases hb with (hb | hb) | hb
        · exact .inr (.inl (.inr hb))
        · exact .inl (.inr hb)
        · exact .inr (.inr hb)
      have nd : ((g1 ++ g2) ++ o4).Nodup := by
        have n0 := S2.nd
        have n1 : (g2 ++ (g1 ++ o4)).Nodup := by
          have n2 : (p2 :: (g2 ++ (p1 :: (g1 ++ o4)))).Nodup := n0
          have n3 := (List.nodup_cons.mp n2).2
          have n4 : (p1 :: (g2 ++ (g1 ++ o4))).Nodup := List.perm_middle.nodup n3
          exact (List.nodup_cons.mp n4).2
        have pm : (g2 ++ (g1 ++ o4)).Perm ((g1 ++ g2) ++ o4) := by
          rw [List.append_assoc]
          exact List.perm_append_comm_assoc g2 g1 o4
        exact pm.nodup n1
      have nd5 : (p :: ((g1 ++ g2) ++ o4)).Nodup := List.nodup_cons.mpr ⟨fun z => hnp p (sub p z) rfl, nd⟩
      have rep : Rep X.K (upd H2 p (.lst (us1 ++ us2))) (.lst (xs ++ ys)) (.ref p) (p :: (g1 ++ g2)) := by
        unfold Rep
        exact ⟨p, us1 ++ us2, g1 ++ g2, rfl, (by simp [upd]), (rs1.append rs2).mono (fun b u e _ => hsame b u e) (fun b _ u e => hsame b u e), rfl⟩
      refine q (p :: (g1 ++ g2) ++ o4) (.ref p) _ ((L1.trans L2).trans fun b u e n => ⟨hsame b u e, fun z => ?_⟩) ⟨S4.len, fun i fl a e => ?_, ?_, nd5⟩ True.intro
      · rcases List.mem_cons.mp z with rfl | z
        · rw [hp] at e; cases e
        · exact n (sub b z)
      · obtain ⟨w, e1, z⟩ := S2.sl i fl a e
        refine ⟨w, e1, fun y => ?_⟩
        obtain ⟨fp, r, n⟩ := z y
        refine ⟨fp, r.mono (fun b u e _ => hsame b u e) (fun b _ u e => hsame b u e), fun b hb z => ?_⟩
        rcases List.mem_cons.mp z with rfl | z
        · obtain ⟨u, eu, _⟩ := r.mem b hb
          rw [hp] at eu
          cases eu
        · exact n b hb (sub b z)
      · exact Reps.cons rep (S4.own.mono (fun b u e _ => hsame b u e) (fun b _ u e => hsame b u e))
    · cases e3
  · cases e3
end
end MM
namespace MM
open PySem PySem.Spec PyProof.Rows L2

/-! ### names of the module that stand for data -/
def Konst (K : PySem.W.Frag) (mg : Str → Option Value) (x : Str) (d : D) : Prop := ∃ v u, mg x = some u ∧ RelV v u ∧ ∀ H, RepD K H d v
inductive StV (K : PySem.W.Frag) : D → V → Value → Prop
  | int {i : Int} {t : Tok} : StV K (.int i) (.int i) (.int i t)
  | str {x : Str} {t : Tok} : StV K (.str x) (.str x) (.str x t)
  | bl {b : Bool} : StV K (.bl b) (.bl b) (.bool b)
  | non : StV K .non .non .none
  | tup {ds : List D} {a : Addr} : (∀ H, RepD K H (.tup ds) (.ref a)) → StV K (.tup ds) (.ref a) (.ref a)
theorem StV.rep {K : PySem.W.Frag} {d : D} {v : V} {u : Value} (h : StV K d v u) : RelV v u ∧ ∀ H, RepD K H d v := by
  cases h with
  | int => exact ⟨⟨_, rfl⟩, fun H => by unfold RepD; rfl⟩
  | str => exact ⟨⟨_, rfl⟩, fun H => by unfold RepD; rfl⟩
  | bl => exact ⟨rfl, fun H => by unfold RepD; rfl⟩
  | non => exact ⟨rfl, fun H => by unfold RepD; rfl⟩
  | tup h => exact ⟨rfl, h⟩
inductive StVs (K : PySem.W.Frag) : List D → List V → List Value → Prop
  | nil : StVs K [] [] []
  | cons {d : D} {v : V} {u : Value} {ds : List D} {vs : List V} {us : List Value} : StV K d v u → StVs K ds vs us → StVs K (d :: ds) (v :: vs) (u :: us)
theorem StVs.rep {K : PySem.W.Frag} : ∀ {ds : List D} {vs : List V} {us : List Value}, StVs K ds vs us → Vals vs us ∧ ∀ H, RepDs K H ds vs
  | _, _, _, .nil => ⟨.nil, fun H => by unfold RepDs; rfl⟩
  | _, _, _, .cons h k => by
    obtain ⟨h1, h2⟩ := h.rep
    obtain ⟨h3, h4⟩ := StVs.rep k
    exact ⟨.cons h1 h3, fun H => by unfold RepDs; exact ⟨_, _, rfl, h2 H, h4 H⟩⟩
theorem st_tup {K : PySem.W.Frag} {a : Addr} {od : Option Addr} {its : Array Value} {n : Nat} {sl : Array (Option Value)} {ds : List D} {vs : List V} (l : K.lookup a = some ⟨.type "tuple", od, .seq its n, sl⟩) (hz : its.size ≤ sizeLine) (h : StVs K ds vs its.toList) : ∀ H, RepD K H (.tup ds) (.ref a) := fun H => by
  obtain ⟨h1, h2⟩ := h.rep
  unfold RepD
  exact ⟨a, vs, rfl, .inr ⟨_, its, n, l, rfl, rfl, hz, h1⟩, h2 H⟩
theorem konst_mk {K : PySem.W.Frag} {mg : Str → Option Value} {x : Str} {d : D} {v : V} {u : Value} (e : mg x = some u) (h : StV K d v u) : Konst K mg x d := ⟨v, u, e, h.rep.1, h.rep.2⟩
section
variable {X : Cx} {x : Str} {d : D} {pos : Pos}
theorem pm_k (hg : Gl X x) (h : Konst X.K X.mg x d) (hd : (x == ("__debug__" : Str)) = false := by decide) : PM X (.Name x pos) (mC d) := by
  obtain ⟨v, u, e, r, rep⟩ := h
  exact PE.weak (pe_glob hg e r hd) fun σ H Q h => by
    obtain ⟨o, T, sa, r', sa', e, S, q⟩ := h
    cases e
    exact q o v H Le.refl S (RepS.d (rep H))
/-- what is never come to -/
def mStuck : SM R := fun _ => none
theorem pm_stuck {e : Expr} : PM X e mStuck := ⟨fun pins s σ H Q I h => by
  obtain ⟨o, T, sa, r', sa', e, S, q⟩ := h
  cases e⟩
end
end MM
namespace MM
open PySem PySem.Spec PyProof.Rows L2

/-! ### the typed layer: what a term does on every state that has at least t -/
def isD : A → Bool
  | .d _ => true
  | _ => false
def Sub (t s : List Slot) : Prop := t.length = s.length ∧ ∀ (j : Nat) fl a, t[j]? = some (some (fl, a)) → ∃ fl', s[j]? = some (some (fl', a)) ∧ (fl = true → fl' = true) ∧ (isD a = true → fl' = false)
section
variable {t t' s s' : List Slot} {j : Nat} {fl fl' : Bool} {a : A}
def okT (t : List Slot) : Bool := t.all fun x => match x with
  | some (true, .d _) => false
  | _ => true
theorem Sub.self (h : okT t = true) : Sub t t := ⟨rfl, fun j fl a e => ⟨fl, e, id, fun hd => by
  unfold okT at h
  have := List.all_eq_true.mp h _ (List.mem_of_getElem? e)
  cases a with
  | d z => cases fl <;> simp_all
  | _ => cases hd⟩⟩
theorem Sub.set (h : Sub t s) (hf : fl = true → fl' = true) (hd : isD a = true → fl' = false) : Sub (t.set j (some (fl, a))) (s.set j (some (fl', a))) := by
  refine ⟨by simp [h.1], fun i f b e => ?_⟩
  by_cases hi : i = j
  · subst hi
    by_cases hl : i < t.length
    · rw [List.getElem?_set_self hl] at e
      cases e
      exact ⟨fl', List.getElem?_set_self (h.1 ▸ hl), hf, hd⟩
    · rw [List.getElem?_eq_none (by simpa using hl)] at e
      cases e
  · rw [List.getElem?_set_ne (Ne.symm hi)] at e ⊢
    exact h.2 i f b e
theorem Sub.set0 (h : Sub t s) {x : Slot} : Sub (t.set j none) (s.set j x) := by
  refine ⟨by simp [h.1], fun i f b e => ?_⟩
  by_cases hi : i = j
  · subst hi
    by_cases hl : i < t.length
    · rw [List.getElem?_set_self hl] at e
      cases e
    · rw [List.getElem?_eq_none (by simpa using hl)] at e
      cases e
  · rw [List.getElem?_set_ne (Ne.symm hi)] at e ⊢
    exact h.2 i f b e
theorem Sub.get (h : Sub t s) (e : t[j]? = some (some (fl, a))) : ∃ fl', s[j]? = some (some (fl', a)) ∧ (fl = true → fl' = true) ∧ (isD a = true → fl' = false) := h.2 j fl a e
theorem Sub.lt (h : Sub t s) (e : t[j]? = some (some (fl, a))) : j < s.length := by
  rw [← h.1]
  rcases Nat.lt_or_ge j t.length with z | z
  · exact z
  · rw [List.getElem?_eq_none z] at e; cases e
inductive Weak : List Slot → List Slot → Prop
  | nil : Weak [] []
  | skip {t' t : List Slot} {x : Slot} : Weak t' t → Weak (none :: t') (x :: t)
  | keep {t' t : List Slot} {x : Slot} : Weak t' t → Weak (x :: t') (x :: t)
  | down {t' t : List Slot} {fl : Bool} {a : A} : Weak t' t → Weak (some (false, a) :: t') (some (fl, a) :: t)
theorem Weak.refl : ∀ {t : List Slot}, Weak t t
  | [] => .nil
  | _ :: _ => .keep Weak.refl
theorem Weak.get : ∀ {t' t : List Slot}, Weak t' t → t'.length = t.length ∧ ∀ (j : Nat) fl a, t'[j]? = some (some (fl, a)) → ∃ fl', t[j]? = some (some (fl', a)) ∧ (fl = true → fl' = true)
  | _, _, .nil => ⟨rfl, fun j fl a e => by simp at e⟩
  | _, _, .skip w => ⟨by simp [w.get.1], fun j fl a e => by
    cases j with
    | zero => simp at e
    | succ j => exact w.get.2 j fl a e⟩
  | _, _, .keep w => ⟨by simp [w.get.1], fun j fl a e => by
    cases j with
    | zero => exact ⟨fl, e, id⟩
    | succ j => exact w.get.2 j fl a e⟩
  | _, _, .down w => ⟨by simp [w.get.1], fun j fl a e => by
    cases j with
    | zero => simp at e; obtain ⟨rfl, rfl⟩ := e; exact ⟨_, rfl, fun z => nomatch z⟩
    | succ j => exact w.get.2 j fl a e⟩
theorem Sub.weak (w : Weak t' t) (h : Sub t s) : Sub t' s := ⟨w.get.1.trans h.1, fun j fl a e => by
  obtain ⟨f1, e1, h1⟩ := w.get.2 j fl a e
  obtain ⟨f2, e2, h2, h3⟩ := h.get e1
  exact ⟨f2, e2, fun z => h2 (h1 z), h3⟩⟩
end

inductive Rk where
  | own | val | pk (j : Nat) | vw
def RkOk : Rk → R → List Slot → A → Prop
  | .own, r, _, x => r = .val true x ∧ isD x = false
  | .val, r, _, x => r = .val false x
  | .pk j, r, t, x => r = .peek j ∧ ∃ fl, t[j]? = some (some (fl, x))
  | .vw, r, t, x => (∃ fl, r = .val fl x ∧ (isD x = true → fl = false)) ∨ ∃ j fl, r = .peek j ∧ t[j]? = some (some (fl, x))
abbrev Vw (r : R) (t : List Slot) (x : A) : Prop := RkOk .vw r t x
/-- .. holds in a later state, too -/
def At : Rk → List Slot → A → Prop
  | .pk j, t, x => ∃ fl, t[j]? = some (some (fl, x))
  | .vw, _, _ => False
  | _, _, _ => True
section
variable {t t1 t2 t' s s' : List Slot} {j : Nat} {fl fl' : Bool} {a x : A} {z : D} {r : R} {ρ ρ1 ρ2 : Rk}
theorem rk_vw (h : RkOk ρ r t x) : Vw r t x := match ρ, h with
  | .own, h => .inl ⟨true, h.1, fun z => by rw [h.2] at z; cases z⟩
  | .val, h => .inl ⟨false, h, fun _ => rfl⟩
  | .pk j, h => .inr ⟨j, h.2.choose, h.1, h.2.choose_spec⟩
  | .vw, h => h
theorem rk_at (h : RkOk ρ r t x) (k : At ρ t2 x) : RkOk ρ r t2 x := match ρ, h, k with
  | .own, h, _ => h
  | .val, h, _ => h
  | .pk _, h, k => ⟨h.1, k⟩
theorem vw_rv (h : Vw r t x) (S : Sub t s) : rv r s = some x := by
  rcases h with ⟨fl, rfl, _⟩ | ⟨j, fl, rfl, e⟩
  · rfl
  · obtain ⟨f, e2, _⟩ := S.get e
    show (match s[j]? with
      | some (some p) => some p.2
      | _ => none) = _
    rw [e2]
theorem sub_useD (S : Sub t s) (e : t[j]? = some (some (fl, .d z))) : s[j]? = some (some (false, .d z)) ∧ s.set j (some (false, .d z)) = s := by
  obtain ⟨f, e2, _, h⟩ := S.get e
  rw [h rfl] at e2
  refine ⟨e2, ?_⟩
  apply List.ext_getElem?
  intro i
  by_cases hi : i = j
  · subst hi
    rw [List.getElem?_set_self (S.lt e), e2]
  · rw [List.getElem?_set_ne (Ne.symm hi)]
theorem vw_use (h : Vw r t (.d z)) (S : Sub t s) : use r s = some ((false, .d z), s) := by
  rcases h with ⟨fl, rfl, h⟩ | ⟨j, fl, rfl, e⟩
  · rw [h rfl]; rfl
  · obtain ⟨e2, e3⟩ := sub_useD S e
    show (match s[j]? with
      | some (some (_, a)) => some ((false, a), s.set j (some (false, a)))
      | _ => none) = _
    simp only [e2, e3]
theorem vw_od (h : Vw r t (.d z)) (S : Sub t s) : od r s = some (.d z) := by
  rcases h with ⟨fl, rfl, h⟩ | ⟨j, fl, rfl, e⟩
  · rw [h rfl]; rfl
  · obtain ⟨e2, e3⟩ := sub_useD S e
    rw [od_peek, e2]
    rfl
theorem vw_part {i : Int} (h : Vw r t (.d (.int i))) (S : Sub t s) : partR r s = some (some i, s) := by
  rcases h with ⟨fl, rfl, h⟩ | ⟨j, fl, rfl, e⟩
  · rw [h rfl]; rfl
  · obtain ⟨e2, e3⟩ := sub_useD S e
    rw [partR_peek, e2]
    rfl
theorem vw_bool {b : Bool} (h : Vw r t (.d (.bl b))) (S : Sub t s) : boolOf r s = some b := by
  rcases h with ⟨fl, rfl, h⟩ | ⟨j, fl, rfl, e⟩
  · rw [h rfl]; rfl
  · obtain ⟨e2, e3⟩ := sub_useD S e
    rw [boolOf_peek, e2]
    rfl
theorem own_od (h : RkOk .own r t x) : od r s = some x := by rw [h.1]; rfl
end

/-! ### judgements -/
def E (m : SM R) (t t' : List Slot) (ρ : Rk) (x : A) : Prop := ∀ s, Sub t s → ∃ r s', m s = some (r, s') ∧ Sub t' s' ∧ RkOk ρ r t' x
def T (m : SM Bool) (t t' : List Slot) (b : Bool) : Prop := ∀ s, Sub t s → ∃ s', m s = some (b, s') ∧ Sub t' s'
inductive RksOk : List R → List Slot → List A → Prop
  | nil {t : List Slot} : RksOk [] t []
  | cons {r : R} {rs : List R} {t : List Slot} {x : A} {xs : List A} : Vw r t x → RksOk rs t xs → RksOk (r :: rs) t (x :: xs)
def Es (ms : SM (List R)) (t t' : List Slot) (xs : List A) : Prop := ∀ s, Sub t s → ∃ rs s', ms s = some (rs, s') ∧ Sub t' s' ∧ RksOk rs t' xs
def EQ {κ : Type} (m : SM R) (t : List Slot) (P : Option κ) (post : κ → List Slot) (val : κ → A) : Prop := ∀ k, P = some k → E m t (post k) .vw (val k)
def TQ {κ : Type} (m : SM Bool) (t : List Slot) (P : Option κ) (post : κ → List Slot) (val : κ → Bool) : Prop := ∀ k, P = some k → T m t (post k) (val k)
def Pt (p : SM (Option Int)) (t : List Slot) (o : Option Int) : Prop := ∀ s, Sub t s → ∃ s', p s = some (o, s') ∧ Sub t s'
def It (m : SM (List A)) (t t' : List Slot) (its : List A) : Prop := ∀ s, Sub t s → ∃ s', m s = some (its, s') ∧ Sub t' s'
def Put (g : Tg) (a : A) (t t' : List Slot) : Prop := ∀ s, Sub t s → ∃ s', putI g a s = some s' ∧ Sub t' s'
/-- a value that a name stands for -/
def letF {α β : Type} (v : α) (f : α → β) : β := f v
@[simp] theorem letF_eq {α β : Type} (v : α) (f : α → β) : letF v f = f v := rfl
section
variable {α β κ : Type} {t t1 t2 t' s s' : List Slot} {j : Nat} {fl fl' : Bool} {a b x y c : A} {z : D} {r : R} {ρ ρ1 ρ2 : Rk} {m n ma mb : SM R} {ms : SM (List R)} {xs : List A}
theorem E.vw (h : E m t t' ρ x) : E m t t' .vw x := fun s S => by
  obtain ⟨r, s', e, S', k⟩ := h s S
  exact ⟨r, s', e, S', rk_vw k⟩
theorem E_var (h : t[j]? = some (some (fl, x))) : E (mV j) t t (.pk j) x := fun s S => by
  obtain ⟨f, e, _⟩ := S.get h
  exact ⟨.peek j, s, by rw [run_mV, e]; rfl, S, rfl, fl, h⟩
theorem E_mv {z : A} (h : t[j]? = some (some (true, z))) (hz : isD z = false) : E (mMv j) t (t.set j none) .own z := fun s S => by
  obtain ⟨f, e, h2, _⟩ := S.get h
  obtain rfl : f = true := h2 rfl
  refine ⟨.val true z, s.set j none, by unfold mMv; simp only [e], S.set0, rfl, hz⟩
theorem E_c : E (mC z) t t .val (.d z) := fun s S => ⟨_, s, rfl, S, rfl⟩
theorem E_m1 {g : A → Option A} (ha : E m t t' ρ a) (h : g a = some (.d z)) : E (m1 g m) t t' .val (.d z) := fun s S => by
  obtain ⟨r, s', e, S', k⟩ := ha s S
  refine ⟨_, s', ?_, S', rfl⟩
  rw [run_m1, e, obind_some, run_app1, vw_rv (rk_vw k) S', Option.bind_some, h]
  rfl
theorem fin_own (h : fin x = .val true x) : isD x = false := by
  cases x with
  | d z => cases h
  | _ => rfl
theorem E_m1o {g : A → Option A} (ha : E m t t' ρ a) (h : g a = some c) (hc : fin c = .val true c) : E (m1 g m) t t' .own c := fun s S => by
  obtain ⟨r, s', e, S', k⟩ := ha s S
  refine ⟨_, s', ?_, S', rfl, fin_own hc⟩
  rw [run_m1, e, obind_some, run_app1, vw_rv (rk_vw k) S', Option.bind_some, h, ofin_some, hc]
theorem m2_run {g : A → A → Option A} (ha : E m t t1 ρ1 a) (hb : E n t1 t2 ρ2 b) (k1 : ∀ r, RkOk ρ1 r t1 a → Vw r t2 a) (h : g a b = some c) (S : Sub t s) : ∃ s', m2 g m n s = some (fin c, s') ∧ Sub t2 s' := by
  obtain ⟨r, s1, e, S1, k⟩ := ha s S
  obtain ⟨r2, s2, e2, S2, k2⟩ := hb s1 S1
  refine ⟨s2, ?_, S2⟩
  rw [run_m2, e, obind_some, run_bnd, e2, obind_some, run_app2, vw_rv (k1 r k) S2, vw_rv (rk_vw k2) S2, bind2_some, h, ofin_some]
theorem E_m2 {g : A → A → Option A} (ha : E m t t1 ρ1 a) (hb : E n t1 t1 ρ2 b) (h : g a b = some (.d z)) : E (m2 g m n) t t1 .val (.d z) := fun s S => by
  obtain ⟨s', e, S'⟩ := m2_run ha hb (fun r k => rk_vw k) h S
  exact ⟨_, s', e, S', rfl⟩
theorem E_m2e {g : A → A → Option A} (ha : E m t t1 ρ1 a) (hb : E n t1 t2 ρ2 b) (k : At ρ1 t2 a) (h : g a b = some (.d z)) : E (m2 g m n) t t2 .val (.d z) := fun s S => by
  obtain ⟨s', e, S'⟩ := m2_run ha hb (fun r q => rk_vw (rk_at q k)) h S
  exact ⟨_, s', e, S', rfl⟩
theorem E_m2o {g : A → A → Option A} (ha : E m t t1 ρ1 a) (hb : E n t1 t1 ρ2 b) (h : g a b = some c) (hc : fin c = .val true c) : E (m2 g m n) t t1 .own c := fun s S => by
  obtain ⟨s', e, S'⟩ := m2_run ha hb (fun r k => rk_vw k) h S
  exact ⟨_, s', by rw [e, hc], S', rfl, fin_own hc⟩
theorem Es_nil : Es mNil t t [] := fun s S => ⟨[], s, rfl, S, .nil⟩
theorem Es_cons (ha : E m t t' ρ a) (hs : Es ms t' t' xs) : Es (mCons m ms) t t' (a :: xs) := fun s S => by
  obtain ⟨r, s1, e, S1, k⟩ := ha s S
  obtain ⟨rs, s2, e2, S2, k2⟩ := hs s1 S1
  exact ⟨r :: rs, s2, by rw [run_mCons, e, obind_some, run_bnd, e2]; rfl, S2, .cons (rk_vw k) k2⟩
theorem Es_consE (ha : E m t t1 ρ a) (hs : Es ms t1 t' xs) (q : At ρ t' a) : Es (mCons m ms) t t' (a :: xs) := fun s S => by
  obtain ⟨r, s1, e, S1, k⟩ := ha s S
  obtain ⟨rs, s2, e2, S2, k2⟩ := hs s1 S1
  exact ⟨r :: rs, s2, by rw [run_mCons, e, obind_some, run_bnd, e2]; rfl, S2, .cons (rk_vw (rk_at k q)) k2⟩
theorem rks_rvs : ∀ {rs : List R} {xs : List A}, RksOk rs t xs → Sub t s → rvs rs s = some xs
  | _, _, .nil, _ => rfl
  | _, _, .cons h k, S => by rw [rvs_cons, vw_rv h S, rks_rvs k S]; rfl
theorem rks_rds : ∀ {rs : List R} {ds : List D}, RksOk rs t (ds.map .d) → Sub t s → rds rs s = some ds
  | _, [], .nil, _ => rfl
  | _, d :: ds, .cons h k, S => rds_cons (vw_rv h S) (rks_rds k S)
theorem rks_ods : ∀ {rs : List R} {ds : List D}, RksOk rs t (ds.map .d) → Sub t s → ods rs s = some (ds.map .d)
  | _, [], .nil, _ => rfl
  | _, d :: ds, .cons h k, S => by rw [ods_cons, vw_od h S, rks_ods k S]; rfl
theorem E_n {g : List A → Option A} (ha : Es ms t t' xs) (h : g xs = some (.d z)) : E (mN g ms) t t' .val (.d z) := fun s S => by
  obtain ⟨rs, s', e, S', k⟩ := ha s S
  refine ⟨_, s', ?_, S', rfl⟩
  rw [run_mN, e, obind_some, run_appN, rks_rvs k S', Option.bind_some, h]
  rfl
theorem E_no {g : List A → Option A} (ha : Es ms t t' xs) (h : g xs = some c) (hc : fin c = .val true c) : E (mN g ms) t t' .own c := fun s S => by
  obtain ⟨rs, s', e, S', k⟩ := ha s S
  refine ⟨_, s', ?_, S', rfl, fin_own hc⟩
  rw [run_mN, e, obind_some, run_appN, rks_rvs k S', Option.bind_some, h, ofin_some, hc]
theorem mkT_data (ds : List D) : mkT (ds.map .d) = .d (.tup ds) := by unfold mkT; rw [allD_map]
theorem mkL_data (ds : List D) : mkL (ds.map .d) = .ls ds := by unfold mkL; rw [allD_map]
theorem E_tup {ds : List D} (ha : Es ms t t' (ds.map .d)) (hz : szB ds.length = true) : E (mTup ms) t t' .val (.d (.tup ds)) := fun s S => by
  obtain ⟨rs, s', e, S', k⟩ := ha s S
  refine ⟨_, s', ?_, S', rfl⟩
  rw [run_mTup, e, obind_some, rks_ods k S', seqO_some (by simpa using hz), mkT_data]
  rfl
theorem E_lst {ds : List D} (ha : Es ms t t' (ds.map .d)) (hz : szB ds.length = true) : E (mLst ms) t t' .own (.ls ds) := fun s S => by
  obtain ⟨rs, s', e, S', k⟩ := ha s S
  refine ⟨_, s', ?_, S', rfl, rfl⟩
  rw [run_mLst, e, obind_some, rks_ods k S', seqO_some (by simpa using hz), mkL_data]
  rfl
theorem E_ix (ha : E m t t1 ρ1 a) (hb : E n t1 t1 ρ2 b) (h : ixA a b = some (.d z)) : E (mIx m n) t t1 .val (.d z) := fun s S => by
  obtain ⟨r, s1, e, S1, k⟩ := ha s S
  obtain ⟨r2, s2, e2, S2, k2⟩ := hb s1 S1
  refine ⟨_, s2, ?_, S2, rfl⟩
  rw [run_mIx, e, obind_some, run_bnd, e2, obind_some, vw_rv (rk_vw k) S2, vw_rv (rk_vw k2) S2, ixO_d h]
theorem E_ixe (ha : E m t t1 ρ1 a) (hb : E n t1 t2 ρ2 b) (q : At ρ1 t2 a) (h : ixA a b = some (.d z)) : E (mIx m n) t t2 .val (.d z) := fun s S => by
  obtain ⟨r, s1, e, S1, k⟩ := ha s S
  obtain ⟨r2, s2, e2, S2, k2⟩ := hb s1 S1
  refine ⟨_, s2, ?_, S2, rfl⟩
  rw [run_mIx, e, obind_some, run_bnd, e2, obind_some, vw_rv (rk_vw (rk_at k q)) S2, vw_rv (rk_vw k2) S2, ixO_d h]
/-- a list out of a list of lists that a name holds -/
theorem E_ixL (ha : E m t t1 (.pk j) a) (hb : E n t1 t1 ρ2 b) (h : ixA a b = some c) (hc : isD c = false) (ha' : isD a = false) : E (mIx m n) t (t1.set j (some (false, a))) .val c := fun s S => by
  obtain ⟨r, s1, e, S1, rfl, fl, e3⟩ := ha s S
  obtain ⟨r2, s2, e2, S2, k2⟩ := hb s1 S1
  obtain ⟨f, e4, _⟩ := S2.get e3
  refine ⟨.val false c, s2.set j (some (false, a)), ?_, S2.set (fun z => nomatch z) (fun _ => rfl), rfl⟩
  rw [run_mIx, e, obind_some, run_bnd, e2, obind_some, vw_rv (.inr ⟨j, fl, rfl, e3⟩) S2, vw_rv (rk_vw k2) S2]
  unfold ixO
  simp only [h]
  cases c with
  | d z => cases hc
  | _ => simp only [downg, e4]
theorem Pt_none : Pt partN t none := fun s S => ⟨s, rfl, S⟩
theorem Pt_some {i : Int} (h : E m t t ρ (.d (.int i))) : Pt (partS m) t (some i) := fun s S => by
  obtain ⟨r, s', e, S', k⟩ := h s S
  exact ⟨s', by rw [run_partS, e, obind_some, vw_part (rk_vw k) S'], S'⟩
theorem sl_run {lo hi : Option Int} {l u : SM (Option Int)} (ha : E m t t1 ρ a) (hl : Pt l t1 lo) (hh : Pt u t1 hi) (h : slA lo hi a = some c) (S : Sub t s) : ∃ s', mSl m l u s = some (fin c, s') ∧ Sub t1 s' := by
  obtain ⟨r, s1, e, S1, k⟩ := ha s S
  obtain ⟨s2, e2, S2⟩ := hl s1 S1
  obtain ⟨s3, e3, S3⟩ := hh s2 S2
  refine ⟨s3, ?_, S3⟩
  rw [run_mSl, e, obind_some, run_bnd, e2, obind_some, run_bnd, e3, obind_some, run_app1, vw_rv (rk_vw k) S3, Option.bind_some, h, ofin_some]
theorem E_sl {lo hi : Option Int} {l u : SM (Option Int)} (ha : E m t t1 ρ a) (hl : Pt l t1 lo) (hh : Pt u t1 hi) (h : slA lo hi a = some (.d z)) : E (mSl m l u) t t1 .val (.d z) := fun s S => by
  obtain ⟨s', e, S'⟩ := sl_run ha hl hh h S
  exact ⟨_, s', e, S', rfl⟩
theorem E_slo {lo hi : Option Int} {l u : SM (Option Int)} (ha : E m t t1 ρ a) (hl : Pt l t1 lo) (hh : Pt u t1 hi) (h : slA lo hi a = some c) (hc : fin c = .val true c) : E (mSl m l u) t t1 .own c := fun s S => by
  obtain ⟨s', e, S'⟩ := sl_run ha hl hh h S
  exact ⟨_, s', by rw [e, hc], S', rfl, fin_own hc⟩
variable {tm tn : SM Bool} {k k' : Bool}
theorem E_asV (h : T tm t t' k) : E (asV tm) t t' .val (.d (.bl k)) := fun s S => by
  obtain ⟨s', e, S'⟩ := h s S
  exact ⟨_, s', by rw [run_asV, e]; rfl, S', rfl⟩
theorem E_if {v w : α} (e : α → A) (h : T tm t t1 k) (ha : k = true → E m t1 t2 ρ1 (e v)) (hb : k = false → E n t1 t2 ρ2 (e w)) : E (mIf tm m n) t t2 .vw (e (cond k v w)) := fun s S => by
  obtain ⟨s1, e1, S1⟩ := h s S
  cases k with
  | true =>
    obtain ⟨r, s2, e2, S2, q⟩ := ha rfl s1 S1
    exact ⟨r, s2, by rw [run_mIf, e1]; exact e2, S2, rk_vw q⟩
  | false =>
    obtain ⟨r, s2, e2, S2, q⟩ := hb rfl s1 S1
    exact ⟨r, s2, by rw [run_mIf, e1]; exact e2, S2, rk_vw q⟩
theorem E_ifQ {P Q : Option κ} {post : κ → List Slot} {val : κ → A} (h : T tm t t1 k) (ha : k = true → EQ m t1 P post val) (hb : k = false → EQ n t1 Q post val) : EQ (mIf tm m n) t (cond k P Q) post val := fun v e s S => by
  obtain ⟨s1, e1, S1⟩ := h s S
  cases k with
  | true =>
    obtain ⟨r, s2, e2, S2, q⟩ := ha rfl v e s1 S1
    exact ⟨r, s2, by rw [run_mIf, e1]; exact e2, S2, q⟩
  | false =>
    obtain ⟨r, s2, e2, S2, q⟩ := hb rfl v e s1 S1
    exact ⟨r, s2, by rw [run_mIf, e1]; exact e2, S2, q⟩
theorem E_andV {p q : Bool} (ha : E m t t1 ρ1 (.d (.bl p))) (hb : p = true → E n t1 t1 ρ2 (.d (.bl q))) : E (mAndV m n) t t1 .vw (.d (.bl (p && q))) := fun s S => by
  obtain ⟨r, s1, e, S1, k⟩ := ha s S
  rw [run_mAndV, e, obind_some, vw_bool (rk_vw k) S1]
  cases p with
  | true =>
    obtain ⟨r2, s2, e2, S2, k2⟩ := hb rfl s1 S1
    exact ⟨r2, s2, e2, S2, rk_vw k2⟩
  | false => exact ⟨_, s1, rfl, S1, .inl ⟨false, rfl, fun _ => rfl⟩⟩
theorem E_orV {p q : Bool} (ha : E m t t1 ρ1 (.d (.bl p))) (hb : p = false → E n t1 t1 ρ2 (.d (.bl q))) : E (mOrV m n) t t1 .vw (.d (.bl (p || q))) := fun s S => by
  obtain ⟨r, s1, e, S1, k⟩ := ha s S
  rw [run_mOrV, e, obind_some, vw_bool (rk_vw k) S1]
  cases p with
  | false =>
    obtain ⟨r2, s2, e2, S2, k2⟩ := hb rfl s1 S1
    exact ⟨r2, s2, e2, S2, rk_vw k2⟩
  | true => exact ⟨_, s1, rfl, S1, .inl ⟨false, rfl, fun _ => rfl⟩⟩
theorem E_andVQ {p : Bool} {P : Option κ} {post : κ → List Slot} {val : κ → A} {k0 : κ} (ha : E m t t1 ρ1 (.d (.bl p))) (hb : p = true → EQ n t1 P post val) (h1 : post k0 = t1) (h2 : val k0 = .d (.bl false)) : EQ (mAndV m n) t (cond p P (some k0)) post val := fun v h s S => by
  obtain ⟨r, s1, e, S1, k⟩ := ha s S
  rw [run_mAndV, e, obind_some, vw_bool (rk_vw k) S1]
  cases p with
  | true => exact hb rfl v h s1 S1
  | false =>
    cases h
    rw [h1, h2]
    exact ⟨_, s1, rfl, S1, .inl ⟨false, rfl, fun _ => rfl⟩⟩
theorem E_orVQ {p : Bool} {P : Option κ} {post : κ → List Slot} {val : κ → A} {k0 : κ} (ha : E m t t1 ρ1 (.d (.bl p))) (hb : p = false → EQ n t1 P post val) (h1 : post k0 = t1) (h2 : val k0 = .d (.bl true)) : EQ (mOrV m n) t (cond p (some k0) P) post val := fun v h s S => by
  obtain ⟨r, s1, e, S1, k⟩ := ha s S
  rw [run_mOrV, e, obind_some, vw_bool (rk_vw k) S1]
  cases p with
  | false => exact hb rfl v h s1 S1
  | true =>
    cases h
    rw [h1, h2]
    exact ⟨_, s1, rfl, S1, .inl ⟨false, rfl, fun _ => rfl⟩⟩
theorem E_notV {p : Bool} (ha : E m t t1 ρ1 (.d (.bl p))) : E (mNotV m) t t1 .val (.d (.bl (!p))) := fun s S => by
  obtain ⟨r, s1, e, S1, k⟩ := ha s S
  exact ⟨_, s1, by rw [run_mNotV, e, obind_some, vw_bool (rk_vw k) S1]; rfl, S1, rfl⟩
theorem EQ_bind {δ : Type} {o : Option δ} {P : δ → Option κ} {post : κ → List Slot} {val : κ → A} (h : ∀ a, o = some a → EQ m t (P a) post val) : EQ m t (o.bind P) post val := fun k e => by
  cases o with
  | none => cases e
  | some a => exact h a rfl k e
theorem EQ_let {δ : Type} {v : δ} {P : δ → Option κ} {post : κ → List Slot} {val : κ → A} (h : ∀ x, v = x → EQ m t (P x) post val) : EQ m t (letF v P) post val := h v rfl
theorem EQ_ret {k0 : κ} {post : κ → List Slot} {val : κ → A} (h : E m t (post k0) ρ (val k0)) : EQ m t (some k0) post val := fun k e => by
  cases e
  exact h.vw
/-! tests -/
theorem T_cmp {g : A → A → Option Bool} (ha : E m t t1 ρ1 a) (hb : E n t1 t1 ρ2 b) (h : g a b = some k) : T (tCmpM g m n) t t1 k := fun s S => by
  obtain ⟨r, s1, e, S1, k1⟩ := ha s S
  obtain ⟨r2, s2, e2, S2, k2⟩ := hb s1 S1
  refine ⟨s2, ?_, S2⟩
  rw [run_tCmpM, e, obind_some, run_bnd, e2, obind_some, run_cmp2, vw_rv (rk_vw k1) S2, vw_rv (rk_vw k2) S2, bind2_some, h, okB_some]
theorem T_cmpe {g : A → A → Option Bool} (ha : E m t t1 ρ1 a) (hb : E n t1 t2 ρ2 b) (q : At ρ1 t2 a) (h : g a b = some k) : T (tCmpM g m n) t t2 k := fun s S => by
  obtain ⟨r, s1, e, S1, k1⟩ := ha s S
  obtain ⟨r2, s2, e2, S2, k2⟩ := hb s1 S1
  refine ⟨s2, ?_, S2⟩
  rw [run_tCmpM, e, obind_some, run_bnd, e2, obind_some, run_cmp2, vw_rv (rk_vw (rk_at k1 q)) S2, vw_rv (rk_vw k2) S2, bind2_some, h, okB_some]
theorem T_tru (ha : E m t t1 ρ1 a) (h : truA a = some k) : T (mTru m) t t1 k := fun s S => by
  obtain ⟨r, s1, e, S1, k1⟩ := ha s S
  exact ⟨s1, by rw [run_mTru, e, obind_some, run_tru1, vw_rv (rk_vw k1) S1, Option.bind_some, h, okB_some], S1⟩
theorem T_not (h : T tm t t1 k) : T (tNotM tm) t t1 (!k) := fun s S => by
  obtain ⟨s1, e, S1⟩ := h s S
  exact ⟨s1, by rw [run_tNotM, e]; rfl, S1⟩
theorem T_and (h : T tm t t1 k) (h2 : k = true → T tn t1 t1 k') : T (tAndM tm tn) t t1 (k && k') := fun s S => by
  obtain ⟨s1, e, S1⟩ := h s S
  rw [run_tAndM, e, obind_some]
  cases k with
  | true => exact h2 rfl s1 S1
  | false => exact ⟨s1, rfl, S1⟩
theorem T_or (h : T tm t t1 k) (h2 : k = false → T tn t1 t1 k') : T (tOrM tm tn) t t1 (k || k') := fun s S => by
  obtain ⟨s1, e, S1⟩ := h s S
  rw [run_tOrM, e, obind_some]
  cases k with
  | false => exact h2 rfl s1 S1
  | true => exact ⟨s1, rfl, S1⟩
theorem T_andQ {P : Option κ} {post : κ → List Slot} {val : κ → Bool} {k0 : κ} (h : T tm t t1 k) (h2 : k = true → TQ tn t1 P post val) (h3 : post k0 = t1) (h4 : val k0 = false) : TQ (tAndM tm tn) t (cond k P (some k0)) post val := fun v hv s S => by
  obtain ⟨s1, e, S1⟩ := h s S
  rw [run_tAndM, e, obind_some]
  cases k with
  | true => exact h2 rfl v hv s1 S1
  | false => cases hv; rw [h3, h4]; exact ⟨s1, rfl, S1⟩
theorem T_orQ {P : Option κ} {post : κ → List Slot} {val : κ → Bool} {k0 : κ} (h : T tm t t1 k) (h2 : k = false → TQ tn t1 P post val) (h3 : post k0 = t1) (h4 : val k0 = true) : TQ (tOrM tm tn) t (cond k (some k0) P) post val := fun v hv s S => by
  obtain ⟨s1, e, S1⟩ := h s S
  rw [run_tOrM, e, obind_some]
  cases k with
  | false => exact h2 rfl v hv s1 S1
  | true => cases hv; rw [h3, h4]; exact ⟨s1, rfl, S1⟩
theorem TQ_bind {δ : Type} {o : Option δ} {P : δ → Option κ} {post : κ → List Slot} {val : κ → Bool} (h : ∀ a, o = some a → TQ tm t (P a) post val) : TQ tm t (o.bind P) post val := fun k e => by
  cases o with
  | none => cases e
  | some a => exact h a rfl k e
theorem TQ_let {δ : Type} {v : δ} {P : δ → Option κ} {post : κ → List Slot} {val : κ → Bool} (h : ∀ x, v = x → TQ tm t (P x) post val) : TQ tm t (letF v P) post val := h v rfl
theorem TQ_ret {k0 : κ} {post : κ → List Slot} {val : κ → Bool} (h : T tm t (post k0) (val k0)) : TQ tm t (some k0) post val := fun k e => by
  cases e
  exact h
theorem T_chain {g g' : A → A → Option Bool} {mc : SM R} {ρ3 : Rk} (ha : E m t t1 ρ1 a) (hb : E n t1 t1 ρ2 b) (hc : E mc t1 t1 ρ3 c) (h : g a b = some k) (h2 : g' b c = some k') : T (tChainM g g' m n mc) t t1 (k && k') := fun s S => by
  obtain ⟨r, s1, e, S1, k1⟩ := ha s S
  obtain ⟨r2, s2, e2, S2, k2⟩ := hb s1 S1
  rw [run_chain, e, obind_some, run_bnd, e2, obind_some, run_bnd, run_cmp2, vw_rv (rk_vw k1) S2, vw_rv (rk_vw k2) S2, bind2_some, h, okB_some, obind_some]
  cases k with
  | false => exact ⟨s2, rfl, S2⟩
  | true =>
    obtain ⟨r3, s3, e3, S3, k3⟩ := hc s2 S2
    refine ⟨s3, ?_, S3⟩
    rw [iteM_t, run_bnd, e3, obind_some, run_cmp2, vw_rv (rk_vw k2) S3, vw_rv (rk_vw k3) S3, bind2_some, h2, okB_some]
    rfl
end
end MM
namespace MM
open PySem PySem.Spec PyProof.Rows L2

/-! ### what is walked, targets -/
section
variable {α β κ σ τ : Type} {t t1 t2 t' s s' : List Slot} {j : Nat} {fl fl' : Bool} {a b x y c : A} {z : D} {r : R} {ρ ρ1 ρ2 : Rk} {m n ma mb : SM R} {ms : SM (List R)} {xs : List A}
theorem set_get0 {s : List Slot} {j : Nat} {x : Slot} (h : s[j]? = some x) : s.set j x = s := by
  apply List.ext_getElem?
  intro i
  by_cases hi : i = j
  · subst hi
    rcases Nat.lt_or_ge i s.length with z | z
    · rw [List.getElem?_set_self z, h]
    · rw [List.getElem?_eq_none z] at h; cases h
  · rw [List.getElem?_set_ne (Ne.symm hi)]
/-- the state behind a use -/
def useT : Rk → A → List Slot → List Slot
  | .pk j, x, t => if isD x then t else t.set j (some (false, x))
  | _, _, t => t
theorem rk_use (h : RkOk ρ r t x) (S : Sub t s) (hv : ρ = .vw → isD x = true) : ∃ s', use r s = some ((match ρ with | .own => true | _ => false, x), s') ∧ Sub (useT ρ x t) s' := by
  cases ρ with
  | own => obtain ⟨rfl, _⟩ := h; exact ⟨s, rfl, S⟩
  | val => obtain rfl := h; exact ⟨s, rfl, S⟩
  | vw =>
    have hd := hv rfl
    cases x with
    | d z => exact ⟨s, vw_use h S, S⟩
    | _ => cases hd
  | pk j =>
    obtain ⟨rfl, fl, e⟩ := h
    cases x with
    | d z => exact ⟨s, vw_use (.inr ⟨j, fl, rfl, e⟩) S, S⟩
    | _ =>
      obtain ⟨f, e2, _⟩ := S.get e
      refine ⟨s.set j (some (false, _)), ?_, S.set id (fun z => nomatch z)⟩
      rw [use_peek, e2]
      rfl
/-- data, or a list that no name holds -/
def Free : Rk → A → Prop
  | .own, _ => True
  | .val, _ => True
  | _, x => isD x = true
theorem free_use (h : RkOk ρ r t x) (S : Sub t s) (hf : Free ρ x) : ∃ s' f, use r s = some ((f, x), s') ∧ Sub t s' := by
  cases ρ with
  | own => obtain ⟨rfl, _⟩ := h; exact ⟨s, true, rfl, S⟩
  | val => obtain rfl := h; exact ⟨s, false, rfl, S⟩
  | vw =>
    cases x with
    | d z => exact ⟨s, false, vw_use h S, S⟩
    | _ => cases hf
  | pk j =>
    obtain ⟨rfl, fl, e⟩ := h
    cases x with
    | d z => exact ⟨s, false, vw_use (.inr ⟨j, fl, rfl, e⟩) S, S⟩
    | _ => cases hf
theorem named_use (h : RkOk (.pk j) r t x) (S : Sub t s) : ∃ s' f, use r s = some ((f, x), s') ∧ Sub (t.set j (some (false, x))) s' := by
  obtain ⟨rfl, fl, e⟩ := h
  obtain ⟨f, e2, _⟩ := S.get e
  refine ⟨s.set j (some (false, x)), false, ?_, S.set id (fun _ => rfl)⟩
  rw [use_peek, e2]
  rfl
theorem It_iter {its : List A} (h : E m t t' ρ x) (hi : iterA x = some its) (hf : Free ρ x) : It (mIter m) t t' its := fun s S => by
  obtain ⟨r, s1, e, S1, k⟩ := h s S
  obtain ⟨s2, f, e2, S2⟩ := free_use k S1 hf
  exact ⟨s2, run_iter e e2 hi, S2⟩
theorem It_iterN {its : List A} (h : E m t t' (.pk j) x) (hi : iterA x = some its) : It (mIter m) t (t'.set j (some (false, x))) its := fun s S => by
  obtain ⟨r, s1, e, S1, k⟩ := h s S
  obtain ⟨s2, f, e2, S2⟩ := named_use k S1
  exact ⟨s2, run_iter e e2 hi, S2⟩
theorem It_enum {its : List A} (h : E m t t' ρ x) (hi : enA x = some its) (hf : Free ρ x) : It (mEnum m) t t' its := fun s S => by
  obtain ⟨r, s1, e, S1, k⟩ := h s S
  obtain ⟨s2, f, e2, S2⟩ := free_use k S1 hf
  exact ⟨s2, run_enum e e2 hi, S2⟩
theorem It_enumN {its : List A} (h : E m t t' (.pk j) x) (hi : enA x = some its) : It (mEnum m) t (t'.set j (some (false, x))) its := fun s S => by
  obtain ⟨r, s1, e, S1, k⟩ := h s S
  obtain ⟨s2, f, e2, S2⟩ := named_use k S1
  exact ⟨s2, run_enum e e2 hi, S2⟩
theorem iter_tup {f : α → D} {xs : List α} : iterA (.d (.tup (xs.map f))) = some (xs.map fun x => .d (f x)) := by
  show some ((xs.map f).map A.d) = _
  rw [List.map_map]; rfl
theorem iter_ls {f : α → D} {xs : List α} : iterA (.ls (xs.map f)) = some (xs.map fun x => .d (f x)) := by
  show some ((xs.map f).map A.d) = _
  rw [List.map_map]; rfl
theorem allD_eqs : ∀ {xs : List A} {ds : List D}, allD xs = some ds → xs = ds.map .d := fun h => allD_eq h
theorem iter_mkL {f : α → A} {xs : List α} : iterA (mkL (xs.map f)) = some (xs.map f) := by
  unfold mkL
  cases h : allD (xs.map f) with
  | none => rfl
  | some ds => rw [allD_eq h]; rfl
def enumT (xs : List α) : List (Int × α) := xs.zipIdx.map fun p => ((p.2 : Nat), p.1)
theorem enL_map {f : α → D} {xs : List α} : enumL (xs.map f) = (enumT xs).map fun p => .d (.tup [.int p.1, f p.2]) := by
  unfold enumL enumT
  rw [List.zipIdx_map, List.map_map, List.map_map]
  rfl
theorem en_tup {f : α → D} {xs : List α} : enA (.d (.tup (xs.map f))) = some ((enumT xs).map fun p => .d (.tup [.int p.1, f p.2])) := by
  show some (enumL (xs.map f)) = _
  rw [enL_map]
theorem en_ls {f : α → D} {xs : List α} : enA (.ls (xs.map f)) = some ((enumT xs).map fun p => .d (.tup [.int p.1, f p.2])) := by
  show some (enumL (xs.map f)) = _
  rw [enL_map]
/-- the numbers of a range -/
def rangeT (lo : Int) (n : Nat) : List Int := (List.range n).map fun k => lo + (k : Nat)
theorem rangeL_map {lo : Int} {n : Nat} : rangeL lo n = (rangeT lo n).map fun i => .d (.int i) := by
  unfold rangeL rangeT
  rw [List.map_map]
  rfl
/-- a bound of a range -/
def rgO (i : Int) : Option Unit := if rgB i then some () else none
theorem rgO_ok {i : Int} {u : Unit} (h : rgO i = some u) : rgB i = true := by
  unfold rgO at h
  split at h
  · assumption
  · cases h
theorem It_range1 {i : Int} {u : Unit} (h : Es ms t t' [.d (.int i)]) (hr : rgO i = some u) : It (mRange1 ms) t t' ((rangeT 0 i.toNat).map fun i => .d (.int i)) := fun s S => by
  obtain ⟨rs, s', e, S', k⟩ := h s S
  refine ⟨s', ?_, S'⟩
  unfold mRange1
  rw [run_bnd, e, obind_some, rks_rds (ds := [.int i]) k S', ← rangeL_map]
  simp only [rgO_ok hr, if_true]
theorem It_range2 {i i2 : Int} {u u2 : Unit} (h : Es ms t t' [.d (.int i), .d (.int i2)]) (hr : rgO i = some u) (hr2 : rgO i2 = some u2) : It (mRange2 ms) t t' ((rangeT i (i2 - i).toNat).map fun i => .d (.int i)) := fun s S => by
  obtain ⟨rs, s', e, S', k⟩ := h s S
  refine ⟨s', ?_, S'⟩
  unfold mRange2
  rw [run_bnd, e, obind_some, rks_rds (ds := [.int i, .int i2]) k S', ← rangeL_map]
  simp only [rgO_ok hr, rgO_ok hr2, Bool.and_self, if_true]
theorem It_zip {its : List A} (ha : E m t t1 ρ1 a) (hb : E n t1 t1 ρ2 b) (h : zipA a b = some its) (h1 : Free ρ1 a) (h2 : Free ρ2 b) : It (mZip m n) t t1 its := fun s S => by
  obtain ⟨r, s1, e, S1, k⟩ := ha s S
  obtain ⟨r2, s2, e2, S2, k2⟩ := hb s1 S1
  obtain ⟨s3, f3, e3, S3⟩ := free_use k2 S2 h2
  obtain ⟨s4, f4, e4, S4⟩ := free_use k S3 h1
  refine ⟨s4, ?_, S4⟩
  unfold mZip
  rw [run_bnd, e, obind_some, run_bnd, e2, obind_some, run_bnd, e3, obind_some, run_bnd, e4, obind_some, h]
  rfl
theorem It_zipN {its : List A} (ha : E m t t1 (.pk j) a) (hb : E n t1 t1 ρ2 b) (h : zipA a b = some its) (h2 : Free ρ2 b) : It (mZip m n) t (t1.set j (some (false, a))) its := fun s S => by
  obtain ⟨r, s1, e, S1, k⟩ := ha s S
  obtain ⟨r2, s2, e2, S2, k2⟩ := hb s1 S1
  obtain ⟨s3, f3, e3, S3⟩ := free_use k2 S2 h2
  obtain ⟨s4, f4, e4, S4⟩ := named_use k S3
  refine ⟨s4, ?_, S4⟩
  unfold mZip
  rw [run_bnd, e, obind_some, run_bnd, e2, obind_some, run_bnd, e3, obind_some, run_bnd, e4, obind_some, h]
  rfl
theorem zip_map2 {f : α → D} {g : β → D} {xs : List α} {ys : List β} : zipL (xs.map f) (ys.map g) = (xs.zip ys).map fun p => .d (.tup [f p.1, g p.2]) := by
  unfold zipL
  rw [List.zip_map, List.map_map]
  rfl
theorem zip_tup {f : α → D} {g : β → D} {xs : List α} {ys : List β} : zipA (.d (.tup (xs.map f))) (.d (.tup (ys.map g))) = some ((xs.zip ys).map fun p => .d (.tup [f p.1, g p.2])) := by
  show some (zipL _ _) = _
  rw [zip_map2]
theorem zip_ls {f : α → D} {g : β → D} {xs : List α} {ys : List β} : zipA (.ls (xs.map f)) (.ls (ys.map g)) = some ((xs.zip ys).map fun p => .d (.tup [f p.1, g p.2])) := by
  show some (zipL _ _) = _
  rw [zip_map2]
/-! targets -/
theorem Put_nm (h : j < t.length) : Put (.nm j) (.d z) t (t.set j (some (false, .d z))) := fun s S => by
  exact ⟨_, putI_nm (S.1 ▸ h), S.set (fun z => nomatch z) fun _ => rfl⟩
theorem Put_nmL (h : j < t.length) : Put (.nm j) a t (t.set j (some (false, a))) := fun s S => by
  exact ⟨_, putI_nm (S.1 ▸ h), S.set (fun z => nomatch z) fun _ => rfl⟩
inductive Puts : List Tg → List D → List Slot → List Slot → Prop
  | nil {t : List Slot} : Puts [] [] t t
  | cons {g : Tg} {gs : List Tg} {z : D} {zs : List D} {t t1 t2 : List Slot} : Put g (.d z) t t1 → Puts gs zs t1 t2 → Puts (g :: gs) (z :: zs) t t2
theorem puts_run : ∀ {gs : List Tg} {zs : List D} {t t' s : List Slot}, Puts gs zs t t' → Sub t s → ∃ s', Tg.puts gs zs s = some s' ∧ Sub t' s'
  | _, _, _, _, s, .nil, S => ⟨s, puts_nil, S⟩
  | _, _, _, _, s, .cons h k, S => by
    obtain ⟨s1, e1, S1⟩ := h s S
    obtain ⟨s2, e2, S2⟩ := puts_run k S1
    exact ⟨s2, puts_cons e1 e2, S2⟩
theorem Put_tp {gs : List Tg} {zs : List D} (h : Puts gs zs t t') : Put (.tp gs) (.d (.tup zs)) t t' := fun s S => by
  obtain ⟨s', e, S'⟩ := puts_run h S
  exact ⟨s', putI_tp e, S'⟩
end

/-! ### statements -/
def S {κ : Type} (m : SM Fl) (t : List Slot) (P : Option κ) (I : κ → Fl → List Slot → Prop) : Prop := ∀ k, P = some k → ∀ s, Sub t s → ∃ fl s', m s = some (fl, s') ∧ I k fl s'
def St (m : SM Fl) (t t' : List Slot) : Prop := ∀ s, Sub t s → ∃ s', m s = some (.nx, s') ∧ Sub t' s'
/-- the end of a block -/
def Nd {κ : Type} (t : List Slot) (P : Option κ) (I : κ → Fl → List Slot → Prop) : Prop := ∀ k, P = some k → ∀ s, Sub t s → I k .nx s
inductive Lp (ρ σ : Type) where
  | go (st : σ) | stop (st : σ) | out (r : ρ)
def IF {ρ : Type} (er : ρ → A) (v : ρ) (fl : Fl) (_ : List Slot) : Prop := (∃ f z, fl = .rt f (.d z) ∧ er v = .d z) ∨ fl = .rt true (er v) ∨ (fl = .nx ∧ er v = .d .non)
def IB {ρ β : Type} (er : ρ → D) (eb : β → A) (v : ρ × β) (fl : Fl) (s : List Slot) : Prop := ((∃ f, fl = .rt f (.d (er v.1))) ∨ (fl = .nx ∧ er v.1 = .non)) ∧ ∃ r, s = some (true, eb v.2) :: r
def IN {σ : Type} (tt : σ → List Slot) (st : σ) (fl : Fl) (s : List Slot) : Prop := fl = .nx ∧ Sub (tt st) s
def IC {σ : Type} (tt : σ → List Slot) (st : σ) (fl : Fl) (s : List Slot) : Prop := (fl = .nx ∨ fl = .ct) ∧ Sub (tt st) s
def IL {ρ σ : Type} (Io : ρ → Fl → List Slot → Prop) (tt : σ → List Slot) : Lp ρ σ → Fl → List Slot → Prop
  | .go st, fl, s => (fl = .nx ∨ fl = .ct) ∧ Sub (tt st) s
  | .stop st, fl, s => fl = .bk ∧ Sub (tt st) s
  | .out v, fl, s => Io v fl s ∧ ∃ f a, fl = .rt f a
def IX {κ σ : Type} (Io : κ → Fl → List Slot → Prop) (tt : σ → List Slot) : κ ⊕ σ → Fl → List Slot → Prop
  | .inl k, fl, s => Io k fl s ∧ fl ≠ .nx
  | .inr st, fl, s => fl = .nx ∧ Sub (tt st) s
/-- a block that never goes on -/
def Abr {κ : Type} (I : κ → Fl → List Slot → Prop) (k : κ) (fl : Fl) (s : List Slot) : Prop := I k fl s ∧ fl ≠ .nx
def orX {ρ σ κ : Type} (g : ρ → κ) (Q : σ → Option κ) : ρ ⊕ σ → Option κ
  | .inl v => some (g v)
  | .inr st => Q st
@[simp] theorem orX_l {ρ σ κ : Type} {g : ρ → κ} {Q : σ → Option κ} {v : ρ} : orX g Q (.inl v) = some (g v) := rfl
@[simp] theorem orX_r {ρ σ κ : Type} {g : ρ → κ} {Q : σ → Option κ} {v : σ} : orX g Q (.inr v) = Q v := rfl
def forO {α σ : Type} (f : α → σ → Option σ) : List α → σ → Option σ
  | [], st => some st
  | x :: r, st => (f x st).bind (forO f r)
def lpK {ρ σ : Type} (k : σ → Option (ρ ⊕ σ)) : Lp ρ σ → Option (ρ ⊕ σ)
  | .go st => k st
  | .stop st => some (.inr st)
  | .out v => some (.inl v)
@[simp] theorem lpK_go {ρ σ : Type} {k : σ → Option (ρ ⊕ σ)} {st : σ} : lpK k (.go st) = k st := rfl
@[simp] theorem lpK_stop {ρ σ : Type} {k : σ → Option (ρ ⊕ σ)} {st : σ} : lpK k (.stop st) = some (.inr st) := rfl
@[simp] theorem lpK_out {ρ σ : Type} {k : σ → Option (ρ ⊕ σ)} {v : ρ} : lpK k (.out v) = some (.inl v) := rfl
def forX {α ρ σ : Type} (f : α → σ → Option (Lp ρ σ)) : List α → σ → Option (ρ ⊕ σ)
  | [], st => some (.inr st)
  | x :: r, st => (f x st).bind (lpK (forX f r))
def whF {σ : Type} (c : σ → Option Bool) (b : σ → Option σ) : Nat → σ → Option σ
  | 0, _ => none
  | n + 1, st => (c st).bind fun k => cond k ((b st).bind (whF c b n)) (some st)
def whG {ρ σ : Type} (c : σ → Option Bool) (b : σ → Option (Lp ρ σ)) : Nat → σ → Option (ρ ⊕ σ)
  | 0, _ => none
  | n + 1, st => (c st).bind fun k => cond k ((b st).bind (lpK (whG c b n))) (some (.inr st))
open Classical in
noncomputable def whileO {σ : Type} (c : σ → Option Bool) (b : σ → Option σ) (st : σ) : Option σ := if h : ∃ n r, whF c b n st = some r then some h.choose_spec.choose else none
open Classical in
noncomputable def whileX {ρ σ : Type} (c : σ → Option Bool) (b : σ → Option (Lp ρ σ)) (st : σ) : Option (ρ ⊕ σ) := if h : ∃ n r, whG c b n st = some r then some h.choose_spec.choose else none
theorem whF_mono {σ : Type} {c : σ → Option Bool} {b : σ → Option σ} : ∀ {n : Nat} {st r : σ}, whF c b n st = some r → ∀ m, n ≤ m → whF c b m st = some r
  | 0, _, _, h, _, _ => nomatch h
  | n + 1, st, r, h, m, hm => by
    cases m with
    | zero => omega
    | succ m =>
      unfold whF at h ⊢
      cases hc : c st with
      | none => rw [hc] at h; cases h
      | some k =>
        rw [hc] at h
        simp only [Option.bind_some] at h ⊢
        cases k with
        | false => exact h
        | true =>
          simp only [cond_true] at h ⊢
          cases hb : b st with
          | none => rw [hb] at h; cases h
          | some s2 =>
            rw [hb] at h
            exact whF_mono h m (by omega)
theorem whG_mono {ρ σ : Type} {c : σ → Option Bool} {b : σ → Option (Lp ρ σ)} : ∀ {n : Nat} {st : σ} {r : ρ ⊕ σ}, whG c b n st = some r → ∀ m, n ≤ m → whG c b m st = some r
  | 0, _, _, h, _, _ => nomatch h
  | n + 1, st, r, h, m, hm => by
    cases m with
    | zero => omega
    | succ m =>
      unfold whG at h ⊢
      cases hc : c st with
      | none => rw [hc] at h; cases h
      | some k =>
        rw [hc] at h
        simp only [Option.bind_some] at h ⊢
        cases k with
        | false => exact h
        | true =>
          simp only [cond_true] at h ⊢
          cases hb : b st with
          | none => rw [hb] at h; cases h
          | some s2 =>
            rw [hb] at h
            cases s2 with
            | go s2 => exact whG_mono h m (by omega)
            | stop s2 => exact h
            | out s2 => exact h
theorem whileO_iff {σ : Type} {c : σ → Option Bool} {b : σ → Option σ} {st r : σ} : whileO c b st = some r ↔ ∃ n, whF c b n st = some r := by
  unfold whileO
  constructor
  · intro h
    split at h
    · rename_i h2
      exact ⟨h2.choose, (Option.some.inj h) ▸ h2.choose_spec.choose_spec⟩
    · cases h
  · rintro ⟨n, h⟩
    have h2 : ∃ n r, whF c b n st = some r := ⟨n, r, h⟩
    rw [dif_pos h2]
    have e1 := whF_mono h (max n h2.choose) (Nat.le_max_left _ _)
    have e2 := whF_mono h2.choose_spec.choose_spec (max n h2.choose) (Nat.le_max_right _ _)
    rw [e1] at e2
    exact e2.symm
theorem whileX_iff {ρ σ : Type} {c : σ → Option Bool} {b : σ → Option (Lp ρ σ)} {st : σ} {r : ρ ⊕ σ} : whileX c b st = some r ↔ ∃ n, whG c b n st = some r := by
  unfold whileX
  constructor
  · intro h
    split at h
    · rename_i h2
      exact ⟨h2.choose, (Option.some.inj h) ▸ h2.choose_spec.choose_spec⟩
    · cases h
  · rintro ⟨n, h⟩
    have h2 : ∃ n r, whG c b n st = some r := ⟨n, r, h⟩
    rw [dif_pos h2]
    have e1 := whG_mono h (max n h2.choose) (Nat.le_max_left _ _)
    have e2 := whG_mono h2.choose_spec.choose_spec (max n h2.choose) (Nat.le_max_right _ _)
    rw [e1] at e2
    exact e2.symm
section
variable {α β κ κ' σ σ' ρ' : Type} {t t1 t2 t' s s' : List Slot} {j : Nat} {fl fl' : Bool} {a b x y c : A} {z : D} {r : R} {ρ ρ1 ρ2 : Rk} {m n ma mb : SM R} {ms : SM (List R)} {xs : List A} {sm sn so : SM Fl} {k : Bool} {I : κ → Fl → List Slot → Prop}
theorem S_bind {o : Option α} {P : α → Option κ} (h : ∀ a, o = some a → S sm t (P a) I) : S sm t (o.bind P) I := fun k e => by
  cases o with
  | none => cases e
  | some a => exact h a rfl k e
theorem S_let {v : α} {P : α → Option κ} (h : ∀ x, v = x → S sm t (P x) I) : S sm t (letF v P) I := h v rfl
theorem S_step {P : Option κ} (h : St sm t t1) (h2 : S sn t1 P I) : S (sSeq sm sn) t P I := fun k e s S0 => by
  obtain ⟨s1, e1, S1⟩ := h s S0
  obtain ⟨f, s2, e2, h3⟩ := h2 k e s1 S1
  exact ⟨f, s2, by rw [run_sSeq, e1, obind_some, seqF_nx, e2], h3⟩
theorem S_last {P : Option κ} (h : St sm t t1) (h2 : Nd t1 P I) : S sm t P I := fun k e s S0 => by
  obtain ⟨s1, e1, S1⟩ := h s S0
  exact ⟨.nx, s1, e1, h2 k e s1 S1⟩
theorem S_nop {P : Option κ} (h2 : Nd t P I) : S sNop t P I := fun k e s S0 => ⟨.nx, s, rfl, h2 k e s S0⟩
theorem St_nop : St sNop t t := fun s S0 => ⟨s, rfl, S0⟩
theorem Nd_weak {P : Option κ} (w : Weak t' t) (h : Nd t' P I) : Nd t P I := fun k e s S0 => h k e s (S0.weak w)
theorem Nd_N {tt : σ → List Slot} {st : σ} (w : Weak (tt st) t) : Nd t (some st) (IN tt) := fun k e s S0 => by cases e; exact ⟨rfl, S0.weak w⟩
theorem Nd_C {tt : σ → List Slot} {st : σ} (w : Weak (tt st) t) : Nd t (some st) (IC tt) := fun k e s S0 => by cases e; exact ⟨.inl rfl, S0.weak w⟩
theorem Nd_L {Io : ρ' → Fl → List Slot → Prop} {tt : σ → List Slot} {st : σ} (w : Weak (tt st) t) : Nd t (some (.go st)) (IL Io tt) := fun k e s S0 => by cases e; exact ⟨.inl rfl, S0.weak w⟩
theorem Nd_X {tt : σ → List Slot} {st : σ} (w : Weak (tt st) t) : Nd t (some (.inr st)) (IX I tt) := fun k e s S0 => by cases e; exact ⟨rfl, S0.weak w⟩
theorem Nd_F {er : ρ' → A} {v : ρ'} (h : er v = .d .non) : Nd t (some v) (IF er) := fun k e s S0 => by cases e; exact .inr (.inr ⟨rfl, h⟩)
theorem Nd_B {er : ρ' → D} {eb : β → A} {v : ρ'} {b : β} (h : er v = .non) (hb : t[0]? = some (some (true, eb b))) (hd : isD (eb b) = false) : Nd t (some (v, b)) (IB er eb) := fun k e s S0 => by
  cases e
  obtain ⟨f, e1, e2, _⟩ := S0.get hb
  refine ⟨.inr ⟨rfl, h⟩, s.tail, ?_⟩
  cases s with
  | nil => cases e1
  | cons x r =>
    simp at e1
    rw [e1, e2 rfl]
    rfl
theorem S_if {P Q : Option κ} {tm : SM Bool} (h : T tm t t1 k) (ha : k = true → S sm t1 P I) (hb : k = false → S sn t1 Q I) : S (sIf tm sm sn) t (cond k P Q) I := fun v e s S0 => by
  obtain ⟨s1, e1, S1⟩ := h s S0
  cases k with
  | true =>
    obtain ⟨f, s2, e2, h3⟩ := ha rfl v e s1 S1
    exact ⟨f, s2, by rw [run_sIf, e1]; exact e2, h3⟩
  | false =>
    obtain ⟨f, s2, e2, h3⟩ := hb rfl v e s1 S1
    exact ⟨f, s2, by rw [run_sIf, e1]; exact e2, h3⟩
theorem sSeq_assoc : sSeq (sSeq sm sn) so = sSeq sm (sSeq sn so) := by
  funext s
  rw [run_sSeq, run_sSeq, run_sSeq]
  cases h : sm s with
  | none => rfl
  | some p =>
    obtain ⟨f, s1⟩ := p
    cases f with
    | nx => simp only [obind_some, seqF_nx, run_sSeq]
    | _ => rfl
theorem S_assoc {P : Option κ} (h : S (sSeq sm (sSeq sn so)) t P I) : S (sSeq (sSeq sm sn) so) t P I := by rw [sSeq_assoc]; exact h
theorem abr_run {P : Option κ} {v : κ} (h : S sm t P (Abr I)) (e : P = some v) (S0 : Sub t s) : ∃ f s', sSeq sm sn s = some (f, s') ∧ I v f s' := by
  obtain ⟨f, s2, e2, h3, h4⟩ := h v e s S0
  refine ⟨f, s2, ?_, h3⟩
  rw [run_sSeq, e2, obind_some]
  cases f with
  | nx => exact (h4 rfl).elim
  | _ => rfl
theorem S_abr {P : Option κ} (h : S sm t P (Abr I)) : S (sSeq sm sn) t P I := fun v e s S0 => abr_run h e S0
/-- a branch that never goes on, the rest in the other -/
theorem S_ifA {P Q : Option κ} {tm : SM Bool} (h : T tm t t1 k) (ha : k = true → S sm t1 P (Abr I)) (hb : k = false → S (sSeq sn so) t1 Q I) : S (sSeq (sIf tm sm sn) so) t (cond k P Q) I := fun v e s S0 => by
  obtain ⟨s1, e1, S1⟩ := h s S0
  cases k with
  | true =>
    obtain ⟨f, s2, e2, h3⟩ := abr_run (sn := so) (ha rfl) e S1
    rw [run_sSeq] at e2
    exact ⟨f, s2, by rw [run_sSeq, run_sIf, e1, obind_some, iteM_t, e2], h3⟩
  | false =>
    obtain ⟨f, s2, e2, h3⟩ := hb rfl v e s1 S1
    rw [run_sSeq] at e2
    exact ⟨f, s2, by rw [run_sSeq, run_sIf, e1, obind_some, iteM_f, e2], h3⟩
theorem S_ifB {P Q : Option κ} {tm : SM Bool} (h : T tm t t1 k) (ha : k = true → S (sSeq sm so) t1 P I) (hb : k = false → S sn t1 Q (Abr I)) : S (sSeq (sIf tm sm sn) so) t (cond k P Q) I := fun v e s S0 => by
  obtain ⟨s1, e1, S1⟩ := h s S0
  cases k with
  | false =>
    obtain ⟨f, s2, e2, h3⟩ := abr_run (sn := so) (hb rfl) e S1
    rw [run_sSeq] at e2
    exact ⟨f, s2, by rw [run_sSeq, run_sIf, e1, obind_some, iteM_f, e2], h3⟩
  | true =>
    obtain ⟨f, s2, e2, h3⟩ := ha rfl v e s1 S1
    rw [run_sSeq] at e2
    exact ⟨f, s2, by rw [run_sSeq, run_sIf, e1, obind_some, iteM_t, e2], h3⟩
theorem S_nopSeq {P : Option κ} (h : S sm t P I) : S (sSeq sNop sm) t P I := S_step St_nop h
theorem S_seqN {P : Option σ} {Q : σ → Option κ} {tt : σ → List Slot} (h : S sm t P (IN tt)) (h2 : ∀ st, S sn (tt st) (Q st) I) : S (sSeq sm sn) t (P.bind Q) I := fun v e s S0 => by
  cases P with
  | none => cases e
  | some st =>
    obtain ⟨f, s1, e1, rfl, S1⟩ := h st rfl s S0
    obtain ⟨f, s2, e2, h3⟩ := h2 st v e s1 S1
    exact ⟨f, s2, by rw [run_sSeq, e1, obind_some, seqF_nx, e2], h3⟩
theorem S_endN {P : Option σ} {Q : σ → Option κ} {tt : σ → List Slot} (h : S sm t P (IN tt)) (h2 : ∀ st, Nd (tt st) (Q st) I) : S sm t (P.bind Q) I := fun v e s S0 => by
  cases P with
  | none => cases e
  | some st =>
    obtain ⟨f, s1, e1, rfl, S1⟩ := h st rfl s S0
    exact ⟨.nx, s1, e1, h2 st v e s1 S1⟩
theorem S_seqX {P : Option (κ' ⊕ σ)} {Io : κ' → Fl → List Slot → Prop} {g : κ' → κ} {Q : σ → Option κ} {tt : σ → List Slot} (h : S sm t P (IX Io tt)) (hg : ∀ v fl s, Io v fl s → fl ≠ .nx → I (g v) fl s) (h2 : ∀ st, S sn (tt st) (Q st) I) : S (sSeq sm sn) t (P.bind (orX g Q)) I := fun v e s S0 => by
  cases P with
  | none => cases e
  | some q =>
    cases q with
    | inl w =>
      obtain ⟨f, s1, e1, h3, h4⟩ := h _ rfl s S0
      cases e
      refine ⟨f, s1, ?_, hg _ _ _ h3 h4⟩
      rw [run_sSeq, e1, obind_some]
      cases f with
      | nx => exact (h4 rfl).elim
      | _ => rfl
    | inr st =>
      obtain ⟨f, s1, e1, rfl, S1⟩ := h _ rfl s S0
      obtain ⟨f, s2, e2, h3⟩ := h2 st v e s1 S1
      exact ⟨f, s2, by rw [run_sSeq, e1, obind_some, seqF_nx, e2], h3⟩
theorem S_endX {P : Option (κ' ⊕ σ)} {Io : κ' → Fl → List Slot → Prop} {g : κ' → κ} {Q : σ → Option κ} {tt : σ → List Slot} (h : S sm t P (IX Io tt)) (hg : ∀ v fl s, Io v fl s → fl ≠ .nx → I (g v) fl s) (h2 : ∀ st, Nd (tt st) (Q st) I) : S sm t (P.bind (orX g Q)) I := fun v e s S0 => by
  cases P with
  | none => cases e
  | some q =>
    cases q with
    | inl w =>
      obtain ⟨f, s1, e1, h3, h4⟩ := h _ rfl s S0
      cases e
      exact ⟨f, s1, e1, hg _ _ _ h3 h4⟩
    | inr st =>
      obtain ⟨f, s1, e1, rfl, S1⟩ := h _ rfl s S0
      exact ⟨.nx, s1, e1, h2 st v e s1 S1⟩
/-! leaps -/
theorem S_ct {P : Option κ} (h : ∀ v, P = some v → ∀ s, Sub t s → I v .ct s) : S sCt t P I := fun v e s S0 => ⟨.ct, s, rfl, h v e s S0⟩
theorem S_bk {P : Option κ} (h : ∀ v, P = some v → ∀ s, Sub t s → I v .bk s) : S sBk t P I := fun v e s S0 => ⟨.bk, s, rfl, h v e s S0⟩
theorem ct_C {tt : σ → List Slot} {st : σ} (w : Weak (tt st) t) : ∀ v, some st = some v → ∀ s, Sub t s → IC tt v .ct s := fun k e s S0 => by cases e; exact ⟨.inr rfl, S0.weak w⟩
theorem ct_L {Io : ρ' → Fl → List Slot → Prop} {tt : σ → List Slot} {st : σ} (w : Weak (tt st) t) : ∀ v, some (.go st) = some v → ∀ s, Sub t s → IL Io tt v .ct s := fun k e s S0 => by cases e; exact ⟨.inr rfl, S0.weak w⟩
theorem bk_L {Io : ρ' → Fl → List Slot → Prop} {tt : σ → List Slot} {st : σ} (w : Weak (tt st) t) : ∀ v, some (.stop st) = some v → ∀ s, Sub t s → IL Io tt v .bk s := fun k e s S0 => by cases e; exact ⟨rfl, S0.weak w⟩
theorem ct_A {P : Option κ} (h : ∀ v, P = some v → ∀ s, Sub t s → I v .ct s) : ∀ v, P = some v → ∀ s, Sub t s → Abr I v .ct s := fun v e s S0 => ⟨h v e s S0, fun z => nomatch z⟩
theorem bk_A {P : Option κ} (h : ∀ v, P = some v → ∀ s, Sub t s → I v .bk s) : ∀ v, P = some v → ∀ s, Sub t s → Abr I v .bk s := fun v e s S0 => ⟨h v e s S0, fun z => nomatch z⟩
theorem ct_X {v : κ} {tt : σ → List Slot} (h : ∀ w, some v = some w → ∀ s, Sub t s → I w .ct s) : ∀ w, some (Sum.inl v) = some w → ∀ s, Sub t s → IX I tt w .ct s := fun w e s S0 => by cases e; exact ⟨h _ rfl s S0, fun z => nomatch z⟩
theorem bk_X {v : κ} {tt : σ → List Slot} (h : ∀ w, some v = some w → ∀ s, Sub t s → I w .bk s) : ∀ w, some (Sum.inl v) = some w → ∀ s, Sub t s → IX I tt w .bk s := fun w e s S0 => by cases e; exact ⟨h _ rfl s S0, fun z => nomatch z⟩
/-- what is so behind a return of x -/
def Rt (I : κ → Fl → List Slot → Prop) (v : κ) (x : A) (o : Bool) (t : List Slot) : Prop := ∀ (f : Bool) (s : List Slot), (o = true → f = true) → (∀ (i : Nat) fl a, t[i]? = some (some (fl, a)) → isD a = false → ∃ fl', s[i]? = some (some (fl', a)) ∧ (fl = true → fl' = true)) → I v (.rt f x) s
theorem S_retD {v : κ} (h : E m t t' ρ (.d z)) (hI : Rt I v (.d z) false t') : S (sRet m) t (some v) I := fun w e s S0 => by
  cases e
  obtain ⟨r, s1, e1, S1, k⟩ := h s S0
  rcases rk_vw k with ⟨fl, rfl, h2⟩ | ⟨j, fl, rfl, e2⟩
  · refine ⟨_, s1, ?_, hI fl s1 (fun z => nomatch z) fun i fl a e3 _ => ?_⟩
    · rw [run_sRet, e1, obind_some, run_bnd, useM_val]; rfl
    · obtain ⟨f, e4, h4, _⟩ := S1.get e3
      exact ⟨f, e4, h4⟩
  · obtain ⟨f, e3, _⟩ := S1.get e2
    refine ⟨_, s1.set j none, ?_, hI f _ (fun z => nomatch z) fun i fl' a e4 h4 => ?_⟩
    · rw [run_sRet, e1, obind_some, run_bnd, useM_peek, e3]; rfl
    · obtain ⟨f', e5, h5, _⟩ := S1.get e4
      refine ⟨f', ?_, h5⟩
      by_cases hi : i = j
      · subst hi
        rw [e2] at e4
        cases e4
        cases h4
      · rw [List.getElem?_set_ne (Ne.symm hi)]
        exact e5
theorem S_retO {v : κ} (h : E m t t' .own x) (hI : Rt I v x true t') : S (sRet m) t (some v) I := fun w e s S0 => by
  cases e
  obtain ⟨r, s1, e1, S1, rfl, _⟩ := h s S0
  refine ⟨_, s1, ?_, hI true s1 (fun _ => rfl) fun i fl a e3 _ => ?_⟩
  · rw [run_sRet, e1, obind_some, run_bnd, useM_val]; rfl
  · obtain ⟨f, e4, h4, _⟩ := S1.get e3
    exact ⟨f, e4, h4⟩
/-- a list that a name holds -/
theorem S_retP {v : κ} (h : t[j]? = some (some (true, x))) (hI : Rt I v x true (t.set j none)) : S (sRet (mV j)) t (some v) I := fun w e s S0 => by
  cases e
  obtain ⟨f, e1, h1, _⟩ := S0.get h
  refine ⟨_, s.set j none, ?_, hI f _ (fun _ => h1 rfl) fun i fl a e3 _ => ?_⟩
  · rw [run_sRet, run_mV, e1, peekO_some, obind_some, run_bnd, useM_peek, e1]; rfl
  · obtain ⟨f, e4, h4, _⟩ := (S0.set0 (j := j) (x := none)).get e3
    exact ⟨f, e4, h4⟩
theorem S_retN {v : κ} (hI : Rt I v (.d .non) false t) : S sRetN t (some v) I := fun w e s S0 => by
  cases e
  refine ⟨_, s, rfl, hI false s (fun z => nomatch z) fun i fl a e3 _ => ?_⟩
  obtain ⟨f, e4, h4, _⟩ := S0.get e3
  exact ⟨f, e4, h4⟩
theorem rt_F {er : ρ' → A} {v : ρ'} (h : er v = .d z) : Rt (IF er) v (.d z) false t := fun f s _ _ => .inl ⟨f, z, rfl, h⟩
theorem rt_FO {er : ρ' → A} {v : ρ'} (h : er v = x) : Rt (IF er) v x true t := fun f s h1 _ => .inr (.inl (by rw [h1 rfl, h]))
theorem rt_B {er : ρ' → D} {eb : β → A} {v : ρ'} {b : β} (h : er v = z) (hb : t[0]? = some (some (true, eb b))) (hd : isD (eb b) = false) : Rt (IB er eb) (v, b) (.d z) false t := fun f s _ hs => by
  obtain ⟨f', e1, h1⟩ := hs 0 _ _ hb hd
  refine ⟨.inl ⟨f, by rw [← h]⟩, s.tail, ?_⟩
  cases s with
  | nil => cases e1
  | cons x r =>
    simp at e1
    rw [e1, h1 rfl]
    rfl
theorem rt_A {v : κ} {o : Bool} (h : Rt I v x o t) : Rt (Abr I) v x o t := fun f s h1 h2 => ⟨h f s h1 h2, fun z => nomatch z⟩
theorem rt_X {v : κ} {o : Bool} {tt : σ → List Slot} (h : Rt I v x o t) : Rt (IX I tt) (.inl v) x o t := fun f s h1 h2 => ⟨h f s h1 h2, fun z => nomatch z⟩
theorem rt_L {v : κ} {o : Bool} {tt : σ → List Slot} (h : Rt I v x o t) : Rt (IL I tt) (.out v) x o t := fun f s h1 h2 => ⟨h f s h1 h2, f, x, rfl⟩
/-! settings -/
theorem St_setD (h : E m t t' ρ (.d z)) (hj : j < t'.length) : St (sSet j m) t (t'.set j (some (false, .d z))) := fun s S0 => by
  obtain ⟨r, s1, e1, S1, k⟩ := h s S0
  refine ⟨_, ?_, S1.set id (fun _ => rfl)⟩
  rw [run_sSet, e1, obind_some, run_bnd, vw_use (rk_vw k) S1, obind_some, setO_run (S1.1 ▸ hj)]
theorem St_setO (h : E m t t' .own x) (hj : j < t'.length) : St (sSet j m) t (t'.set j (some (true, x))) := fun s S0 => by
  obtain ⟨r, s1, e1, S1, rfl, hd⟩ := h s S0
  refine ⟨_, ?_, S1.set id (fun z => by rw [hd] at z; cases z)⟩
  rw [run_sSet, e1, obind_some, run_bnd, use_val, obind_some, setO_run (S1.1 ▸ hj)]
theorem St_setV (h : E m t t' .val x) (hj : j < t'.length) : St (sSet j m) t (t'.set j (some (false, x))) := fun s S0 => by
  obtain ⟨r, s1, e1, S1, rfl⟩ := h s S0
  refine ⟨_, ?_, S1.set id (fun _ => rfl)⟩
  rw [run_sSet, e1, obind_some, run_bnd, use_val, obind_some, setO_run (S1.1 ▸ hj)]
theorem St_expr (h : E m t t' ρ x) : St (sExpr m) t t' := fun s S0 => by
  obtain ⟨r, s1, e1, S1, k⟩ := h s S0
  exact ⟨s1, by rw [run_sExpr, e1]; rfl, S1⟩
theorem St_aug {i i2 : Int} {g : Int → Int → Int} (h0 : t[j]? = some (some (fl, .d (.int i)))) (h : E m t t ρ (.d (.int i2))) : St (sAug j g m) t (t.set j (some (false, .d (.int (g i i2))))) := fun s S0 => by
  obtain ⟨r, s1, e1, S1, k⟩ := h s S0
  obtain ⟨e2, _⟩ := sub_useD S0 h0
  refine ⟨_, ?_, S1.set id (fun _ => rfl)⟩
  unfold sAug
  rw [e2]
  simp only []
  rw [run_bnd, e1, obind_some]
  have hl : j < s1.length := S1.lt h0
  rcases rk_vw k with ⟨f, rfl, h3⟩ | ⟨q, f, rfl, e3⟩
  · obtain rfl := h3 rfl
    show (match rv (.val false (.d (.int i2))) s1 with
      | some (.d (.int k)) => if j < s1.length then some (Fl.nx, s1.set j (some (false, .d (.int (g i k))))) else none
      | _ => none) = _
    rw [rv_val]
    simp only [hl, if_true]
  · have := vw_rv (.inr ⟨q, f, rfl, e3⟩) S1
    simp only [this, hl, if_true]
theorem E_use (h : E m t t' ρ (.d z)) : E (mUse m) t t' .val (.d z) := fun s S0 => by
  obtain ⟨r, s1, e1, S1, k⟩ := h s S0
  exact ⟨_, s1, by rw [run_mUse, e1, obind_some, run_bnd, vw_use (rk_vw k) S1]; rfl, S1, rfl⟩
theorem E_useO (h : E m t t' .own x) : E (mUse m) t t' .own x := fun s S0 => by
  obtain ⟨r, s1, e1, S1, rfl, hd⟩ := h s S0
  exact ⟨_, s1, by rw [run_mUse, e1, obind_some, run_bnd, use_val]; rfl, S1, rfl, hd⟩
/-- the values of a list of settings, each by itself -/
inductive Ess : SM (List R) → List Slot → List Slot → List (Bool × A) → Prop
  | nil {t : List Slot} : Ess mNil t t []
  | d {m : SM R} {ms : SM (List R)} {t t1 t2 : List Slot} {z : D} {xs : List (Bool × A)} : E m t t1 .val (.d z) → Ess ms t1 t2 xs → Ess (mCons m ms) t t2 ((false, .d z) :: xs)
  | o {m : SM R} {ms : SM (List R)} {t t1 t2 : List Slot} {x : A} {xs : List (Bool × A)} : E m t t1 .own x → Ess ms t1 t2 xs → Ess (mCons m ms) t t2 ((true, x) :: xs)
theorem ess_run : ∀ {ms : SM (List R)} {t t' s : List Slot} {xs : List (Bool × A)}, Ess ms t t' xs → Sub t s → ∃ s', ms s = some (xs.map (fun p => .val p.1 p.2), s') ∧ Sub t' s' ∧ ∀ p ∈ xs, isD p.2 = true → p.1 = false
  | _, _, _, s, _, .nil, S0 => ⟨s, rfl, S0, by simp⟩
  | _, _, _, s, _, .d h k, S0 => by
    obtain ⟨r, s1, e1, S1, rfl⟩ := h s S0
    obtain ⟨s2, e2, S2, hd⟩ := ess_run k S1
    refine ⟨s2, by rw [run_mCons, e1, obind_some, run_bnd, e2]; rfl, S2, ?_⟩
    simpa [isD] using hd
  | _, _, _, s, _, .o h k, S0 => by
    obtain ⟨r, s1, e1, S1, rfl, hq⟩ := h s S0
    obtain ⟨s2, e2, S2, hd⟩ := ess_run k S1
    refine ⟨s2, by rw [run_mCons, e1, obind_some, run_bnd, e2]; rfl, S2, ?_⟩
    simpa [hq] using hd
def setsT : List Nat → List (Bool × A) → List Slot → List Slot
  | j :: js, p :: ps, t => (setsT js ps t).set j (some p)
  | _, _, t => t
theorem sets_run : ∀ {js : List Nat} {xs : List (Bool × A)} {t s : List Slot}, js.length = xs.length → (∀ j ∈ js, j < t.length) → (∀ p ∈ xs, isD p.2 = true → p.1 = false) → Sub t s → ∃ s', setAll js (xs.map fun p => .val p.1 p.2) s = some s' ∧ Sub (setsT js xs t) s'
  | [], [], t, s, _, _, _, S0 => ⟨s, rfl, S0⟩
  | j :: js, p :: ps, t, s, hl, hj, hd, S0 => by
    obtain ⟨s1, e1, S1⟩ := sets_run (js := js) (xs := ps) (by simpa using hl) (fun i hi => hj i (List.mem_cons_of_mem _ hi)) (fun q hq => hd q (List.mem_cons_of_mem _ hq)) S0
    have hl2 : ∀ (js : List Nat) (ps : List (Bool × A)) (t : List Slot), (setsT js ps t).length = t.length := by
      intro js
      induction js with
      | nil => intro ps t; rfl
      | cons j js ih =>
        intro ps t
        cases ps with
        | nil => rfl
        | cons p ps => show ((setsT js ps t).set j (some p)).length = _; rw [List.length_set, ih]
    have hlt : j < s1.length := by rw [← S1.1, hl2]; exact hj j List.mem_cons_self
    exact ⟨_, setAll_cons e1 hlt, S1.set id (hd p List.mem_cons_self)⟩
theorem St_par {js : List Nat} {xs : List (Bool × A)} (h : Ess ms t t' xs) (hl : js.length = xs.length) (hj : ∀ j ∈ js, j < t'.length) (hz : szB xs.length = true) : St (sPar js ms) t (setsT js xs t') := fun s S0 => by
  obtain ⟨s1, e1, S1, hd⟩ := ess_run h S0
  obtain ⟨s2, e2, S2⟩ := sets_run hl hj hd S1
  exact ⟨s2, run_sPar e1 (by simpa using hz) e2, S2⟩
theorem St_unp {g : Tg} (h : E m t t' ρ (.d z)) (hg : Put g (.d z) t' t2) : St (sUnp g m) t t2 := fun s S0 => by
  obtain ⟨r, s1, e1, S1, k⟩ := h s S0
  obtain ⟨s2, e2, S2⟩ := hg s1 S1
  refine ⟨s2, ?_, S2⟩
  have e3 : g.put z s1 = some s2 := e2
  unfold sUnp
  rw [run_bnd, e1, obind_some]
  rcases rk_vw k with ⟨f, rfl, h3⟩ | ⟨q, f, rfl, e4⟩
  · obtain rfl := h3 rfl
    show (match rv (.val false (.d z)) s1 with
      | some (.d x) => (g.put x s1).map fun sa' => (Fl.nx, sa')
      | _ => none) = _
    rw [rv_val]
    simp only [e3, Option.map_some]
  · have := vw_rv (.inr ⟨q, f, rfl, e4⟩) S1
    simp only [this, e3, Option.map_some]
/-! loops -/
theorem S_forO {g : Tg} {mi : SM (List A)} {enc : α → A} {xs : List α} {tt : σ → List Slot} {tb : α → σ → List Slot} {f : α → σ → Option σ} {st : σ} (hi : It mi t t1 (xs.map enc)) (w : Weak (tt st) t1) (hp : ∀ x st, Put g (enc x) (tt st) (tb x st)) (hb : ∀ x st, S sm (tb x st) (f x st) (IC tt)) : S (sFor g mi sm) t (forO f xs st) (IN tt) := fun v e s S0 => by
  obtain ⟨s1, e1, S1⟩ := hi s S0
  have S1 := S1.weak w
  have gen : ∀ (xs : List α) (st : σ) (s : List Slot), forO f xs st = some v → Sub (tt st) s → ∃ s', forL g sm (xs.map enc) s = some (.nx, s') ∧ Sub (tt v) s' := by
    intro xs
    induction xs with
    | nil => intro st s h S; cases h; exact ⟨s, rfl, S⟩
    | cons x r ih =>
      intro st s h S
      unfold forO at h
      cases hf : f x st with
      | none => rw [hf] at h; cases h
      | some st2 =>
        rw [hf] at h
        obtain ⟨s2, e2, S2⟩ := hp x st s S
        obtain ⟨fl, s3, e3, h3, S3⟩ := hb x st st2 hf s2 S2
        obtain ⟨s4, e4, S4⟩ := ih st2 s3 h S3
        refine ⟨s4, ?_, S4⟩
        rw [List.map_cons]
        unfold forL
        simp only [e2]
        rcases h3 with rfl | rfl <;> simp only [e3, e4]
  obtain ⟨s2, e2, S2⟩ := gen xs st s1 e S1
  exact ⟨.nx, s2, by rw [run_sFor, e1, obind_some, e2], rfl, S2⟩
theorem S_forX {g : Tg} {mi : SM (List A)} {enc : α → A} {xs : List α} {Io : ρ' → Fl → List Slot → Prop} {tt : σ → List Slot} {tb : α → σ → List Slot} {f : α → σ → Option (Lp ρ' σ)} {st : σ} (hi : It mi t t1 (xs.map enc)) (w : Weak (tt st) t1) (hp : ∀ x st, Put g (enc x) (tt st) (tb x st)) (hb : ∀ x st, S sm (tb x st) (f x st) (IL Io tt)) : S (sFor g mi sm) t (forX f xs st) (IX Io tt) := fun v e s S0 => by
  obtain ⟨s1, e1, S1⟩ := hi s S0
  have S1 := S1.weak w
  have gen : ∀ (xs : List α) (st : σ) (s : List Slot), forX f xs st = some v → Sub (tt st) s → ∃ fl s', forL g sm (xs.map enc) s = some (fl, s') ∧ IX Io tt v fl s' := by
    intro xs
    induction xs with
    | nil => intro st s h S; cases h; exact ⟨.nx, s, rfl, rfl, S⟩
    | cons x r ih =>
      intro st s h S
      unfold forX at h
      cases hf : f x st with
      | none => rw [hf] at h; cases h
      | some q =>
        rw [hf] at h
        obtain ⟨s2, e2, S2⟩ := hp x st s S
        obtain ⟨fl, s3, e3, h3⟩ := hb x st q hf s2 S2
        rw [List.map_cons]
        unfold forL
        simp only [e2]
        cases q with
        | go st2 =>
          obtain ⟨h3, S3⟩ := h3
          obtain ⟨fl4, s4, e4, h4⟩ := ih st2 s3 h S3
          refine ⟨fl4, s4, ?_, h4⟩
          rcases h3 with rfl | rfl <;> simp only [e3, e4]
        | stop st2 =>
          obtain ⟨rfl, S3⟩ := h3
          cases h
          exact ⟨.nx, s3, by simp only [e3], rfl, S3⟩
        | out w =>
          obtain ⟨h3, fv, av, rfl⟩ := h3
          cases h
          exact ⟨.rt fv av, s3, by simp only [e3], h3, fun z => nomatch z⟩
  obtain ⟨fl, s2, e2, h2⟩ := gen xs st s1 e S1
  exact ⟨fl, s2, by rw [run_sFor, e1, obind_some, e2], h2⟩
theorem S_whileO {tm : SM Bool} {tt : σ → List Slot} {c : σ → Option Bool} {f : σ → Option σ} {st : σ} (w : Weak (tt st) t) (hc : ∀ st, TQ tm (tt st) (c st) (fun _ => tt st) id) (hb : ∀ st, S sm (tt st) (f st) (IC tt)) : S (sWhile tm sm) t (whileO c f st) (IN tt) := fun v e s S0 => by
  obtain ⟨n, e⟩ := whileO_iff.mp e
  have gen : ∀ (n : Nat) (st : σ) (s : List Slot), whF c f n st = some v → Sub (tt st) s → ∃ s', whileN tm sm n s = some (.nx, s') ∧ Sub (tt v) s' := by
    intro n
    induction n with
    | zero => intro st s h; cases h
    | succ n ih =>
      intro st s h S
      unfold whF at h
      cases hk : c st with
      | none => rw [hk] at h; cases h
      | some k =>
        rw [hk] at h
        obtain ⟨s1, e1, S1⟩ := hc st k hk s S
        unfold whileN
        cases k with
        | false =>
          cases h
          exact ⟨s1, by simp only [e1]; rfl, S1⟩
        | true =>
          simp only [Option.bind_some, cond_true] at h
          cases hf : f st with
          | none => rw [hf] at h; cases h
          | some st2 =>
            rw [hf] at h
            obtain ⟨fl, s3, e3, h3, S3⟩ := hb st st2 hf s1 S1
            obtain ⟨s4, e4, S4⟩ := ih st2 s3 h S3
            refine ⟨s4, ?_, S4⟩
            have e1 : tm s = some (true, s1) := e1
            rcases h3 with rfl | rfl <;> simp only [e1, e3, e4]
  obtain ⟨s2, e2, S2⟩ := gen n st s e (S0.weak w)
  exact ⟨.nx, s2, sWhile_of e2, rfl, S2⟩
theorem S_whileX {tm : SM Bool} {Io : ρ' → Fl → List Slot → Prop} {tt : σ → List Slot} {c : σ → Option Bool} {f : σ → Option (Lp ρ' σ)} {st : σ} (w : Weak (tt st) t) (hc : ∀ st, TQ tm (tt st) (c st) (fun _ => tt st) id) (hb : ∀ st, S sm (tt st) (f st) (IL Io tt)) : S (sWhile tm sm) t (whileX c f st) (IX Io tt) := fun v e s S0 => by
  obtain ⟨n, e⟩ := whileX_iff.mp e
  have gen : ∀ (n : Nat) (st : σ) (s : List Slot), whG c f n st = some v → Sub (tt st) s → ∃ fl s', whileN tm sm n s = some (fl, s') ∧ IX Io tt v fl s' := by
    intro n
    induction n with
    | zero => intro st s h; cases h
    | succ n ih =>
      intro st s h S
      unfold whG at h
      cases hk : c st with
      | none => rw [hk] at h; cases h
      | some k =>
        rw [hk] at h
        obtain ⟨s1, e1, S1⟩ := hc st k hk s S
        unfold whileN
        cases k with
        | false =>
          cases h
          exact ⟨.nx, s1, by simp only [e1]; rfl, rfl, S1⟩
        | true =>
          have e1 : tm s = some (true, s1) := e1
          simp only [Option.bind_some, cond_true] at h
          cases hf : f st with
          | none => rw [hf] at h; cases h
          | some q =>
            rw [hf] at h
            obtain ⟨fl, s3, e3, h3⟩ := hb st q hf s1 S1
            cases q with
            | go st2 =>
              obtain ⟨h3, S3⟩ := h3
              obtain ⟨fl4, s4, e4, h4⟩ := ih st2 s3 h S3
              refine ⟨fl4, s4, ?_, h4⟩
              rcases h3 with rfl | rfl <;> simp only [e1, e3, e4]
            | stop st2 =>
              obtain ⟨rfl, S3⟩ := h3
              cases h
              exact ⟨.nx, s3, by simp only [e1, e3], rfl, S3⟩
            | out w =>
              obtain ⟨h3, fv, av, rfl⟩ := h3
              cases h
              exact ⟨.rt fv av, s3, by simp only [e1, e3], h3, fun z => nomatch z⟩
  obtain ⟨fl, s2, e2, h2⟩ := gen n st s e (S0.weak w)
  exact ⟨fl, s2, sWhile_of e2, h2⟩
/-! defs -/
theorem F_end {N : Nat} {sm : SM Fl} {as : List A} {P : Option ρ'} {er : ρ' → A} {v : ρ'} (h : S sm (initS N as) P (IF er)) (e : P = some v) (ho : okT (initS N as) = true) : runF N sm as = some (er v) := by
  obtain ⟨fl, s, e1, h1⟩ := h v e _ (Sub.self ho)
  unfold runF
  rw [e1]
  rcases h1 with ⟨f, z, rfl, h2⟩ | rfl | ⟨rfl, h2⟩
  · rw [h2]; rfl
  · unfold endF; split <;> simp_all
  · rw [h2]; rfl
theorem B_end {N : Nat} {sm : SM Fl} {b : A} {xs : List D} {P : Option (ρ' × β)} {er : ρ' → D} {eb : β → A} {v : ρ'} {b' : β} (h : S sm (initB N b xs) P (IB er eb)) (e : P = some (v, b')) (ho : okT (initB N b xs) = true) : runB N sm b xs = some (er v, eb b') := by
  obtain ⟨fl, s, e1, h1, r, rfl⟩ := h _ e _ (Sub.self ho)
  unfold runB
  rw [e1]
  rcases h1 with ⟨f, rfl⟩ | ⟨rfl, h2⟩
  · rfl
  · show some (D.non, _) = _
    rw [← h2]
end
end MM
namespace MM
open PySem PySem.Spec PyProof.Rows L2

/-! ### lists, comprehensions, calls -/
def EQo {κ : Type} (m : SM R) (t : List Slot) (P : Option κ) (post : κ → List Slot) (val : κ → A) : Prop := ∀ k, P = some k → E m t (post k) .own (val k)
def capL {β : Type} (ys : List β) : Option (List β) := if ys.length ≤ 16777216 then some ys else none
def mapG {α β : Type} (f : α → Option β) : List α → Option (List β)
  | [] => some []
  | x :: r => (f x).bind fun y => (mapG f r).bind fun ys => some (y :: ys)
def mapO {α β : Type} (f : α → Option β) (xs : List α) : Option (List β) := (mapG f xs).bind capL
def mapP {α β : Type} (f : α → β) (xs : List α) : Option (List β) := capL (xs.map f)
def compG {α β : Type} (c : α → Option Bool) (f : α → Option β) : List α → Option (List β)
  | [] => some []
  | x :: r => (c x).bind fun k => cond k ((f x).bind fun y => (compG c f r).bind fun ys => some (y :: ys)) (compG c f r)
def compO {α β : Type} (c : α → Option Bool) (f : α → Option β) (xs : List α) : Option (List β) := (compG c f xs).bind capL
def mapS {α β σ : Type} (f : α → σ → Option (β × σ)) : List α → σ → Option (List β × σ)
  | [], st => some ([], st)
  | x :: r, st => (f x st).bind fun p => (mapS f r p.2).bind fun q => if q.1.length < 16777216 then some (p.1 :: q.1, q.2) else none
def flatG {α β : Type} (c : α → Option Bool) (F : α → Option (List β)) : List α → Option (List β)
  | [] => some []
  | x :: r => (c x).bind fun k => cond k ((F x).bind fun ys => (flatG c F r).bind fun zs => some (ys ++ zs)) (flatG c F r)
def flatO {α β : Type} (c : α → Option Bool) (F : α → Option (List β)) (xs : List α) : Option (List β) := (flatG c F xs).bind capL
theorem capL_some {β : Type} {ys zs : List β} (h : capL ys = some zs) : zs = ys ∧ ys.length ≤ 16777216 := by
  unfold capL at h
  split at h
  · cases h; exact ⟨rfl, by assumption⟩
  · cases h
theorem compG_map {α β : Type} {f : α → Option β} : ∀ {xs : List α}, compG (fun _ => some true) f xs = mapG f xs
  | [] => rfl
  | x :: r => by
    unfold compG mapG
    rw [Option.bind_some, cond_true, compG_map]
theorem compG_filter {α β : Type} {f : α → Option β} {c : α → Bool} : ∀ {xs : List α}, compG (fun x => some (c x)) f xs = mapG f (xs.filter c)
  | [] => rfl
  | x :: r => by
    unfold compG
    rw [Option.bind_some]
    cases h : c x with
    | true => rw [List.filter_cons_of_pos h, cond_true]; unfold mapG; rw [compG_filter]
    | false => rw [List.filter_cons_of_neg (by simp [h]), cond_false, compG_filter]
theorem mapG_map {α β : Type} {f : α → β} : ∀ {xs : List α}, mapG (fun x => some (f x)) xs = some (xs.map f)
  | [] => rfl
  | x :: r => by
    unfold mapG
    rw [mapG_map]
    rfl
/-- the names of a block hold data or nothing -/
def okW (ws : List Nat) (t : List Slot) : Bool := ws.all fun j => match t[j]? with
  | some none => true
  | some (some (_, .d _)) => true
  | none => true
  | _ => false
section
variable {α β γ κ σ : Type} {t t1 t2 t' s s' s1 s2 : List Slot} {j : Nat} {fl fl' : Bool} {a b x y c : A} {z : D} {r : R} {ρ ρ1 ρ2 : Rk} {m n ma mb : SM R} {ms : SM (List R)} {ws ws1 : List Nat}
theorem EQo_bind {δ : Type} {o : Option δ} {P : δ → Option κ} {post : κ → List Slot} {val : κ → A} (h : ∀ a, o = some a → EQo m t (P a) post val) : EQo m t (o.bind P) post val := fun k e => by
  cases o with
  | none => cases e
  | some a => exact h a rfl k e
theorem EQo_let {δ : Type} {v : δ} {P : δ → Option κ} {post : κ → List Slot} {val : κ → A} (h : ∀ x, v = x → EQo m t (P x) post val) : EQo m t (letF v P) post val := h v rfl
theorem EQo_ret {k0 : κ} {post : κ → List Slot} {val : κ → A} (h : E m t (post k0) .own (val k0)) : EQo m t (some k0) post val := fun k e => by
  cases e
  exact h
theorem Sub.wipe : ∀ {ws : List Nat} {t s : List Slot}, Sub t s → Sub (wipeA ws t) (wipeA ws s)
  | [], _, _, h => h
  | _ :: _, _, _, h => Sub.set0 (Sub.wipe h)
theorem wipe_ne : ∀ {ws : List Nat} {t : List Slot} {i : Nat}, i ∉ ws → (wipeA ws t)[i]? = t[i]?
  | [], _, _, _ => rfl
  | j :: js, t, i, h => by
    show ((wipeA js t).set j none)[i]? = _
    rw [List.getElem?_set_ne (fun z => h (by rw [z]; exact List.mem_cons_self)), wipe_ne fun z => h (List.mem_cons_of_mem _ z)]
theorem wipT_len : ∀ {ws : List Nat} {t : List Slot}, (wipeA ws t).length = t.length
  | [], _ => rfl
  | j :: js, t => by show ((wipeA js t).set j none).length = _; rw [List.length_set, wipT_len]
theorem rest_len : ∀ {ws : List Nat} {s0 s : List Slot}, (restA ws s0 s).length = s.length
  | [], _, _ => rfl
  | j :: js, s0, s => by
    unfold restA
    split
    · rw [List.length_set, rest_len]
    · exact rest_len
theorem rest_ne : ∀ {ws : List Nat} {s0 s : List Slot} {i : Nat}, i ∉ ws → (restA ws s0 s)[i]? = s[i]?
  | [], _, _, _, _ => rfl
  | j :: js, s0, s, i, h => by
    unfold restA
    split
    · rw [List.getElem?_set_ne (fun z => h (by rw [z]; exact List.mem_cons_self)), rest_ne fun z => h (List.mem_cons_of_mem _ z)]
    · exact rest_ne fun z => h (List.mem_cons_of_mem _ z)
theorem rest_in : ∀ {ws : List Nat} {s0 s : List Slot} {i : Nat} {a : A}, i ∈ ws → i < s.length → s0[i]? = some (some (false, a)) → (restA ws s0 s)[i]? = some (some (false, a))
  | j :: js, s0, s, i, a, h, hl, e => by
    unfold restA
    by_cases hi : i = j
    · subst hi
      simp only [e]
      rw [List.getElem?_set_self (by rw [rest_len]; exact hl)]
    · have h2 : i ∈ js := by
        rcases List.mem_cons.mp h with z | z
        · exact (hi z).elim
        · exact z
      split
      · rw [List.getElem?_set_ne (Ne.symm hi)]
        exact rest_in h2 hl e
      · exact rest_in h2 hl e
theorem rest_ok (S1 : Sub t1 s1) (S2 : Sub (wipeA ws t1) s2) (h : okW ws t1 = true) : Sub t1 (restA ws s1 s2) := by
  refine ⟨by rw [rest_len, ← S2.1]; exact wipT_len.symm, fun i fl a e => ?_⟩
  by_cases hi : i ∈ ws
  · have h2 := List.all_eq_true.mp h i hi
    rw [e] at h2
    cases a with
    | d z =>
      obtain ⟨e2, _⟩ := sub_useD S1 e
      have hl : i < s2.length := by rw [← S2.1]; exact Nat.lt_of_lt_of_eq (S1.1 ▸ S1.lt e) wipT_len.symm
      exact ⟨false, rest_in hi hl e2, fun h3 => (by
        obtain ⟨f, e3, h4, h5⟩ := S1.get e
        have := h4 h3
        rw [h5 rfl] at this
        cases this), fun _ => rfl⟩
    | _ => cases h2
  · rw [rest_ne hi]
    exact S2.get (by rw [wipe_ne hi]; exact e)
theorem rest_ok2 (S2 : Sub t2 s2) (h : ∀ i ∈ ws, t2[i]? = some none ∨ t2[i]? = none) : Sub t2 (restA ws s1 s2) := by
  refine ⟨by rw [rest_len, S2.1], fun i fl a e => ?_⟩
  by_cases hi : i ∈ ws
  · rcases h i hi with h | h <;> rw [h] at e <;> cases e
  · rw [rest_ne hi]
    exact S2.get e
/-- a comprehension's turns -/
theorem compL_run {g : Tg} {tt : SM Bool} {te : SM R} {enc : α → A} {tb : α → List Slot} {tw : List Slot} {cc : α → Option Bool} {f : α → Option β} {e : β → D}
    (hp : ∀ x, Put g (enc x) tw (tb x)) (hw : ∀ x, wipeA ws (tb x) = tw) (ht : ∀ x, TQ tt (tb x) (cc x) (fun _ => tb x) id) (he : ∀ x, cc x = some true → EQ te (tb x) (f x) (fun _ => tb x) (fun y => .d (e y))) :
    ∀ {xs : List α} {ys : List β} {acc : List D} {s : List Slot}, compG cc f xs = some ys → acc.length + ys.length ≤ 16777216 → Sub tw s → ∃ s', compL ws g tt te (xs.map enc) (.ls acc) s = some (.ls (acc ++ ys.map e), s') ∧ Sub tw s'
  | [], ys, acc, s, h, _, S0 => by
    cases h
    exact ⟨s, by simp [compL], S0⟩
  | x :: xs, ys, acc, s, h, hz, S0 => by
    unfold compG at h
    cases hc : cc x with
    | none => rw [hc] at h; cases h
    | some k =>
      rw [hc, Option.bind_some] at h
      obtain ⟨s1, e1, S1⟩ := hp x s S0
      obtain ⟨s2, e2, S2⟩ := ht x k hc s1 S1
      rw [List.map_cons]
      unfold compL
      have S2w : Sub tw (wipeA ws s2) := hw x ▸ Sub.wipe S2
      cases k with
      | false =>
        obtain ⟨s3, e3, S3⟩ := compL_run hp hw ht he h hz S2w
        have e2 : tt s1 = some (false, s2) := e2
        exact ⟨s3, by simp only [e1, e2, e3], S3⟩
      | true =>
        have e2 : tt s1 = some (true, s2) := e2
        rw [cond_true] at h
        cases hf : f x with
        | none => rw [hf] at h; cases h
        | some y =>
          rw [hf, Option.bind_some] at h
          cases hr : compG cc f xs with
          | none => rw [hr] at h; cases h
          | some zs =>
            rw [hr] at h
            cases h
            obtain ⟨r, s3, e3, S3, k3⟩ := he x hc y hf s2 S2
            rw [List.length_cons] at hz
            have S3w : Sub tw (wipeA ws s3) := hw x ▸ Sub.wipe S3
            have e5 : appA (.ls acc) (.d (e y)) = some (.ls (acc ++ [e y])) := by
              show (if szB (acc.length + 1) then some (A.ls (acc ++ [e y])) else none) = _
              rw [if_pos (szB_of (by omega))]
            obtain ⟨s4, e4, S4⟩ := compL_run hp hw ht he (acc := acc ++ [e y]) hr (by rw [List.length_append, List.length_singleton]; omega) S3w
            refine ⟨s4, ?_, S4⟩
            simp only [e1, e2, e3, vw_od k3 S3, e5, e4]
            simp
theorem E_compG {mi : SM (List A)} {g : Tg} {tt : SM Bool} {te : SM R} {enc : α → A} {tb : α → List Slot} {cc : α → Option Bool} {f : α → Option β} {e : β → D} {xs : List α} {ys : List β}
    (hi : It mi t t1 (xs.map enc)) (ok : okW ws t1 = true) (hp : ∀ x, Put g (enc x) (wipeA ws t1) (tb x)) (hw : ∀ x, wipeA ws (tb x) = wipeA ws t1) (ht : ∀ x, TQ tt (tb x) (cc x) (fun _ => tb x) id) (he : ∀ x, cc x = some true → EQ te (tb x) (f x) (fun _ => tb x) (fun y => .d (e y)))
    (h : compG cc f xs = some ys) (hz : ys.length ≤ 16777216) : E (mComp ws mi g tt te) t t1 .own (.ls (ys.map e)) := fun s S0 => by
  obtain ⟨s1, e1, S1⟩ := hi s S0
  obtain ⟨s2, e2, S2⟩ := compL_run hp hw ht he (acc := []) h (by simpa using hz) (Sub.wipe S1)
  exact ⟨_, _, run_comp e1 e2, rest_ok S1 S2 ok, rfl, rfl⟩
theorem bind_cap {o : Option (List β)} {ys : List β} (h : o.bind capL = some ys) : o = some ys ∧ ys.length ≤ 16777216 := by
  cases o with
  | none => cases h
  | some zs => obtain ⟨rfl, h2⟩ := capL_some h; exact ⟨rfl, h2⟩
theorem TQ_yes : TQ tYesM t (some true) (fun _ => t) id := fun k e s S0 => by cases e; exact ⟨s, rfl, S0⟩
theorem TQ_pure {tm : SM Bool} {k : Bool} (h : T tm t t k) : TQ tm t (some k) (fun _ => t) id := fun v e => by cases e; exact h
/-- each item's value -/
theorem E_compM {mi : SM (List A)} {g : Tg} {te : SM R} {enc : α → A} {tb : α → List Slot} {f : α → Option β} {xs : List α} {ys : List β} (h : mapO f xs = some ys) (e : β → D) (hi : It mi t t1 (xs.map enc)) (ok : okW ws t1 = true) (hp : ∀ x, Put g (enc x) (wipeA ws t1) (tb x)) (hw : ∀ x, wipeA ws (tb x) = wipeA ws t1) (he : ∀ x, EQ te (tb x) (f x) (fun _ => tb x) (fun y => .d (e y))) : E (mComp ws mi g tYesM te) t t1 .own (.ls (ys.map e)) :=
  have h2 := bind_cap h
  E_compG (cc := fun _ => some true) hi ok hp hw (fun _ => TQ_yes) (fun x _ => he x) (compG_map.trans h2.1) h2.2
/-- .. of the items that a test lets by -/
theorem E_compF {mi : SM (List A)} {g : Tg} {tt : SM Bool} {te : SM R} {enc : α → A} {tb : α → List Slot} {c : α → Bool} {f : α → Option β} {xs : List α} {ys : List β} (h : mapO f (xs.filter c) = some ys) (e : β → D) (hi : It mi t t1 (xs.map enc)) (ok : okW ws t1 = true) (hp : ∀ x, Put g (enc x) (wipeA ws t1) (tb x)) (hw : ∀ x, wipeA ws (tb x) = wipeA ws t1) (ht : ∀ x, T tt (tb x) (tb x) (c x)) (he : ∀ x, EQ te (tb x) (f x) (fun _ => tb x) (fun y => .d (e y))) : E (mComp ws mi g tt te) t t1 .own (.ls (ys.map e)) :=
  have h2 := bind_cap h
  E_compG (cc := fun x => some (c x)) hi ok hp hw (fun x => TQ_pure (ht x)) (fun x _ => he x) (compG_filter.trans h2.1) h2.2
theorem E_compC {mi : SM (List A)} {g : Tg} {tt : SM Bool} {te : SM R} {enc : α → A} {tb : α → List Slot} {cc : α → Option Bool} {f : α → Option β} {xs : List α} {ys : List β} (h : compO cc f xs = some ys) (e : β → D) (hi : It mi t t1 (xs.map enc)) (ok : okW ws t1 = true) (hp : ∀ x, Put g (enc x) (wipeA ws t1) (tb x)) (hw : ∀ x, wipeA ws (tb x) = wipeA ws t1) (ht : ∀ x, TQ tt (tb x) (cc x) (fun _ => tb x) id) (he : ∀ x, EQ te (tb x) (f x) (fun _ => tb x) (fun y => .d (e y))) : E (mComp ws mi g tt te) t t1 .own (.ls (ys.map e)) :=
  have h2 := bind_cap h
  E_compG hi ok hp hw ht (fun x _ => he x) h2.1 h2.2
theorem E_compP {mi : SM (List A)} {g : Tg} {te : SM R} {enc : α → A} {tb : α → List Slot} {f : α → β} {xs : List α} {ys : List β} (h : mapP f xs = some ys) (e : β → D) (hi : It mi t t1 (xs.map enc)) (ok : okW ws t1 = true) (hp : ∀ x, Put g (enc x) (wipeA ws t1) (tb x)) (hw : ∀ x, wipeA ws (tb x) = wipeA ws t1) (he : ∀ x, E te (tb x) (tb x) .vw (.d (e (f x)))) : E (mComp ws mi g tYesM te) t t1 .own (.ls (ys.map e)) :=
  have h2 := capL_some h
  E_compG (cc := fun _ => some true) (f := fun x => some (f x)) hi ok hp hw (fun _ => TQ_yes) (fun x _ => EQ_ret (val := fun y => .d (e y)) (he x)) (compG_map.trans (mapG_map.trans (by rw [h2.1]))) (h2.1 ▸ h2.2)
theorem E_compFP {mi : SM (List A)} {g : Tg} {tt : SM Bool} {te : SM R} {enc : α → A} {tb : α → List Slot} {c : α → Bool} {f : α → β} {xs : List α} {ys : List β} (h : mapP f (xs.filter c) = some ys) (e : β → D) (hi : It mi t t1 (xs.map enc)) (ok : okW ws t1 = true) (hp : ∀ x, Put g (enc x) (wipeA ws t1) (tb x)) (hw : ∀ x, wipeA ws (tb x) = wipeA ws t1) (ht : ∀ x, T tt (tb x) (tb x) (c x)) (he : ∀ x, E te (tb x) (tb x) .vw (.d (e (f x)))) : E (mComp ws mi g tt te) t t1 .own (.ls (ys.map e)) :=
  have h2 := capL_some h
  E_compG (cc := fun x => some (c x)) (f := fun x => some (f x)) hi ok hp hw (fun x => TQ_pure (ht x)) (fun x _ => EQ_ret (val := fun y => .d (e y)) (he x)) (compG_filter.trans (mapG_map.trans (by rw [h2.1]))) (h2.1 ▸ h2.2)
/-! with draws in it -/
theorem compS_run {g : Tg} {te : SM R} {enc : α → A} {tb : α → σ → List Slot} {tt : σ → List Slot} {f : α → σ → Option (β × σ)} {e : β → D}
    (hp : ∀ x st, Put g (enc x) (tt st) (tb x st)) (hw : ∀ x st, wipeA ws (tb x st) = tt st) (he : ∀ x st, EQ te (tb x st) (f x st) (fun p => tb x p.2) (fun p => .d (e p.1))) :
    ∀ {xs : List α} {st st' : σ} {ys : List β} {acc : List D} {s : List Slot}, mapS f xs st = some (ys, st') → acc.length + ys.length ≤ 16777216 → Sub (tt st) s → ∃ s', compL ws g tYesM te (xs.map enc) (.ls acc) s = some (.ls (acc ++ ys.map e), s') ∧ Sub (tt st') s'
  | [], st, st', ys, acc, s, h, _, S0 => by
    cases h
    exact ⟨s, by simp [compL], S0⟩
  | x :: xs, st, st', ys, acc, s, h, hz, S0 => by
    unfold mapS at h
    cases hf : f x st with
    | none => rw [hf] at h; cases h
    | some p =>
      rw [hf, Option.bind_some] at h
      cases hr : mapS f xs p.2 with
      | none => rw [hr] at h; cases h
      | some q =>
        rw [hr, Option.bind_some] at h
        split at h
        · cases h
          obtain ⟨s1, e1, S1⟩ := hp x st s S0
          obtain ⟨r, s3, e3, S3, k3⟩ := he x st p hf s1 S1
          rw [List.length_cons] at hz
          have S3w : Sub (tt p.2) (wipeA ws s3) := hw x p.2 ▸ Sub.wipe S3
          have e5 : appA (.ls acc) (.d (e p.1)) = some (.ls (acc ++ [e p.1])) := by
            show (if szB (acc.length + 1) then some (A.ls (acc ++ [e p.1])) else none) = _
            rw [if_pos (szB_of (by omega))]
          obtain ⟨s4, e4, S4⟩ := compS_run hp hw he (acc := acc ++ [e p.1]) (ys := q.1) (st' := q.2) hr (by rw [List.length_append, List.length_singleton]; omega) S3w
          refine ⟨s4, ?_, S4⟩
          rw [List.map_cons]
          unfold compL
          simp only [e1, run_tYes, e3, vw_od k3 S3, e5, e4]
          simp
        · cases h
theorem mapS_len {f : α → σ → Option (β × σ)} : ∀ {xs : List α} {st : σ} {q : List β × σ}, mapS f xs st = some q → q.1.length ≤ 16777216
  | [], st, q, h => by cases h; simp
  | x :: xs, st, q, h => by
    unfold mapS at h
    cases hf : f x st with
    | none => rw [hf] at h; cases h
    | some p =>
      rw [hf, Option.bind_some] at h
      cases hr : mapS f xs p.2 with
      | none => rw [hr] at h; cases h
      | some q =>
        rw [hr, Option.bind_some] at h
        split at h
        · cases h; rw [List.length_cons]; omega
        · cases h
def nowB (ws : List Nat) (t : List Slot) : Bool := ws.all fun j => match t[j]? with
  | some none => true
  | none => true
  | _ => false
theorem E_compS {mi : SM (List A)} {g : Tg} {te : SM R} {enc : α → A} {tb : α → σ → List Slot} {f : α → σ → Option (β × σ)} {xs : List α} {st : σ} {q : List β × σ} (h : mapS f xs st = some q) (tt : σ → List Slot) (e : β → D) (hi : It mi t t1 (xs.map enc)) (w : Weak (tt st) (wipeA ws t1)) (hn : ∀ st, nowB ws (tt st) = true) (hp : ∀ x st, Put g (enc x) (tt st) (tb x st)) (hw : ∀ x st, wipeA ws (tb x st) = tt st) (he : ∀ x st, EQ te (tb x st) (f x st) (fun p => tb x p.2) (fun p => .d (e p.1))) : E (mComp ws mi g tYesM te) t (tt q.2) .own (.ls (q.1.map e)) := fun s S0 => by
  obtain ⟨s1, e1, S1⟩ := hi s S0
  obtain ⟨s2, e2, S2⟩ := compS_run hp hw he (acc := []) (ys := q.1) (st' := q.2) h (by simpa using mapS_len h) ((Sub.wipe S1).weak w)
  refine ⟨_, _, run_comp e1 e2, rest_ok2 S2 (fun i hi => ?_), rfl, rfl⟩
  have := List.all_eq_true.mp (hn q.2) i hi
  split at this
  · left; assumption
  · right; assumption
  · cases this
/-! lists of lists -/
theorem mkL_nil : mkL [] = .ls [] := rfl
theorem mkL_lst {xs : List A} {x : A} (h : isD x = false) (hx : x ∈ xs) : mkL xs = .lst xs := by
  have : allD xs = none := by
    induction xs with
    | nil => cases hx
    | cons y r ih =>
      cases y with
      | d z =>
        unfold allD
        rcases List.mem_cons.mp hx with rfl | hx
        · cases h
        · rw [ih hx]; rfl
      | _ => rfl
  unfold mkL
  rw [this]
theorem app_mkL {xs : List A} (h : ∀ x ∈ xs, isD x = false) (ha : isD a = false) (hz : xs.length < 16777216) : appA (mkL xs) a = some (mkL (xs ++ [a])) := by
  rw [mkL_lst (xs := xs ++ [a]) ha (by simp)]
  cases xs with
  | nil =>
    show appA (.ls []) a = _
    cases a with
    | d z => cases ha
    | _ => rfl
  | cons x r =>
    rw [mkL_lst (xs := x :: r) (h x List.mem_cons_self) List.mem_cons_self]
    show (if szB ((x :: r).length + 1) then some (A.lst (x :: r ++ [a])) else none) = _
    rw [if_pos (szB_of (by omega))]
theorem compLo_run {g : Tg} {te : SM R} {enc : α → A} {tb : α → List Slot} {tw : List Slot} {f : α → Option β} {e : β → A} (hd : ∀ y, isD (e y) = false)
    (hp : ∀ x, Put g (enc x) tw (tb x)) (hw : ∀ x, wipeA ws (tb x) = tw) (he : ∀ x, EQo te (tb x) (f x) (fun _ => tb x) e) :
    ∀ {xs : List α} {ys acc : List β} {s : List Slot}, mapG f xs = some ys → acc.length + ys.length ≤ 16777216 → Sub tw s → ∃ s', compL ws g tYesM te (xs.map enc) (mkL (acc.map e)) s = some (mkL ((acc ++ ys).map e), s') ∧ Sub tw s'
  | [], ys, acc, s, h, _, S0 => by
    cases h
    exact ⟨s, by simp [compL], S0⟩
  | x :: xs, ys, acc, s, h, hz, S0 => by
    unfold mapG at h
    cases hf : f x with
    | none => rw [hf] at h; cases h
    | some y =>
      rw [hf, Option.bind_some] at h
      cases hr : mapG f xs with
      | none => rw [hr] at h; cases h
      | some zs =>
        rw [hr] at h
        cases h
        obtain ⟨s1, e1, S1⟩ := hp x s S0
        obtain ⟨r, s3, e3, S3, k3⟩ := he x y hf s1 S1
        rw [List.length_cons] at hz
        have S3w : Sub tw (wipeA ws s3) := hw x ▸ Sub.wipe S3
        have e5 : appA (mkL (acc.map e)) (e y) = some (mkL ((acc ++ [y]).map e)) := by
          rw [app_mkL (fun a ha => by obtain ⟨w, _, rfl⟩ := List.mem_map.mp ha; exact hd w) (hd y) (by rw [List.length_map]; omega), List.map_append]
          rfl
        obtain ⟨s4, e4, S4⟩ := compLo_run hd hp hw he (acc := acc ++ [y]) hr (by rw [List.length_append, List.length_singleton]; omega) S3w
        refine ⟨s4, ?_, S4⟩
        rw [List.map_cons]
        unfold compL
        simp only [e1, run_tYes, e3, own_od k3, e5, e4]
        simp
theorem fin_mkL (xs : List A) : fin (mkL xs) = .val true (mkL xs) := by
  unfold mkL
  split <;> rfl
theorem isD_mkL (xs : List A) : isD (mkL xs) = false := fin_own (fin_mkL xs)
theorem E_compL {mi : SM (List A)} {g : Tg} {te : SM R} {enc : α → A} {tb : α → List Slot} {f : α → Option β} {xs : List α} {ys : List β} (h : mapO f xs = some ys) (e : β → A) (hd : ∀ y, isD (e y) = false) (hi : It mi t t1 (xs.map enc)) (ok : okW ws t1 = true) (hp : ∀ x, Put g (enc x) (wipeA ws t1) (tb x)) (hw : ∀ x, wipeA ws (tb x) = wipeA ws t1) (he : ∀ x, EQo te (tb x) (f x) (fun _ => tb x) e) : E (mComp ws mi g tYesM te) t t1 .own (mkL (ys.map e)) := fun s S0 => by
  obtain ⟨h1, h2⟩ := bind_cap h
  obtain ⟨s1, e1, S1⟩ := hi s S0
  obtain ⟨s2, e2, S2⟩ := compLo_run hd hp hw he (acc := []) h1 (by simpa using h2) (Sub.wipe S1)
  have := run_comp e1 e2
  rw [List.nil_append, fin_mkL] at this
  exact ⟨_, _, this, rest_ok S1 S2 ok, rfl, isD_mkL _⟩
/-! two clauses -/
theorem comp2_run {g g1 : Tg} {tt tt1 : SM Bool} {te : SM R} {wi : SM (List A)} {enc : α → A} {enc1 : α → γ → A} {tb t2 tw1 : α → List Slot} {tb1 : α → γ → List Slot} {tw : List Slot} {cc : α → Option Bool} {ys1 : α → Option (List γ)} {cc1 : α → γ → Option Bool} {f : α → γ → Option β} {e : β → D}
    (hp : ∀ x, Put g (enc x) tw (tb x)) (ht : ∀ x, TQ tt (tb x) (cc x) (fun _ => tb x) id) (hw0 : ∀ x, wipeA ws (tb x) = tw)
    (hi : ∀ x l, cc x = some true → ys1 x = some l → It wi (tb x) (t2 x) (l.map (enc1 x))) (hw2 : ∀ x, wipeA ws1 (t2 x) = tw1 x)
    (hp1 : ∀ x y, Put g1 (enc1 x y) (tw1 x) (tb1 x y)) (hw1 : ∀ x y, wipeA ws1 (tb1 x y) = tw1 x) (ht1 : ∀ x y, TQ tt1 (tb1 x y) (cc1 x y) (fun _ => tb1 x y) id) (he : ∀ x y, cc1 x y = some true → EQ te (tb1 x y) (f x y) (fun _ => tb1 x y) (fun y => .d (e y))) (hw : ∀ x, wipeA ws (tw1 x) = tw) :
    ∀ {xs : List α} {ys : List β} {acc : List D} {s : List Slot}, flatG cc (fun x => (ys1 x).bind fun l => compG (cc1 x) (f x) l) xs = some ys → acc.length + ys.length ≤ 16777216 → Sub tw s → ∃ s', compL2 ws ws1 g tt wi g1 tt1 te (xs.map enc) (.ls acc) s = some (.ls (acc ++ ys.map e), s') ∧ Sub tw s'
  | [], ys, acc, s, h, _, S0 => by
    cases h
    exact ⟨s, by simp [compL2], S0⟩
  | x :: xs, ys, acc, s, h, hz, S0 => by
    unfold flatG at h
    cases hc : cc x with
    | none => rw [hc] at h; cases h
    | some k =>
      rw [hc, Option.bind_some] at h
      obtain ⟨s1, e1, S1⟩ := hp x s S0
      obtain ⟨s2, e2, S2⟩ := ht x k hc s1 S1
      rw [List.map_cons]
      unfold compL2
      cases k with
      | false =>
        have S2w : Sub tw (wipeA ws s2) := hw0 x ▸ Sub.wipe S2
        obtain ⟨s3, e3, S3⟩ := comp2_run hp ht hw0 hi hw2 hp1 hw1 ht1 he hw h hz S2w
        have e2 : tt s1 = some (false, s2) := e2
        exact ⟨s3, by simp only [e1, e2, e3], S3⟩
      | true =>
        have e2 : tt s1 = some (true, s2) := e2
        rw [cond_true] at h
        cases hl : ys1 x with
        | none => rw [hl] at h; cases h
        | some l =>
          rw [hl, Option.bind_some] at h
          cases hf : compG (cc1 x) (f x) l with
          | none => rw [hf] at h; cases h
          | some us =>
            rw [hf, Option.bind_some] at h
            cases hr : flatG cc (fun x => (ys1 x).bind fun l => compG (cc1 x) (f x) l) xs with
            | none => rw [hr] at h; cases h
            | some zs =>
              rw [hr] at h
              cases h
              rw [List.length_append] at hz
              obtain ⟨s3, e3, S3⟩ := hi x l hc hl s2 S2
              have S3w : Sub (tw1 x) (wipeA ws1 s3) := hw2 x ▸ Sub.wipe S3
              obtain ⟨s4, e4, S4⟩ := compL_run (hp1 x) (hw1 x) (ht1 x) (he x) (acc := acc) hf (by omega) S3w
              have S4w : Sub tw (wipeA ws s4) := hw x ▸ Sub.wipe S4
              obtain ⟨s5, e5, S5⟩ := comp2_run hp ht hw0 hi hw2 hp1 hw1 ht1 he hw (acc := acc ++ us.map e) hr (by rw [List.length_append, List.length_map]; omega) S4w
              exact ⟨s5, by simp only [e1, e2, e3, e4, e5]; simp, S5⟩
theorem E_comp2 {mi : SM (List A)} {g g1 : Tg} {tt tt1 : SM Bool} {te : SM R} {wi : SM (List A)} {enc : α → A} {enc1 : α → γ → A} {tb t2 tw1 : α → List Slot} {tb1 : α → γ → List Slot} {cc : α → Option Bool} {ys1 : α → Option (List γ)} {cc1 : α → γ → Option Bool} {f : α → γ → Option β} {xs : List α} {ys : List β} (h : flatO cc (fun x => (ys1 x).bind fun l => compG (cc1 x) (f x) l) xs = some ys) (e : β → D) (hi0 : It mi t t1 (xs.map enc)) (ok : okW ws t1 = true) (hp : ∀ x, Put g (enc x) (wipeA ws t1) (tb x)) (ht : ∀ x, TQ tt (tb x) (cc x) (fun _ => tb x) id) (hw0 : ∀ x, wipeA ws (tb x) = wipeA ws t1) (hi : ∀ x l, cc x = some true → ys1 x = some l → It wi (tb x) (t2 x) (l.map (enc1 x))) (hw2 : ∀ x, wipeA ws1 (t2 x) = tw1 x) (hp1 : ∀ x y, Put g1 (enc1 x y) (tw1 x) (tb1 x y)) (hw1 : ∀ x y, wipeA ws1 (tb1 x y) = tw1 x) (ht1 : ∀ x y, TQ tt1 (tb1 x y) (cc1 x y) (fun _ => tb1 x y) id) (he : ∀ x y, EQ te (tb1 x y) (f x y) (fun _ => tb1 x y) (fun y => .d (e y))) (hw : ∀ x, wipeA ws (tw1 x) = wipeA ws t1) : E (mComp2 ws ws1 mi g tt wi g1 tt1 te) t t1 .own (.ls (ys.map e)) := fun s S0 => by
  obtain ⟨h1, h2⟩ := bind_cap h
  obtain ⟨s1, e1, S1⟩ := hi0 s S0
  obtain ⟨s2, e2, S2⟩ := comp2_run hp ht hw0 hi hw2 hp1 hw1 ht1 (fun x y _ => he x y) hw (acc := []) h1 (by simpa using h2) (Sub.wipe S1)
  exact ⟨_, _, run_comp2 e1 e2, rest_ok S1 S2 ok, rfl, rfl⟩
/-! lists that grow -/
def pushO (xs : List α) (v : α) : Option (List α) := if xs.length < 16777216 then some (xs ++ [v]) else none
def catO (xs ys : List α) : Option (List α) := if xs.length + ys.length ≤ 16777216 then some (xs ++ ys) else none
def popO (xs : List α) : Option (α × List α) := xs.getLast?.map fun v => (v, xs.dropLast)
def popAtO (xs : List α) (i : Int) : Option (α × List α) := if xs.length ≤ 16777216 then (ixN xs.length i).bind fun k => xs[k]?.map fun v => (v, xs.eraseIdx k) else none
def setIxO (xs : List α) (i : Int) (v : α) : Option (List α) := (ixN xs.length i).map fun k => xs.set k v
def pushIxO (xs : List (List α)) (i : Int) (v : α) : Option (List (List α)) := (ixN xs.length i).bind fun k => xs[k]?.bind fun ys => (pushO ys v).map fun zs => xs.set k zs
theorem push_some {xs ys : List α} {v : α} (h : pushO xs v = some ys) : ys = xs ++ [v] ∧ xs.length < 16777216 := by
  unfold pushO at h
  split at h
  · cases h; exact ⟨rfl, by assumption⟩
  · cases h
theorem cat_some {xs ys zs : List α} (h : catO xs ys = some zs) : zs = xs ++ ys ∧ xs.length + ys.length ≤ 16777216 := by
  unfold catO at h
  split at h
  · cases h; exact ⟨rfl, by assumption⟩
  · cases h
theorem cat_tup {f : α → D} {xs ys zs : List α} (h : catO xs ys = some zs) : addA (.d (.tup (xs.map f))) (.d (.tup (ys.map f))) = some (.d (.tup (zs.map f))) := by
  obtain ⟨rfl, h2⟩ := cat_some h
  show (if szB _ then some (A.t (xs.map f ++ ys.map f)) else none) = _
  rw [if_pos (szB_of (by simpa using h2)), List.map_append]
theorem cat_ls {f : α → D} {xs ys zs : List α} (h : catO xs ys = some zs) : addA (.ls (xs.map f)) (.ls (ys.map f)) = some (.ls (zs.map f)) := by
  obtain ⟨rfl, h2⟩ := cat_some h
  show (if szB _ then some (A.ls (xs.map f ++ ys.map f)) else none) = _
  rw [if_pos (szB_of (by simpa using h2)), List.map_append]
theorem E_append {f : α → D} {xs ys : List α} {v : α} (h : pushO xs v = some ys) (h0 : t[j]? = some (some (true, .ls (xs.map f)))) (hm : E m t t1 ρ (.d (f v))) (h1 : t1[j]? = some (some (true, .ls (xs.map f)))) : E (mAppend j m) t (t1.set j (some (true, .ls (ys.map f)))) .val (.d .non) := fun s S0 => by
  obtain ⟨rfl, hz⟩ := push_some h
  obtain ⟨r, s1, e1, S1, k⟩ := hm s S0
  obtain ⟨f0, e2, _⟩ := S0.get h0
  obtain ⟨f1, e3, h3, _⟩ := S1.get h1
  obtain rfl := h3 rfl
  refine ⟨.val false (.d .non), s1.set j (some (true, .ls ((xs ++ [v]).map f))), ?_, S1.set id (fun z => nomatch z), rfl⟩
  unfold mAppend
  have hl : isL s[j]? = true := by rw [e2]; rfl
  rw [if_pos hl, run_bnd, e1, obind_some, vw_od (rk_vw k) S1, e3]
  have e5 : appA (.ls (xs.map f)) (.d (f v)) = some (.ls (xs.map f ++ [f v])) := by
    show (if szB ((xs.map f).length + 1) then some (A.ls (xs.map f ++ [f v])) else none) = _
    rw [if_pos (szB_of (by rw [List.length_map]; omega))]
  simp only [e5, Option.map_some]
  rw [List.map_append]
  rfl
theorem isL_mkL {xs : List A} : isL (some (some (fl, mkL xs))) = true := by
  unfold mkL
  split <;> rfl
theorem E_appendL {f : α → A} {xs ys : List α} {v : α} (h : pushO xs v = some ys) (hd : ∀ y, isD (f y) = false) (h0 : t[j]? = some (some (true, mkL (xs.map f)))) (hm : E m t t1 .own (f v)) (h1 : t1[j]? = some (some (true, mkL (xs.map f)))) : E (mAppend j m) t (t1.set j (some (true, mkL (ys.map f)))) .val (.d .non) := fun s S0 => by
  obtain ⟨rfl, hz⟩ := push_some h
  obtain ⟨r, s1, e1, S1, k⟩ := hm s S0
  obtain ⟨f0, e2, _⟩ := S0.get h0
  obtain ⟨f1, e3, h3, _⟩ := S1.get h1
  obtain rfl := h3 rfl
  refine ⟨.val false (.d .non), s1.set j (some (true, mkL ((xs ++ [v]).map f))), ?_, S1.set id (fun z => by rw [isD_mkL] at z; cases z), rfl⟩
  unfold mAppend
  have hl : isL s[j]? = true := by rw [e2]; exact isL_mkL
  have e5 := app_mkL (xs := xs.map f) (a := f v) (fun a ha => by obtain ⟨w, _, rfl⟩ := List.mem_map.mp ha; exact hd w) (hd v) (by rw [List.length_map]; omega)
  rw [if_pos hl, run_bnd, e1, obind_some, own_od k, e3]
  simp only [e5, Option.map_some]
  rw [List.map_append]
  rfl
theorem E_extend {f : α → D} {xs ys zs : List α} (h : catO xs ys = some zs) (h0 : t[j]? = some (some (true, .ls (xs.map f)))) (hm : E m t t1 ρ (.ls (ys.map f))) (h1 : t1[j]? = some (some (true, .ls (xs.map f)))) : E (mExtend j m) t (t1.set j (some (true, .ls (zs.map f)))) .val (.d .non) := fun s S0 => by
  obtain ⟨rfl, hz⟩ := cat_some h
  obtain ⟨r, s1, e1, S1, k⟩ := hm s S0
  obtain ⟨f0, e2, _⟩ := S0.get h0
  obtain ⟨f1, e3, h3, _⟩ := S1.get h1
  obtain rfl := h3 rfl
  refine ⟨.val false (.d .non), s1.set j (some (true, .ls ((xs ++ ys).map f))), ?_, S1.set id (fun z => nomatch z), rfl⟩
  unfold mExtend
  have hl : isL s[j]? = true := by rw [e2]; rfl
  rw [if_pos hl, run_bnd, e1, obind_some, vw_rv (rk_vw k) S1, e3]
  have e5 : extA (.ls (xs.map f)) (.ls (ys.map f)) = some (.ls (xs.map f ++ ys.map f)) := by
    show (if szB _ then some (A.ls (xs.map f ++ ys.map f)) else none) = _
    rw [if_pos (szB_of (by simpa using hz))]
  simp only [e5, Option.map_some]
  rw [List.map_append]
theorem E_pop {f : α → D} {xs : List α} {q : α × List α} (h : popO xs = some q) (h0 : t[j]? = some (some (true, .ls (xs.map f)))) : E (mPop j) t (t.set j (some (true, .ls (q.2.map f)))) .val (.d (f q.1)) := fun s S0 => by
  obtain ⟨f1, e3, h3, _⟩ := S0.get h0
  obtain rfl := h3 rfl
  unfold popO at h
  rw [List.getLast?_eq_getElem?] at h
  cases hx : xs[xs.length - 1]? with
  | none => rw [hx] at h; cases h
  | some v =>
    rw [hx] at h
    cases h
    refine ⟨.val false (.d (f v)), s.set j (some (true, .ls (xs.dropLast.map f))), ?_, S0.set id (fun z => nomatch z), rfl⟩
    unfold mPop
    rw [e3]
    have : (xs.map f)[(xs.map f).length - 1]? = some (f v) := by rw [List.length_map, List.getElem?_map, hx]; rfl
    simp only [this, List.map_dropLast]
theorem er_map {f : α → D} : ∀ {xs : List α} {k : Nat}, (xs.map f).eraseIdx k = (xs.eraseIdx k).map f
  | [], _ => rfl
  | _ :: _, 0 => rfl
  | x :: r, k + 1 => by
    show f x :: (r.map f).eraseIdx k = f x :: (r.eraseIdx k).map f
    rw [er_map]
theorem E_popAt {f : α → D} {xs : List α} {i : Int} {q : α × List α} (h : popAtO xs i = some q) (h0 : t[j]? = some (some (true, .ls (xs.map f)))) (hm : E m t t ρ (.d (.int i))) : E (mPopAt j m) t (t.set j (some (true, .ls (q.2.map f)))) .val (.d (f q.1)) := fun s S0 => by
  obtain ⟨r, s1, e1, S1, k⟩ := hm s S0
  obtain ⟨f0, e2, _⟩ := S0.get h0
  obtain ⟨f1, e3, h3, _⟩ := S1.get h0
  obtain rfl := h3 rfl
  unfold popAtO at h
  split at h
  · rename_i hz
    cases hn : ixN xs.length i with
    | none => rw [hn] at h; cases h
    | some k2 =>
      rw [hn, Option.bind_some] at h
      cases hx : xs[k2]? with
      | none => rw [hx] at h; cases h
      | some v =>
        rw [hx] at h
        cases h
        refine ⟨.val false (.d (f v)), s1.set j (some (true, .ls ((xs.eraseIdx k2).map f))), ?_, S1.set id (fun z => nomatch z), rfl⟩
        rw [run_popAt (by rw [e2]; rfl) e1 (vw_rv (rk_vw k) S1) e3 (by rw [List.length_map]; exact hn) (szB_of (by simpa using hz)) (by rw [List.getElem?_map, hx]; rfl)]
        rw [er_map]
  · cases h
theorem ixN_len {n : Nat} {i : Int} {k : Nat} (h : ixN n i = some k) : k < n := by
  unfold ixN at h
  split at h
  · split at h
    · cases h; omega
    · cases h
  · split at h
    · cases h; omega
    · cases h
theorem set_ls {f : α → D} {xs ys : List α} {i : Int} {v : α} (h : setIxO xs i v = some ys) : setA (.ls (xs.map f)) i (f v) = some (.ls (ys.map f)) := by
  unfold setIxO at h
  show (match ixN (xs.map f).length i with
    | some k => some (A.ls ((xs.map f).set k (f v)))
    | none => none) = _
  rw [List.length_map]
  cases hn : ixN xs.length i with
  | none => rw [hn] at h; cases h
  | some k =>
    rw [hn] at h
    cases h
    simp only [List.map_set]
theorem St_setIx {i : Int} {l' l : A} {mi me : SM R} (hl : isL (some (some (true, l))) = true) (he : E me t t1 ρ (.d z)) (h0 : t1[j]? = some (some (true, l))) (hi : E mi t1 t1 ρ2 (.d (.int i))) (h : setA l i z = some l') (hl2 : isD l' = false) : St (sSetIx j mi me) t (t1.set j (some (true, l'))) := fun s S0 => by
  obtain ⟨r, s1, e1, S1, k⟩ := he s S0
  obtain ⟨f0, e2, h2, _⟩ := S1.get h0
  obtain rfl := h2 rfl
  obtain ⟨r2, s2, e3, S2, k2⟩ := hi s1 S1
  obtain ⟨f1, e4, h4, _⟩ := S2.get h0
  obtain rfl := h4 rfl
  refine ⟨_, ?_, S2.set id (fun z => by rw [hl2] at z; cases z)⟩
  rw [run_sSetIx e1 (by rw [e2]; exact hl) e3, vw_rv (rk_vw k) S2, vw_rv (rk_vw k2) S2, e4, six_some h]
theorem E_appendIx {f : α → D} {xs ys : List (List α)} {n : Nat} {i : Int} {v : α} (h : pushIxO xs i v = some ys) (h0 : t[j]? = some (some (true, mkL (xs.map fun r => .ls (r.map f))))) (hn : t[n]? = some (some (fl, .d (f v)))) (hm : E m t t ρ (.d (.int i))) : E (mAppendIx j n m) t (t.set j (some (true, mkL (ys.map fun r => .ls (r.map f))))) .val (.d .non) := fun s S0 => by
  have hx : xs ≠ [] := by
    rintro rfl
    simp [pushIxO, ixN] at h
  have el : mkL (xs.map fun r => A.ls (r.map f)) = .lst (xs.map fun r => A.ls (r.map f)) := by
    cases xs with
    | nil => exact (hx rfl).elim
    | cons x r => exact mkL_lst (x := .ls (x.map f)) rfl (by simp)
  rw [el] at h0
  obtain ⟨r, s1, e1, S1, k⟩ := hm s S0
  obtain ⟨f0, e2, _⟩ := S0.get h0
  obtain ⟨f1, e3, h3, _⟩ := S1.get h0
  obtain rfl := h3 rfl
  obtain ⟨f2, e4, _⟩ := S1.get hn
  unfold pushIxO at h
  cases hk : ixN xs.length i with
  | none => rw [hk] at h; cases h
  | some q =>
    rw [hk, Option.bind_some] at h
    cases hq : xs[q]? with
    | none => rw [hq] at h; cases h
    | some us =>
      rw [hq, Option.bind_some] at h
      cases hp : pushO us v with
      | none => rw [hp] at h; cases h
      | some zs =>
        rw [hp] at h
        cases h
        obtain ⟨rfl, hz⟩ := push_some hp
        have hlt : q < xs.length := ixN_len hk
        have el2 : mkL ((xs.set q (us ++ [v])).map fun r => A.ls (r.map f)) = .lst ((xs.map fun r => A.ls (r.map f)).set q (.ls (us.map f ++ [f v]))) := by
          rw [List.map_set, List.map_append]
          exact mkL_lst (x := .ls (us.map f ++ [f v])) rfl (List.mem_iff_getElem?.mpr ⟨q, List.getElem?_set_self (by simpa using hlt)⟩)
        rw [el2]
        refine ⟨.val false (.d .non), _, ?_, S1.set id (fun z => nomatch z), rfl⟩
        unfold mAppendIx
        have hl : isL s[j]? = true := by rw [e2]; rfl
        rw [if_pos hl, run_bnd, e1, obind_some, vw_rv (rk_vw k) S1, e3, e4]
        have e6 : (xs.map fun r => A.ls (r.map f))[q]? = some (.ls (us.map f)) := by rw [List.getElem?_map, hq]; rfl
        simp only [List.length_map, hk, e6]
        rw [if_pos (szB_of (by omega))]
/-! calls of defs that change the box -/
theorem E_callB {G : A → List D → Option (D × A)} {n : Nat} {ds : List D} {b0 b b' : A} {c : D} (h0 : t[j]? = some (some (true, b0))) (ha : Es ms t t1 (ds.map .d)) (h1 : t1[j]? = some (some (true, b))) (hn : ds.length + 1 = n) (hG : G b ds = some (c, b')) (hb : isD b' = false) : E (mCallB n G j ms) t (t1.set j (some (true, b'))) .val (.d c) := fun s S0 => by
  obtain ⟨rs, s1, e1, S1, k⟩ := ha s S0
  obtain ⟨f0, e2, h2, _⟩ := S0.get h0
  obtain rfl := h2 rfl
  obtain ⟨f1, e3, h3, _⟩ := S1.get h1
  obtain rfl := h3 rfl
  refine ⟨_, _, ?_, S1.set id (fun z => by rw [hb] at z; cases z), rfl⟩
  unfold mCallB
  rw [e2]
  simp only [run_bnd, e1, obind_some, rks_rds k S1, e3, hn, if_true, hG]
end
structure Bx where
  cs : List Int
  x : Int
  y : Int
def eBx (b : Bx) : A := .lst [.ls (b.cs.map .int), .d (.int b.x), .d (.int b.y)]
def decBx : A → Option Bx
  | .lst [.ls ds, .d (.int x), .d (.int y)] => (intsD ds).map fun cs => ⟨cs, x, y⟩
  | _ => none
theorem intsD_inv : ∀ {ds : List D} {cs : List Int}, intsD ds = some cs → ds = cs.map .int
  | [], cs, h => by cases h; rfl
  | d :: r, cs, h => by
    cases d with
    | int i =>
      unfold intsD at h
      cases h2 : intsD r with
      | none => rw [h2] at h; cases h
      | some z =>
        rw [h2] at h
        cases h
        rw [intsD_inv h2]
        rfl
    | _ => cases h
theorem decBx_ok {a : A} {b : Bx} (h : decBx a = some b) : a = eBx b := by
  unfold decBx at h
  split at h
  · rename_i ds x y
    cases hd : intsD ds with
    | none => rw [hd] at h; cases h
    | some cs =>
      rw [hd] at h
      cases h
      rw [intsD_inv hd]
      rfl
  · cases h
def drawO (b : Bx) (m : Int) : Option (Int × Bx) := match F__law_draw (eBx b) [.int m] with
  | some (.int k, a) => (decBx a).map fun b' => (k, b')
  | _ => none
def boxO (ns : List Int) : Option Bx := (F__law_box [.d (.scr ns)]).bind decBx
theorem draw_val {b : Bx} {m : Int} {q : Int × Bx} (h : drawO b m = some q) : F__law_draw (eBx b) [.int m] = some (.int q.1, eBx q.2) := by
  unfold drawO at h
  split at h
  · rename_i k a e
    cases hd : decBx a with
    | none => rw [hd] at h; cases h
    | some b' =>
      rw [hd] at h
      cases h
      rw [e, decBx_ok hd]
  · cases h
theorem box_val {ns : List Int} {b : Bx} (h : boxO ns = some b) : F__law_box [.d (.scr ns)] = some (eBx b) := by
  unfold boxO at h
  cases e : F__law_box [.d (.scr ns)] with
  | none => rw [e] at h; cases h
  | some a => rw [e, Option.bind_some] at h; rw [decBx_ok h]
def Bx.Ok (b : Bx) : Prop := b.cs.length ≤ 63
theorem decBx_enc (b : Bx) : decBx (eBx b) = some b := by
  unfold decBx eBx
  simp only [intsD_map, Option.map_some]
theorem drawO_ok {b : Bx} {m : Int} (B : b.Ok) (h0 : 0 < m) (h : m < 1073741824) : ∃ k b', drawO b m = some (k, b') ∧ 0 ≤ k ∧ k < m ∧ b'.Ok := by
  obtain ⟨k, a, e, h1, h2, cs, x, y, rfl, hc⟩ := draw_ok (b := eBx b) ⟨b.cs, b.x, b.y, rfl, B⟩ h0 h
  refine ⟨k, ⟨cs, x, y⟩, ?_, h1, h2, hc⟩
  unfold drawO
  rw [e]
  have : decBx (.lst [.ls (cs.map .int), .d (.int x), .d (.int y)]) = some ⟨cs, x, y⟩ := decBx_enc ⟨cs, x, y⟩
  simp only [this, Option.map_some]
theorem boxO_ok {ns : List Int} (hl : ns.length ≤ 63) : ∃ b, boxO ns = some b ∧ b.Ok := by
  obtain ⟨a, e, ⟨cs, x, y, rfl, hc⟩, _⟩ := box_ok hl
  refine ⟨⟨cs, x, y⟩, ?_, hc⟩
  unfold boxO
  rw [e]
  exact decBx_enc ⟨cs, x, y⟩
section
variable {t t1 : List Slot} {j : Nat} {ms : SM (List R)}
theorem E_draw {b0 b : Bx} {m : Int} {q : Int × Bx} (h0 : t[j]? = some (some (true, eBx b0))) (hm : Es ms t t1 [.d (.int m)]) (h1 : t1[j]? = some (some (true, eBx b))) (h : drawO b m = some q) : E (mCallB 2 F__law_draw j ms) t (t1.set j (some (true, eBx q.2))) .val (.d (.int q.1)) :=
  E_callB (ds := [.int m]) h0 hm h1 rfl (draw_val h) rfl
end
def sameO (a b : D) : Option Bool := if okD 70 a && okD 70 b then some (sameN 70 a b) else none
theorem same_val {a b : D} {k : Bool} (h : sameO a b = some k) : F__law_same 70 [.d a, .d b] = some (.d (.bl k)) := by
  unfold sameO at h
  split at h
  · rename_i h2
    cases h
    rw [Bool.and_eq_true] at h2
    exact same_run 70 a b h2.1 h2.2
  · cases h
/-! values -/
def mulO (a b : Int) : Option Int := if mulB a b then some (a * b) else none
def fdivO (a b : Int) : Option Int := if divB b then some (a.fdiv b) else none
def modO (a b : Int) : Option Int := if b = 0 then none else some (a.fmod b)
theorem mul_val {a b c : Int} (h : mulO a b = some c) : mulA (.d (.int a)) (.d (.int b)) = some (.d (.int c)) := by
  unfold mulO at h
  split at h
  · rename_i h2; cases h; show (if mulB a b then _ else _) = _; rw [if_pos h2]
  · cases h
theorem mul_pure {a b : Int} (h : mulB a b = true) : mulA (.d (.int a)) (.d (.int b)) = some (.d (.int (a * b))) := by
  show (if mulB a b then _ else _) = _
  rw [if_pos h]
theorem mulP_l {a b : Int} (h : decide (-(2 ^ 64) < a ∧ a < 2 ^ 64) = true) : mulB a b = true := by unfold mulB; rw [h]; rfl
theorem mulP_r {a b : Int} (h : decide (-(2 ^ 64) < b ∧ b < 2 ^ 64) = true) : mulB a b = true := by unfold mulB; rw [h]; simp
theorem fdiv_val {a b c : Int} (h : fdivO a b = some c) : fdivA (.d (.int a)) (.d (.int b)) = some (.d (.int c)) := by
  unfold fdivO at h
  split at h
  · rename_i h2; cases h; show (if divB b then _ else _) = _; rw [if_pos h2]
  · cases h
theorem fdiv_pure {a b : Int} (h : divB b = true) : fdivA (.d (.int a)) (.d (.int b)) = some (.d (.int (a.fdiv b))) := by
  show (if divB b then _ else _) = _
  rw [if_pos h]
theorem mod_val {a b c : Int} (h : modO a b = some c) : modA (.d (.int a)) (.d (.int b)) = some (.d (.int c)) := by
  unfold modO at h
  split at h
  · cases h
  · rename_i h2; cases h; show (if b = 0 then _ else _) = _; rw [if_neg h2]
theorem mod_pure {a b : Int} (h : decide (b = 0) = false) : modA (.d (.int a)) (.d (.int b)) = some (.d (.int (a.fmod b))) := by
  show (if b = 0 then _ else _) = _
  rw [if_neg (by simpa using h)]
theorem atI_map {α β : Type} {f : α → β} {xs : List α} {i : Int} : atI (xs.map f) i = (atI xs i).map f := by
  unfold atI
  rw [List.length_map]
  cases ixN xs.length i with
  | none => rfl
  | some k => simp
theorem ixT_val {α : Type} {f : α → D} {xs : List α} {i : Int} {v : α} (h : atI xs i = some v) : ixA (.d (.tup (xs.map f))) (.d (.int i)) = some (.d (f v)) := by
  show (atI (xs.map f) i).map A.d = _
  rw [atI_map, h]
  rfl
theorem ixL_val {α : Type} {f : α → D} {xs : List α} {i : Int} {v : α} (h : atI xs i = some v) : ixA (.ls (xs.map f)) (.d (.int i)) = some (.d (f v)) := by
  show (atI (xs.map f) i).map A.d = _
  rw [atI_map, h]
  rfl
theorem ixM_val {α : Type} {f : α → A} {xs : List α} {i : Int} {v : α} (hd : ∀ y, isD (f y) = false) (h : atI xs i = some v) : ixA (mkL (xs.map f)) (.d (.int i)) = some (f v) := by
  cases xs with
  | nil => simp [atI, ixN] at h
  | cons x r =>
    rw [mkL_lst (hd x) (by simp)]
    show atI ((x :: r).map f) i = _
    rw [atI_map, h]
    rfl
theorem slT_val {α : Type} {f : α → D} {xs : List α} {lo hi : Option Int} : slA lo hi (.d (.tup (xs.map f))) = some (.d (.tup ((cutL xs lo hi).map f))) := by
  rw [← cutL_map]; rfl
theorem slL_val {α : Type} {f : α → D} {xs : List α} {lo hi : Option Int} : slA lo hi (.ls (xs.map f)) = some (.ls ((cutL xs lo hi).map f)) := by
  rw [← cutL_map]; rfl
theorem rvT_val {α : Type} {f : α → D} {xs : List α} : revA (.d (.tup (xs.map f))) = some (.d (.tup (xs.reverse.map f))) := by
  show some (A.d (.tup (xs.map f).reverse)) = _
  rw [List.map_reverse]
theorem rvL_val {α : Type} {f : α → D} {xs : List α} : revA (.ls (xs.map f)) = some (.ls (xs.reverse.map f)) := by
  show some (A.ls (xs.map f).reverse) = _
  rw [List.map_reverse]
theorem lenT_val {α : Type} {f : α → D} {xs : List α} : lenA (.d (.tup (xs.map f))) = some (.d (.int (xs.length : Nat))) := by
  show some (A.d (.int ((xs.map f).length : Nat))) = _
  rw [List.length_map]
theorem lenL_val {α : Type} {f : α → D} {xs : List α} : lenA (.ls (xs.map f)) = some (.d (.int (xs.length : Nat))) := by
  show some (A.d (.int ((xs.map f).length : Nat))) = _
  rw [List.length_map]
theorem allD_len : ∀ {xs : List A} {ds : List D}, allD xs = some ds → ds.length = xs.length := fun h => by rw [allD_eq h, List.length_map]
theorem lenM_val {α : Type} {f : α → A} {xs : List α} : lenA (mkL (xs.map f)) = some (.d (.int (xs.length : Nat))) := by
  unfold mkL
  cases h : allD (xs.map f) with
  | none => show some (A.d (.int ((xs.map f).length : Nat))) = _; rw [List.length_map]
  | some ds => show some (A.d (.int (ds.length : Nat))) = _; rw [allD_len h, List.length_map]
theorem sumL_val {xs : List Int} : sumA (.ls (xs.map .int)) = some (.d (.int xs.sum)) := by
  show (intsD _).map _ = _
  rw [intsD_map]; rfl
theorem maxL_val {xs : List Int} {v : Int} (h : maxI xs = some v) : maxA (.ls (xs.map .int)) = some (.d (.int v)) := by
  show (intsD _).bind _ = _
  rw [intsD_map, Option.bind_some, h]; rfl
theorem minL_val {xs : List Int} {v : Int} (h : minI xs = some v) : minA (.ls (xs.map .int)) = some (.d (.int v)) := by
  show (intsD _).bind _ = _
  rw [intsD_map, Option.bind_some, h]; rfl
theorem allL_val {xs : List Bool} : allA (.ls (xs.map .bl)) = some (.d (.bl (xs.all id))) := by
  show (blsD _).map _ = _
  rw [blsD_map]; rfl
theorem anyL_val {xs : List Bool} : anyA (.ls (xs.map .bl)) = some (.d (.bl (xs.any id))) := by
  show (blsD _).map _ = _
  rw [blsD_map]; rfl
theorem abs_val {i : Int} : absA (.d (.int i)) = some (.d (.int (if i < 0 then -i else i))) := rfl
/-- of any data -/
def op2O (g : A → A → Option A) (v w : D) : Option D := match g (.d v) (.d w) with
  | some (.d z) => some z
  | _ => none
def op1O (g : A → Option A) (v : D) : Option D := match g (.d v) with
  | some (.d z) => some z
  | _ => none
theorem op2_val {g : A → A → Option A} {v w z : D} (h : op2O g v w = some z) : g (.d v) (.d w) = some (.d z) := by
  unfold op2O at h
  split at h
  · rename_i e; cases h; exact e
  · cases h
theorem op1_val {g : A → Option A} {v z : D} (h : op1O g v = some z) : g (.d v) = some (.d z) := by
  unfold op1O at h
  split at h
  · rename_i e; cases h; exact e
  · cases h
def lenO (v : D) : Option Int := match lenA (.d v) with
  | some (.d (.int n)) => some n
  | _ => none
theorem len_val {v : D} {n : Int} (h : lenO v = some n) : lenA (.d v) = some (.d (.int n)) := by
  unfold lenO at h
  split at h
  · rename_i e; cases h; exact e
  · cases h
def isO (u : Ty) (v : D) : Option Bool := isiA u (.d v)
theorem isi_val {u : Ty} {v : D} {k : Bool} (h : isO u v = some k) : fIsi u [.d v, .d (.opq (.ty u.nm))] = some (.d (.bl k)) := by
  unfold isO at h
  show (if u.nm = u.nm then (isiA u (.d v)).map fun b => A.d (.bl b) else none) = _
  rw [if_pos rfl, h]
  rfl
/-- the parts of a tuple of data -/
def itO : D → Option (List D)
  | .tup xs => some xs
  | _ => none
theorem it_val {v : D} {xs : List D} (h : itO v = some xs) : iterA (.d v) = some (xs.map fun x => .d x) := by
  unfold itO at h
  split at h
  · cases h; rfl
  · cases h
def slO (lo hi : Option Int) (v : D) : Option D := op1O (slA lo hi) v
theorem sl_val {lo hi : Option Int} {v z : D} (h : slO lo hi v = some z) : slA lo hi (.d v) = some (.d z) := op1_val h
theorem str_val {i : Int} {x : Str} (h : (if decide (i.natAbs.log2 < 1920) then some (toString i : Str) else none) = some x) : strA (.d (.int i)) = some (.d (.str x)) := by
  show (if decide (i.natAbs.log2 < 1920) then some (A.s (toString i)) else none) = _
  split at h
  · rename_i h2; cases h; rw [if_pos h2]
  · cases h
end MM
namespace MM
open PySem PySem.Spec PyProof.Rows L2

/-! ### how typed values stand as data, and back -/
abbrev eI : Int → D := D.int
abbrev eB : Bool → D := D.bl
abbrev eSt : Str → D := D.str
abbrev eN : Unit → D := fun _ => D.non
abbrev eD : D → D := fun d => d
abbrev eS {α : Type} (e : α → D) (xs : List α) : D := .tup (xs.map e)
abbrev eT0 : Unit → D := fun _ => .tup []
abbrev eT1 {α : Type} (e : α → D) (p : α) : D := .tup [e p]
abbrev eT2 {α β : Type} (e : α → D) (f : β → D) (p : α × β) : D := .tup [e p.1, f p.2]
abbrev eT3 {α β γ : Type} (e : α → D) (f : β → D) (g : γ → D) (p : α × β × γ) : D := .tup [e p.1, f p.2.1, g p.2.2]
abbrev eT4 {α β γ δ : Type} (e : α → D) (f : β → D) (g : γ → D) (h : δ → D) (p : α × β × γ × δ) : D := .tup [e p.1, f p.2.1, g p.2.2.1, h p.2.2.2]
abbrev eT5 {α β γ δ ε : Type} (e : α → D) (f : β → D) (g : γ → D) (h : δ → D) (i : ε → D) (p : α × β × γ × δ × ε) : D := .tup [e p.1, f p.2.1, g p.2.2.1, h p.2.2.2.1, i p.2.2.2.2]
def eO {α : Type} (e : α → D) : Option α → D
  | none => .non
  | some x => e x
@[simp] theorem eO_none {α : Type} {e : α → D} : eO e none = .non := rfl
@[simp] theorem eO_some {α : Type} {e : α → D} {x : α} : eO e (some x) = e x := rfl
def NarOk {α : Type} (n : D → Option α) (e : α → D) : Prop := ∀ d v, n d = some v → d = e v
def nI : D → Option Int
  | .int i => some i
  | _ => none
def nB : D → Option Bool
  | .bl i => some i
  | _ => none
def nSt : D → Option Str
  | .str i => some i
  | _ => none
def nN : D → Option Unit
  | .non => some ()
  | _ => none
def nD : D → Option D := some
def nSq {α : Type} (n : D → Option α) : D → Option (List α)
  | .tup xs => mapG n xs
  | _ => none
def nT1 {α : Type} (n : D → Option α) : D → Option α
  | .tup [a] => n a
  | _ => none
def nT2 {α β : Type} (n : D → Option α) (n2 : D → Option β) : D → Option (α × β)
  | .tup [a, b] => (n a).bind fun x => (n2 b).bind fun y => some (x, y)
  | _ => none
def nT3 {α β γ : Type} (n : D → Option α) (n2 : D → Option β) (n3 : D → Option γ) : D → Option (α × β × γ)
  | .tup [a, b, c] => (n a).bind fun x => (n2 b).bind fun y => (n3 c).bind fun z => some (x, y, z)
  | _ => none
def nT4 {α β γ δ : Type} (n : D → Option α) (n2 : D → Option β) (n3 : D → Option γ) (n4 : D → Option δ) : D → Option (α × β × γ × δ)
  | .tup [a, b, c, d] => (n a).bind fun x => (n2 b).bind fun y => (n3 c).bind fun z => (n4 d).bind fun w => some (x, y, z, w)
  | _ => none
def nO {α : Type} (n : D → Option α) : D → Option (Option α)
  | .non => some none
  | d => (n d).bind fun x => some (some x)
theorem nI_ok : NarOk nI eI := fun d v h => by unfold nI at h; split at h <;> cases h; rfl
theorem nB_ok : NarOk nB eB := fun d v h => by unfold nB at h; split at h <;> cases h; rfl
theorem nSt_ok : NarOk nSt eSt := fun d v h => by unfold nSt at h; split at h <;> cases h; rfl
theorem nN_ok : NarOk nN eN := fun d v h => by unfold nN at h; split at h <;> cases h; rfl
theorem nD_ok : NarOk nD eD := fun d v h => by cases h; rfl
section
variable {α β γ δ : Type} {n : D → Option α} {n2 : D → Option β} {n3 : D → Option γ} {n4 : D → Option δ} {e : α → D} {e2 : β → D} {e3 : γ → D} {e4 : δ → D}
theorem mapG_nar (h : NarOk n e) : ∀ {xs : List D} {ys : List α}, mapG n xs = some ys → xs = ys.map e
  | [], ys, k => by cases k; rfl
  | x :: r, ys, k => by
    unfold mapG at k
    cases hx : n x with
    | none => rw [hx] at k; cases k
    | some y =>
      rw [hx, Option.bind_some] at k
      cases hr : mapG n r with
      | none => rw [hr] at k; cases k
      | some zs =>
        rw [hr] at k
        cases k
        rw [mapG_nar h hr, h x y hx]
        rfl
theorem nSq_ok (h : NarOk n e) : NarOk (nSq n) (eS e) := fun d v k => by
  unfold nSq at k
  split at k
  · rw [mapG_nar h k]
  · cases k
theorem nT1_ok (h : NarOk n e) : NarOk (nT1 n) (eT1 e) := fun d v k => by
  unfold nT1 at k
  split at k
  · rw [h _ _ k]
  · cases k
theorem obind_ok {α β : Type} {o : Option α} {f : α → Option β} {v : β} (h : o.bind f = some v) : ∃ a, o = some a ∧ f a = some v := by
  cases o with
  | none => cases h
  | some a => exact ⟨a, rfl, h⟩
theorem nT2_ok (h : NarOk n e) (h2 : NarOk n2 e2) : NarOk (nT2 n n2) (eT2 e e2) := fun d v k => by
  unfold nT2 at k
  split at k
  · obtain ⟨a, ha, k⟩ := obind_ok k
    obtain ⟨b, hb, k⟩ := obind_ok k
    cases k
    rw [h _ _ ha, h2 _ _ hb]
  · cases k
theorem nT3_ok (h : NarOk n e) (h2 : NarOk n2 e2) (h3 : NarOk n3 e3) : NarOk (nT3 n n2 n3) (eT3 e e2 e3) := fun d v k => by
  unfold nT3 at k
  split at k
  · obtain ⟨a, ha, k⟩ := obind_ok k
    obtain ⟨b, hb, k⟩ := obind_ok k
    obtain ⟨c, hc, k⟩ := obind_ok k
    cases k
    rw [h _ _ ha, h2 _ _ hb, h3 _ _ hc]
  · cases k
theorem nT4_ok (h : NarOk n e) (h2 : NarOk n2 e2) (h3 : NarOk n3 e3) (h4 : NarOk n4 e4) : NarOk (nT4 n n2 n3 n4) (eT4 e e2 e3 e4) := fun d v k => by
  unfold nT4 at k
  split at k
  · obtain ⟨a, ha, k⟩ := obind_ok k
    obtain ⟨b, hb, k⟩ := obind_ok k
    obtain ⟨c, hc, k⟩ := obind_ok k
    obtain ⟨d, hd, k⟩ := obind_ok k
    cases k
    rw [h _ _ ha, h2 _ _ hb, h3 _ _ hc, h4 _ _ hd]
  · cases k
theorem nO_ok (h : NarOk n e) : NarOk (nO n) (eO e) := fun d v k => by
  unfold nO at k
  split at k
  · cases k; rfl
  · obtain ⟨a, ha, k⟩ := obind_ok k
    cases k
    rw [h _ _ ha]
    rfl
end
/-! .. and back again -/
@[simp] theorem nI_e {i : Int} : nI (.int i) = some i := rfl
@[simp] theorem nB_e {i : Bool} : nB (.bl i) = some i := rfl
@[simp] theorem nSt_e {i : Str} : nSt (.str i) = some i := rfl
@[simp] theorem nD_e {i : D} : nD i = some i := rfl
theorem nSq_e {α : Type} {n : D → Option α} {e : α → D} {xs : List α} (h : ∀ x ∈ xs, n (e x) = some x) : nSq n (.tup (xs.map e)) = some xs := by
  show mapG n (xs.map e) = _
  induction xs with
  | nil => rfl
  | cons x r ih =>
    rw [List.map_cons]
    unfold mapG
    rw [h x List.mem_cons_self, Option.bind_some, ih fun y hy => h y (List.mem_cons_of_mem _ hy)]
    rfl
@[simp] theorem nT2_e {α β : Type} {n : D → Option α} {n2 : D → Option β} {a b : D} : nT2 n n2 (.tup [a, b]) = (n a).bind fun x => (n2 b).bind fun y => some (x, y) := rfl
@[simp] theorem nT3_e {α β γ : Type} {n : D → Option α} {n2 : D → Option β} {n3 : D → Option γ} {a b c : D} : nT3 n n2 n3 (.tup [a, b, c]) = (n a).bind fun x => (n2 b).bind fun y => (n3 c).bind fun z => some (x, y, z) := rfl

/-! ### small helpers of the printed proofs -/
theorem hlt {j L : Nat} (h : Nat.ble (j + 1) L = true) : j < L := Nat.le_of_ble_eq_true h
section
variable {α β κ σ : Type} {t t1 t2 t' s s' : List Slot} {j : Nat} {fl fl' : Bool} {a b x y c : A} {z : D} {r : R} {ρ ρ1 ρ2 : Rk} {m n ma mb : SM R} {ms : SM (List R)} {tm tn : SM Bool} {k k' : Bool}
theorem E_eq (h : E m t t' ρ x) (e : x = y) : E m t t' ρ y := e ▸ h
theorem E_let (e : α → A) {v w : α} (hx : v = w) (h : E m t t' ρ (e v)) : E m t t' ρ (e w) := hx ▸ h
theorem E_nar {n : D → Option α} {e : α → D} {d : D} {v : α} (ok : NarOk n e) (h : n d = some v) (q : E m t t' ρ (.d d)) : E m t t' ρ (.d (e v)) := ok d v h ▸ q
theorem E_narO {e : α → D} {o : Option α} {v : α} (h : o = some v) (q : E m t t' ρ (.d (eO e o))) : E m t t' ρ (.d (e v)) := by subst h; exact q
theorem T_and0 {P : Option Bool} {v : Bool} (hv : cond k P (some false) = some v) (h : T tm t t1 k) (h2 : k = true → TQ tn t1 P (fun _ => t1) id) : T (tAndM tm tn) t t1 v := T_andQ (post := fun _ => t1) (val := id) h h2 rfl rfl v hv
theorem T_or0 {P : Option Bool} {v : Bool} (hv : cond k (some true) P = some v) (h : T tm t t1 k) (h2 : k = false → TQ tn t1 P (fun _ => t1) id) : T (tOrM tm tn) t t1 v := T_orQ (post := fun _ => t1) (val := id) h h2 rfl rfl v hv
theorem E_andV0 {p : Bool} {P : Option Bool} {v : Bool} (hv : cond p P (some false) = some v) (h : E m t t1 ρ (.d (.bl p))) (h2 : p = true → EQ n t1 P (fun _ => t1) (fun v => .d (eB v))) : E (mAndV m n) t t1 .vw (.d (eB v)) := E_andVQ (post := fun _ => t1) (val := fun v => .d (eB v)) h h2 rfl rfl v hv
theorem E_orV0 {p : Bool} {P : Option Bool} {v : Bool} (hv : cond p (some true) P = some v) (h : E m t t1 ρ (.d (.bl p))) (h2 : p = false → EQ n t1 P (fun _ => t1) (fun v => .d (eB v))) : E (mOrV m n) t t1 .vw (.d (eB v)) := E_orVQ (post := fun _ => t1) (val := fun v => .d (eB v)) h h2 rfl rfl v hv
theorem E_if0 {P Q : Option α} {v : α} (hv : cond k P Q = some v) (e : α → A) (h : T tm t t1 k) (ha : k = true → EQ m t1 P (fun _ => t2) e) (hb : k = false → EQ n t1 Q (fun _ => t2) e) : E (mIf tm m n) t t2 .vw (e v) := E_ifQ (post := fun _ => t2) (val := e) h ha hb v hv
/-- with a box that changes -/
theorem T_andB {P : Option (Bool × β)} {q : Bool × β} {b0 : β} (hv : cond k P (some (false, b0)) = some q) (tt : β → List Slot) (h : T tm t (tt b0) k) (h2 : k = true → TQ tn (tt b0) P (fun p => tt p.2) (·.1)) : T (tAndM tm tn) t (tt q.2) q.1 := T_andQ (post := fun p => tt p.2) (val := (·.1)) h h2 rfl rfl q hv
theorem T_orB {P : Option (Bool × β)} {q : Bool × β} {b0 : β} (hv : cond k (some (true, b0)) P = some q) (tt : β → List Slot) (h : T tm t (tt b0) k) (h2 : k = false → TQ tn (tt b0) P (fun p => tt p.2) (·.1)) : T (tOrM tm tn) t (tt q.2) q.1 := T_orQ (post := fun p => tt p.2) (val := (·.1)) h h2 rfl rfl q hv
theorem E_ifB {P Q : Option (α × β)} {q : α × β} (hv : cond k P Q = some q) (tt : β → List Slot) (e : α → A) (h : T tm t t1 k) (ha : k = true → EQ m t1 P (fun p => tt p.2) (fun p => e p.1)) (hb : k = false → EQ n t1 Q (fun p => tt p.2) (fun p => e p.1)) : E (mIf tm m n) t (tt q.2) .vw (e q.1) := E_ifQ (post := fun p => tt p.2) (val := fun p => e p.1) h ha hb q hv
inductive Eso : SM (List R) → List Slot → List Slot → List A → Prop
  | nil {t : List Slot} : Eso mNil t t []
  | cons {m : SM R} {ms : SM (List R)} {t t1 t2 : List Slot} {x : A} {xs : List A} : E m t t1 .own x → Eso ms t1 t2 xs → Eso (mCons m ms) t t2 (x :: xs)
theorem eso_run : ∀ {ms : SM (List R)} {t t' s : List Slot} {xs : List A}, Eso ms t t' xs → Sub t s → ∃ s', ms s = some (xs.map (fun a => .val true a), s') ∧ Sub t' s' ∧ ∀ a ∈ xs, isD a = false
  | _, _, _, s, _, .nil, S0 => ⟨s, rfl, S0, by simp⟩
  | _, _, _, s, _, .cons h k, S0 => by
    obtain ⟨r, s1, e1, S1, rfl, hq⟩ := h s S0
    obtain ⟨s2, e2, S2, hd⟩ := eso_run k S1
    refine ⟨s2, by rw [run_mCons, e1, obind_some, run_bnd, e2]; rfl, S2, ?_⟩
    intro a ha
    rcases List.mem_cons.mp ha with rfl | ha
    · exact hq
    · exact hd a ha
theorem ods_own {s : List Slot} : ∀ {xs : List A}, ods (xs.map fun a => R.val true a) s = some xs
  | [] => rfl
  | x :: r => by rw [List.map_cons, ods_cons, ods_own]; rfl
theorem E_lstL {xs : List A} (ha : Eso ms t t' xs) (hz : szB xs.length = true) : E (mLst ms) t t' .own (mkL xs) := fun s S0 => by
  obtain ⟨s1, e1, S1, hd⟩ := eso_run ha S0
  refine ⟨_, s1, ?_, S1, rfl, isD_mkL _⟩
  rw [run_mLst, e1, obind_some, ods_own, seqO_some hz, fin_mkL]
theorem isA_opt {e : α → D} {o : Option α} (h : ∀ v, isNon (.d (e v)) = some false) : isA (.d (eO e o)) (.d .non) = some o.isNone := by
  cases o with
  | none => rfl
  | some v => show isA (.d (e v)) (.d .non) = _; rw [isA_non, h]; rfl
theorem isnA_opt {e : α → D} {o : Option α} (h : ∀ v, isNon (.d (e v)) = some false) : isnA (.d (eO e o)) (.d .non) = some o.isSome := by
  show (isA _ _).map not = _
  rw [isA_opt h]
  cases o <;> rfl
theorem St_setD' (h : E m t t' ρ (.d z)) (hj : Nat.ble (j + 1) t'.length = true) (he : t'.set j (some (false, .d z)) = t2) : St (sSet j m) t t2 := he ▸ St_setD h (hlt hj)
theorem St_setO' (h : E m t t' .own x) (hj : Nat.ble (j + 1) t'.length = true) (he : t'.set j (some (true, x)) = t2) : St (sSet j m) t t2 := he ▸ St_setO h (hlt hj)
theorem St_setV' (h : E m t t' .val x) (hj : Nat.ble (j + 1) t'.length = true) (he : t'.set j (some (false, x)) = t2) : St (sSet j m) t t2 := he ▸ St_setV h (hlt hj)
theorem Put_nm' (h : Nat.ble (j + 1) t.length = true) : Put (.nm j) (.d z) t (t.set j (some (false, .d z))) := Put_nm (hlt h)
theorem Put_nmL' (h : Nat.ble (j + 1) t.length = true) : Put (.nm j) a t (t.set j (some (false, a))) := Put_nmL (hlt h)
theorem St_par' {js : List Nat} {xs : List (Bool × A)} (h : Ess ms t t' xs) (hl : js.length = xs.length) (hj : js.all (fun j => Nat.ble (j + 1) t'.length) = true) (hz : szB xs.length = true) (he : setsT js xs t' = t2) : St (sPar js ms) t t2 := he ▸ St_par h hl (fun j hj2 => hlt (List.all_eq_true.mp hj j hj2)) hz
end
end MM
namespace MM
open PySem PySem.Spec PyProof.Rows L2

abbrev b2n (b : Bool) : Int := if b = true then 1 else 0
abbrev absI (i : Int) : Int := if i < 0 then -i else i
abbrev max2I (i j : Int) : Int := if j > i then j else i
abbrev min2I (i j : Int) : Int := if j < i then j else i
def strO (i : Int) : Option Str := if decide (i.natAbs.log2 < 1920) then some (toString i) else none
theorem strO_val {i : Int} {x : Str} (h : strO i = some x) : strA (.d (.int i)) = some (.d (.str x)) := str_val h
def catS (x y : Str) : Option Str := if szB (x.length + y.length) then some (x ++ y) else none
theorem catS_val {x y z : Str} (h : catS x y = some z) : addA (.d (.str x)) (.d (.str y)) = some (.d (.str z)) := by
  unfold catS at h
  show (if szB (x.length + y.length) then some (A.s (x ++ y)) else none) = _
  split at h
  · rename_i h2; cases h; rw [if_pos h2]
  · cases h
def slS (lo hi : Option Int) (x : Str) : Option Str := if szB x.length then some (cutS x lo hi) else none
theorem slS_val {lo hi : Option Int} {x z : Str} (h : slS lo hi x = some z) : slA lo hi (.d (.str x)) = some (.d (.str z)) := by
  unfold slS at h
  show (if szB x.length then some (A.s (cutS x lo hi)) else none) = _
  split at h
  · rename_i h2; cases h; rw [if_pos h2]
  · cases h
section
variable {α β γ κ σ ρ' : Type} {t t1 t2 t' s s' : List Slot} {j : Nat} {fl fl' : Bool} {a b x y c : A} {z : D} {r : R} {ρ ρ1 ρ2 : Rk} {m n ma mb : SM R} {ms : SM (List R)} {tm tn : SM Bool} {k k' : Bool}
theorem isE_map {α β : Type} {f : α → β} {xs : List α} : (xs.map f).isEmpty = xs.isEmpty := by cases xs <;> rfl
theorem tru_tup {f : α → D} {xs : List α} : truA (.d (.tup (xs.map f))) = some (!xs.isEmpty) := by
  show some (!(xs.map f).isEmpty) = _
  rw [isE_map]
theorem tru_ls {f : α → D} {xs : List α} : truA (.ls (xs.map f)) = some (!xs.isEmpty) := by
  show some (!(xs.map f).isEmpty) = _
  rw [isE_map]
theorem tru_mkL {f : α → A} {xs : List α} : truA (mkL (xs.map f)) = some (!xs.isEmpty) := by
  unfold mkL
  cases h : allD (xs.map f) with
  | none => show some (!(xs.map f).isEmpty) = _; rw [isE_map]
  | some ds =>
    show some (!ds.isEmpty) = _
    have := allD_len h
    cases xs with
    | nil => cases ds <;> simp_all
    | cons x r => cases ds <;> simp_all
theorem int_bl (b : Bool) : intA (.d (.bl b)) = some (.d (.int (cond b 1 0))) := by cases b <;> rfl
def IQ (wi : SM (List A)) (t : List Slot) (P : Option (List γ)) (t2 : List Slot) (enc : γ → A) : Prop := ∀ l, P = some l → It wi t t2 (l.map enc)
theorem IQ_bind {δ : Type} {wi : SM (List A)} {o : Option δ} {P : δ → Option (List γ)} {enc : γ → A} (h : ∀ a, o = some a → IQ wi t (P a) t2 enc) : IQ wi t (o.bind P) t2 enc := fun k e => by
  cases o with
  | none => cases e
  | some a => exact h a rfl k e
theorem IQ_ret {wi : SM (List A)} {l : List γ} {enc : γ → A} (h : It wi t t2 (l.map enc)) : IQ wi t (some l) t2 enc := fun k e => by cases e; exact h
def flat2 (cc : α → Option Bool) (ys1 : α → Option (List γ)) (cc1 : α → γ → Option Bool) (f : α → γ → Option β) (xs : List α) : Option (List β) := flatO cc (fun x => (ys1 x).bind fun l => compG (cc1 x) (f x) l) xs
theorem St_augN {i i2 v : Int} {g : Int → Int → Int} (h0 : t[j]? = some (some (fl, .d (.int i)))) (h : E m t t ρ (.d (.int i2))) (hv : g i i2 = v) (he : t.set j (some (false, .d (.int v))) = t2) : St (sAug j g m) t t2 := he ▸ hv ▸ St_aug h0 h
theorem fNv0 {F : List A → Option A} {o : Option A} (h : F [] = o) : fN 0 F [] = o := h
theorem fNv1 {F : List A → Option A} {o : Option A} {a1 : A} (h : F [a1] = o) : fN 1 F [a1] = o := h
theorem fNv2 {F : List A → Option A} {o : Option A} {a1 a2 : A} (h : F [a1, a2] = o) : fN 2 F [a1, a2] = o := h
theorem fNv3 {F : List A → Option A} {o : Option A} {a1 a2 a3 : A} (h : F [a1, a2, a3] = o) : fN 3 F [a1, a2, a3] = o := h
theorem fNv4 {F : List A → Option A} {o : Option A} {a1 a2 a3 a4 : A} (h : F [a1, a2, a3, a4] = o) : fN 4 F [a1, a2, a3, a4] = o := h
theorem fNv5 {F : List A → Option A} {o : Option A} {a1 a2 a3 a4 a5 : A} (h : F [a1, a2, a3, a4, a5] = o) : fN 5 F [a1, a2, a3, a4, a5] = o := h
theorem fNv6 {F : List A → Option A} {o : Option A} {a1 a2 a3 a4 a5 a6 : A} (h : F [a1, a2, a3, a4, a5, a6] = o) : fN 6 F [a1, a2, a3, a4, a5, a6] = o := h
theorem E_m2oe {g : A → A → Option A} (ha : E m t t1 ρ1 a) (hb : E n t1 t2 ρ2 b) (k : At ρ1 t2 a) (h : g a b = some c) (hc : fin c = .val true c) : E (m2 g m n) t t2 .own c := fun s S => by
  obtain ⟨s', e, S'⟩ := m2_run ha hb (fun r q => rk_vw (rk_at q k)) h S
  exact ⟨_, s', by rw [e, hc], S', rfl, fin_own hc⟩
theorem EQ_tail {P : Option κ} {post : κ → List Slot} {val : κ → A} (h : ∀ a, P = some a → E m t (post a) ρ (val a)) : EQ m t P post val := fun k e => (h k e).vw
theorem EQo_tail {P : Option κ} {post : κ → List Slot} {val : κ → A} (h : ∀ a, P = some a → E m t (post a) .own (val a)) : EQo m t P post val := fun k e => h k e
theorem TQ_tail {P : Option Bool} (h : ∀ a, P = some a → T tm t t1 a) : TQ tm t P (fun _ => t1) id := fun k e => h k e
theorem E_never {v : D} (h : (none : Option D) = some v) : E m t t .val (.d v) := nomatch h
theorem T_post (w : Weak t2 t1) (h : T tm t t1 k) : T tm t t2 k := fun s S => by
  obtain ⟨s', e, S'⟩ := h s S
  exact ⟨s', e, S'.weak w⟩
theorem It_post {mi : SM (List A)} {its : List A} (w : Weak t2 t1) (h : It mi t t1 its) : It mi t t2 its := fun s S => by
  obtain ⟨s', e, S'⟩ := h s S
  exact ⟨s', e, S'.weak w⟩
theorem E_postD (w : Weak t2 t1) (h : E m t t1 .val (.d z)) : E m t t2 .val (.d z) := fun s S => by
  obtain ⟨r, s', e, S', k⟩ := h s S
  exact ⟨r, s', e, S'.weak w, k⟩
theorem E_nP {g : List A → Option A} {xs : List A} (h : g xs = some (.d z)) (ha : Es ms t t' xs) : E (mN g ms) t t' .val (.d z) := E_n ha h
theorem E_noP {g : List A → Option A} {xs : List A} (h : g xs = some c) (hc : fin c = .val true c) (ha : Es ms t t' xs) : E (mN g ms) t t' .own c := E_no ha h hc
theorem f1v {g : A → Option A} {o : Option A} (h : g a = o) : f1 g [a] = o := h
/-! with the state behind it as an equation -/
theorem E_append' {f : α → D} {xs ys : List α} {v : α} (h : pushO xs v = some ys) (h0 : t[j]? = some (some (true, .ls (xs.map f)))) (hm : E m t t1 ρ (.d (f v))) (h1 : t1[j]? = some (some (true, .ls (xs.map f)))) (he : t1.set j (some (true, .ls (ys.map f))) = t2) : E (mAppend j m) t t2 .val (.d .non) := he ▸ E_append h h0 hm h1
theorem E_appendL' {f : α → A} {xs ys : List α} {v : α} (h : pushO xs v = some ys) (hd : ∀ y, isD (f y) = false) (h0 : t[j]? = some (some (true, mkL (xs.map f)))) (hm : E m t t1 .own (f v)) (h1 : t1[j]? = some (some (true, mkL (xs.map f)))) (he : t1.set j (some (true, mkL (ys.map f))) = t2) : E (mAppend j m) t t2 .val (.d .non) := he ▸ E_appendL h hd h0 hm h1
theorem E_extend' {f : α → D} {xs ys zs : List α} (h : catO xs ys = some zs) (h0 : t[j]? = some (some (true, .ls (xs.map f)))) (hm : E m t t1 ρ (.ls (ys.map f))) (h1 : t1[j]? = some (some (true, .ls (xs.map f)))) (he : t1.set j (some (true, .ls (zs.map f))) = t2) : E (mExtend j m) t t2 .val (.d .non) := he ▸ E_extend h h0 hm h1
theorem E_pop' {f : α → D} {xs : List α} {q : α × List α} (h : popO xs = some q) (h0 : t[j]? = some (some (true, .ls (xs.map f)))) (he : t.set j (some (true, .ls (q.2.map f))) = t2) : E (mPop j) t t2 .val (.d (f q.1)) := he ▸ E_pop h h0
theorem E_popAt' {f : α → D} {xs : List α} {i : Int} {q : α × List α} (h : popAtO xs i = some q) (h0 : t[j]? = some (some (true, .ls (xs.map f)))) (hm : E m t t ρ (.d (.int i))) (he : t.set j (some (true, .ls (q.2.map f))) = t2) : E (mPopAt j m) t t2 .val (.d (f q.1)) := he ▸ E_popAt h h0 hm
theorem E_appendIx' {f : α → D} {xs ys : List (List α)} {n : Nat} {i : Int} {v : α} (h : pushIxO xs i v = some ys) (h0 : t[j]? = some (some (true, mkL (xs.map fun r => .ls (r.map f))))) (hn : t[n]? = some (some (fl, .d (f v)))) (hm : E m t t ρ (.d (.int i))) (he : t.set j (some (true, mkL (ys.map fun r => .ls (r.map f)))) = t2) : E (mAppendIx j n m) t t2 .val (.d .non) := he ▸ E_appendIx h h0 hn hm
theorem E_draw' {b0 b : Bx} {i : Int} {q : Int × Bx} (h : drawO b i = some q) (h0 : t[j]? = some (some (true, eBx b0))) (hm : Es ms t t1 [.d (.int i)]) (h1 : t1[j]? = some (some (true, eBx b))) (he : t1.set j (some (true, eBx q.2)) = t2) : E (mCallB 2 F__law_draw j ms) t t2 .val (.d (.int q.1)) := he ▸ E_draw h0 hm h1 h
theorem E_callB' {G : A → List D → Option (D × A)} {n : Nat} {ds : List D} {b0 b b' : A} {c : D} (hG : G b ds = some (c, b')) (h0 : t[j]? = some (some (true, b0))) (ha : Es ms t t1 (ds.map .d)) (h1 : t1[j]? = some (some (true, b))) (hn : ds.length + 1 = n) (hb : isD b' = false) (he : t1.set j (some (true, b')) = t2) : E (mCallB n G j ms) t t2 .val (.d c) := he ▸ E_callB h0 ha h1 hn hG hb
theorem E_ixL' (ha : E m t t1 (.pk j) a) (hb : E n t1 t1 ρ2 b) (h : ixA a b = some c) (hc : isD c = false) (ha' : isD a = false) (he : t1.set j (some (false, a)) = t2) : E (mIx m n) t t2 .val c := he ▸ E_ixL ha hb h hc ha'
theorem It_iterN' {its : List A} (h : E m t t' (.pk j) x) (hi : iterA x = some its) (he : t'.set j (some (false, x)) = t2) : It (mIter m) t t2 its := he ▸ It_iterN h hi
theorem It_enumN' {its : List A} (h : E m t t' (.pk j) x) (hi : enA x = some its) (he : t'.set j (some (false, x)) = t2) : It (mEnum m) t t2 its := he ▸ It_enumN h hi
theorem It_zipN' {its : List A} (ha : E m t t1 (.pk j) a) (hb : E n t1 t1 ρ2 b) (h : zipA a b = some its) (h2 : Free ρ2 b) (he : t1.set j (some (false, a)) = t2) : It (mZip m n) t t2 its := he ▸ It_zipN ha hb h h2
theorem St_setIx' {i : Int} {l' l : A} {mi me : SM R} (h : setA l i z = some l') (hl : isL (some (some (true, l))) = true) (hd : E me t t1 ρ (.d z)) (h0 : t1[j]? = some (some (true, l))) (hi : E mi t1 t1 ρ2 (.d (.int i))) (hl2 : isD l' = false) (he : t1.set j (some (true, l')) = t2) : St (sSetIx j mi me) t t2 := he ▸ St_setIx hl hd h0 hi h hl2
theorem hgL_F {er : ρ' → A} {tt : σ → List Slot} {v : ρ'} {f : Fl} (h : IF er v f s) (hn : f ≠ .nx) : IL (IF er) tt (.out v) f s := by
  refine ⟨h, ?_⟩
  cases f with
  | rt fl a => exact ⟨fl, a, rfl⟩
  | nx => exact (hn rfl).elim
  | bk => rcases h with ⟨f, z, h, _⟩ | h | ⟨h, _⟩ <;> cases h
  | ct => rcases h with ⟨f, z, h, _⟩ | h | ⟨h, _⟩ <;> cases h
theorem hgL_B {er : ρ' → D} {eb : β → A} {tt : σ → List Slot} {v : ρ' × β} {f : Fl} (h : IB er eb v f s) (hn : f ≠ .nx) : IL (IB er eb) tt (.out v) f s := by
  refine ⟨h, ?_⟩
  cases f with
  | rt fl a => exact ⟨fl, a, rfl⟩
  | nx => exact (hn rfl).elim
  | bk => rcases h.1 with ⟨f, h⟩ | ⟨h, _⟩ <;> cases h
  | ct => rcases h.1 with ⟨f, h⟩ | ⟨h, _⟩ <;> cases h
theorem listD_val {v : D} {xs : List D} (h : itO v = some xs) : listA (.d v) = some (.ls (xs.map eD)) := by
  unfold itO at h
  split at h
  · cases h
    show some (A.ls xs) = _
    rw [List.map_id']
  · cases h
def catLO (xs ys : List α) : Option (List α) := if decide (xs.length + ys.length ≤ 16777216) && (!xs.isEmpty && !ys.isEmpty) then some (xs ++ ys) else none
theorem E_catL {f : α → A} {xs ys zs : List α} (hd : ∀ y, isD (f y) = false) (ha : E m t t1 .own (mkL (xs.map f))) (hb : E n t1 t2 .own (mkL (ys.map f))) (h : catLO xs ys = some zs) : E (mCatL m n) t t2 .own (mkL (zs.map f)) := fun s S0 => by
  unfold catLO at h
  split at h
  · rename_i h2
    cases h
    simp only [Bool.and_eq_true, decide_eq_true_eq] at h2
    obtain ⟨hz, h3, h4⟩ := h2
    have key : ∀ zs : List α, (!zs.isEmpty) = true → mkL (zs.map f) = .lst (zs.map f) := fun zs h => by
      cases zs with
      | nil => cases h
      | cons z r => exact mkL_lst (hd z) (by simp)
    rw [key xs h3] at ha
    rw [key ys h4] at hb
    rw [key (xs ++ ys) (by cases xs <;> simp_all), List.map_append]
    obtain ⟨r1, s1, e1, S1, rfl, _⟩ := ha s S0
    obtain ⟨r2, s2, e2, S2, rfl, _⟩ := hb s1 S1
    refine ⟨_, s2, ?_, S2, rfl, rfl⟩
    unfold mCatL
    rw [run_bnd, e1, obind_some, run_bnd, e2, obind_some]
    simp only [List.length_map]
    rw [if_pos (szB_of hz)]
  · cases h
def repO (xs : List α) (k : Int) : Option (List α) := if decide (k < 2 ^ 63 ∧ -(2 ^ 63) ≤ k) && szB (xs.length * k.toNat) then some (List.replicate k.toNat xs).flatten else none
theorem rep_val {f : α → D} {xs ys : List α} {k : Int} (h : repO xs k = some ys) : mulA (.ls (xs.map f)) (.d (.int k)) = some (.ls (ys.map f)) := by
  unfold repO at h
  show (if decide (k < 2 ^ 63 ∧ -(2 ^ 63) ≤ k) && szB ((xs.map f).length * k.toNat) then some (A.ls (List.replicate k.toNat (xs.map f)).flatten) else none) = _
  rw [List.length_map]
  split at h
  · rename_i h2
    cases h
    rw [if_pos h2, List.map_flatten, List.map_replicate]
  · cases h
def repT (xs : List α) (k : Int) : Option (List α) := if decide (2 ≤ k ∧ k ≤ 1000 ∧ xs.length ≤ 1000) && !xs.isEmpty then some (List.replicate k.toNat xs).flatten else none
theorem repT_val {f : α → D} {xs ys : List α} {k : Int} (h : repT xs k = some ys) : mulA (.d (.tup (xs.map f))) (.d (.int k)) = some (.d (.tup (ys.map f))) := by
  unfold repT at h
  show (if decide (2 ≤ k ∧ k ≤ 1000 ∧ (xs.map f).length ≤ 1000) && !(xs.map f).isEmpty then some (A.t (List.replicate k.toNat (xs.map f)).flatten) else none) = _
  rw [List.length_map, isE_map]
  split at h
  · rename_i h2
    cases h
    rw [if_pos h2, List.map_flatten, List.map_replicate]
  · cases h
end
end MM
namespace MM
open PySem PySem.Spec PyProof.Rows L2

/-! ### _law_same of two lists of data -/
theorem isi_lsT {xs : List D} : fIsi .tuple [.ls xs, .d (.opq (.ty "tuple"))] = some (.d (.bl false)) := rfl
theorem isi_lsL {xs : List D} : fIsi .list [.ls xs, .d (.opq (.ty "list"))] = some (.d (.bl true)) := rfl
theorem ix_lsE {xs : List D} {k : Nat} (h : k < xs.length) : ixA (.ls xs) (.d (.int (k : Int))) = some (.d (xs.getD k .non)) := ix_tup h
theorem same_compL {n : Nat} {F : List A → Option A} (ih : SameAt n F) {xs ys : List D} (hx : ∀ x ∈ xs, okD n x = true) (hy : ∀ x ∈ ys, okD n x = true) (hz : xs.length ≤ 16777216) (hl : xs.length = ys.length) :
    (mComp [2] (mRange1 (mCons (mN (f1 lenA) (mCons (mV 0) mNil)) mNil)) (.nm 2) tYesM (mN (fN 2 F) (mCons (mIx (mV 0) (mV 2)) (mCons (mIx (mV 1) (mV 2)) mNil)))) [some (false, .ls xs), some (false, .ls ys), none] =
      some (.val true (.ls ((List.range xs.length).map fun k => .bl (sameN n (xs.getD k .non) (ys.getD k .non)))), [some (false, .ls xs), some (false, .ls ys), none]) := by
  have e1 : (mRange1 (mCons (mN (f1 lenA) (mCons (mV 0) mNil)) mNil)) [some (false, .ls xs), some (false, .ls ys), none] = some ((List.range xs.length).map (fun k : Nat => A.d (.int ((0 : Int) + (k : Nat)))), [some (false, .ls xs), some (false, .ls ys), none]) := by
    have h0 : (mN (f1 lenA) (mCons (mV 0) mNil)) [some (false, .ls xs), some (false, .ls ys), none] = some (.val false (.d (.int xs.length)), [some (false, .ls xs), some (false, .ls ys), none]) := by simp
    refine (run_range1 h0 rfl (rgB_of (by omega) (by omega))).trans ?_
    rfl
  have e2 := run_compM (ws := [2]) (t := .nm 2) (tt := tYesM) (te := mN (fN 2 F) (mCons (mIx (mV 0) (mV 2)) (mCons (mIx (mV 1) (mV 2)) mNil))) (fun k : Nat => A.d (.int ((0 : Int) + (k : Nat)))) (fun _ => true) (fun k => D.bl (sameN n (xs.getD k .non) (ys.getD k .non))) e1 (fun k hk => by
    have hk := List.mem_range.mp hk
    refine ⟨[some (false, .ls xs), some (false, .ls ys), some (false, .d (.int ((0 : Int) + (k : Nat))))], putI_nm (by simp [wipeA]), rfl, rfl, fun _ => ⟨.val false (.d (.bl (sameN n (xs.getD k .non) (ys.getD k .non)))), ?_, rfl⟩⟩
    have ex : okD n (xs.getD k .non) = true := hx _ (by simp [List.getD_eq_getElem?_getD, hk])
    have ey : okD n (ys.getD k .non) = true := hy _ (by simp [List.getD_eq_getElem?_getD, hl ▸ hk])
    have ih := ih _ _ ex ey
    simp only [List.getD_eq_getElem?_getD] at ih
    simp only [Int.zero_add]
    simp [ixO_d (ix_lsE hk), ixO_d (ix_lsE (hl ▸ hk)), ih]) (by simp; exact hz)
  rw [e2, filter_yes]
  rfl
theorem same_ls1 {n : Nat} {F : List A → Option A} {xs ys : List D} (hl : xs.length = ys.length) {zs : List D} {b : Bool}
    (hc : (mComp [2] (mRange1 (mCons (mN (f1 lenA) (mCons (mV 0) mNil)) mNil)) (.nm 2) tYesM (mN (fN 2 F) (mCons (mIx (mV 0) (mV 2)) (mCons (mIx (mV 1) (mV 2)) mNil)))) [some (false, .ls xs), some (false, .ls ys), none] = some (.val true (.ls zs), [some (false, .ls xs), some (false, .ls ys), none]))
    (e1 : allA (.ls zs) = some (.d (.bl b))) : endF (m__law_same F [some (false, .ls xs), some (false, .ls ys), none]) = some (.d (.bl b)) := by
  have e0 : decide ((xs.length : Int) = ys.length) = true := decide_eq_true (by omega)
  unfold m__law_same
  generalize mComp [2] (mRange1 (mCons (mN (f1 lenA) (mCons (mV 0) mNil)) mNil)) (.nm 2) tYesM (mN (fN 2 F) (mCons (mIx (mV 0) (mV 2)) (mCons (mIx (mV 1) (mV 2)) mNil))) = mm at hc ⊢
  simp (implicitDefEqProofs := false) only [run_sSeq, run_sIf, run_tOrM, run_tAndM, run_mTru, run_mN, run_mCons, run_mV, List.getElem?_cons_zero, List.getElem?_cons_succ, peekO_some, obind_some, run_bnd, run_mC, run_mNil, run_ret, run_appN, rvs_cons, rvs_nil, rv_peek, rvO_some, rv_val, ocons_some, Option.bind_some, isi_lsT, isi_lsL, iteM_f, iteM_t, Option.map_some, ofin_some, fin_d, run_tru1, truA_bl, okB_some, decide_true, Bool.true_or, iteM_t, run_sRet, run_mAndV, run_asV, run_tCmpM, f1_one, lenA_ls, run_cmp2, bind2_some, eqA_int, e0, boolOf_val, andO_t, hc, e1, useM_val, seqF_rt]
  rfl
theorem same_ls2 {F : List A → Option A} {xs ys : List D} (h2 : decide ((xs.length : Int) = ys.length) = false) :
    endF (m__law_same F [some (false, .ls xs), some (false, .ls ys), none]) = some (.d (.bl false)) := by
  unfold m__law_same
  generalize mComp [2] (mRange1 (mCons (mN (f1 lenA) (mCons (mV 0) mNil)) mNil)) (.nm 2) tYesM (mN (fN 2 F) (mCons (mIx (mV 0) (mV 2)) (mCons (mIx (mV 1) (mV 2)) mNil))) = mm
  simp (implicitDefEqProofs := false) only [run_sSeq, run_sIf, run_tOrM, run_tAndM, run_mTru, run_mN, run_mCons, run_mV, List.getElem?_cons_zero, List.getElem?_cons_succ, peekO_some, obind_some, run_bnd, run_mC, run_mNil, run_ret, run_appN, rvs_cons, rvs_nil, rv_peek, rvO_some, rv_val, ocons_some, Option.bind_some, isi_lsT, isi_lsL, iteM_f, iteM_t, Option.map_some, ofin_some, fin_d, run_tru1, truA_bl, okB_some, decide_true, Bool.true_or, iteM_t, run_sRet, run_mAndV, run_asV, run_tCmpM, f1_one, lenA_ls, run_cmp2, bind2_some, eqA_int, h2, boolOf_val, andO_f, useM_val, seqF_rt]
  rfl
theorem same_ls {n : Nat} {xs ys : List D} (hx : ∀ x ∈ xs, okD n x = true) (hy : ∀ x ∈ ys, okD n x = true) (hz : xs.length ≤ 16777216) :
    F__law_same (n + 1) [.ls xs, .ls ys] = some (.d (.bl (sameN (n + 1) (.tup xs) (.tup ys)))) := by
  show endF (m__law_same (F__law_same n) [some (false, .ls xs), some (false, .ls ys), none]) = _
  by_cases hl : xs.length = ys.length
  · have e := same_ls1 (n := n) hl (same_compL (same_run n) hx hy hz hl) all_bl
    rw [e, sameN_tup]
    rw [show (xs.length == ys.length) = true from beq_iff_eq.mpr hl, Bool.true_and]
  · rw [same_ls2 (decide_eq_false (by clear hz; omega)), sameN_tup, show (xs.length == ys.length) = false from beq_eq_false_iff_ne.mpr hl, Bool.false_and]
def sameLO (xs ys : List D) : Option Bool := if xs.all (okD 69) && (ys.all (okD 69) && szB xs.length) then some (sameN 70 (.tup xs) (.tup ys)) else none
theorem sameL_val {α β : Type} {f : α → D} {g : β → D} {xs : List α} {ys : List β} {k : Bool} (h : sameLO (xs.map f) (ys.map g) = some k) : F__law_same 70 [.ls (xs.map f), .ls (ys.map g)] = some (.d (.bl k)) := by
  unfold sameLO at h
  split at h
  · rename_i h2
    cases h
    rw [Bool.and_eq_true, Bool.and_eq_true, List.all_eq_true, List.all_eq_true] at h2
    exact same_ls h2.1 h2.2.1 (of_decide_eq_true h2.2.2)
  · cases h
end MM
namespace MM
open PySem PySem.Spec PyProof.Rows L2

/-! ### the plain side: how typed functions are reckoned with -/
section
variable {α β γ σ ρ : Type}
theorem forO_nil {f : α → σ → Option σ} {st : σ} : forO f [] st = some st := rfl
theorem forO_cons {f : α → σ → Option σ} {st : σ} {x : α} {r : List α} : forO f (x :: r) st = (f x st).bind (forO f r) := rfl
theorem forO_fold {f : α → σ → Option σ} {g : α → σ → σ} : ∀ {xs : List α} {st : σ}, (∀ x ∈ xs, ∀ st, f x st = some (g x st)) → forO f xs st = some (xs.foldl (fun s x => g x s) st)
  | [], _, _ => rfl
  | x :: r, st, h => by
    rw [forO_cons, h x List.mem_cons_self, Option.bind_some, forO_fold fun y hy => h y (List.mem_cons_of_mem _ hy)]
    rfl
/-- step by step -/
theorem forO_ok {f : α → σ → Option σ} {xs : List α} {st : σ} (Inv : Nat → σ → Prop) (h0 : Inv 0 st) (h : ∀ (i : Nat) (x : α) (st : σ), xs[i]? = some x → Inv i st → ∃ st', f x st = some st' ∧ Inv (i + 1) st') : ∃ st', forO f xs st = some st' ∧ Inv xs.length st' := by
  have gen : ∀ (k i : Nat) (st : σ), xs.length = i + k → Inv i st → ∃ st', forO f (xs.drop i) st = some st' ∧ Inv xs.length st' := by
    intro k
    induction k with
    | zero =>
      intro i st e hs
      rw [List.drop_eq_nil_of_le (by omega)]
      exact ⟨st, rfl, by rw [e]; exact hs⟩
    | succ k ih =>
      intro i st e hs
      have hi : i < xs.length := by omega
      obtain ⟨s1, e1, h1⟩ := h i xs[i] st (List.getElem?_eq_getElem hi) hs
      rw [List.drop_eq_getElem_cons hi, forO_cons, e1]
      exact ih (i + 1) s1 (by omega) h1
  have := gen xs.length 0 st (by omega) h0
  rwa [List.drop_zero] at this
theorem forO_inv {f : α → σ → Option σ} {xs : List α} {st : σ} (Inv : σ → Prop) (h0 : Inv st) (h : ∀ x ∈ xs, ∀ st, Inv st → ∃ st', f x st = some st' ∧ Inv st') : ∃ st', forO f xs st = some st' ∧ Inv st' :=
  forO_ok (fun _ => Inv) h0 fun _ x st e => h x (List.mem_of_getElem? e) st
theorem forX_nil {f : α → σ → Option (Lp ρ σ)} {st : σ} : forX f [] st = some (.inr st) := rfl
theorem forX_cons {f : α → σ → Option (Lp ρ σ)} {st : σ} {x : α} {r : List α} : forX f (x :: r) st = (f x st).bind (lpK (forX f r)) := rfl
/-- a loop that nothing ends early -/
theorem forX_ok {f : α → σ → Option (Lp ρ σ)} {xs : List α} {st : σ} (Inv : Nat → σ → Prop) (h0 : Inv 0 st) (h : ∀ (i : Nat) (x : α) (st : σ), xs[i]? = some x → Inv i st → ∃ st', f x st = some (.go st') ∧ Inv (i + 1) st') : ∃ st', forX f xs st = some (.inr st') ∧ Inv xs.length st' := by
  have gen : ∀ (k i : Nat) (st : σ), xs.length = i + k → Inv i st → ∃ st', forX f (xs.drop i) st = some (.inr st') ∧ Inv xs.length st' := by
    intro k
    induction k with
    | zero =>
      intro i st e hs
      rw [List.drop_eq_nil_of_le (by omega)]
      exact ⟨st, rfl, by rw [e]; exact hs⟩
    | succ k ih =>
      intro i st e hs
      have hi : i < xs.length := by omega
      obtain ⟨s1, e1, h1⟩ := h i xs[i] st (List.getElem?_eq_getElem hi) hs
      rw [List.drop_eq_getElem_cons hi, forX_cons, e1]
      exact ih (i + 1) s1 (by omega) h1
  have := gen xs.length 0 st (by omega) h0
  rwa [List.drop_zero] at this
theorem forX_inv {f : α → σ → Option (Lp ρ σ)} {xs : List α} {st : σ} (Inv : σ → Prop) (h0 : Inv st) (h : ∀ x ∈ xs, ∀ st, Inv st → ∃ st', f x st = some (.go st') ∧ Inv st') : ∃ st', forX f xs st = some (.inr st') ∧ Inv st' :=
  forX_ok (fun _ => Inv) h0 fun _ x st e => h x (List.mem_of_getElem? e) st
/-- a search: the first that is bad ends it -/
theorem forX_find {f : α → Unit → Option (Lp ρ Unit)} {bad : α → Bool} {v : ρ} : ∀ {xs : List α}, (∀ x ∈ xs, f x () = some (if bad x then .out v else .go ())) → forX f xs () = some (if xs.any bad then .inl v else .inr ())
  | [], _ => rfl
  | x :: r, h => by
    rw [forX_cons, h x List.mem_cons_self, Option.bind_some]
    cases hb : bad x with
    | true => simp [hb]
    | false =>
      simp only [List.any_cons, hb, Bool.false_or]
      exact forX_find fun y hy => h y (List.mem_cons_of_mem _ hy)
theorem forX_unit {f : α → Unit → Option (Lp ρ Unit)} : ∀ {xs : List α}, (∀ x ∈ xs, f x () = some (.go ())) → forX f xs () = some (.inr ())
  | [], _ => rfl
  | x :: r, h => by
    rw [forX_cons, h x List.mem_cons_self, Option.bind_some, lpK_go]
    exact forX_unit fun y hy => h y (List.mem_cons_of_mem _ hy)
theorem bind_forX {f : α → σ → Option (Lp ρ σ)} {xs : List α} {st : σ} {Q : ρ ⊕ σ → Option β} {v : β} (Inv : σ → Prop) (h0 : Inv st) (h : ∀ x ∈ xs, ∀ st, Inv st → ∃ st', f x st = some (.go st') ∧ Inv st') (k : ∀ st', Inv st' → Q (.inr st') = some v) : (forX f xs st).bind Q = some v := by
  obtain ⟨s, e, hs⟩ := forX_inv Inv h0 h
  rw [e]
  exact k s hs
theorem mapS_ok {f : α → σ → Option (β × σ)} {P : β → Prop} (Inv : σ → Prop) : ∀ {xs : List α} {st : σ}, Inv st → xs.length ≤ 16777216 → (∀ x ∈ xs, ∀ st, Inv st → ∃ y st', f x st = some (y, st') ∧ P y ∧ Inv st') → ∃ ys st', mapS f xs st = some (ys, st') ∧ Inv st' ∧ ys.length = xs.length ∧ ∀ y ∈ ys, P y
  | [], st, h, _, _ => ⟨[], st, rfl, h, rfl, by simp⟩
  | x :: r, st, h, hz, hf => by
    obtain ⟨y, s1, e1, p1, h1⟩ := hf x List.mem_cons_self st h
    rw [List.length_cons] at hz
    obtain ⟨ys, s2, e2, h2, l2, p2⟩ := mapS_ok Inv (xs := r) h1 (by omega) fun z hz => hf z (List.mem_cons_of_mem _ hz)
    refine ⟨y :: ys, s2, ?_, h2, by simp [l2], fun z hz => ?_⟩
    · unfold mapS
      rw [e1, Option.bind_some, e2, Option.bind_some, if_pos (by simp only; omega)]
    · rcases List.mem_cons.mp hz with rfl | hz
      · exact p1
      · exact p2 z hz
theorem mapG_some {f : α → Option β} {g : α → β} : ∀ {xs : List α}, (∀ x ∈ xs, f x = some (g x)) → mapG f xs = some (xs.map g)
  | [], _ => rfl
  | x :: r, h => by
    unfold mapG
    rw [h x List.mem_cons_self, Option.bind_some, mapG_some fun y hy => h y (List.mem_cons_of_mem _ hy)]
    rfl
theorem capL_of {ys : List β} (h : ys.length ≤ 16777216) : capL ys = some ys := by unfold capL; rw [if_pos h]
theorem mapO_some {f : α → Option β} {g : α → β} {xs : List α} (h : ∀ x ∈ xs, f x = some (g x)) (hz : xs.length ≤ 16777216) : mapO f xs = some (xs.map g) := by
  unfold mapO
  rw [mapG_some h]
  exact capL_of (by simpa using hz)
theorem mapP_some {f : α → β} {xs : List α} (hz : xs.length ≤ 16777216) : mapP f xs = some (xs.map f) := capL_of (by simpa using hz)
theorem mapO_ex {f : α → Option β} {P : α → β → Prop} : ∀ {xs : List α}, (∀ x ∈ xs, ∃ y, f x = some y ∧ P x y) → xs.length ≤ 16777216 → ∃ ys, mapO f xs = some ys ∧ ys.length = xs.length ∧ ∀ (i : Nat) x, xs[i]? = some x → ∃ y, ys[i]? = some y ∧ P x y := by
  intro xs h hz
  have gen : ∀ xs : List α, (∀ x ∈ xs, ∃ y, f x = some y ∧ P x y) → ∃ ys, mapG f xs = some ys ∧ ys.length = xs.length ∧ ∀ (i : Nat) x, xs[i]? = some x → ∃ y, ys[i]? = some y ∧ P x y := by
    intro xs
    induction xs with
    | nil => intro _; exact ⟨[], rfl, rfl, by simp⟩
    | cons x r ih =>
      intro h
      obtain ⟨y, e, p⟩ := h x List.mem_cons_self
      obtain ⟨ys, e2, l, q⟩ := ih fun z hz => h z (List.mem_cons_of_mem _ hz)
      refine ⟨y :: ys, ?_, by simp [l], fun i z hi => ?_⟩
      · unfold mapG
        rw [e, Option.bind_some, e2]
        rfl
      · cases i with
        | zero => simp at hi; subst hi; exact ⟨y, rfl, p⟩
        | succ i => simp at hi ⊢; exact q i z hi
  obtain ⟨ys, e, l, q⟩ := gen xs h
  refine ⟨ys, ?_, l, q⟩
  unfold mapO
  rw [e]
  exact capL_of (by omega)
theorem catO_some {xs ys : List α} (h : xs.length + ys.length ≤ 16777216) : catO xs ys = some (xs ++ ys) := by unfold catO; rw [if_pos h]
theorem pushO_some {xs : List α} {v : α} (h : xs.length < 16777216) : pushO xs v = some (xs ++ [v]) := by unfold pushO; rw [if_pos h]
theorem ixN_nat {n k : Nat} (h : k < n) : ixN n (k : Int) = some k := by
  unfold ixN
  rw [if_pos (by omega), if_pos (by omega)]
  simp
theorem ixN_nat' {n k : Nat} : ixN n (k : Int) = if k < n then some k else none := by
  by_cases h : k < n
  · rw [if_pos h, ixN_nat h]
  · unfold ixN
    rw [if_pos (by omega), if_neg (by omega), if_neg h]
theorem atI_nat {xs : List α} {k : Nat} : atI xs (k : Int) = xs[k]? := by
  unfold atI
  rw [ixN_nat']
  by_cases h : k < xs.length
  · rw [if_pos h]; rfl
  · rw [if_neg h]; simp; omega
theorem atI_of {xs : List α} {i : Int} {k : Nat} (e : i = (k : Nat)) : atI xs i = xs[k]? := by rw [e, atI_nat]
@[simp] theorem atI_0 {x : α} {xs : List α} : atI (x :: xs) 0 = some x := atI_of (k := 0) rfl
@[simp] theorem atI_1 {x y : α} {xs : List α} : atI (x :: y :: xs) 1 = some y := atI_of (k := 1) rfl
@[simp] theorem atI_2 {x y z : α} {xs : List α} : atI (x :: y :: z :: xs) 2 = some z := atI_of (k := 2) rfl
@[simp] theorem atI_3 {x y z w : α} {xs : List α} : atI (x :: y :: z :: w :: xs) 3 = some w := atI_of (k := 3) rfl
theorem atI_last {xs : List α} (h : xs ≠ []) : atI xs (-1) = some (xs.getLast h) := by
  unfold atI ixN
  have hl := List.length_pos_iff.mpr h
  rw [if_neg (by omega), if_pos (by omega)]
  have : ((-1 : Int) + (xs.length : Nat)).toNat = xs.length - 1 := by omega
  rw [this, Option.bind_some, ← List.getLast?_eq_getElem?, List.getLast?_eq_some_getLast h]
theorem atI_mem {xs : List α} {i : Int} {x : α} (h : atI xs i = some x) : x ∈ xs := by
  unfold atI at h
  obtain ⟨k, _, h⟩ := obind_ok h
  exact List.mem_of_getElem? h
theorem cut_from {xs : List α} {k : Nat} : cutL xs (some (k : Int)) none = xs.drop k := by
  unfold cutL
  have e1 : HT.sIx xs.length xs.length none = xs.length := rfl
  rw [e1, HT.sIx_nat]
  rcases Nat.le_total xs.length k with h | h
  · rw [Nat.min_eq_right h, List.drop_eq_nil_of_le h, List.drop_eq_nil_of_le (Nat.le_refl _)]; simp
  · rw [Nat.min_eq_left h, List.take_of_length_le (by simp)]
theorem cut_to {xs : List α} {k : Nat} : cutL xs none (some (k : Int)) = xs.take k := cutL_to
theorem cut_mid {xs : List α} {i j : Nat} : cutL xs (some (i : Int)) (some (j : Int)) = (xs.drop i).take (j - i) := by
  unfold cutL
  rw [HT.sIx_nat, HT.sIx_nat]
  rcases Nat.le_total xs.length i with h | h
  · rw [Nat.min_eq_right h, List.drop_eq_nil_of_le (Nat.le_refl _), List.drop_eq_nil_of_le h]; simp
  · rw [Nat.min_eq_left h]
    rcases Nat.le_total xs.length j with h2 | h2
    · rw [Nat.min_eq_right h2, List.take_of_length_le (by simp), List.take_of_length_le (by simp; omega)]
    · rw [Nat.min_eq_left h2]
theorem cut_mid' {xs : List α} {i j : Int} {a b : Nat} (e : i = (a : Nat)) (e2 : j = (b : Nat)) : cutL xs (some i) (some j) = (xs.drop a).take (b - a) := by rw [e, e2, cut_mid]
@[simp] theorem cut_1 {x : α} {xs : List α} : cutL (x :: xs) (some 1) none = xs := cut_from (k := 1)
theorem cut_init {xs : List α} : cutL xs none (some (-1)) = xs.dropLast := by
  unfold cutL
  have e1 : HT.sIx xs.length 0 none = 0 := rfl
  rw [e1, List.drop_zero, List.dropLast_eq_take]
  have e2 : HT.sIx xs.length xs.length (some (-1)) = xs.length - 1 := by
    unfold HT.sIx
    simp
    omega
  rw [e2]
  rfl
theorem rgO_of {i : Int} (h0 : -4000000000000000000 ≤ i) (h : i < 4000000000000000000) : rgO i = some () := by unfold rgO; rw [rgB_of h0 h]; rfl
theorem rangeT_len {lo : Int} {n : Nat} : (rangeT lo n).length = n := by simp [rangeT]
theorem rangeT_get {lo : Int} {n i : Nat} (h : i < n) : (rangeT lo n)[i]? = some (lo + (i : Nat)) := by simp [rangeT, h]
theorem rangeT_mem {lo : Int} {n : Nat} {x : Int} : x ∈ rangeT lo n ↔ lo ≤ x ∧ x < lo + n := by
  unfold rangeT
  simp only [List.mem_map, List.mem_range]
  constructor
  · rintro ⟨k, h, rfl⟩; omega
  · rintro ⟨h1, h2⟩; exact ⟨(x - lo).toNat, by omega, by omega⟩
theorem rangeT_succ {lo : Int} {n : Nat} : rangeT lo (n + 1) = lo :: rangeT (lo + 1) n := by
  unfold rangeT
  rw [List.range_succ_eq_map, List.map_cons, List.map_map]
  congr 1
  · simp
  · apply List.map_congr_left; intro k _; simp; omega
theorem rangeT_zero {lo : Int} : rangeT lo 0 = [] := rfl
theorem mulO_l {a b : Int} (h : a.natAbs < 2 ^ 60) : mulO a b = some (a * b) := by
  unfold mulO
  rw [mulB_l (by omega)]
  rfl
theorem mulO_r {a b : Int} (h : b.natAbs < 2 ^ 60) : mulO a b = some (a * b) := by
  unfold mulO
  rw [mulB_r (by omega)]
  rfl
theorem fdivO_of {a b : Int} (h0 : 0 < b) (h : b < 1073741824) : fdivO a b = some (a.fdiv b) := by unfold fdivO; rw [divB_of h0 h]; rfl
theorem modO_of {a b : Int} (h0 : b ≠ 0) : modO a b = some (a.fmod b) := by unfold modO; rw [if_neg h0]
/-- neighbours by their places -/
theorem forO_pairs {F : α → α → σ → Option σ} : ∀ {xs pre : List α} {st : σ}, forO (fun (k : Int) s => (atI (pre ++ xs) k).bind fun x => (atI (pre ++ xs) (k + 1)).bind fun y => F x y s) (rangeT pre.length (xs.length - 1)) st = forO (fun p s => F p.1 p.2 s) (xs.zip xs.tail) st
  | [], _, _ => rfl
  | [x], _, _ => rfl
  | x :: y :: r, pre, st => by
    show forO _ (rangeT pre.length (r.length + 1)) st = forO _ ((x, y) :: (y :: r).zip r) st
    rw [rangeT_succ, forO_cons, forO_cons]
    have e1 : atI (pre ++ x :: y :: r) (pre.length : Int) = some x := by rw [atI_nat]; simp
    have e2 : atI (pre ++ x :: y :: r) ((pre.length : Int) + 1) = some y := by rw [atI_of (k := pre.length + 1) (by omega)]; simp [List.getElem?_append_right]
    rw [e1, Option.bind_some, e2, Option.bind_some]
    congr 1
    funext s
    have := forO_pairs (F := F) (xs := y :: r) (pre := pre ++ [x]) (st := s)
    have e3 : pre ++ [x] ++ y :: r = pre ++ x :: y :: r := by simp
    rw [e3] at this
    have e4 : ((pre ++ [x]).length : Int) = (pre.length : Int) + 1 := by simp
    rw [e4] at this
    exact this
theorem forO_pairs0 {F : α → α → σ → Option σ} {xs : List α} {st : σ} {n : Nat} (hn : n = xs.length - 1) : forO (fun (k : Int) s => (atI xs k).bind fun x => (atI xs (k + 1)).bind fun y => F x y s) (rangeT 0 n) st = forO (fun p s => F p.1 p.2 s) (xs.zip xs.tail) st := by
  rw [hn]
  exact forO_pairs (pre := [])
theorem mapG_pairs {F : α → α → Option β} : ∀ {xs pre : List α}, mapG (fun (k : Int) => (atI (pre ++ xs) k).bind fun x => (atI (pre ++ xs) (k + 1)).bind fun y => F x y) (rangeT pre.length (xs.length - 1)) = mapG (fun p => F p.1 p.2) (xs.zip xs.tail)
  | [], _ => rfl
  | [x], _ => rfl
  | x :: y :: r, pre => by
    show mapG _ (rangeT pre.length (r.length + 1)) = mapG _ ((x, y) :: (y :: r).zip r)
    rw [rangeT_succ]
    unfold mapG
    have e1 : atI (pre ++ x :: y :: r) (pre.length : Int) = some x := by rw [atI_nat]; simp
    have e2 : atI (pre ++ x :: y :: r) ((pre.length : Int) + 1) = some y := by rw [atI_of (k := pre.length + 1) (by omega)]; simp [List.getElem?_append_right]
    rw [e1, Option.bind_some, e2, Option.bind_some]
    have := mapG_pairs (F := F) (xs := y :: r) (pre := pre ++ [x])
    have e3 : pre ++ [x] ++ y :: r = pre ++ x :: y :: r := by simp
    rw [e3] at this
    have e4 : ((pre ++ [x]).length : Int) = (pre.length : Int) + 1 := by simp
    rw [e4] at this
    congr 1
    funext z
    have t2 : mapG (fun (k : Int) => (atI (pre ++ x :: y :: r) k).bind fun u => (atI (pre ++ x :: y :: r) (k + 1)).bind fun v => F u v) (rangeT ((pre.length : Int) + 1) r.length) = mapG (fun p => F p.1 p.2) ((y :: r).zip r) := this
    rw [t2]
theorem mapO_pairs0 {F : α → α → Option β} {xs : List α} {n : Nat} (hn : n = xs.length - 1) : mapO (fun (k : Int) => (atI xs k).bind fun x => (atI xs (k + 1)).bind fun y => F x y) (rangeT 0 n) = mapO (fun p => F p.1 p.2) (xs.zip xs.tail) := by
  rw [hn]
  unfold mapO
  have : mapG (fun (k : Int) => (atI xs k).bind fun x => (atI xs (k + 1)).bind fun y => F x y) (rangeT 0 (xs.length - 1)) = mapG (fun p => F p.1 p.2) (xs.zip xs.tail) := mapG_pairs (pre := [])
  rw [this]
/-! while -/
theorem whileO_ok {c : σ → Option Bool} {b : σ → Option σ} (Inv : σ → Prop) (μ : σ → Nat) (hc : ∀ st, Inv st → ∃ k, c st = some k) (hb : ∀ st, Inv st → c st = some true → ∃ st', b st = some st' ∧ Inv st' ∧ μ st' < μ st) : ∀ {st : σ}, Inv st → ∃ st', whileO c b st = some st' ∧ Inv st' ∧ c st' = some false := by
  have gen : ∀ (n : Nat) (st : σ), μ st < n → Inv st → ∃ st', whF c b n st = some st' ∧ Inv st' ∧ c st' = some false := by
    intro n
    induction n with
    | zero => intro st h; omega
    | succ n ih =>
      intro st hm hi
      obtain ⟨k, ek⟩ := hc st hi
      unfold whF
      rw [ek, Option.bind_some]
      cases k with
      | false => exact ⟨st, rfl, hi, ek⟩
      | true =>
        obtain ⟨s1, e1, h1, h2⟩ := hb st hi ek
        obtain ⟨s2, e2, h3⟩ := ih s1 (by omega) h1
        exact ⟨s2, by rw [cond_true, e1]; exact e2, h3⟩
  intro st hi
  obtain ⟨s2, e2, h⟩ := gen (μ st + 1) st (by omega) hi
  exact ⟨s2, whileO_iff.mpr ⟨_, e2⟩, h⟩
theorem whileO_step {c : σ → Option Bool} {b : σ → Option σ} {st s1 s2 : σ} (h : c st = some true) (h1 : b st = some s1) (h2 : whileO c b s1 = some s2) : whileO c b st = some s2 := by
  obtain ⟨n, e⟩ := whileO_iff.mp h2
  refine whileO_iff.mpr ⟨n + 1, ?_⟩
  unfold whF
  rw [h, Option.bind_some, cond_true, h1]
  exact e
theorem whileO_end {c : σ → Option Bool} {b : σ → Option σ} {st : σ} (h : c st = some false) : whileO c b st = some st := by
  refine whileO_iff.mpr ⟨1, ?_⟩
  unfold whF
  rw [h]
  rfl
theorem whileX_step {c : σ → Option Bool} {b : σ → Option (Lp ρ σ)} {st s1 : σ} {r : ρ ⊕ σ} (h : c st = some true) (h1 : b st = some (.go s1)) (h2 : whileX c b s1 = some r) : whileX c b st = some r := by
  obtain ⟨n, e⟩ := whileX_iff.mp h2
  refine whileX_iff.mpr ⟨n + 1, ?_⟩
  unfold whG
  rw [h, Option.bind_some, cond_true, h1]
  exact e
theorem whileX_go {c : σ → Option Bool} {b : σ → Option (Lp ρ σ)} {st s1 : σ} (h : c st = some true) (h1 : b st = some (.go s1)) : whileX c b st = whileX c b s1 := by
  have key : ∀ r, whileX c b st = some r ↔ whileX c b s1 = some r := fun r => by
    rw [whileX_iff, whileX_iff]
    constructor
    · rintro ⟨n, e⟩
      cases n with
      | zero => cases e
      | succ n =>
        unfold whG at e
        rw [h, Option.bind_some, cond_true, h1] at e
        exact ⟨n, e⟩
    · rintro ⟨n, e⟩
      refine ⟨n + 1, ?_⟩
      unfold whG
      rw [h, Option.bind_some, cond_true, h1]
      exact e
  exact Option.ext fun r => key r
theorem whileX_out {c : σ → Option Bool} {b : σ → Option (Lp ρ σ)} {st : σ} {r : ρ} (h : c st = some true) (h1 : b st = some (.out r)) : whileX c b st = some (.inl r) := by
  refine whileX_iff.mpr ⟨1, ?_⟩
  unfold whG
  rw [h, Option.bind_some, cond_true, h1]
  rfl
theorem whileX_stop {c : σ → Option Bool} {b : σ → Option (Lp ρ σ)} {st s1 : σ} (h : c st = some true) (h1 : b st = some (.stop s1)) : whileX c b st = some (.inr s1) := by
  refine whileX_iff.mpr ⟨1, ?_⟩
  unfold whG
  rw [h, Option.bind_some, cond_true, h1]
  rfl
theorem whileX_end {c : σ → Option Bool} {b : σ → Option (Lp ρ σ)} {st : σ} (h : c st = some false) : whileX c b st = some (.inr st) := by
  refine whileX_iff.mpr ⟨1, ?_⟩
  unfold whG
  rw [h]
  rfl
theorem cond_some {a b : Bool} {x y : α} : (cond a (some x) (some y)) = some (cond a x y) := by cases a <;> rfl
theorem cond_and {a b : Bool} : (cond a (some b) (some false)) = some (a && b) := by cases a <;> rfl
theorem cond_or {a b : Bool} : (cond a (some true) (some b)) = some (a || b) := by cases a <;> rfl
end
/-! dynamic looks -/
@[simp] theorem isO_int {u : Ty} {i : Int} : isO u (.int i) = some (isT (some .int) u) := rfl
@[simp] theorem isO_bl {u : Ty} {i : Bool} : isO u (.bl i) = some (isT (some .bool) u) := rfl
@[simp] theorem isO_str {u : Ty} {i : Str} : isO u (.str i) = some (isT (some .str) u) := rfl
@[simp] theorem isO_tup {u : Ty} {xs : List D} : isO u (.tup xs) = some (isT (some .tuple) u) := rfl
@[simp] theorem isO_non {u : Ty} : isO u .non = some (isT none u) := rfl
@[simp] theorem lenO_tup {xs : List D} : lenO (.tup xs) = some ((xs.length : Nat) : Int) := rfl
@[simp] theorem itO_tup {xs : List D} : itO (.tup xs) = some xs := rfl
theorem op2_ix {xs : List D} {i : Int} : op2O ixA (.tup xs) (.int i) = atI xs i := by
  unfold op2O
  show (match (atI xs i).map A.d with | some (.d z) => some z | _ => none) = _
  cases atI xs i <;> rfl
@[simp] theorem op1_rev {xs : List D} : op1O revA (.tup xs) = some (.tup xs.reverse) := rfl
@[simp] theorem slO_tup {lo hi : Option Int} {xs : List D} : slO lo hi (.tup xs) = some (.tup (cutL xs lo hi)) := rfl
theorem op2_cat {xs ys : List D} (h : xs.length + ys.length ≤ 16777216) : op2O addA (.tup xs) (.tup ys) = some (.tup (xs ++ ys)) := by
  unfold op2O
  show (match (if szB (xs.length + ys.length) then some (A.t (xs ++ ys)) else none) with | some (.d z) => some z | _ => none) = _
  rw [if_pos (szB_of h)]
@[simp] theorem isT_tt : isT (some .tuple) .tuple = true := rfl
@[simp] theorem isT_it : isT (some .int) .tuple = false := rfl
@[simp] theorem isT_bt : isT (some .bool) .tuple = false := rfl
@[simp] theorem isT_st : isT (some .str) .tuple = false := rfl
@[simp] theorem isT_nt : isT none .tuple = false := rfl
@[simp] theorem isT_ti : isT (some .tuple) .int = false := rfl
@[simp] theorem isT_ii : isT (some .int) .int = true := rfl
@[simp] theorem isT_bi : isT (some .bool) .int = true := rfl
@[simp] theorem isT_si : isT (some .str) .int = false := rfl
@[simp] theorem isT_ni : isT none .int = false := rfl
@[simp] theorem isT_tb : isT (some .tuple) .bool = false := rfl
@[simp] theorem isT_ib : isT (some .int) .bool = false := rfl
@[simp] theorem isT_bb : isT (some .bool) .bool = true := rfl
@[simp] theorem isT_sb : isT (some .str) .bool = false := rfl
@[simp] theorem isT_nb : isT none .bool = false := rfl
@[simp] theorem isT_ts : isT (some .tuple) .str = false := rfl
@[simp] theorem isT_is : isT (some .int) .str = false := rfl
@[simp] theorem isT_bs : isT (some .bool) .str = false := rfl
@[simp] theorem isT_ss : isT (some .str) .str = true := rfl
@[simp] theorem isT_ns : isT none .str = false := rfl
end MM
namespace MM
open PySem PySem.Spec PyProof.Rows L2

/-! ### data of bounded size -/
def okb (B : Nat) : Nat → D → Bool
  | 0, _ => false
  | n + 1, .tup xs => xs.all (okb B n) && decide (xs.length ≤ B)
  | _ + 1, .int i => decide (i.natAbs ≤ B)
  | _ + 1, .str x => PyData.strOk x
  | _ + 1, .bl _ => true
  | _ + 1, .non => true
  | _ + 1, .opq _ => false
  | _ + 1, .scr _ => false
section
variable {B B' n n' : Nat} {d : D}
theorem okb_tup {xs : List D} : okb B (n + 1) (.tup xs) = true ↔ (∀ x ∈ xs, okb B n x = true) ∧ xs.length ≤ B := by
  show (xs.all (okb B n) && decide (xs.length ≤ B)) = true ↔ _
  rw [Bool.and_eq_true, List.all_eq_true, decide_eq_true_eq]
theorem okb_int {i : Int} : okb B (n + 1) (.int i) = true ↔ i.natAbs ≤ B := by unfold okb; rw [decide_eq_true_eq]
theorem okb_mono : ∀ {n n' : Nat} {d : D}, okb B n d = true → B ≤ B' → n ≤ n' → okb B' n' d = true
  | 0, _, _, h, _, _ => by cases h
  | n + 1, 0, _, _, _, h => by omega
  | n + 1, n' + 1, .tup xs, h, hB, hn => by
    rw [okb_tup] at h ⊢
    exact ⟨fun x hx => okb_mono (h.1 x hx) hB (by omega), by omega⟩
  | n + 1, n' + 1, .int i, h, hB, hn => by
    rw [okb_int] at h ⊢
    omega
  | n + 1, n' + 1, .str x, h, _, _ => h
  | n + 1, n' + 1, .bl x, h, _, _ => rfl
  | n + 1, n' + 1, .non, h, _, _ => rfl
  | n + 1, n' + 1, .opq _, h, _, _ => by cases h
  | n + 1, n' + 1, .scr _, h, _, _ => by cases h
theorem depthAll_le {ds : List PyData} {m : Nat} (h : ∀ d ∈ ds, d.depth ≤ m) : PyData.depthAll ds ≤ m := by
  induction ds with
  | nil => simp [PyData.depthAll]
  | cons d r ih =>
    unfold PyData.depthAll
    have := h d List.mem_cons_self
    have := ih fun x hx => h x (List.mem_cons_of_mem _ hx)
    omega
theorem okb_pd : ∀ {n : Nat} {d : D}, okb B n d = true → ∃ p, toPD d = some p ∧ p.canLay0 = true ∧ p.depth ≤ n
  | 0, _, h => by cases h
  | n + 1, .tup xs, h => by
    rw [okb_tup] at h
    have gen : ∀ xs : List D, (∀ x ∈ xs, okb B n x = true) → ∃ ps, toPDs xs = some ps ∧ (∀ p ∈ ps, p.canLay0 = true ∧ p.depth ≤ n) := by
      intro xs
      induction xs with
      | nil => intro _; exact ⟨[], by simp [toPDs], by simp⟩
      | cons x r ih =>
        intro h
        obtain ⟨p, e1, h1⟩ := okb_pd (h x List.mem_cons_self)
        obtain ⟨ps, e2, h2⟩ := ih fun y hy => h y (List.mem_cons_of_mem _ hy)
        refine ⟨p :: ps, ?_, ?_⟩
        · unfold toPDs
          rw [e1, e2]
        · intro q hq
          rcases List.mem_cons.mp hq with rfl | hq
          · exact h1
          · exact h2 q hq
    obtain ⟨ps, e, hp⟩ := gen xs h.1
    refine ⟨.tuple ps, toPD_tup e, ?_, ?_⟩
    · unfold PyData.canLay0
      exact canAll fun d hd => (hp d hd).1
    · unfold PyData.depth
      have := depthAll_le (ds := ps) (m := n) fun d hd => (hp d hd).2
      omega
  | n + 1, .int i, h => ⟨.int i, toPD_int, rfl, by simp [PyData.depth]⟩
  | n + 1, .str x, h => ⟨.str x, toPD_str h, h, by simp [PyData.depth]⟩
  | n + 1, .bl x, h => ⟨.bool x, toPD_bl, rfl, by simp [PyData.depth]⟩
  | n + 1, .non, h => ⟨.none, by unfold toPD; rfl, rfl, by simp [PyData.depth]⟩
  | n + 1, .opq _, h => by cases h
  | n + 1, .scr _, h => by cases h
mutual
/-- == of data -/
def eqD : D → D → Bool
  | .non, .non => true
  | .bl a, .bl b => a == b
  | .bl a, .int j => (if a then 1 else 0) == j
  | .int i, .bl b => i == (if b then 1 else 0)
  | .int i, .int j => i == j
  | .str x, .str y => x == y
  | .tup xs, .tup ys => eqDs xs ys
  | _, _ => false
def eqDs : List D → List D → Bool
  | [], [] => true
  | x :: xs, y :: ys => eqD x y && eqDs xs ys
  | _, _ => false
end
theorem eqv_eqD : ∀ {n : Nat} {a b : D} {p q : PyData}, okb B n a = true → toPD a = some p → toPD b = some q → PyData.eqv p q = eqD a b
  | 0, _, _, _, _, h, _, _ => by cases h
  | n + 1, .tup xs, b, p, q, h, ea, eb => by
    rw [okb_tup] at h
    have gen : ∀ (xs ys : List D) (ps qs : List PyData), (∀ x ∈ xs, okb B n x = true) → toPDs xs = some ps → toPDs ys = some qs → PyData.eqvAll ps qs = eqDs xs ys := by
      intro xs
      induction xs with
      | nil =>
        intro ys ps qs _ e1 e2
        unfold toPDs at e1
        cases e1
        cases ys with
        | nil => unfold toPDs at e2; cases e2; simp [PyData.eqvAll, eqDs]
        | cons y r =>
          unfold toPDs at e2
          split at e2
          · cases e2; simp [PyData.eqvAll, eqDs]
          · cases e2
      | cons x r ih =>
        intro ys ps qs h e1 e2
        unfold toPDs at e1
        split at e1
        · rename_i d ds h1 h2
          cases e1
          cases ys with
          | nil => unfold toPDs at e2; cases e2; simp [PyData.eqvAll, eqDs]
          | cons y r2 =>
            unfold toPDs at e2
            split at e2
            · rename_i d' ds' h3 h4
              cases e2
              unfold PyData.eqvAll eqDs
              rw [eqv_eqD (h x List.mem_cons_self) h1 h3, ih r2 ds ds' (fun z hz => h z (List.mem_cons_of_mem _ hz)) h2 h4]
            · cases e2
        · cases e1
    unfold toPD at ea
    cases hx : toPDs xs with
    | none => rw [hx] at ea; cases ea
    | some ps =>
      rw [hx] at ea
      cases ea
      cases b with
      | tup ys =>
        unfold toPD at eb
        cases hy : toPDs ys with
        | none => rw [hy] at eb; cases eb
        | some qs =>
          rw [hy] at eb
          cases eb
          show PyData.eqvAll ps qs = _
          rw [gen xs ys ps qs h.1 hx hy]
          simp [eqD]
      | str x => unfold toPD at eb; split at eb <;> cases eb; simp [PyData.eqv, eqD]
      | non => unfold toPD at eb; cases eb; simp [PyData.eqv, eqD]
      | bl x => unfold toPD at eb; cases eb; simp [PyData.eqv, eqD]
      | int x => unfold toPD at eb; cases eb; simp [PyData.eqv, eqD]
      | opq x => unfold toPD at eb; cases eb
      | scr x => unfold toPD at eb; cases eb
  | n + 1, .int i, b, p, q, h, ea, eb => by
    rw [toPD_int] at ea; cases ea
    cases b with
    | tup ys => unfold toPD at eb; cases hy : toPDs ys with
      | none => rw [hy] at eb; cases eb
      | some qs => rw [hy] at eb; cases eb; simp [PyData.eqv, eqD]
    | str x => unfold toPD at eb; split at eb <;> cases eb; simp [PyData.eqv, eqD]
    | non => unfold toPD at eb; cases eb; simp [PyData.eqv, eqD]
    | bl x => unfold toPD at eb; cases eb; simp [PyData.eqv, eqD]
    | int x => unfold toPD at eb; cases eb; simp [PyData.eqv, eqD]
    | opq x => unfold toPD at eb; cases eb
    | scr x => unfold toPD at eb; cases eb
  | n + 1, .str i, b, p, q, h, ea, eb => by
    rw [toPD_str h] at ea; cases ea
    cases b with
    | tup ys => unfold toPD at eb; cases hy : toPDs ys with
      | none => rw [hy] at eb; cases eb
      | some qs => rw [hy] at eb; cases eb; simp [PyData.eqv, eqD]
    | str x => unfold toPD at eb; split at eb <;> cases eb; simp [PyData.eqv, eqD]
    | non => unfold toPD at eb; cases eb; simp [PyData.eqv, eqD]
    | bl x => unfold toPD at eb; cases eb; simp [PyData.eqv, eqD]
    | int x => unfold toPD at eb; cases eb; simp [PyData.eqv, eqD]
    | opq x => unfold toPD at eb; cases eb
    | scr x => unfold toPD at eb; cases eb
  | n + 1, .bl i, b, p, q, h, ea, eb => by
    rw [toPD_bl] at ea; cases ea
    cases b with
    | tup ys => unfold toPD at eb; cases hy : toPDs ys with
      | none => rw [hy] at eb; cases eb
      | some qs => rw [hy] at eb; cases eb; simp [PyData.eqv, eqD]
    | str x => unfold toPD at eb; split at eb <;> cases eb; simp [PyData.eqv, eqD]
    | non => unfold toPD at eb; cases eb; simp [PyData.eqv, eqD]
    | bl x => unfold toPD at eb; cases eb; simp [PyData.eqv, eqD]
    | int x => unfold toPD at eb; cases eb; simp [PyData.eqv, eqD]
    | opq x => unfold toPD at eb; cases eb
    | scr x => unfold toPD at eb; cases eb
  | n + 1, .non, b, p, q, h, ea, eb => by
    unfold toPD at ea; cases ea
    cases b with
    | tup ys => unfold toPD at eb; cases hy : toPDs ys with
      | none => rw [hy] at eb; cases eb
      | some qs => rw [hy] at eb; cases eb; simp [PyData.eqv, eqD]
    | str x => unfold toPD at eb; split at eb <;> cases eb; simp [PyData.eqv, eqD]
    | non => unfold toPD at eb; cases eb; simp [PyData.eqv, eqD]
    | bl x => unfold toPD at eb; cases eb; simp [PyData.eqv, eqD]
    | int x => unfold toPD at eb; cases eb; simp [PyData.eqv, eqD]
    | opq x => unfold toPD at eb; cases eb
    | scr x => unfold toPD at eb; cases eb
  | n + 1, .opq _, _, _, _, h, _, _ => by cases h
  | n + 1, .scr _, _, _, _, h, _, _ => by cases h
theorem okb_shaped {p : PyData} {n : Nat} (h1 : p.canLay0 = true) (h2 : p.depth ≤ n) (hn : n ≤ 64) : SeqAt.shaped p = true := by
  unfold SeqAt.shaped
  rw [h1, decide_eq_true (by omega)]
  rfl
theorem eqA_okb {B2 n2 : Nat} {a b : D} (ha : okb B n a = true) (hb : okb B2 n2 b = true) (hn : n ≤ 64) (hn2 : n2 ≤ 64) : eqA (.d a) (.d b) = some (eqD a b) := by
  obtain ⟨p, e1, c1, d1⟩ := okb_pd ha
  obtain ⟨q, e2, c2, d2⟩ := okb_pd hb
  unfold eqA
  show (match toPD a, toPD b with
    | some d, some e => if SeqAt.shaped d && SeqAt.shaped e then some (PyData.eqv d e) else none
    | _, _ => none) = _
  rw [e1, e2]
  simp only [okb_shaped c1 d1 hn, okb_shaped c2 d2 hn2, Bool.and_self, if_true, eqv_eqD ha e1 e2]
theorem neA_okb {B2 n2 : Nat} {a b : D} (ha : okb B n a = true) (hb : okb B2 n2 b = true) (hn : n ≤ 64) (hn2 : n2 ≤ 64) : neA (.d a) (.d b) = some (!eqD a b) := by
  unfold neA
  rw [eqA_okb ha hb hn hn2]
  rfl
theorem okD_okb : ∀ {n : Nat} {d : D}, okb B n d = true → B ≤ 16777216 → okD n d = true
  | 0, _, h, _ => by cases h
  | n + 1, .tup xs, h, hB => by
    rw [okb_tup] at h
    unfold okD
    rw [Bool.and_eq_true, List.all_eq_true]
    exact ⟨fun x hx => okD_okb (h.1 x hx) hB, szB_of (by omega)⟩
  | n + 1, .int i, _, _ => rfl
  | n + 1, .str x, h, _ => h
  | n + 1, .bl x, _, _ => rfl
  | n + 1, .non, _, _ => rfl
  | n + 1, .opq _, h, _ => by cases h
  | n + 1, .scr _, h, _ => by cases h
end
theorem strOk_ofString (s : String) : PyData.strOk (Str.ofString s) = true := by
  rw [Str.ofString_eq_toList]
  unfold PyData.strOk
  rw [Array.all_eq_true_iff_forall_mem]
  intro x hx
  simp at hx
  obtain ⟨c, _, rfl⟩ := hx
  have := c.valid
  rw [decide_eq_true_eq]
  unfold UInt32.isValidChar Nat.isValidChar at this
  have : c.toNat = c.val.toNat := rfl
  omega
theorem strO_of {i : Int} (h : i.natAbs < 2 ^ 1000) : strO i = some (Str.ofString (toString i)) := by
  unfold strO
  rw [decide_eq_true (?_)]
  · rfl
  · rcases Nat.eq_zero_or_pos i.natAbs with z | z
    · rw [z]; decide
    · exact Nat.lt_trans ((Nat.log2_lt (by omega)).mpr h) (by decide)
/-! _law_same of typed values -/
theorem sameN_int {n : Nat} {i j : Int} : sameN (n + 1) (.int i) (.int j) = decide (i = j) := by unfold sameN; rfl
theorem sameN_bl {n : Nat} {i j : Bool} : sameN (n + 1) (.bl i) (.bl j) = (i == j) := by unfold sameN; rfl
theorem sameO_int {i j : Int} : sameO (.int i) (.int j) = some (decide (i = j)) := rfl
theorem sameO_bl {i j : Bool} : sameO (.bl i) (.bl j) = some (i == j) := rfl
theorem sameN_refl {B : Nat} : ∀ {n : Nat} {d : D}, okb B n d = true → sameN n d d = true
  | 0, _, h => by cases h
  | n + 1, .tup xs, h => by
    rw [okb_tup] at h
    rw [sameN_tup]
    simp only [BEq.rfl, Bool.true_and, List.all_eq_true, List.mem_range]
    intro k hk
    have : xs.getD k .non ∈ xs := by
      rw [List.getD_eq_getElem?_getD, List.getElem?_eq_getElem hk]
      exact List.getElem_mem hk
    exact sameN_refl (h.1 _ this)
  | n + 1, .int i, _ => by unfold sameN; simp
  | n + 1, .str x, h => by unfold sameN; simp
  | n + 1, .bl x, _ => by unfold sameN; simp
  | n + 1, .non, _ => by unfold sameN; rfl
  | n + 1, .opq _, h => by cases h
  | n + 1, .scr _, h => by cases h
/-- equal values are the same -/
theorem sameO_refl {B n : Nat} {d : D} (h : okb B n d = true) (hn : n ≤ 70) (hB : B ≤ 16777216) : sameO d d = some true := by
  have h70 := okb_mono h (Nat.le_refl B) hn
  unfold sameO
  have := okD_okb h70 hB
  rw [this, sameN_refl h70]
  rfl
end MM
namespace MM
open PySem PySem.Spec PyProof.Rows L2
def topS (i : Nat) : Stmt := PySem.Challenge.pw_marksrounded_k67_whole_waiting_that_help.main.body.getD i (.Pass ⟨0, 0, 0, 0⟩)
abbrev st_divisor_of : Stmt := topS 1
abbrev N_divisor_of : List Str := ["a", "b"]
theorem sc_divisor_of : FnScope N_divisor_of ["a", "b"] (defScope st_divisor_of) := ⟨rfl, rfl, rfl, by decide +kernel, rfl, by decide +kernel, by decide +kernel⟩
abbrev st_ratio : Stmt := topS 2
abbrev N_ratio : List Str := ["p", "q", "d"]
theorem sc_ratio : FnScope N_ratio ["p", "q"] (defScope st_ratio) := ⟨rfl, rfl, rfl, by decide +kernel, rfl, by decide +kernel, by decide +kernel⟩
abbrev st_whole : Stmt := topS 3
abbrev N_whole : List Str := ["n"]
theorem sc_whole : FnScope N_whole ["n"] (defScope st_whole) := ⟨rfl, rfl, rfl, by decide +kernel, rfl, by decide +kernel, by decide +kernel⟩
abbrev st_plus : Stmt := topS 4
abbrev N_plus : List Str := ["one", "other"]
theorem sc_plus : FnScope N_plus ["one", "other"] (defScope st_plus) := ⟨rfl, rfl, rfl, by decide +kernel, rfl, by decide +kernel, by decide +kernel⟩
abbrev st_minus : Stmt := topS 5
abbrev N_minus : List Str := ["one", "other"]
theorem sc_minus : FnScope N_minus ["one", "other"] (defScope st_minus) := ⟨rfl, rfl, rfl, by decide +kernel, rfl, by decide +kernel, by decide +kernel⟩
abbrev st_times : Stmt := topS 6
abbrev N_times : List Str := ["one", "other"]
theorem sc_times : FnScope N_times ["one", "other"] (defScope st_times) := ⟨rfl, rfl, rfl, by decide +kernel, rfl, by decide +kernel, by decide +kernel⟩
abbrev st_over : Stmt := topS 7
abbrev N_over : List Str := ["one", "other"]
theorem sc_over : FnScope N_over ["one", "other"] (defScope st_over) := ⟨rfl, rfl, rfl, by decide +kernel, rfl, by decide +kernel, by decide +kernel⟩
abbrev st_less : Stmt := topS 8
abbrev N_less : List Str := ["one", "other"]
theorem sc_less : FnScope N_less ["one", "other"] (defScope st_less) := ⟨rfl, rfl, rfl, by decide +kernel, rfl, by decide +kernel, by decide +kernel⟩
abbrev st_whole_hour : Stmt := topS 10
abbrev N_whole_hour : List Str := ["when"]
theorem sc_whole_hour : FnScope N_whole_hour ["when"] (defScope st_whole_hour) := ⟨rfl, rfl, rfl, by decide +kernel, rfl, by decide +kernel, by decide +kernel⟩
abbrev st_leg_end : Stmt := topS 11
abbrev N_leg_end : List Str := ["row", "length", "start", "anchored", "left", "here", "k", "speed", "rest", "made"]
theorem sc_leg_end : FnScope N_leg_end ["row", "length", "start", "anchored"] (defScope st_leg_end) := ⟨rfl, rfl, rfl, by decide +kernel, rfl, by decide +kernel, by decide +kernel⟩
abbrev st_latest_start : Stmt := topS 12
abbrev N_latest_start : List Str := ["row", "length", "end", "left", "here", "k", "speed", "made"]
theorem sc_latest_start : FnScope N_latest_start ["row", "length", "end"] (defScope st_latest_start) := ⟨rfl, rfl, rfl, by decide +kernel, rfl, by decide +kernel, by decide +kernel⟩
abbrev st_drift_starts : Stmt := topS 13
abbrev N_drift_starts : List Str := ["row", "start", "last", "found", "k"]
theorem sc_drift_starts : FnScope N_drift_starts ["row", "start", "last"] (defScope st_drift_starts) := ⟨rfl, rfl, rfl, by decide +kernel, rfl, by decide +kernel, by decide +kernel⟩
abbrev st_best_drift : Stmt := topS 14
abbrev N_best_drift : List Str := ["row", "length", "start", "best", "here", "end"]
theorem sc_best_drift : FnScope N_best_drift ["row", "length", "start"] (defScope st_best_drift) := ⟨rfl, rfl, rfl, by decide +kernel, rfl, by decide +kernel, by decide +kernel⟩
abbrev st_turning_starts : Stmt := topS 16
abbrev N_turning_starts : List Str := ["row", "length", "k", "found", "start"]
theorem sc_turning_starts : FnScope N_turning_starts ["row", "length"] (defScope st_turning_starts) := ⟨rfl, rfl, rfl, by decide +kernel, rfl, by decide +kernel, by decide +kernel⟩
abbrev st_quickest_start : Stmt := topS 15
abbrev N_quickest_start : List Str := ["row", "length", "best", "here", "end", "hours"]
theorem sc_quickest_start : FnScope N_quickest_start ["row", "length"] (defScope st_quickest_start) := ⟨rfl, rfl, rfl, by decide +kernel, rfl, by decide +kernel, by decide +kernel⟩
abbrev st__law_box : Stmt := topS 18
abbrev N__law_box : List Str := ["script"]
theorem sc__law_box : FnScope N__law_box ["script"] (defScope st__law_box) := ⟨rfl, rfl, rfl, by decide +kernel, rfl, by decide +kernel, by decide +kernel⟩
abbrev st__law_load : Stmt := topS 19
abbrev N__law_load : List Str := ["box", "cells", "cell", "size", "first", "second"]
theorem sc__law_load : FnScope N__law_load ["box"] (defScope st__law_load) := ⟨rfl, rfl, rfl, by decide +kernel, rfl, by decide +kernel, by decide +kernel⟩
abbrev st__law_draw : Stmt := topS 20
abbrev N__law_draw : List Str := ["box", "many", "digit"]
theorem sc__law_draw : FnScope N__law_draw ["box", "many"] (defScope st__law_draw) := ⟨rfl, rfl, rfl, by decide +kernel, rfl, by decide +kernel, by decide +kernel⟩
abbrev st__law_same : Stmt := topS 21
abbrev N__law_same : List Str := ["a", "b", "k"]
theorem sc__law_same : FnScope N__law_same ["a", "b"] (defScope st__law_same) := ⟨rfl, rfl, rfl, by decide +kernel, rfl, by decide +kernel, by decide +kernel⟩
abbrev st__law_ratio : Stmt := topS 22
abbrev N__law_ratio : List Str := ["p", "q", "a", "b"]
theorem sc__law_ratio : FnScope N__law_ratio ["p", "q"] (defScope st__law_ratio) := ⟨rfl, rfl, rfl, by decide +kernel, rfl, by decide +kernel, by decide +kernel⟩
abbrev st__law_plus : Stmt := topS 23
abbrev N__law_plus : List Str := ["one", "other"]
theorem sc__law_plus : FnScope N__law_plus ["one", "other"] (defScope st__law_plus) := ⟨rfl, rfl, rfl, by decide +kernel, rfl, by decide +kernel, by decide +kernel⟩
abbrev st__law_less : Stmt := topS 24
abbrev N__law_less : List Str := ["one", "other"]
theorem sc__law_less : FnScope N__law_less ["one", "other"] (defScope st__law_less) := ⟨rfl, rfl, rfl, by decide +kernel, rfl, by decide +kernel, by decide +kernel⟩
abbrev st__law_row : Stmt := topS 25
abbrev N__law_row : List Str := ["box", "hours", "k"]
theorem sc__law_row : FnScope N__law_row ["box", "hours"] (defScope st__law_row) := ⟨rfl, rfl, rfl, by decide +kernel, rfl, by decide +kernel, by decide +kernel⟩
abbrev st__law_made : Stmt := topS 26
abbrev N__law_made : List Str := ["row", "start", "end", "anchored", "found", "k", "low", "high", "speed", "span"]
theorem sc__law_made : FnScope N__law_made ["row", "start", "end", "anchored"] (defScope st__law_made) := ⟨rfl, rfl, rfl, by decide +kernel, rfl, by decide +kernel, by decide +kernel⟩
abbrev st__law_end : Stmt := topS 27
abbrev N__law_end : List Str := ["row", "length", "start", "anchored", "k", "high", "low", "before", "rest"]
theorem sc__law_end : FnScope N__law_end ["row", "length", "start", "anchored"] (defScope st__law_end) := ⟨rfl, rfl, rfl, by decide +kernel, rfl, by decide +kernel, by decide +kernel⟩
abbrev st_law : Stmt := topS 28
abbrev N_law : List Str := ["script", "box", "turn", "hours", "row", "length", "start", "told", "every", "k", "here", "end", "when", "plain", "wholes", "turns", "late", "quick", "spans", "span", "other", "at"]
theorem sc_law : FnScope N_law ["script"] (defScope st_law) := ⟨rfl, rfl, rfl, by decide +kernel, rfl, by decide +kernel, by decide +kernel⟩
structure Tx (K : PySem.W.Frag) (mg : Str → Option Value) where
  b_abs : mg "abs" = none
  b_all : mg "all" = none
  b_any : mg "any" = none
  b_bool : mg "bool" = none
  b_int : mg "int" = none
  b_isinstance : mg "isinstance" = none
  b_len : mg "len" = none
  b_list : mg "list" = none
  b_max : mg "max" = none
  b_range : mg "range" = none
  b_str : mg "str" = none
  b_tuple : mg "tuple" = none
  a_divisor_of : Addr
  f_divisor_of : FuncData
  F_divisor_of : Fun K "divisor_of" "divisor_of" st_divisor_of a_divisor_of f_divisor_of
  g_divisor_of : mg "divisor_of" = some (.ref a_divisor_of)
  d_divisor_of : Binds K f_divisor_of ["a", "b"] []
  a_ratio : Addr
  f_ratio : FuncData
  F_ratio : Fun K "ratio" "ratio" st_ratio a_ratio f_ratio
  g_ratio : mg "ratio" = some (.ref a_ratio)
  d_ratio : Binds K f_ratio ["p", "q"] []
  a_whole : Addr
  f_whole : FuncData
  F_whole : Fun K "whole" "whole" st_whole a_whole f_whole
  g_whole : mg "whole" = some (.ref a_whole)
  d_whole : Binds K f_whole ["n"] []
  a_plus : Addr
  f_plus : FuncData
  F_plus : Fun K "plus" "plus" st_plus a_plus f_plus
  g_plus : mg "plus" = some (.ref a_plus)
  d_plus : Binds K f_plus ["one", "other"] []
  a_minus : Addr
  f_minus : FuncData
  F_minus : Fun K "minus" "minus" st_minus a_minus f_minus
  g_minus : mg "minus" = some (.ref a_minus)
  d_minus : Binds K f_minus ["one", "other"] []
  a_times : Addr
  f_times : FuncData
  F_times : Fun K "times" "times" st_times a_times f_times
  g_times : mg "times" = some (.ref a_times)
  d_times : Binds K f_times ["one", "other"] []
  a_over : Addr
  f_over : FuncData
  F_over : Fun K "over" "over" st_over a_over f_over
  g_over : mg "over" = some (.ref a_over)
  d_over : Binds K f_over ["one", "other"] []
  a_less : Addr
  f_less : FuncData
  F_less : Fun K "less" "less" st_less a_less f_less
  g_less : mg "less" = some (.ref a_less)
  d_less : Binds K f_less ["one", "other"] []
  a_whole_hour : Addr
  f_whole_hour : FuncData
  F_whole_hour : Fun K "whole_hour" "whole_hour" st_whole_hour a_whole_hour f_whole_hour
  g_whole_hour : mg "whole_hour" = some (.ref a_whole_hour)
  d_whole_hour : Binds K f_whole_hour ["when"] []
  a_leg_end : Addr
  f_leg_end : FuncData
  F_leg_end : Fun K "leg_end" "leg_end" st_leg_end a_leg_end f_leg_end
  g_leg_end : mg "leg_end" = some (.ref a_leg_end)
  d_leg_end : Binds K f_leg_end ["row", "length", "start", "anchored"] []
  a_latest_start : Addr
  f_latest_start : FuncData
  F_latest_start : Fun K "latest_start" "latest_start" st_latest_start a_latest_start f_latest_start
  g_latest_start : mg "latest_start" = some (.ref a_latest_start)
  d_latest_start : Binds K f_latest_start ["row", "length", "end"] []
  a_drift_starts : Addr
  f_drift_starts : FuncData
  F_drift_starts : Fun K "drift_starts" "drift_starts" st_drift_starts a_drift_starts f_drift_starts
  g_drift_starts : mg "drift_starts" = some (.ref a_drift_starts)
  d_drift_starts : Binds K f_drift_starts ["row", "start", "last"] []
  a_best_drift : Addr
  f_best_drift : FuncData
  F_best_drift : Fun K "best_drift" "best_drift" st_best_drift a_best_drift f_best_drift
  g_best_drift : mg "best_drift" = some (.ref a_best_drift)
  d_best_drift : Binds K f_best_drift ["row", "length", "start"] []
  a_turning_starts : Addr
  f_turning_starts : FuncData
  F_turning_starts : Fun K "turning_starts" "turning_starts" st_turning_starts a_turning_starts f_turning_starts
  g_turning_starts : mg "turning_starts" = some (.ref a_turning_starts)
  d_turning_starts : Binds K f_turning_starts ["row", "length"] []
  a_quickest_start : Addr
  f_quickest_start : FuncData
  F_quickest_start : Fun K "quickest_start" "quickest_start" st_quickest_start a_quickest_start f_quickest_start
  g_quickest_start : mg "quickest_start" = some (.ref a_quickest_start)
  d_quickest_start : Binds K f_quickest_start ["row", "length"] []
  a__law_box : Addr
  f__law_box : FuncData
  F__law_box : Fun K "_law_box" "_law_box" st__law_box a__law_box f__law_box
  g__law_box : mg "_law_box" = some (.ref a__law_box)
  d__law_box : Binds K f__law_box ["script"] []
  a__law_load : Addr
  f__law_load : FuncData
  F__law_load : Fun K "_law_load" "_law_load" st__law_load a__law_load f__law_load
  g__law_load : mg "_law_load" = some (.ref a__law_load)
  d__law_load : Binds K f__law_load ["box"] []
  a__law_draw : Addr
  f__law_draw : FuncData
  F__law_draw : Fun K "_law_draw" "_law_draw" st__law_draw a__law_draw f__law_draw
  g__law_draw : mg "_law_draw" = some (.ref a__law_draw)
  d__law_draw : Binds K f__law_draw ["box", "many"] []
  a__law_same : Addr
  f__law_same : FuncData
  F__law_same : Fun K "_law_same" "_law_same" st__law_same a__law_same f__law_same
  g__law_same : mg "_law_same" = some (.ref a__law_same)
  d__law_same : Binds K f__law_same ["a", "b"] []
  a__law_ratio : Addr
  f__law_ratio : FuncData
  F__law_ratio : Fun K "_law_ratio" "_law_ratio" st__law_ratio a__law_ratio f__law_ratio
  g__law_ratio : mg "_law_ratio" = some (.ref a__law_ratio)
  d__law_ratio : Binds K f__law_ratio ["p", "q"] []
  a__law_plus : Addr
  f__law_plus : FuncData
  F__law_plus : Fun K "_law_plus" "_law_plus" st__law_plus a__law_plus f__law_plus
  g__law_plus : mg "_law_plus" = some (.ref a__law_plus)
  d__law_plus : Binds K f__law_plus ["one", "other"] []
  a__law_less : Addr
  f__law_less : FuncData
  F__law_less : Fun K "_law_less" "_law_less" st__law_less a__law_less f__law_less
  g__law_less : mg "_law_less" = some (.ref a__law_less)
  d__law_less : Binds K f__law_less ["one", "other"] []
  a__law_row : Addr
  f__law_row : FuncData
  F__law_row : Fun K "_law_row" "_law_row" st__law_row a__law_row f__law_row
  g__law_row : mg "_law_row" = some (.ref a__law_row)
  d__law_row : Binds K f__law_row ["box", "hours"] []
  a__law_made : Addr
  f__law_made : FuncData
  F__law_made : Fun K "_law_made" "_law_made" st__law_made a__law_made f__law_made
  g__law_made : mg "_law_made" = some (.ref a__law_made)
  d__law_made : Binds K f__law_made ["row", "start", "end", "anchored"] []
  a__law_end : Addr
  f__law_end : FuncData
  F__law_end : Fun K "_law_end" "_law_end" st__law_end a__law_end f__law_end
  g__law_end : mg "_law_end" = some (.ref a__law_end)
  d__law_end : Binds K f__law_end ["row", "length", "start", "anchored"] []
  a_law : Addr
  f_law : FuncData
  F_law : Fun K "law" "law" st_law a_law f_law
  g_law : mg "law" = some (.ref a_law)
  d_law : Binds K f_law ["script"] []
noncomputable section
variable {P : Program} {w : World} {K : PySem.W.Frag} {mg : Str → Option Value}
def m_divisor_of : SM Fl :=
    sSeq (sPar [0, 1] (mCons (mUse (mN (f1 absA) (mCons (mV 0) mNil))) (mCons (mUse (mN (f1 absA) (mCons (mV 1) mNil))) mNil)))
    (sSeq (sWhile (mTru (mV 1)) (sPar [0, 1] (mCons (mUse (mV 1)) (mCons (mUse (m2 modA (mV 0) (mV 1))) mNil))))
    (sRet (mV 0)))
def F_divisor_of : List MM.A → Option MM.A := runF 2 m_divisor_of
theorem ok_divisor_of (T : Tx K mg) (base : Heap) : FnOk P w K mg base CX0 1 T.a_divisor_of T.f_divisor_of ["a", "b"] (spF K 2 F_divisor_of) := fn_ok T.F_divisor_of sc_divisor_of (fun cdv A outer s H hr E => by
    have hu : ∀ (n : Nat) (B : Around), B.units = (A.deeper (envOfC "divisor_of" (defScope st_divisor_of) s.heap.objs.size T.a_divisor_of cdv)).units + n → n ≤ 90 → B.units + 65 < cLine := fun n B e h => by have := hr.un; omega
    refine pmb_cons ?_ ?_
    · exact (pms_par2 (by decide) rfl sc_divisor_of.nd rfl rfl (by decide) rfl rfl (pma_cons (pm_use (pm_callB call_abs pr_abs (by rfl) T.b_abs (by decide +kernel) (pma_cons (pm_v (pv 0)) pma_nil))) (pma_cons (pm_use (pm_callB call_abs pr_abs (by rfl) T.b_abs (by decide +kernel) (pma_cons (pm_v (pv 1)) pma_nil))) pma_nil)) (by rfl))
    refine pmb_cons ?_ ?_
    · refine pms_while PassesOwn.never ?_ ?_
      · exact (pmt_tru (pm_v (pv 1)) (fun _ => rfl))
      · refine pmb_one ?_
        exact (pms_par2 (by decide) rfl sc_divisor_of.nd rfl rfl (by decide) rfl rfl (pma_cons (pm_use (pm_v (pv 1))) (pma_cons (pm_use (pm_mod (pm_v (pv 0)) (pm_v (pv 1)))) pma_nil)) (by rfl))
    refine pmb_one ?_
    exact (pms_ret (pm_v (pv 0))))
def m_ratio : SM Fl :=
    sSeq (sSet 2 (mIf (tCmpM gtA (mV 1) (mC (.int 0))) (mN (fN 2 F_divisor_of) (mCons (mV 0) (mCons (mV 1) mNil))) (m1 negA (mN (fN 2 F_divisor_of) (mCons (mV 0) (mCons (mV 1) mNil))))))
    (sRet (mTup (mCons (m2 fdivA (mV 0) (mV 2)) (mCons (m2 fdivA (mV 1) (mV 2)) mNil))))
def F_ratio : List MM.A → Option MM.A := runF 3 m_ratio
theorem ok_ratio (T : Tx K mg) (base : Heap) : FnOk P w K mg base CX0 2 T.a_ratio T.f_ratio ["p", "q"] (spF K 2 F_ratio) := fn_ok T.F_ratio sc_ratio (fun cdv A outer s H hr E => by
    have hu : ∀ (n : Nat) (B : Around), B.units = (A.deeper (envOfC "ratio" (defScope st_ratio) s.heap.objs.size T.a_ratio cdv)).units + n → n ≤ 90 → B.units + 65 < cLine := fun n B e h => by have := hr.un; omega
    refine pmb_cons ?_ ?_
    · exact (pms_set (by decide) sc_ratio.nd rfl (Or.inl rfl) (pm_if (pmt_gt (pm_v (pv 1)) pm_int) (pm_call (ok_divisor_of T base) (hr.mono (by decide)) (by rfl) T.g_divisor_of T.F_divisor_of.kp T.d_divisor_of (pma_cons (pm_v (pv 0)) (pma_cons (pm_v (pv 1)) pma_nil))) (pm_neg (pm_call (ok_divisor_of T base) (hr.mono (by decide)) (by rfl) T.g_divisor_of T.F_divisor_of.kp T.d_divisor_of (pma_cons (pm_v (pv 0)) (pma_cons (pm_v (pv 1)) pma_nil))))))
    refine pmb_one ?_
    exact (pms_ret (pm_tup (pma_cons (pm_fdiv (pm_v (pv 0)) (pm_v (pv 2))) (pma_cons (pm_fdiv (pm_v (pv 1)) (pm_v (pv 2))) pma_nil)))))
def m_whole : SM Fl :=
    sRet (mTup (mCons (mV 0) (mCons (mC (.int 1)) mNil)))
def F_whole : List MM.A → Option MM.A := runF 1 m_whole
theorem ok_whole (T : Tx K mg) (base : Heap) : FnOk P w K mg base CX0 1 T.a_whole T.f_whole ["n"] (spF K 1 F_whole) := fn_ok T.F_whole sc_whole (fun cdv A outer s H hr E => by
    have hu : ∀ (n : Nat) (B : Around), B.units = (A.deeper (envOfC "whole" (defScope st_whole) s.heap.objs.size T.a_whole cdv)).units + n → n ≤ 90 → B.units + 65 < cLine := fun n B e h => by have := hr.un; omega
    refine pmb_one ?_
    exact (pms_ret (pm_tup (pma_cons (pm_v (pv 0)) (pma_cons pm_int pma_nil)))))
def m_plus : SM Fl :=
    sRet (mN (fN 2 F_ratio) (mCons (m2 addA (m2 mulA (mIx (mV 0) (mC (.int 0))) (mIx (mV 1) (mC (.int 1)))) (m2 mulA (mIx (mV 1) (mC (.int 0))) (mIx (mV 0) (mC (.int 1))))) (mCons (m2 mulA (mIx (mV 0) (mC (.int 1))) (mIx (mV 1) (mC (.int 1)))) mNil)))
def F_plus : List MM.A → Option MM.A := runF 2 m_plus
theorem ok_plus (T : Tx K mg) (base : Heap) : FnOk P w K mg base CX0 3 T.a_plus T.f_plus ["one", "other"] (spF K 2 F_plus) := fn_ok T.F_plus sc_plus (fun cdv A outer s H hr E => by
    have hu : ∀ (n : Nat) (B : Around), B.units = (A.deeper (envOfC "plus" (defScope st_plus) s.heap.objs.size T.a_plus cdv)).units + n → n ≤ 90 → B.units + 65 < cLine := fun n B e h => by have := hr.un; omega
    refine pmb_one ?_
    exact (pms_ret (pm_call (ok_ratio T base) (hr.mono (by decide)) (by rfl) T.g_ratio T.F_ratio.kp T.d_ratio (pma_cons (pm_add (pm_mul (pm_ix (pm_v (pv 0)) pm_int (fun _ _ => rfl)) (pm_ix (pm_v (pv 1)) pm_int (fun _ _ => rfl))) (pm_mul (pm_ix (pm_v (pv 1)) pm_int (fun _ _ => rfl)) (pm_ix (pm_v (pv 0)) pm_int (fun _ _ => rfl)))) (pma_cons (pm_mul (pm_ix (pm_v (pv 0)) pm_int (fun _ _ => rfl)) (pm_ix (pm_v (pv 1)) pm_int (fun _ _ => rfl))) pma_nil)))))
def m_minus : SM Fl :=
    sRet (mN (fN 2 F_ratio) (mCons (m2 subA (m2 mulA (mIx (mV 0) (mC (.int 0))) (mIx (mV 1) (mC (.int 1)))) (m2 mulA (mIx (mV 1) (mC (.int 0))) (mIx (mV 0) (mC (.int 1))))) (mCons (m2 mulA (mIx (mV 0) (mC (.int 1))) (mIx (mV 1) (mC (.int 1)))) mNil)))
def F_minus : List MM.A → Option MM.A := runF 2 m_minus
theorem ok_minus (T : Tx K mg) (base : Heap) : FnOk P w K mg base CX0 3 T.a_minus T.f_minus ["one", "other"] (spF K 2 F_minus) := fn_ok T.F_minus sc_minus (fun cdv A outer s H hr E => by
    have hu : ∀ (n : Nat) (B : Around), B.units = (A.deeper (envOfC "minus" (defScope st_minus) s.heap.objs.size T.a_minus cdv)).units + n → n ≤ 90 → B.units + 65 < cLine := fun n B e h => by have := hr.un; omega
    refine pmb_one ?_
    exact (pms_ret (pm_call (ok_ratio T base) (hr.mono (by decide)) (by rfl) T.g_ratio T.F_ratio.kp T.d_ratio (pma_cons (pm_sub (pm_mul (pm_ix (pm_v (pv 0)) pm_int (fun _ _ => rfl)) (pm_ix (pm_v (pv 1)) pm_int (fun _ _ => rfl))) (pm_mul (pm_ix (pm_v (pv 1)) pm_int (fun _ _ => rfl)) (pm_ix (pm_v (pv 0)) pm_int (fun _ _ => rfl)))) (pma_cons (pm_mul (pm_ix (pm_v (pv 0)) pm_int (fun _ _ => rfl)) (pm_ix (pm_v (pv 1)) pm_int (fun _ _ => rfl))) pma_nil)))))
def m_times : SM Fl :=
    sRet (mN (fN 2 F_ratio) (mCons (m2 mulA (mIx (mV 0) (mC (.int 0))) (mIx (mV 1) (mC (.int 0)))) (mCons (m2 mulA (mIx (mV 0) (mC (.int 1))) (mIx (mV 1) (mC (.int 1)))) mNil)))
def F_times : List MM.A → Option MM.A := runF 2 m_times
theorem ok_times (T : Tx K mg) (base : Heap) : FnOk P w K mg base CX0 3 T.a_times T.f_times ["one", "other"] (spF K 2 F_times) := fn_ok T.F_times sc_times (fun cdv A outer s H hr E => by
    have hu : ∀ (n : Nat) (B : Around), B.units = (A.deeper (envOfC "times" (defScope st_times) s.heap.objs.size T.a_times cdv)).units + n → n ≤ 90 → B.units + 65 < cLine := fun n B e h => by have := hr.un; omega
    refine pmb_one ?_
    exact (pms_ret (pm_call (ok_ratio T base) (hr.mono (by decide)) (by rfl) T.g_ratio T.F_ratio.kp T.d_ratio (pma_cons (pm_mul (pm_ix (pm_v (pv 0)) pm_int (fun _ _ => rfl)) (pm_ix (pm_v (pv 1)) pm_int (fun _ _ => rfl))) (pma_cons (pm_mul (pm_ix (pm_v (pv 0)) pm_int (fun _ _ => rfl)) (pm_ix (pm_v (pv 1)) pm_int (fun _ _ => rfl))) pma_nil)))))
def m_over : SM Fl :=
    sRet (mN (fN 2 F_ratio) (mCons (m2 mulA (mIx (mV 0) (mC (.int 0))) (mIx (mV 1) (mC (.int 1)))) (mCons (m2 mulA (mIx (mV 0) (mC (.int 1))) (mIx (mV 1) (mC (.int 0)))) mNil)))
def F_over : List MM.A → Option MM.A := runF 2 m_over
theorem ok_over (T : Tx K mg) (base : Heap) : FnOk P w K mg base CX0 3 T.a_over T.f_over ["one", "other"] (spF K 2 F_over) := fn_ok T.F_over sc_over (fun cdv A outer s H hr E => by
    have hu : ∀ (n : Nat) (B : Around), B.units = (A.deeper (envOfC "over" (defScope st_over) s.heap.objs.size T.a_over cdv)).units + n → n ≤ 90 → B.units + 65 < cLine := fun n B e h => by have := hr.un; omega
    refine pmb_one ?_
    exact (pms_ret (pm_call (ok_ratio T base) (hr.mono (by decide)) (by rfl) T.g_ratio T.F_ratio.kp T.d_ratio (pma_cons (pm_mul (pm_ix (pm_v (pv 0)) pm_int (fun _ _ => rfl)) (pm_ix (pm_v (pv 1)) pm_int (fun _ _ => rfl))) (pma_cons (pm_mul (pm_ix (pm_v (pv 0)) pm_int (fun _ _ => rfl)) (pm_ix (pm_v (pv 1)) pm_int (fun _ _ => rfl))) pma_nil)))))
def m_less : SM Fl :=
    sRet (asV (tCmpM ltA (m2 mulA (mIx (mV 0) (mC (.int 0))) (mIx (mV 1) (mC (.int 1)))) (m2 mulA (mIx (mV 1) (mC (.int 0))) (mIx (mV 0) (mC (.int 1))))))
def F_less : List MM.A → Option MM.A := runF 2 m_less
theorem ok_less (T : Tx K mg) (base : Heap) : FnOk P w K mg base CX0 1 T.a_less T.f_less ["one", "other"] (spF K 2 F_less) := fn_ok T.F_less sc_less (fun cdv A outer s H hr E => by
    have hu : ∀ (n : Nat) (B : Around), B.units = (A.deeper (envOfC "less" (defScope st_less) s.heap.objs.size T.a_less cdv)).units + n → n ≤ 90 → B.units + 65 < cLine := fun n B e h => by have := hr.un; omega
    refine pmb_one ?_
    exact (pms_ret (pm_lt (pm_mul (pm_ix (pm_v (pv 0)) pm_int (fun _ _ => rfl)) (pm_ix (pm_v (pv 1)) pm_int (fun _ _ => rfl))) (pm_mul (pm_ix (pm_v (pv 1)) pm_int (fun _ _ => rfl)) (pm_ix (pm_v (pv 0)) pm_int (fun _ _ => rfl))))))
def m_whole_hour : SM Fl :=
    sRet (m2 fdivA (mIx (mV 0) (mC (.int 0))) (mIx (mV 0) (mC (.int 1))))
def F_whole_hour : List MM.A → Option MM.A := runF 1 m_whole_hour
theorem ok_whole_hour (T : Tx K mg) (base : Heap) : FnOk P w K mg base CX0 1 T.a_whole_hour T.f_whole_hour ["when"] (spF K 1 F_whole_hour) := fn_ok T.F_whole_hour sc_whole_hour (fun cdv A outer s H hr E => by
    have hu : ∀ (n : Nat) (B : Around), B.units = (A.deeper (envOfC "whole_hour" (defScope st_whole_hour) s.heap.objs.size T.a_whole_hour cdv)).units + n → n ≤ 90 → B.units + 65 < cLine := fun n B e h => by have := hr.un; omega
    refine pmb_one ?_
    exact (pms_ret (pm_fdiv (pm_ix (pm_v (pv 0)) pm_int (fun _ _ => rfl)) (pm_ix (pm_v (pv 0)) pm_int (fun _ _ => rfl)))))
def m_leg_end : SM Fl :=
    sSeq (sPar [4, 5] (mCons (mUse (mN (fN 1 F_whole) (mCons (mV 1) mNil))) (mCons (mUse (mV 2)) mNil)))
    (sSeq (sWhile (mTru (mN (fN 2 F_less) (mCons (mV 5) (mCons (mN (fN 1 F_whole) (mCons (mN (f1 lenA) (mCons (mV 0) mNil)) mNil)) mNil)))) (sSeq (sSet 6 (mN (fN 1 F_whole_hour) (mCons (mV 5) mNil)))
    (sSeq (sSet 7 (mIf (mTru (mV 3)) (mN (f2 max2A) (mCons (mC (.int 0)) (mCons (mIx (mV 0) (mV 6)) mNil))) (mIx (mV 0) (mV 6))))
    (sSeq (sSet 8 (mN (fN 2 F_minus) (mCons (mN (fN 1 F_whole) (mCons (m2 addA (mV 6) (mC (.int 1))) mNil)) (mCons (mV 5) mNil))))
    (sSeq (sSet 9 (mN (fN 2 F_times) (mCons (mV 8) (mCons (mN (fN 1 F_whole) (mCons (mV 7) mNil)) mNil))))
    (sSeq (sIf (tNotM (mTru (mN (fN 2 F_less) (mCons (mV 9) (mCons (mV 4) mNil))))) (sRet (mN (fN 2 F_plus) (mCons (mV 5) (mCons (mN (fN 2 F_over) (mCons (mV 4) (mCons (mN (fN 1 F_whole) (mCons (mV 7) mNil)) mNil))) mNil)))) sNop)
    (sPar [4, 5] (mCons (mUse (mN (fN 2 F_minus) (mCons (mV 4) (mCons (mV 9) mNil)))) (mCons (mUse (mN (fN 1 F_whole) (mCons (m2 addA (mV 6) (mC (.int 1))) mNil))) mNil)))))))))
    (sRet (mC .non)))
def F_leg_end : List MM.A → Option MM.A := runF 10 m_leg_end
theorem ok_leg_end (T : Tx K mg) (base : Heap) : FnOk P w K mg base CX0 4 T.a_leg_end T.f_leg_end ["row", "length", "start", "anchored"] (spF K 4 F_leg_end) := fn_ok T.F_leg_end sc_leg_end (fun cdv A outer s H hr E => by
    have hu : ∀ (n : Nat) (B : Around), B.units = (A.deeper (envOfC "leg_end" (defScope st_leg_end) s.heap.objs.size T.a_leg_end cdv)).units + n → n ≤ 90 → B.units + 65 < cLine := fun n B e h => by have := hr.un; omega
    refine pmb_cons ?_ ?_
    · exact (pms_par2 (by decide) rfl sc_leg_end.nd rfl rfl (by decide) rfl rfl (pma_cons (pm_use (pm_call (ok_whole T base) (hr.mono (by decide)) (by rfl) T.g_whole T.F_whole.kp T.d_whole (pma_cons (pm_v (pv 1)) pma_nil))) (pma_cons (pm_use (pm_v (pv 2))) pma_nil)) (by rfl))
    refine pmb_cons ?_ ?_
    · refine pms_while PassesOwn.never ?_ ?_
      · exact (pmt_tru (pm_call (ok_less T base) (hr.mono (by decide)) (by rfl) T.g_less T.F_less.kp T.d_less (pma_cons (pm_v (pv 5)) (pma_cons (pm_call (ok_whole T base) (hr.mono (by decide)) (by rfl) T.g_whole T.F_whole.kp T.d_whole (pma_cons (pm_callB call_len pr_len (by rfl) T.b_len (by decide +kernel) (pma_cons (pm_v (pv 0)) pma_nil)) pma_nil)) pma_nil))) (fun _ => rfl))
      · refine pmb_cons ?_ ?_
        · exact (pms_set (by decide) sc_leg_end.nd rfl (Or.inl rfl) (pm_call (ok_whole_hour T base) (hr.mono (by decide)) (by rfl) T.g_whole_hour T.F_whole_hour.kp T.d_whole_hour (pma_cons (pm_v (pv 5)) pma_nil)))
        refine pmb_cons ?_ ?_
        · exact (pms_set (by decide) sc_leg_end.nd rfl (Or.inl rfl) (pm_if (pmt_tru (pm_v (pv 3)) (fun _ => rfl)) (pm_callB (call_max2 rfl) pr_max2 (by rfl) T.b_max (by decide +kernel) (pma_cons pm_int (pma_cons (pm_ix (pm_v (pv 0)) (pm_v (pv 6)) (fun _ _ => rfl)) pma_nil))) (pm_ix (pm_v (pv 0)) (pm_v (pv 6)) (fun _ _ => rfl))))
        refine pmb_cons ?_ ?_
        · exact (pms_set (by decide) sc_leg_end.nd rfl (Or.inl rfl) (pm_call (ok_minus T base) (hr.mono (by decide)) (by rfl) T.g_minus T.F_minus.kp T.d_minus (pma_cons (pm_call (ok_whole T base) (hr.mono (by decide)) (by rfl) T.g_whole T.F_whole.kp T.d_whole (pma_cons (pm_add (pm_v (pv 6)) pm_int) pma_nil)) (pma_cons (pm_v (pv 5)) pma_nil))))
        refine pmb_cons ?_ ?_
        · exact (pms_set (by decide) sc_leg_end.nd rfl (Or.inl rfl) (pm_call (ok_times T base) (hr.mono (by decide)) (by rfl) T.g_times T.F_times.kp T.d_times (pma_cons (pm_v (pv 8)) (pma_cons (pm_call (ok_whole T base) (hr.mono (by decide)) (by rfl) T.g_whole T.F_whole.kp T.d_whole (pma_cons (pm_v (pv 7)) pma_nil)) pma_nil))))
        refine pmb_cons ?_ ?_
        · refine pms_if ?_ ?_ ?_
          · exact (pmt_not (pmt_tru (pm_call (ok_less T base) (hr.mono (by decide)) (by rfl) T.g_less T.F_less.kp T.d_less (pma_cons (pm_v (pv 9)) (pma_cons (pm_v (pv 4)) pma_nil))) (fun _ => rfl)))
          · refine pmb_one ?_
            exact (pms_ret (pm_call (ok_plus T base) (hr.mono (by decide)) (by rfl) T.g_plus T.F_plus.kp T.d_plus (pma_cons (pm_v (pv 5)) (pma_cons (pm_call (ok_over T base) (hr.mono (by decide)) (by rfl) T.g_over T.F_over.kp T.d_over (pma_cons (pm_v (pv 4)) (pma_cons (pm_call (ok_whole T base) (hr.mono (by decide)) (by rfl) T.g_whole T.F_whole.kp T.d_whole (pma_cons (pm_v (pv 7)) pma_nil)) pma_nil))) pma_nil))))
          · exact pmb_nil
        refine pmb_one ?_
        exact (pms_par2 (by decide) rfl sc_leg_end.nd rfl rfl (by decide) rfl rfl (pma_cons (pm_use (pm_call (ok_minus T base) (hr.mono (by decide)) (by rfl) T.g_minus T.F_minus.kp T.d_minus (pma_cons (pm_v (pv 4)) (pma_cons (pm_v (pv 9)) pma_nil)))) (pma_cons (pm_use (pm_call (ok_whole T base) (hr.mono (by decide)) (by rfl) T.g_whole T.F_whole.kp T.d_whole (pma_cons (pm_add (pm_v (pv 6)) pm_int) pma_nil))) pma_nil)) (by rfl))
    refine pmb_one ?_
    exact (pms_ret pm_non))
def m_latest_start : SM Fl :=
    sSeq (sPar [3, 4] (mCons (mUse (mN (fN 1 F_whole) (mCons (mV 1) mNil))) (mCons (mUse (mV 2)) mNil)))
    (sSeq (sWhile (mTru (mN (fN 2 F_less) (mCons (mN (fN 1 F_whole) (mCons (mC (.int 0)) mNil)) (mCons (mV 4) mNil)))) (sSeq (sSet 5 (mIf (tCmpM gtA (mIx (mV 4) (mC (.int 1))) (mC (.int 1))) (mN (fN 1 F_whole_hour) (mCons (mV 4) mNil)) (m2 subA (mIx (mV 4) (mC (.int 0))) (mC (.int 1)))))
    (sSeq (sSet 6 (mN (f2 max2A) (mCons (mC (.int 0)) (mCons (mIx (mV 0) (mV 5)) mNil))))
    (sSeq (sSet 7 (mN (fN 2 F_times) (mCons (mN (fN 2 F_minus) (mCons (mV 4) (mCons (mN (fN 1 F_whole) (mCons (mV 5) mNil)) mNil))) (mCons (mN (fN 1 F_whole) (mCons (mV 6) mNil)) mNil))))
    (sSeq (sIf (tNotM (mTru (mN (fN 2 F_less) (mCons (mV 7) (mCons (mV 3) mNil))))) (sRet (mN (fN 2 F_minus) (mCons (mV 4) (mCons (mN (fN 2 F_over) (mCons (mV 3) (mCons (mN (fN 1 F_whole) (mCons (mV 6) mNil)) mNil))) mNil)))) sNop)
    (sPar [3, 4] (mCons (mUse (mN (fN 2 F_minus) (mCons (mV 3) (mCons (mV 7) mNil)))) (mCons (mUse (mN (fN 1 F_whole) (mCons (mV 5) mNil))) mNil))))))))
    (sRet (mC .non)))
def F_latest_start : List MM.A → Option MM.A := runF 8 m_latest_start
theorem ok_latest_start (T : Tx K mg) (base : Heap) : FnOk P w K mg base CX0 4 T.a_latest_start T.f_latest_start ["row", "length", "end"] (spF K 3 F_latest_start) := fn_ok T.F_latest_start sc_latest_start (fun cdv A outer s H hr E => by
    have hu : ∀ (n : Nat) (B : Around), B.units = (A.deeper (envOfC "latest_start" (defScope st_latest_start) s.heap.objs.size T.a_latest_start cdv)).units + n → n ≤ 90 → B.units + 65 < cLine := fun n B e h => by have := hr.un; omega
    refine pmb_cons ?_ ?_
    · exact (pms_par2 (by decide) rfl sc_latest_start.nd rfl rfl (by decide) rfl rfl (pma_cons (pm_use (pm_call (ok_whole T base) (hr.mono (by decide)) (by rfl) T.g_whole T.F_whole.kp T.d_whole (pma_cons (pm_v (pv 1)) pma_nil))) (pma_cons (pm_use (pm_v (pv 2))) pma_nil)) (by rfl))
    refine pmb_cons ?_ ?_
    · refine pms_while PassesOwn.never ?_ ?_
      · exact (pmt_tru (pm_call (ok_less T base) (hr.mono (by decide)) (by rfl) T.g_less T.F_less.kp T.d_less (pma_cons (pm_call (ok_whole T base) (hr.mono (by decide)) (by rfl) T.g_whole T.F_whole.kp T.d_whole (pma_cons pm_int pma_nil)) (pma_cons (pm_v (pv 4)) pma_nil))) (fun _ => rfl))
      · refine pmb_cons ?_ ?_
        · exact (pms_set (by decide) sc_latest_start.nd rfl (Or.inl rfl) (pm_if (pmt_gt (pm_ix (pm_v (pv 4)) pm_int (fun _ _ => rfl)) pm_int) (pm_call (ok_whole_hour T base) (hr.mono (by decide)) (by rfl) T.g_whole_hour T.F_whole_hour.kp T.d_whole_hour (pma_cons (pm_v (pv 4)) pma_nil)) (pm_sub (pm_ix (pm_v (pv 4)) pm_int (fun _ _ => rfl)) pm_int)))
        refine pmb_cons ?_ ?_
        · exact (pms_set (by decide) sc_latest_start.nd rfl (Or.inl rfl) (pm_callB (call_max2 rfl) pr_max2 (by rfl) T.b_max (by decide +kernel) (pma_cons pm_int (pma_cons (pm_ix (pm_v (pv 0)) (pm_v (pv 5)) (fun _ _ => rfl)) pma_nil))))
        refine pmb_cons ?_ ?_
        · exact (pms_set (by decide) sc_latest_start.nd rfl (Or.inl rfl) (pm_call (ok_times T base) (hr.mono (by decide)) (by rfl) T.g_times T.F_times.kp T.d_times (pma_cons (pm_call (ok_minus T base) (hr.mono (by decide)) (by rfl) T.g_minus T.F_minus.kp T.d_minus (pma_cons (pm_v (pv 4)) (pma_cons (pm_call (ok_whole T base) (hr.mono (by decide)) (by rfl) T.g_whole T.F_whole.kp T.d_whole (pma_cons (pm_v (pv 5)) pma_nil)) pma_nil))) (pma_cons (pm_call (ok_whole T base) (hr.mono (by decide)) (by rfl) T.g_whole T.F_whole.kp T.d_whole (pma_cons (pm_v (pv 6)) pma_nil)) pma_nil))))
        refine pmb_cons ?_ ?_
        · refine pms_if ?_ ?_ ?_
          · exact (pmt_not (pmt_tru (pm_call (ok_less T base) (hr.mono (by decide)) (by rfl) T.g_less T.F_less.kp T.d_less (pma_cons (pm_v (pv 7)) (pma_cons (pm_v (pv 3)) pma_nil))) (fun _ => rfl)))
          · refine pmb_one ?_
            exact (pms_ret (pm_call (ok_minus T base) (hr.mono (by decide)) (by rfl) T.g_minus T.F_minus.kp T.d_minus (pma_cons (pm_v (pv 4)) (pma_cons (pm_call (ok_over T base) (hr.mono (by decide)) (by rfl) T.g_over T.F_over.kp T.d_over (pma_cons (pm_v (pv 3)) (pma_cons (pm_call (ok_whole T base) (hr.mono (by decide)) (by rfl) T.g_whole T.F_whole.kp T.d_whole (pma_cons (pm_v (pv 6)) pma_nil)) pma_nil))) pma_nil))))
          · exact pmb_nil
        refine pmb_one ?_
        exact (pms_par2 (by decide) rfl sc_latest_start.nd rfl rfl (by decide) rfl rfl (pma_cons (pm_use (pm_call (ok_minus T base) (hr.mono (by decide)) (by rfl) T.g_minus T.F_minus.kp T.d_minus (pma_cons (pm_v (pv 3)) (pma_cons (pm_v (pv 7)) pma_nil)))) (pma_cons (pm_use (pm_call (ok_whole T base) (hr.mono (by decide)) (by rfl) T.g_whole T.F_whole.kp T.d_whole (pma_cons (pm_v (pv 5)) pma_nil))) pma_nil)) (by rfl))
    refine pmb_one ?_
    exact (pms_ret pm_non))
def m_drift_starts : SM Fl :=
    sSeq (sPar [3, 4] (mCons (mUse (mLst (mCons (mV 1) mNil))) (mCons (mUse (m2 addA (mN (fN 1 F_whole_hour) (mCons (mV 1) mNil)) (mC (.int 1)))) mNil)))
    (sSeq (sWhile (mTru (mN (fN 2 F_less) (mCons (mN (fN 1 F_whole) (mCons (mV 4) mNil)) (mCons (mV 2) mNil)))) (sSeq (sExpr (mAppend 3 (mN (fN 1 F_whole) (mCons (mV 4) mNil))))
    (sAug 4 (· + ·) (mC (.int 1)))))
    (sRet (m2 addA (mV 3) (mIf (mTru (mN (fN 2 F_less) (mCons (mV 1) (mCons (mV 2) mNil)))) (mLst (mCons (mV 2) mNil)) (mLst mNil)))))
def F_drift_starts : List MM.A → Option MM.A := runF 5 m_drift_starts
theorem ok_drift_starts (T : Tx K mg) (base : Heap) : FnOk P w K mg base CX0 2 T.a_drift_starts T.f_drift_starts ["row", "start", "last"] (spF K 3 F_drift_starts) := fn_ok T.F_drift_starts sc_drift_starts (fun cdv A outer s H hr E => by
    have hu : ∀ (n : Nat) (B : Around), B.units = (A.deeper (envOfC "drift_starts" (defScope st_drift_starts) s.heap.objs.size T.a_drift_starts cdv)).units + n → n ≤ 90 → B.units + 65 < cLine := fun n B e h => by have := hr.un; omega
    refine pmb_cons ?_ ?_
    · exact (pms_par2 (by decide) rfl sc_drift_starts.nd rfl rfl (by decide) rfl rfl (pma_cons (pm_use (pm_lst (pma_cons (pm_v (pv 1)) pma_nil))) (pma_cons (pm_use (pm_add (pm_call (ok_whole_hour T base) (hr.mono (by decide)) (by rfl) T.g_whole_hour T.F_whole_hour.kp T.d_whole_hour (pma_cons (pm_v (pv 1)) pma_nil)) pm_int)) pma_nil)) (by rfl))
    refine pmb_cons ?_ ?_
    · refine pms_while PassesOwn.never ?_ ?_
      · exact (pmt_tru (pm_call (ok_less T base) (hr.mono (by decide)) (by rfl) T.g_less T.F_less.kp T.d_less (pma_cons (pm_call (ok_whole T base) (hr.mono (by decide)) (by rfl) T.g_whole T.F_whole.kp T.d_whole (pma_cons (pm_v (pv 4)) pma_nil)) (pma_cons (pm_v (pv 2)) pma_nil))) (fun _ => rfl))
      · refine pmb_cons ?_ ?_
        · exact (pms_expr (pm_append (pv 3) (pm_call (ok_whole T base) (hr.mono (by decide)) (by rfl) T.g_whole T.F_whole.kp T.d_whole (pma_cons (pm_v (pv 4)) pma_nil))))
        refine pmb_one ?_
        exact (pms_aug (by decide) ip_add sc_drift_starts.nd rfl (Or.inl rfl) pm_int)
    refine pmb_one ?_
    exact (pms_ret (pm_add (pm_v (pv 3)) (pm_if (pmt_tru (pm_call (ok_less T base) (hr.mono (by decide)) (by rfl) T.g_less T.F_less.kp T.d_less (pma_cons (pm_v (pv 1)) (pma_cons (pm_v (pv 2)) pma_nil))) (fun _ => rfl)) (pm_lst (pma_cons (pm_v (pv 2)) pma_nil)) (pm_lst pma_nil)))))
def m_best_drift : SM Fl :=
    sSeq (sSet 3 (mC .non))
    (sSeq (sFor (.nm 4) (mIter (mN (fN 3 F_drift_starts) (mCons (mV 0) (mCons (mV 2) (mCons (mN (fN 1 F_whole) (mCons (mN (f1 lenA) (mCons (mV 0) mNil)) mNil)) mNil))))) (sSeq (sSet 5 (mN (fN 4 F_leg_end) (mCons (mV 0) (mCons (mV 1) (mCons (mV 4) (mCons (mC (.bl false)) mNil))))))
    (sIf (tAndM (tCmpM isnA (mV 5) (mC .non)) (tOrM (tCmpM isA (mV 3) (mC .non)) (mTru (mN (fN 2 F_less) (mCons (mV 5) (mCons (mIx (mV 3) (mC (.int 0))) mNil)))))) (sSet 3 (mTup (mCons (mV 5) (mCons (mV 4) mNil)))) sNop)))
    (sRet (mV 3)))
def F_best_drift : List MM.A → Option MM.A := runF 6 m_best_drift
theorem ok_best_drift (T : Tx K mg) (base : Heap) : FnOk P w K mg base CX0 5 T.a_best_drift T.f_best_drift ["row", "length", "start"] (spF K 3 F_best_drift) := fn_ok T.F_best_drift sc_best_drift (fun cdv A outer s H hr E => by
    have hu : ∀ (n : Nat) (B : Around), B.units = (A.deeper (envOfC "best_drift" (defScope st_best_drift) s.heap.objs.size T.a_best_drift cdv)).units + n → n ≤ 90 → B.units + 65 < cLine := fun n B e h => by have := hr.un; omega
    refine pmb_cons ?_ ?_
    · exact (pms_set (by decide) sc_best_drift.nd rfl (Or.inl rfl) pm_non)
    refine pmb_cons ?_ ?_
    · refine pms_for (by decide) PassesOwn.never rfl ?_ ?_ ?_
      · exact (pmi_seq (pm_call (ok_drift_starts T base) (hr.mono (by decide)) (by rfl) T.g_drift_starts T.F_drift_starts.kp T.d_drift_starts (pma_cons (pm_v (pv 0)) (pma_cons (pm_v (pv 2)) (pma_cons (pm_call (ok_whole T base) (hr.mono (by decide)) (by rfl) T.g_whole T.F_whole.kp T.d_whole (pma_cons (pm_callB call_len pr_len (by rfl) T.b_len (by decide +kernel) (pma_cons (pm_v (pv 0)) pma_nil)) pma_nil)) pma_nil)))))
      · exact (pgm_name sc_best_drift.nd rfl (by first | exact Or.inl rfl | exact Or.inr rfl))
      · refine pmb_cons ?_ ?_
        · exact (pms_set (by decide) sc_best_drift.nd rfl (Or.inl rfl) (pm_call (ok_leg_end T base) (hr.mono (by decide)) (by rfl) T.g_leg_end T.F_leg_end.kp T.d_leg_end (pma_cons (pm_v (pv 0)) (pma_cons (pm_v (pv 1)) (pma_cons (pm_v (pv 4)) (pma_cons pm_bl pma_nil))))))
        refine pmb_one ?_
        refine pms_if ?_ ?_ ?_
        · exact (PMW.pt (pmw_and (pmt_isn (pm_v (pv 5)) pm_non) (pmw_and1 (PMW.pt (pmw_or (pmt_is (pm_v (pv 3)) pm_non) (pmw_or1 (pmt_tru (pm_call (ok_less T base) (hr.mono (by decide)) (by rfl) T.g_less T.F_less.kp T.d_less (pma_cons (pm_v (pv 5)) (pma_cons (pm_ix (pm_v (pv 3)) pm_int (fun _ _ => rfl)) pma_nil))) (fun _ => rfl))))))))
        · refine pmb_one ?_
          exact (pms_set (by decide) sc_best_drift.nd rfl (Or.inl rfl) (pm_tup (pma_cons (pm_v (pv 5)) (pma_cons (pm_v (pv 4)) pma_nil))))
        · exact pmb_nil
    refine pmb_one ?_
    exact (pms_ret (pm_v (pv 3))))
def m_turning_starts : SM Fl :=
    sSeq (sSet 3 (mComp [2] (mRange1 (mCons (mN (f1 lenA) (mCons (mV 0) mNil)) mNil)) (.nm 2) tYesM (mN (fN 1 F_whole) (mCons (mV 2) mNil))))
    (sSeq (sFor (.nm 2) (mRange2 (mCons (mC (.int 1)) (mCons (m2 addA (mN (f1 lenA) (mCons (mV 0) mNil)) (mC (.int 1))) mNil))) (sSeq (sSet 4 (mN (fN 3 F_latest_start) (mCons (mV 0) (mCons (mV 1) (mCons (mN (fN 1 F_whole) (mCons (mV 2) mNil)) mNil)))))
    (sIf (tCmpM isnA (mV 4) (mC .non)) (sExpr (mAppend 3 (mV 4))) sNop)))
    (sRet (mV 3)))
def F_turning_starts : List MM.A → Option MM.A := runF 5 m_turning_starts
theorem ok_turning_starts (T : Tx K mg) (base : Heap) : FnOk P w K mg base CX0 5 T.a_turning_starts T.f_turning_starts ["row", "length"] (spF K 2 F_turning_starts) := fn_ok T.F_turning_starts sc_turning_starts (fun cdv A outer s H hr E => by
    have hu : ∀ (n : Nat) (B : Around), B.units = (A.deeper (envOfC "turning_starts" (defScope st_turning_starts) s.heap.objs.size T.a_turning_starts cdv)).units + n → n ≤ 90 → B.units + 65 < cLine := fun n B e h => by have := hr.un; omega
    refine pmb_cons ?_ ?_
    · exact (pms_setLcW (by decide) rfl sc_turning_starts.nd rfl rfl (sw_true rfl rfl rfl (by decide +kernel)) (pmi_range1 (by rfl) T.b_range (pma_cons (pm_callB call_len pr_len (by rfl) T.b_len (by decide +kernel) (pma_cons (pm_v (pv 0)) pma_nil)) pma_nil)) (blkOk_by (own := [("k", 2)]) (N := N_turning_starts) (sc := (defScope st_turning_starts)) (scope := { kind := .function, names := [(".0", .local), ("k", .local), ("whole", .globalImplicit)], isGenerator := false, isCoroutine := false }) (by decide +kernel)) rfl (by decide) (fun _ _ _ _ _ => (pgm_name sc_turning_starts.nd rfl (by first | exact Or.inl rfl | exact Or.inr rfl))) (fun _ _ _ _ _ => pmts_nil) (fun _ _ _ _ _ => (pm_call (ok_whole T base) (hr.mono (by decide)) (by rfl) T.g_whole T.F_whole.kp T.d_whole (pma_cons (pm_v (pv 2)) pma_nil))))
    refine pmb_cons ?_ ?_
    · refine pms_for (by decide) PassesOwn.never rfl ?_ ?_ ?_
      · exact (pmi_range2 (by rfl) T.b_range (pma_cons pm_int (pma_cons (pm_add (pm_callB call_len pr_len (by rfl) T.b_len (by decide +kernel) (pma_cons (pm_v (pv 0)) pma_nil)) pm_int) pma_nil)))
      · exact (pgm_name sc_turning_starts.nd rfl (by first | exact Or.inl rfl | exact Or.inr rfl))
      · refine pmb_cons ?_ ?_
        · exact (pms_set (by decide) sc_turning_starts.nd rfl (Or.inl rfl) (pm_call (ok_latest_start T base) (hr.mono (by decide)) (by rfl) T.g_latest_start T.F_latest_start.kp T.d_latest_start (pma_cons (pm_v (pv 0)) (pma_cons (pm_v (pv 1)) (pma_cons (pm_call (ok_whole T base) (hr.mono (by decide)) (by rfl) T.g_whole T.F_whole.kp T.d_whole (pma_cons (pm_v (pv 2)) pma_nil)) pma_nil)))))
        refine pmb_one ?_
        refine pms_if ?_ ?_ ?_
        · exact (pmt_isn (pm_v (pv 4)) pm_non)
        · refine pmb_one ?_
          exact (pms_expr (pm_append (pv 3) (pm_v (pv 4))))
        · exact pmb_nil
    refine pmb_one ?_
    exact (pms_ret (pm_v (pv 3))))
def m_quickest_start : SM Fl :=
    sSeq (sSet 2 (mC .non))
    (sSeq (sFor (.nm 3) (mIter (mN (fN 2 F_turning_starts) (mCons (mV 0) (mCons (mV 1) mNil)))) (sSeq (sSet 4 (mN (fN 4 F_leg_end) (mCons (mV 0) (mCons (mV 1) (mCons (mV 3) (mCons (mC (.bl true)) mNil))))))
    (sIf (tCmpM isnA (mV 4) (mC .non)) (sSeq (sSet 5 (mN (fN 2 F_minus) (mCons (mV 4) (mCons (mV 3) mNil))))
    (sIf (tOrM (tCmpM isA (mV 2) (mC .non)) (tOrM (mTru (mN (fN 2 F_less) (mCons (mV 5) (mCons (mIx (mV 2) (mC (.int 0))) mNil)))) (tAndM (tCmpM eqA (mV 5) (mIx (mV 2) (mC (.int 0)))) (mTru (mN (fN 2 F_less) (mCons (mV 3) (mCons (mIx (mV 2) (mC (.int 1))) mNil))))))) (sSet 2 (mTup (mCons (mV 5) (mCons (mV 3) mNil)))) sNop)) sNop)))
    (sRet (mV 2)))
def F_quickest_start : List MM.A → Option MM.A := runF 6 m_quickest_start
theorem ok_quickest_start (T : Tx K mg) (base : Heap) : FnOk P w K mg base CX0 6 T.a_quickest_start T.f_quickest_start ["row", "length"] (spF K 2 F_quickest_start) := fn_ok T.F_quickest_start sc_quickest_start (fun cdv A outer s H hr E => by
    have hu : ∀ (n : Nat) (B : Around), B.units = (A.deeper (envOfC "quickest_start" (defScope st_quickest_start) s.heap.objs.size T.a_quickest_start cdv)).units + n → n ≤ 90 → B.units + 65 < cLine := fun n B e h => by have := hr.un; omega
    refine pmb_cons ?_ ?_
    · exact (pms_set (by decide) sc_quickest_start.nd rfl (Or.inl rfl) pm_non)
    refine pmb_cons ?_ ?_
    · refine pms_for (by decide) PassesOwn.never rfl ?_ ?_ ?_
      · exact (pmi_seq (pm_call (ok_turning_starts T base) (hr.mono (by decide)) (by rfl) T.g_turning_starts T.F_turning_starts.kp T.d_turning_starts (pma_cons (pm_v (pv 0)) (pma_cons (pm_v (pv 1)) pma_nil))))
      · exact (pgm_name sc_quickest_start.nd rfl (by first | exact Or.inl rfl | exact Or.inr rfl))
      · refine pmb_cons ?_ ?_
        · exact (pms_set (by decide) sc_quickest_start.nd rfl (Or.inl rfl) (pm_call (ok_leg_end T base) (hr.mono (by decide)) (by rfl) T.g_leg_end T.F_leg_end.kp T.d_leg_end (pma_cons (pm_v (pv 0)) (pma_cons (pm_v (pv 1)) (pma_cons (pm_v (pv 3)) (pma_cons pm_bl pma_nil))))))
        refine pmb_one ?_
        refine pms_if ?_ ?_ ?_
        · exact (pmt_isn (pm_v (pv 4)) pm_non)
        · refine pmb_cons ?_ ?_
          · exact (pms_set (by decide) sc_quickest_start.nd rfl (Or.inl rfl) (pm_call (ok_minus T base) (hr.mono (by decide)) (by rfl) T.g_minus T.F_minus.kp T.d_minus (pma_cons (pm_v (pv 4)) (pma_cons (pm_v (pv 3)) pma_nil))))
          refine pmb_one ?_
          refine pms_if ?_ ?_ ?_
          · exact (PMW.pt (pmw_or (pmt_is (pm_v (pv 2)) pm_non) (pmw_or (pmt_tru (pm_call (ok_less T base) (hr.mono (by decide)) (by rfl) T.g_less T.F_less.kp T.d_less (pma_cons (pm_v (pv 5)) (pma_cons (pm_ix (pm_v (pv 2)) pm_int (fun _ _ => rfl)) pma_nil))) (fun _ => rfl)) (pmw_or1 (PMW.pt (pmw_and (pmt_eq (hu 0 _ rfl (by decide)) (pm_v (pv 5)) (pm_ix (pm_v (pv 2)) pm_int (fun _ _ => rfl))) (pmw_and1 (pmt_tru (pm_call (ok_less T base) (hr.mono (by decide)) (by rfl) T.g_less T.F_less.kp T.d_less (pma_cons (pm_v (pv 3)) (pma_cons (pm_ix (pm_v (pv 2)) pm_int (fun _ _ => rfl)) pma_nil))) (fun _ => rfl)))))))))
          · refine pmb_one ?_
            exact (pms_set (by decide) sc_quickest_start.nd rfl (Or.inl rfl) (pm_tup (pma_cons (pm_v (pv 5)) (pma_cons (pm_v (pv 3)) pma_nil))))
          · exact pmb_nil
        · exact pmb_nil
    refine pmb_one ?_
    exact (pms_ret (pm_v (pv 2))))
theorem ok__law_box (T : Tx K mg) (base : Heap) : FnOk P w K mg base CX0 1 T.a__law_box T.f__law_box ["script"] (spF K 1 F__law_box) := fn_ok T.F__law_box sc__law_box (fun cdv A outer s H hr E => by
    have hu : ∀ (n : Nat) (B : Around), B.units = (A.deeper (envOfC "_law_box" (defScope st__law_box) s.heap.objs.size T.a__law_box cdv)).units + n → n ≤ 90 → B.units + 65 < cLine := fun n B e h => by have := hr.un; omega
    refine pmb_one ?_
    exact (pms_ret (pm_lst (pma_cons (pm_callT call_list_of pr_list (by rfl) T.b_list (by decide +kernel) (pma_cons (pm_sl (pm_v (pv 0)) pmp_none (pmp_some pm_int)) pma_nil)) (pma_cons pm_int (pma_cons (pm_add pm_int (pm_callB call_len pr_len (by rfl) T.b_len (by decide +kernel) (pma_cons (pm_v (pv 0)) pma_nil))) pma_nil))))))
theorem ok__law_load (T : Tx K mg) (base : Heap) : FnOk P w K mg base CX0 1 T.a__law_load T.f__law_load ["box"] (spB K 1 F_load) := load_ok (K := K) T.F__law_load sc__law_load rfl rfl (st1 := (defBody st__law_load).getD 0 (.Pass ⟨0, 0, 0, 0⟩)) (rest := (defBody st__law_load).drop 1) rfl
    (fun cdv A outer s H hr E => ps_bor (pv 0) sc__law_load.nd rfl (Or.inl rfl)) (fun cdv A outer s H hr E => by
    refine pmb_cons ?_ ?_
    · refine pms_if ?_ ?_ ?_
      · exact (pmt_gt (pm_callB call_len pr_len (by rfl) T.b_len (by decide +kernel) (pma_cons (pm_v (pv 1)) pma_nil)) pm_int)
      · refine pmb_cons ?_ ?_
        · exact (pms_set (by decide) sc__law_load.nd rfl (Or.inl rfl) (pm_callT call_int1 pr_int (by rfl) T.b_int (by decide +kernel) (pma_cons (pm_popAt (pv 1) pm_int) pma_nil)))
        refine pmb_cons ?_ ?_
        · exact (pms_set (by decide) sc__law_load.nd rfl (Or.inl rfl) (pm_if (pmt_ge (pm_v (pv 2)) pm_int) (pm_mul pm_int (pm_v (pv 2))) (pm_sub (pm_mul (pm_neg pm_int) (pm_v (pv 2))) pm_int)))
        refine pmb_cons ?_ ?_
        · refine pms_if ?_ ?_ ?_
          · exact (pmt_ge (pm_v (pv 3)) pm_int)
          · refine pmb_one ?_
            exact (pms_ret (pm_v (pv 3)))
          · exact pmb_nil
        refine pmb_one ?_
        exact (pms_setIx (pv 0) pm_int (pm_mod (pm_callT call_int1 pr_int (by rfl) T.b_int (by decide +kernel) (pma_cons (pm_add (pm_add (pm_mul (pm_ix (pm_v (pv 0)) pm_int (fun _ _ => rfl)) pm_int) (pm_mul (pm_v (pv 3)) pm_int)) pm_int) pma_nil)) pm_int))
      · exact pmb_nil
    refine pmb_cons ?_ ?_
    · exact (pms_set (by decide) sc__law_load.nd rfl (Or.inl rfl) (pm_mod (pm_callT call_int1 pr_int (by rfl) T.b_int (by decide +kernel) (pma_cons (pm_add (pm_mul (pm_ix (pm_v (pv 0)) pm_int (fun _ _ => rfl)) pm_int) pm_int) pma_nil)) pm_int))
    refine pmb_cons ?_ ?_
    · exact (pms_set (by decide) sc__law_load.nd rfl (Or.inl rfl) (pm_mod (pm_callT call_int1 pr_int (by rfl) T.b_int (by decide +kernel) (pma_cons (pm_add (pm_mul (pm_v (pv 4)) pm_int) pm_int) pma_nil)) pm_int))
    refine pmb_cons ?_ ?_
    · exact (pms_setIx (pv 0) pm_int (pm_mod (pm_callT call_int1 pr_int (by rfl) T.b_int (by decide +kernel) (pma_cons (pm_add (pm_mul (pm_v (pv 5)) pm_int) pm_int) pma_nil)) pm_int))
    refine pmb_one ?_
    exact (pms_ret (pm_add (pm_add (pm_mul (pm_v (pv 4)) pm_int) (pm_mul (pm_v (pv 5)) pm_int)) (pm_ix (pm_v (pv 0)) pm_int (fun _ _ => rfl)))))
theorem ok__law_draw (T : Tx K mg) (base : Heap) : FnOk P w K mg base CX0 2 T.a__law_draw T.f__law_draw ["box", "many"] (spB K 2 F__law_draw) := fnB_ok T.F__law_draw sc__law_draw (by decide) (fun cdv A outer s H hr E => by
    have hu : ∀ (n : Nat) (B : Around), B.units = (A.deeper (envOfC "_law_draw" (defScope st__law_draw) s.heap.objs.size T.a__law_draw cdv)).units + n → n ≤ 90 → B.units + 65 < cLine := fun n B e h => by have := hr.un; omega
    refine pmb_cons ?_ ?_
    · refine pms_if ?_ ?_ ?_
      · exact (pmt_lt (pm_ix (pm_v (pv 0)) pm_int (fun _ _ => rfl)) (pm_v (pv 1)))
      · refine pmb_one ?_
        exact (pms_setIx (pv 0) pm_int (pm_callBr (ok__law_load T base) (hr.mono (by decide)) (by rfl) T.g__law_load T.F__law_load.kp T.d__law_load (pv 0) pma_nil))
      · exact pmb_nil
    refine pmb_cons ?_ ?_
    · exact (pms_set (by decide) sc__law_draw.nd rfl (Or.inl rfl) (pm_mod (pm_callT call_int1 pr_int (by rfl) T.b_int (by decide +kernel) (pma_cons (pm_ix (pm_v (pv 0)) pm_int (fun _ _ => rfl)) pma_nil)) (pm_v (pv 1))))
    refine pmb_cons ?_ ?_
    · exact (pms_setIx (pv 0) pm_int (pm_fdiv (pm_ix (pm_v (pv 0)) pm_int (fun _ _ => rfl)) (pm_v (pv 1))))
    refine pmb_one ?_
    exact (pms_ret (pm_v (pv 2))))
theorem ok__law_same (T : Tx K mg) : ∀ (k : Nat) (base : Heap), FnOk P w K mg base CX0 (1 + k) T.a__law_same T.f__law_same ["a", "b"] (spF K 2 (F__law_same k))
  | 0, base => ok_noneF
  | k + 1, base => fn_ok T.F__law_same sc__law_same (fun cdv A outer s H hr E => by
    have ih := fun base => ok__law_same T k base
    have hu : ∀ (n : Nat) (B : Around), B.units = (A.deeper (envOfC "_law_same" (defScope st__law_same) s.heap.objs.size T.a__law_same cdv)).units + n → n ≤ 90 → B.units + 65 < cLine := fun n B e h => by have := hr.un; omega
    refine pmb_cons ?_ ?_
    · refine pms_if ?_ ?_ ?_
      · exact (PMW.pt (pmw_or (PMW.pt (pmw_and (pmt_tru (pm_callB call_isi (pr_isi .tuple) (by rfl) T.b_isinstance (by decide +kernel) (pma_cons (pm_v (pv 0)) (pma_cons (pm_ty (by rfl) T.b_tuple (by decide +kernel)) pma_nil))) (fun _ => rfl)) (pmw_and1 (pmt_tru (pm_callB call_isi (pr_isi .tuple) (by rfl) T.b_isinstance (by decide +kernel) (pma_cons (pm_v (pv 1)) (pma_cons (pm_ty (by rfl) T.b_tuple (by decide +kernel)) pma_nil))) (fun _ => rfl))))) (pmw_or1 (PMW.pt (pmw_and (pmt_tru (pm_callB call_isi (pr_isi .list) (by rfl) T.b_isinstance (by decide +kernel) (pma_cons (pm_v (pv 0)) (pma_cons (pm_ty (by rfl) T.b_list (by decide +kernel)) pma_nil))) (fun _ => rfl)) (pmw_and1 (pmt_tru (pm_callB call_isi (pr_isi .list) (by rfl) T.b_isinstance (by decide +kernel) (pma_cons (pm_v (pv 1)) (pma_cons (pm_ty (by rfl) T.b_list (by decide +kernel)) pma_nil))) (fun _ => rfl))))))))
      · refine pmb_one ?_
        exact (pms_ret (pm_and (pm_eq (hu 0 _ rfl (by decide)) (pm_callB call_len pr_len (by rfl) T.b_len (by decide +kernel) (pma_cons (pm_v (pv 0)) pma_nil)) (pm_callB call_len pr_len (by rfl) T.b_len (by decide +kernel) (pma_cons (pm_v (pv 1)) pma_nil))) (pm_one (pm_callB (cr_all rfl) pr_all (by rfl) T.b_all (by decide +kernel) (pma_cons (pm_lcW rfl sc__law_same.nd (pmi_range1 (by rfl) T.b_range (pma_cons (pm_callB call_len pr_len (by rfl) T.b_len (by decide +kernel) (pma_cons (pm_v (pv 0)) pma_nil)) pma_nil)) (blkOk_by (own := [("k", 2)]) (N := N__law_same) (sc := (defScope st__law_same)) (scope := { kind := .function, names := [(".0", .local), ("k", .local), ("_law_same", .globalImplicit), ("a", .free), ("b", .free)], isGenerator := false, isCoroutine := false }) (by decide +kernel)) rfl (by decide) (fun _ _ _ _ _ => (pgm_name sc__law_same.nd rfl (by first | exact Or.inl rfl | exact Or.inr rfl))) (fun _ _ _ _ _ => pmts_nil) (fun _ _ _ _ _ => (pm_call (ih base) (hr.mono (Nat.le_refl _)) (by rfl) T.g__law_same T.F__law_same.kp T.d__law_same (pma_cons (pm_ix (pm_v (pv 0)) (pm_v (pv 2)) (fun _ _ => rfl)) (pma_cons (pm_ix (pm_v (pv 1)) (pm_v (pv 2)) (fun _ _ => rfl)) pma_nil))))) pma_nil)))))
      · exact pmb_nil
    refine pmb_cons ?_ ?_
    · refine pms_if ?_ ?_ ?_
      · exact (PMW.pt (pmw_or (pmt_tru (pm_callB call_isi (pr_isi .bool) (by rfl) T.b_isinstance (by decide +kernel) (pma_cons (pm_v (pv 0)) (pma_cons (pm_ty (by rfl) T.b_bool (by decide +kernel)) pma_nil))) (fun _ => rfl)) (pmw_or1 (pmt_tru (pm_callB call_isi (pr_isi .bool) (by rfl) T.b_isinstance (by decide +kernel) (pma_cons (pm_v (pv 1)) (pma_cons (pm_ty (by rfl) T.b_bool (by decide +kernel)) pma_nil))) (fun _ => rfl)))))
      · refine pmb_one ?_
        exact (pms_ret (pm_and (pm_callB call_isi (pr_isi .bool) (by rfl) T.b_isinstance (by decide +kernel) (pma_cons (pm_v (pv 0)) (pma_cons (pm_ty (by rfl) T.b_bool (by decide +kernel)) pma_nil))) (pm_and (pm_callB call_isi (pr_isi .bool) (by rfl) T.b_isinstance (by decide +kernel) (pma_cons (pm_v (pv 1)) (pma_cons (pm_ty (by rfl) T.b_bool (by decide +kernel)) pma_nil))) (pm_one (pm_eq (hu 0 _ rfl (by decide)) (pm_v (pv 0)) (pm_v (pv 1)))))))
      · exact pmb_nil
    refine pmb_cons ?_ ?_
    · refine pms_if ?_ ?_ ?_
      · exact (PMW.pt (pmw_or (PMW.pt (pmw_and (pmt_tru (pm_callB call_isi (pr_isi .int) (by rfl) T.b_isinstance (by decide +kernel) (pma_cons (pm_v (pv 0)) (pma_cons (pm_ty (by rfl) T.b_int (by decide +kernel)) pma_nil))) (fun _ => rfl)) (pmw_and1 (pmt_tru (pm_callB call_isi (pr_isi .int) (by rfl) T.b_isinstance (by decide +kernel) (pma_cons (pm_v (pv 1)) (pma_cons (pm_ty (by rfl) T.b_int (by decide +kernel)) pma_nil))) (fun _ => rfl))))) (pmw_or1 (PMW.pt (pmw_and (pmt_tru (pm_callB call_isi (pr_isi .str) (by rfl) T.b_isinstance (by decide +kernel) (pma_cons (pm_v (pv 0)) (pma_cons (pm_ty (by rfl) T.b_str (by decide +kernel)) pma_nil))) (fun _ => rfl)) (pmw_and1 (pmt_tru (pm_callB call_isi (pr_isi .str) (by rfl) T.b_isinstance (by decide +kernel) (pma_cons (pm_v (pv 1)) (pma_cons (pm_ty (by rfl) T.b_str (by decide +kernel)) pma_nil))) (fun _ => rfl))))))))
      · refine pmb_one ?_
        exact (pms_ret (pm_eq (hu 0 _ rfl (by decide)) (pm_v (pv 0)) (pm_v (pv 1))))
      · exact pmb_nil
    refine pmb_one ?_
    exact (pms_ret (pm_and (pm_is (pm_v (pv 0)) pm_non) (pm_one (pm_is (pm_v (pv 1)) pm_non)))))
def m__law_ratio : SM Fl :=
    sSeq (sPar [2, 3] (mCons (mUse (mN (f1 absA) (mCons (mV 0) mNil))) (mCons (mUse (mN (f1 absA) (mCons (mV 1) mNil))) mNil)))
    (sSeq (sWhile (tCmpM neA (mV 3) (mC (.int 0))) (sPar [2, 3] (mCons (mUse (mV 3)) (mCons (mUse (m2 subA (mV 2) (m2 mulA (m2 fdivA (mV 2) (mV 3)) (mV 3)))) mNil))))
    (sRet (mIf (tCmpM gtA (mV 1) (mC (.int 0))) (mTup (mCons (m2 fdivA (mV 0) (mV 2)) (mCons (m2 fdivA (mV 1) (mV 2)) mNil))) (mTup (mCons (m2 fdivA (m1 negA (mV 0)) (mV 2)) (mCons (m2 fdivA (m1 negA (mV 1)) (mV 2)) mNil))))))
def F__law_ratio : List MM.A → Option MM.A := runF 4 m__law_ratio
theorem ok__law_ratio (T : Tx K mg) (base : Heap) : FnOk P w K mg base CX0 1 T.a__law_ratio T.f__law_ratio ["p", "q"] (spF K 2 F__law_ratio) := fn_ok T.F__law_ratio sc__law_ratio (fun cdv A outer s H hr E => by
    have hu : ∀ (n : Nat) (B : Around), B.units = (A.deeper (envOfC "_law_ratio" (defScope st__law_ratio) s.heap.objs.size T.a__law_ratio cdv)).units + n → n ≤ 90 → B.units + 65 < cLine := fun n B e h => by have := hr.un; omega
    refine pmb_cons ?_ ?_
    · exact (pms_par2 (by decide) rfl sc__law_ratio.nd rfl rfl (by decide) rfl rfl (pma_cons (pm_use (pm_callB call_abs pr_abs (by rfl) T.b_abs (by decide +kernel) (pma_cons (pm_v (pv 0)) pma_nil))) (pma_cons (pm_use (pm_callB call_abs pr_abs (by rfl) T.b_abs (by decide +kernel) (pma_cons (pm_v (pv 1)) pma_nil))) pma_nil)) (by rfl))
    refine pmb_cons ?_ ?_
    · refine pms_while PassesOwn.never ?_ ?_
      · exact (pmt_ne (hu 0 _ rfl (by decide)) (pm_v (pv 3)) pm_int)
      · refine pmb_one ?_
        exact (pms_par2 (by decide) rfl sc__law_ratio.nd rfl rfl (by decide) rfl rfl (pma_cons (pm_use (pm_v (pv 3))) (pma_cons (pm_use (pm_sub (pm_v (pv 2)) (pm_mul (pm_fdiv (pm_v (pv 2)) (pm_v (pv 3))) (pm_v (pv 3))))) pma_nil)) (by rfl))
    refine pmb_one ?_
    exact (pms_ret (pm_if (pmt_gt (pm_v (pv 1)) pm_int) (pm_tup (pma_cons (pm_fdiv (pm_v (pv 0)) (pm_v (pv 2))) (pma_cons (pm_fdiv (pm_v (pv 1)) (pm_v (pv 2))) pma_nil))) (pm_tup (pma_cons (pm_fdiv (pm_neg (pm_v (pv 0))) (pm_v (pv 2))) (pma_cons (pm_fdiv (pm_neg (pm_v (pv 1))) (pm_v (pv 2))) pma_nil))))))
def m__law_plus : SM Fl :=
    sRet (mN (fN 2 F__law_ratio) (mCons (m2 addA (m2 mulA (mIx (mV 0) (mC (.int 0))) (mIx (mV 1) (mC (.int 1)))) (m2 mulA (mIx (mV 1) (mC (.int 0))) (mIx (mV 0) (mC (.int 1))))) (mCons (m2 mulA (mIx (mV 0) (mC (.int 1))) (mIx (mV 1) (mC (.int 1)))) mNil)))
def F__law_plus : List MM.A → Option MM.A := runF 2 m__law_plus
theorem ok__law_plus (T : Tx K mg) (base : Heap) : FnOk P w K mg base CX0 2 T.a__law_plus T.f__law_plus ["one", "other"] (spF K 2 F__law_plus) := fn_ok T.F__law_plus sc__law_plus (fun cdv A outer s H hr E => by
    have hu : ∀ (n : Nat) (B : Around), B.units = (A.deeper (envOfC "_law_plus" (defScope st__law_plus) s.heap.objs.size T.a__law_plus cdv)).units + n → n ≤ 90 → B.units + 65 < cLine := fun n B e h => by have := hr.un; omega
    refine pmb_one ?_
    exact (pms_ret (pm_call (ok__law_ratio T base) (hr.mono (by decide)) (by rfl) T.g__law_ratio T.F__law_ratio.kp T.d__law_ratio (pma_cons (pm_add (pm_mul (pm_ix (pm_v (pv 0)) pm_int (fun _ _ => rfl)) (pm_ix (pm_v (pv 1)) pm_int (fun _ _ => rfl))) (pm_mul (pm_ix (pm_v (pv 1)) pm_int (fun _ _ => rfl)) (pm_ix (pm_v (pv 0)) pm_int (fun _ _ => rfl)))) (pma_cons (pm_mul (pm_ix (pm_v (pv 0)) pm_int (fun _ _ => rfl)) (pm_ix (pm_v (pv 1)) pm_int (fun _ _ => rfl))) pma_nil)))))
def m__law_less : SM Fl :=
    sRet (asV (tCmpM ltA (m2 mulA (mIx (mV 0) (mC (.int 0))) (mIx (mV 1) (mC (.int 1)))) (m2 mulA (mIx (mV 1) (mC (.int 0))) (mIx (mV 0) (mC (.int 1))))))
def F__law_less : List MM.A → Option MM.A := runF 2 m__law_less
theorem ok__law_less (T : Tx K mg) (base : Heap) : FnOk P w K mg base CX0 1 T.a__law_less T.f__law_less ["one", "other"] (spF K 2 F__law_less) := fn_ok T.F__law_less sc__law_less (fun cdv A outer s H hr E => by
    have hu : ∀ (n : Nat) (B : Around), B.units = (A.deeper (envOfC "_law_less" (defScope st__law_less) s.heap.objs.size T.a__law_less cdv)).units + n → n ≤ 90 → B.units + 65 < cLine := fun n B e h => by have := hr.un; omega
    refine pmb_one ?_
    exact (pms_ret (pm_lt (pm_mul (pm_ix (pm_v (pv 0)) pm_int (fun _ _ => rfl)) (pm_ix (pm_v (pv 1)) pm_int (fun _ _ => rfl))) (pm_mul (pm_ix (pm_v (pv 1)) pm_int (fun _ _ => rfl)) (pm_ix (pm_v (pv 0)) pm_int (fun _ _ => rfl))))))
def m__law_row : SM Fl :=
    sRet (mN (f1 tupleA) (mCons (mComp [2] (mRange1 (mCons (mV 1) mNil)) (.nm 2) tYesM (m2 subA (mCallB 2 F__law_draw 0 (mCons (mC (.int 7)) mNil)) (mC (.int 2)))) mNil))
def F__law_row : MM.A → List D → Option (D × MM.A) := runB 3 m__law_row
theorem ok__law_row (T : Tx K mg) (base : Heap) : FnOk P w K mg base CX0 3 T.a__law_row T.f__law_row ["box", "hours"] (spB K 2 F__law_row) := fnB_ok T.F__law_row sc__law_row (by decide) (fun cdv A outer s H hr E => by
    have hu : ∀ (n : Nat) (B : Around), B.units = (A.deeper (envOfC "_law_row" (defScope st__law_row) s.heap.objs.size T.a__law_row cdv)).units + n → n ≤ 90 → B.units + 65 < cLine := fun n B e h => by have := hr.un; omega
    refine pmb_one ?_
    exact (pms_ret (pm_callT call_tuple_of pr_tuple (by rfl) T.b_tuple (by decide +kernel) (pma_cons (pm_lcW rfl sc__law_row.nd (pmi_range1 (by rfl) T.b_range (pma_cons (pm_v (pv 1)) pma_nil)) (blkOk_by (own := [("k", 2)]) (N := N__law_row) (sc := (defScope st__law_row)) (scope := { kind := .function, names := [(".0", .local), ("k", .local), ("_law_draw", .globalImplicit), ("box", .free)], isGenerator := false, isCoroutine := false }) (by decide +kernel)) rfl (by decide) (fun _ _ _ _ _ => (pgm_name sc__law_row.nd rfl (by first | exact Or.inl rfl | exact Or.inr rfl))) (fun _ _ _ _ _ => pmts_nil) (fun _ _ _ _ _ => (pm_sub (pm_callBr (ok__law_draw T base) (hr.mono (by decide)) (by rfl) T.g__law_draw T.F__law_draw.kp T.d__law_draw (pv 0) (pma_cons pm_int pma_nil)) pm_int))) pma_nil))))
def m__law_made : SM Fl :=
    sSeq (sSet 4 (mTup (mCons (mC (.int 0)) (mCons (mC (.int 1)) mNil))))
    (sSeq (sFor (.nm 5) (mRange1 (mCons (mN (f1 lenA) (mCons (mV 0) mNil)) mNil)) (sSeq (sPar [6, 7] (mCons (mUse (mTup (mCons (mV 5) (mCons (mC (.int 1)) mNil)))) (mCons (mUse (mTup (mCons (m2 addA (mV 5) (mC (.int 1))) (mCons (mC (.int 1)) mNil)))) mNil)))
    (sSeq (sSet 6 (mIf (mTru (mN (fN 2 F__law_less) (mCons (mV 6) (mCons (mV 1) mNil)))) (mV 1) (mV 6)))
    (sSeq (sSet 7 (mIf (mTru (mN (fN 2 F__law_less) (mCons (mV 2) (mCons (mV 7) mNil)))) (mV 2) (mV 7)))
    (sIf (mTru (mN (fN 2 F__law_less) (mCons (mV 6) (mCons (mV 7) mNil)))) (sSeq (sSet 8 (mIf (mTru (mV 3)) (mN (f2 max2A) (mCons (mC (.int 0)) (mCons (mIx (mV 0) (mV 5)) mNil))) (mIx (mV 0) (mV 5))))
    (sSeq (sSet 9 (mN (fN 2 F__law_plus) (mCons (mV 7) (mCons (mTup (mCons (m1 negA (mIx (mV 6) (mC (.int 0)))) (mCons (mIx (mV 6) (mC (.int 1))) mNil))) mNil))))
    (sSet 4 (mN (fN 2 F__law_plus) (mCons (mV 4) (mCons (mN (fN 2 F__law_ratio) (mCons (m2 mulA (mIx (mV 9) (mC (.int 0))) (mV 8)) (mCons (mIx (mV 9) (mC (.int 1))) mNil))) mNil)))))) sNop)))))
    (sRet (mV 4)))
def F__law_made : List MM.A → Option MM.A := runF 10 m__law_made
theorem ok__law_made (T : Tx K mg) (base : Heap) : FnOk P w K mg base CX0 3 T.a__law_made T.f__law_made ["row", "start", "end", "anchored"] (spF K 4 F__law_made) := fn_ok T.F__law_made sc__law_made (fun cdv A outer s H hr E => by
    have hu : ∀ (n : Nat) (B : Around), B.units = (A.deeper (envOfC "_law_made" (defScope st__law_made) s.heap.objs.size T.a__law_made cdv)).units + n → n ≤ 90 → B.units + 65 < cLine := fun n B e h => by have := hr.un; omega
    refine pmb_cons ?_ ?_
    · exact (pms_set (by decide) sc__law_made.nd rfl (Or.inl rfl) (pm_tup (pma_cons pm_int (pma_cons pm_int pma_nil))))
    refine pmb_cons ?_ ?_
    · refine pms_for (by decide) PassesOwn.never rfl ?_ ?_ ?_
      · exact (pmi_range1 (by rfl) T.b_range (pma_cons (pm_callB call_len pr_len (by rfl) T.b_len (by decide +kernel) (pma_cons (pm_v (pv 0)) pma_nil)) pma_nil))
      · exact (pgm_name sc__law_made.nd rfl (by first | exact Or.inl rfl | exact Or.inr rfl))
      · refine pmb_cons ?_ ?_
        · exact (pms_par2 (by decide) rfl sc__law_made.nd rfl rfl (by decide) rfl rfl (pma_cons (pm_use (pm_tup (pma_cons (pm_v (pv 5)) (pma_cons pm_int pma_nil)))) (pma_cons (pm_use (pm_tup (pma_cons (pm_add (pm_v (pv 5)) pm_int) (pma_cons pm_int pma_nil)))) pma_nil)) (by rfl))
        refine pmb_cons ?_ ?_
        · exact (pms_set (by decide) sc__law_made.nd rfl (Or.inl rfl) (pm_if (pmt_tru (pm_call (ok__law_less T base) (hr.mono (by decide)) (by rfl) T.g__law_less T.F__law_less.kp T.d__law_less (pma_cons (pm_v (pv 6)) (pma_cons (pm_v (pv 1)) pma_nil))) (fun _ => rfl)) (pm_v (pv 1)) (pm_v (pv 6))))
        refine pmb_cons ?_ ?_
        · exact (pms_set (by decide) sc__law_made.nd rfl (Or.inl rfl) (pm_if (pmt_tru (pm_call (ok__law_less T base) (hr.mono (by decide)) (by rfl) T.g__law_less T.F__law_less.kp T.d__law_less (pma_cons (pm_v (pv 2)) (pma_cons (pm_v (pv 7)) pma_nil))) (fun _ => rfl)) (pm_v (pv 2)) (pm_v (pv 7))))
        refine pmb_one ?_
        refine pms_if ?_ ?_ ?_
        · exact (pmt_tru (pm_call (ok__law_less T base) (hr.mono (by decide)) (by rfl) T.g__law_less T.F__law_less.kp T.d__law_less (pma_cons (pm_v (pv 6)) (pma_cons (pm_v (pv 7)) pma_nil))) (fun _ => rfl))
        · refine pmb_cons ?_ ?_
          · exact (pms_set (by decide) sc__law_made.nd rfl (Or.inl rfl) (pm_if (pmt_tru (pm_v (pv 3)) (fun _ => rfl)) (pm_callB (call_max2 rfl) pr_max2 (by rfl) T.b_max (by decide +kernel) (pma_cons pm_int (pma_cons (pm_ix (pm_v (pv 0)) (pm_v (pv 5)) (fun _ _ => rfl)) pma_nil))) (pm_ix (pm_v (pv 0)) (pm_v (pv 5)) (fun _ _ => rfl))))
          refine pmb_cons ?_ ?_
          · exact (pms_set (by decide) sc__law_made.nd rfl (Or.inl rfl) (pm_call (ok__law_plus T base) (hr.mono (by decide)) (by rfl) T.g__law_plus T.F__law_plus.kp T.d__law_plus (pma_cons (pm_v (pv 7)) (pma_cons (pm_tup (pma_cons (pm_neg (pm_ix (pm_v (pv 6)) pm_int (fun _ _ => rfl))) (pma_cons (pm_ix (pm_v (pv 6)) pm_int (fun _ _ => rfl)) pma_nil))) pma_nil))))
          refine pmb_one ?_
          exact (pms_set (by decide) sc__law_made.nd rfl (Or.inl rfl) (pm_call (ok__law_plus T base) (hr.mono (by decide)) (by rfl) T.g__law_plus T.F__law_plus.kp T.d__law_plus (pma_cons (pm_v (pv 4)) (pma_cons (pm_call (ok__law_ratio T base) (hr.mono (by decide)) (by rfl) T.g__law_ratio T.F__law_ratio.kp T.d__law_ratio (pma_cons (pm_mul (pm_ix (pm_v (pv 9)) pm_int (fun _ _ => rfl)) (pm_v (pv 8))) (pma_cons (pm_ix (pm_v (pv 9)) pm_int (fun _ _ => rfl)) pma_nil))) pma_nil))))
        · exact pmb_nil
    refine pmb_one ?_
    exact (pms_ret (pm_v (pv 4))))
def m__law_end : SM Fl :=
    sSeq (sFor (.nm 4) (mRange2 (mCons (m2 fdivA (mIx (mV 2) (mC (.int 0))) (mIx (mV 2) (mC (.int 1)))) (mCons (mN (f1 lenA) (mCons (mV 0) mNil)) mNil))) (sSeq (sSet 5 (mTup (mCons (m2 addA (mV 4) (mC (.int 1))) (mCons (mC (.int 1)) mNil))))
    (sIf (tNotM (mTru (mN (fN 2 F__law_less) (mCons (mN (fN 4 F__law_made) (mCons (mV 0) (mCons (mV 2) (mCons (mV 5) (mCons (mV 3) mNil))))) (mCons (mTup (mCons (mV 1) (mCons (mC (.int 1)) mNil))) mNil))))) (sSeq (sSet 6 (mIf (mTru (mN (fN 2 F__law_less) (mCons (mTup (mCons (mV 4) (mCons (mC (.int 1)) mNil))) (mCons (mV 2) mNil)))) (mV 2) (mTup (mCons (mV 4) (mCons (mC (.int 1)) mNil)))))
    (sSeq (sSet 7 (mN (fN 4 F__law_made) (mCons (mV 0) (mCons (mV 2) (mCons (mV 6) (mCons (mV 3) mNil))))))
    (sSeq (sSet 8 (mN (fN 2 F__law_plus) (mCons (mTup (mCons (mV 1) (mCons (mC (.int 1)) mNil))) (mCons (mTup (mCons (m1 negA (mIx (mV 7) (mC (.int 0)))) (mCons (mIx (mV 7) (mC (.int 1))) mNil))) mNil))))
    (sRet (mN (fN 2 F__law_plus) (mCons (mV 6) (mCons (mN (fN 2 F__law_ratio) (mCons (mIx (mV 8) (mC (.int 0))) (mCons (m2 mulA (mIx (mV 8) (mC (.int 1))) (mIx (mV 0) (mV 4))) mNil))) mNil))))))) sNop)))
    (sRet (mC .non))
def F__law_end : List MM.A → Option MM.A := runF 9 m__law_end
theorem ok__law_end (T : Tx K mg) (base : Heap) : FnOk P w K mg base CX0 4 T.a__law_end T.f__law_end ["row", "length", "start", "anchored"] (spF K 4 F__law_end) := fn_ok T.F__law_end sc__law_end (fun cdv A outer s H hr E => by
    have hu : ∀ (n : Nat) (B : Around), B.units = (A.deeper (envOfC "_law_end" (defScope st__law_end) s.heap.objs.size T.a__law_end cdv)).units + n → n ≤ 90 → B.units + 65 < cLine := fun n B e h => by have := hr.un; omega
    refine pmb_cons ?_ ?_
    · refine pms_for (by decide) PassesOwn.never rfl ?_ ?_ ?_
      · exact (pmi_range2 (by rfl) T.b_range (pma_cons (pm_fdiv (pm_ix (pm_v (pv 2)) pm_int (fun _ _ => rfl)) (pm_ix (pm_v (pv 2)) pm_int (fun _ _ => rfl))) (pma_cons (pm_callB call_len pr_len (by rfl) T.b_len (by decide +kernel) (pma_cons (pm_v (pv 0)) pma_nil)) pma_nil)))
      · exact (pgm_name sc__law_end.nd rfl (by first | exact Or.inl rfl | exact Or.inr rfl))
      · refine pmb_cons ?_ ?_
        · exact (pms_set (by decide) sc__law_end.nd rfl (Or.inl rfl) (pm_tup (pma_cons (pm_add (pm_v (pv 4)) pm_int) (pma_cons pm_int pma_nil))))
        refine pmb_one ?_
        refine pms_if ?_ ?_ ?_
        · exact (pmt_not (pmt_tru (pm_call (ok__law_less T base) (hr.mono (by decide)) (by rfl) T.g__law_less T.F__law_less.kp T.d__law_less (pma_cons (pm_call (ok__law_made T base) (hr.mono (by decide)) (by rfl) T.g__law_made T.F__law_made.kp T.d__law_made (pma_cons (pm_v (pv 0)) (pma_cons (pm_v (pv 2)) (pma_cons (pm_v (pv 5)) (pma_cons (pm_v (pv 3)) pma_nil))))) (pma_cons (pm_tup (pma_cons (pm_v (pv 1)) (pma_cons pm_int pma_nil))) pma_nil))) (fun _ => rfl)))
        · refine pmb_cons ?_ ?_
          · exact (pms_set (by decide) sc__law_end.nd rfl (Or.inl rfl) (pm_if (pmt_tru (pm_call (ok__law_less T base) (hr.mono (by decide)) (by rfl) T.g__law_less T.F__law_less.kp T.d__law_less (pma_cons (pm_tup (pma_cons (pm_v (pv 4)) (pma_cons pm_int pma_nil))) (pma_cons (pm_v (pv 2)) pma_nil))) (fun _ => rfl)) (pm_v (pv 2)) (pm_tup (pma_cons (pm_v (pv 4)) (pma_cons pm_int pma_nil)))))
          refine pmb_cons ?_ ?_
          · exact (pms_set (by decide) sc__law_end.nd rfl (Or.inl rfl) (pm_call (ok__law_made T base) (hr.mono (by decide)) (by rfl) T.g__law_made T.F__law_made.kp T.d__law_made (pma_cons (pm_v (pv 0)) (pma_cons (pm_v (pv 2)) (pma_cons (pm_v (pv 6)) (pma_cons (pm_v (pv 3)) pma_nil))))))
          refine pmb_cons ?_ ?_
          · exact (pms_set (by decide) sc__law_end.nd rfl (Or.inl rfl) (pm_call (ok__law_plus T base) (hr.mono (by decide)) (by rfl) T.g__law_plus T.F__law_plus.kp T.d__law_plus (pma_cons (pm_tup (pma_cons (pm_v (pv 1)) (pma_cons pm_int pma_nil))) (pma_cons (pm_tup (pma_cons (pm_neg (pm_ix (pm_v (pv 7)) pm_int (fun _ _ => rfl))) (pma_cons (pm_ix (pm_v (pv 7)) pm_int (fun _ _ => rfl)) pma_nil))) pma_nil))))
          refine pmb_one ?_
          exact (pms_ret (pm_call (ok__law_plus T base) (hr.mono (by decide)) (by rfl) T.g__law_plus T.F__law_plus.kp T.d__law_plus (pma_cons (pm_v (pv 6)) (pma_cons (pm_call (ok__law_ratio T base) (hr.mono (by decide)) (by rfl) T.g__law_ratio T.F__law_ratio.kp T.d__law_ratio (pma_cons (pm_ix (pm_v (pv 8)) pm_int (fun _ _ => rfl)) (pma_cons (pm_mul (pm_ix (pm_v (pv 8)) pm_int (fun _ _ => rfl)) (pm_ix (pm_v (pv 0)) (pm_v (pv 4)) (fun _ _ => rfl))) pma_nil))) pma_nil))))
        · exact pmb_nil
    refine pmb_one ?_
    exact (pms_ret pm_non))
def m_law : SM Fl :=
    sSeq (sSet 1 (mN (fN 1 F__law_box) (mCons (mV 0) mNil)))
    (sSeq (sFor (.nm 2) (mRange1 (mCons (mC (.int 4)) mNil)) (sSeq (sSet 3 (m2 addA (mC (.int 1)) (mCallB 2 F__law_draw 1 (mCons (mC (.int 8)) mNil))))
    (sSeq (sPar [4, 5] (mCons (mUse (mCallB 2 F__law_row 1 (mCons (mV 3) mNil))) (mCons (mUse (m2 addA (mC (.int 1)) (mCallB 2 F__law_draw 1 (mCons (mC (.int 9)) mNil)))) mNil)))
    (sSeq (sSet 6 (mN (fN 2 F__law_ratio) (mCons (mCallB 2 F__law_draw 1 (mCons (m2 mulA (mC (.int 6)) (mV 3)) mNil)) (mCons (mC (.int 6)) mNil))))
    (sSeq (sSet 7 (mN (fN 3 F_best_drift) (mCons (mV 4) (mCons (mV 5) (mCons (mV 6) mNil)))))
    (sSeq (sSet 8 (mLst mNil))
    (sSeq (sFor (.nm 9) (mRange1 (mCons (m2 mulA (mC (.int 12)) (mV 3)) mNil)) (sSeq (sSet 10 (mTup (mCons (mV 9) (mCons (mC (.int 12)) mNil))))
    (sIf (tNotM (mTru (mN (fN 2 F__law_less) (mCons (mV 10) (mCons (mV 6) mNil))))) (sSeq (sSet 11 (mN (fN 4 F__law_end) (mCons (mV 4) (mCons (mV 5) (mCons (mN (fN 2 F__law_ratio) (mCons (mV 9) (mCons (mC (.int 12)) mNil))) (mCons (mC (.bl false)) mNil))))))
    (sIf (tCmpM isnA (mV 11) (mC .non)) (sExpr (mAppend 8 (mTup (mCons (mV 11) (mCons (mN (fN 2 F__law_ratio) (mCons (mV 9) (mCons (mC (.int 12)) mNil))) mNil))))) sNop)) sNop)))
    (sSeq (sIf (tCmpM neA (asV (tCmpM isA (mV 7) (mC .non))) (asV (tCmpM eqA (mV 8) (mLst mNil)))) (sRet (mC (.bl false))) sNop)
    (sSeq (sIf (tCmpM isnA (mV 7) (mC .non)) (sSeq (sUnp (.tp [.nm 11, .nm 12]) (mV 7))
    (sSeq (sIf (tOrM (tNotM (mTru (mN (fN 2 (F__law_same 70)) (mCons (mN (fN 4 F__law_end) (mCons (mV 4) (mCons (mV 5) (mCons (mV 12) (mCons (mC (.bl false)) mNil))))) (mCons (mV 11) mNil))))) (mTru (mN (f1 anyA) (mCons (mComp [20, 21] (mIter (mV 8)) (.tp [.nm 20, .nm 21]) tYesM (mN (fN 2 F__law_less) (mCons (mV 20) (mCons (mV 11) mNil)))) mNil)))) (sRet (mC (.bl false))) sNop)
    (sSeq (sIf (tOrM (mTru (mN (f1 anyA) (mCons (mComp [20, 21] (mIter (mV 8)) (.tp [.nm 20, .nm 21]) tYesM (mAndV (asV (tCmpM eqA (mV 20) (mV 11))) (mN (fN 2 F__law_less) (mCons (mV 21) (mCons (mV 12) mNil))))) mNil))) (tOrM (mTru (mN (fN 2 F__law_less) (mCons (mV 12) (mCons (mV 6) mNil)))) (tAndM (tCmpM neA (mV 12) (mV 6)) (tCmpM neA (mIx (mV 12) (mC (.int 1))) (mC (.int 1)))))) (sRet (mC (.bl false))) sNop)
    (sIf (mTru (mN (fN 2 F_less) (mCons (mV 11) (mCons (mN (fN 4 F_leg_end) (mCons (mV 4) (mCons (mV 5) (mCons (mV 6) (mCons (mC (.bl true)) mNil))))) mNil)))) (sRet (mC (.bl false))) sNop)))) sNop)
    (sSeq (sSet 13 (mN (fN 4 F_leg_end) (mCons (mV 4) (mCons (mV 5) (mCons (mV 6) (mCons (mC (.bl false)) mNil))))))
    (sSeq (sIf (tAndM (tCmpM isnA (mV 13) (mC .non)) (tOrM (tCmpM isA (mV 7) (mC .non)) (mTru (mN (fN 2 F_less) (mCons (mV 13) (mCons (mIx (mV 7) (mC (.int 0))) mNil)))))) (sRet (mC (.bl false))) sNop)
    (sSeq (sSet 14 (m2 addA (m2 addA (mLst (mCons (mV 6) mNil)) (mComp [9] (mRange1 (mCons (mV 3) mNil)) (.nm 9) (mTru (mN (fN 2 F__law_less) (mCons (mV 6) (mCons (mTup (mCons (mV 9) (mCons (mC (.int 1)) mNil))) mNil)))) (mTup (mCons (mV 9) (mCons (mC (.int 1)) mNil))))) (mIf (mTru (mN (fN 2 F__law_less) (mCons (mV 6) (mCons (mTup (mCons (mV 3) (mCons (mC (.int 1)) mNil))) mNil)))) (mLst (mCons (mTup (mCons (mV 3) (mCons (mC (.int 1)) mNil))) mNil)) (mLst mNil))))
    (sSeq (sIf (tNotM (mTru (mN (fN 2 (F__law_same 70)) (mCons (mN (fN 3 F_drift_starts) (mCons (mV 4) (mCons (mV 6) (mCons (mTup (mCons (mV 3) (mCons (mC (.int 1)) mNil))) mNil)))) (mCons (mV 14) mNil))))) (sRet (mC (.bl false))) sNop)
    (sSeq (sSet 15 (mComp [9] (mRange1 (mCons (mV 3) mNil)) (.nm 9) tYesM (mTup (mCons (mV 9) (mCons (mC (.int 1)) mNil)))))
    (sSeq (sFor (.nm 9) (mRange2 (mCons (mC (.int 1)) (mCons (m2 addA (mV 3) (mC (.int 1))) mNil))) (sSeq (sSet 16 (mN (fN 3 F_latest_start) (mCons (mV 4) (mCons (mV 5) (mCons (mTup (mCons (mV 9) (mCons (mC (.int 1)) mNil))) mNil)))))
    (sIf (tCmpM isnA (mV 16) (mC .non)) (sExpr (mAppend 15 (mV 16))) sNop)))
    (sSeq (sIf (tNotM (mTru (mN (fN 2 (F__law_same 70)) (mCons (mN (fN 2 F_turning_starts) (mCons (mV 4) (mCons (mV 5) mNil))) (mCons (mV 15) mNil))))) (sRet (mC (.bl false))) sNop)
    (sSeq (sSet 17 (mN (fN 2 F_quickest_start) (mCons (mV 4) (mCons (mV 5) mNil))))
    (sSeq (sSet 18 (mLst mNil))
    (sSeq (sFor (.nm 10) (mIter (m2 addA (mV 15) (mComp [9] (mRange1 (mCons (m2 mulA (mC (.int 12)) (mV 3)) mNil)) (.nm 9) tYesM (mN (fN 2 F__law_ratio) (mCons (mV 9) (mCons (mC (.int 12)) mNil)))))) (sSeq (sSet 11 (mN (fN 4 F__law_end) (mCons (mV 4) (mCons (mV 5) (mCons (mV 10) (mCons (mC (.bl true)) mNil))))))
    (sIf (tCmpM isnA (mV 11) (mC .non)) (sExpr (mAppend 18 (mTup (mCons (mN (fN 2 F__law_plus) (mCons (mV 11) (mCons (mTup (mCons (m1 negA (mIx (mV 10) (mC (.int 0)))) (mCons (mIx (mV 10) (mC (.int 1))) mNil))) mNil))) (mCons (mV 10) mNil))))) sNop)))
    (sSeq (sIf (tCmpM neA (asV (tCmpM isA (mV 17) (mC .non))) (asV (tCmpM eqA (mV 18) (mLst mNil)))) (sRet (mC (.bl false))) sNop)
    (sIf (tCmpM isnA (mV 17) (mC .non)) (sSeq (sUnp (.tp [.nm 19, .nm 10]) (mV 17))
    (sSeq (sIf (mTru (mN (f1 anyA) (mCons (mComp [20, 21] (mIter (mV 18)) (.tp [.nm 20, .nm 21]) tYesM (mOrV (mN (fN 2 F__law_less) (mCons (mV 20) (mCons (mV 19) mNil))) (mAndV (asV (tCmpM eqA (mV 20) (mV 19))) (mN (fN 2 F__law_less) (mCons (mV 21) (mCons (mV 10) mNil)))))) mNil))) (sRet (mC (.bl false))) sNop)
    (sSeq (sSet 11 (mN (fN 4 F__law_end) (mCons (mV 4) (mCons (mV 5) (mCons (mV 10) (mCons (mC (.bl true)) mNil))))))
    (sIf (tOrM (tCmpM neA (mN (fN 2 F__law_plus) (mCons (mV 11) (mCons (mTup (mCons (m1 negA (mIx (mV 10) (mC (.int 0)))) (mCons (mIx (mV 10) (mC (.int 1))) mNil))) mNil))) (mV 19)) (tAndM (tCmpM neA (mIx (mV 10) (mC (.int 1))) (mC (.int 1))) (tCmpM neA (mIx (mV 11) (mC (.int 1))) (mC (.int 1))))) (sRet (mC (.bl false))) sNop)))) sNop)))))))))))))))))))))
    (sRet (mC (.bl true))))
def F_law : List MM.A → Option MM.A := runF 22 m_law
theorem ok_law (T : Tx K mg) (base : Heap) : FnOk P w K mg base CX0 72 T.a_law T.f_law ["script"] (spF K 1 F_law) := fn_ok T.F_law sc_law (fun cdv A outer s H hr E => by
    have hu : ∀ (n : Nat) (B : Around), B.units = (A.deeper (envOfC "law" (defScope st_law) s.heap.objs.size T.a_law cdv)).units + n → n ≤ 90 → B.units + 65 < cLine := fun n B e h => by have := hr.un; omega
    refine pmb_cons ?_ ?_
    · exact (pms_set (by decide) sc_law.nd rfl (Or.inl rfl) (pm_call (ok__law_box T base) (hr.mono (by decide)) (by rfl) T.g__law_box T.F__law_box.kp T.d__law_box (pma_cons (pm_v (pv 0)) pma_nil)))
    refine pmb_cons ?_ ?_
    · refine pms_for (by decide) PassesOwn.never rfl ?_ ?_ ?_
      · exact (pmi_range1 (by rfl) T.b_range (pma_cons pm_int pma_nil))
      · exact (pgm_name sc_law.nd rfl (by first | exact Or.inl rfl | exact Or.inr rfl))
      · refine pmb_cons ?_ ?_
        · exact (pms_set (by decide) sc_law.nd rfl (Or.inl rfl) (pm_add pm_int (pm_callBr (ok__law_draw T base) (hr.mono (by decide)) (by rfl) T.g__law_draw T.F__law_draw.kp T.d__law_draw (pv 1) (pma_cons pm_int pma_nil))))
        refine pmb_cons ?_ ?_
        · exact (pms_par2 (by decide) rfl sc_law.nd rfl rfl (by decide) rfl rfl (pma_cons (pm_use (pm_callBr (ok__law_row T base) (hr.mono (by decide)) (by rfl) T.g__law_row T.F__law_row.kp T.d__law_row (pv 1) (pma_cons (pm_v (pv 3)) pma_nil))) (pma_cons (pm_use (pm_add pm_int (pm_callBr (ok__law_draw T base) (hr.mono (by decide)) (by rfl) T.g__law_draw T.F__law_draw.kp T.d__law_draw (pv 1) (pma_cons pm_int pma_nil)))) pma_nil)) (by rfl))
        refine pmb_cons ?_ ?_
        · exact (pms_set (by decide) sc_law.nd rfl (Or.inr rfl) (pm_call (ok__law_ratio T base) (hr.mono (by decide)) (by rfl) T.g__law_ratio T.F__law_ratio.kp T.d__law_ratio (pma_cons (pm_callBr (ok__law_draw T base) (hr.mono (by decide)) (by rfl) T.g__law_draw T.F__law_draw.kp T.d__law_draw (pv 1) (pma_cons (pm_mul pm_int (pm_v (pv 3))) pma_nil)) (pma_cons pm_int pma_nil))))
        refine pmb_cons ?_ ?_
        · exact (pms_set (by decide) sc_law.nd rfl (Or.inl rfl) (pm_call (ok_best_drift T base) (hr.mono (by decide)) (by rfl) T.g_best_drift T.F_best_drift.kp T.d_best_drift (pma_cons (pm_v (pv 4)) (pma_cons (pm_v (pv 5)) (pma_cons (pm_v (pv 6)) pma_nil)))))
        refine pmb_cons ?_ ?_
        · exact (pms_set (by decide) sc_law.nd rfl (Or.inl rfl) (pm_lst pma_nil))
        refine pmb_cons ?_ ?_
        · refine pms_for (by decide) PassesOwn.never rfl ?_ ?_ ?_
          · exact (pmi_range1 (by rfl) T.b_range (pma_cons (pm_mul pm_int (pm_v (pv 3))) pma_nil))
          · exact (pgm_name sc_law.nd rfl (by first | exact Or.inl rfl | exact Or.inr rfl))
          · refine pmb_cons ?_ ?_
            · exact (pms_set (by decide) sc_law.nd rfl (Or.inr rfl) (pm_tup (pma_cons (pm_v (pv 9)) (pma_cons pm_int pma_nil))))
            refine pmb_one ?_
            refine pms_if ?_ ?_ ?_
            · exact (pmt_not (pmt_tru (pm_call (ok__law_less T base) (hr.mono (by decide)) (by rfl) T.g__law_less T.F__law_less.kp T.d__law_less (pma_cons (pm_v (pv 10)) (pma_cons (pm_v (pv 6)) pma_nil))) (fun _ => rfl)))
            · refine pmb_cons ?_ ?_
              · exact (pms_set (by decide) sc_law.nd rfl (Or.inr rfl) (pm_call (ok__law_end T base) (hr.mono (by decide)) (by rfl) T.g__law_end T.F__law_end.kp T.d__law_end (pma_cons (pm_v (pv 4)) (pma_cons (pm_v (pv 5)) (pma_cons (pm_call (ok__law_ratio T base) (hr.mono (by decide)) (by rfl) T.g__law_ratio T.F__law_ratio.kp T.d__law_ratio (pma_cons (pm_v (pv 9)) (pma_cons pm_int pma_nil))) (pma_cons pm_bl pma_nil))))))
              refine pmb_one ?_
              refine pms_if ?_ ?_ ?_
              · exact (pmt_isn (pm_v (pv 11)) pm_non)
              · refine pmb_one ?_
                exact (pms_expr (pm_append (pv 8) (pm_tup (pma_cons (pm_v (pv 11)) (pma_cons (pm_call (ok__law_ratio T base) (hr.mono (by decide)) (by rfl) T.g__law_ratio T.F__law_ratio.kp T.d__law_ratio (pma_cons (pm_v (pv 9)) (pma_cons pm_int pma_nil))) pma_nil)))))
              · exact pmb_nil
            · exact pmb_nil
        refine pmb_cons ?_ ?_
        · refine pms_if ?_ ?_ ?_
          · exact (pmt_ne (hu 0 _ rfl (by decide)) (pm_is (pm_v (pv 7)) pm_non) (pm_eq (hu 0 _ rfl (by decide)) (pm_v (pv 8)) (pm_lst pma_nil)))
          · refine pmb_one ?_
            exact (pms_ret pm_bl)
          · exact pmb_nil
        refine pmb_cons ?_ ?_
        · refine pms_if ?_ ?_ ?_
          · exact (pmt_isn (pm_v (pv 7)) pm_non)
          · refine pmb_cons ?_ ?_
            · exact (pms_unp (by decide) (pm_v (pv 7)) (pgm_tup rfl (pgms_cons (pgm_name sc_law.nd rfl (by first | exact Or.inl rfl | exact Or.inr rfl)) (pgms_cons (pgm_name sc_law.nd rfl (by first | exact Or.inl rfl | exact Or.inr rfl)) pgms_nil))))
            refine pmb_cons ?_ ?_
            · refine pms_if ?_ ?_ ?_
              · exact (PMW.pt (pmw_or (pmt_not (pmt_tru (pm_call (ok__law_same T 70 base) (hr.mono (by decide)) (by rfl) T.g__law_same T.F__law_same.kp T.d__law_same (pma_cons (pm_call (ok__law_end T base) (hr.mono (by decide)) (by rfl) T.g__law_end T.F__law_end.kp T.d__law_end (pma_cons (pm_v (pv 4)) (pma_cons (pm_v (pv 5)) (pma_cons (pm_v (pv 12)) (pma_cons pm_bl pma_nil))))) (pma_cons (pm_v (pv 11)) pma_nil))) (fun _ => rfl))) (pmw_or1 (pmt_tru (pm_callB (cr_any rfl) pr_any (by rfl) T.b_any (by decide +kernel) (pma_cons (pm_lcW rfl sc_law.nd (pmi_seq (pm_v (pv 8))) (blkOk_by (own := [("other", 20), ("at", 21)]) (N := N_law) (sc := (defScope st_law)) (scope := { kind := .function, names := [(".0", .local), ("other", .local), ("at", .local), ("_law_less", .globalImplicit), ("end", .free)], isGenerator := false, isCoroutine := false }) (by decide +kernel)) rfl (by decide) (fun _ _ _ _ _ => (pgm_tup rfl (pgms_cons (pgm_name sc_law.nd rfl (by first | exact Or.inl rfl | exact Or.inr rfl)) (pgms_cons (pgm_name sc_law.nd rfl (by first | exact Or.inl rfl | exact Or.inr rfl)) pgms_nil)))) (fun _ _ _ _ _ => pmts_nil) (fun _ _ _ _ _ => (pm_call (ok__law_less T base) (hr.mono (by decide)) (by rfl) T.g__law_less T.F__law_less.kp T.d__law_less (pma_cons (pm_v (pv 20)) (pma_cons (pm_v (pv 11)) pma_nil))))) pma_nil)) (fun _ => rfl)))))
              · refine pmb_one ?_
                exact (pms_ret pm_bl)
              · exact pmb_nil
            refine pmb_cons ?_ ?_
            · refine pms_if ?_ ?_ ?_
              · exact (PMW.pt (pmw_or (pmt_tru (pm_callB (cr_any rfl) pr_any (by rfl) T.b_any (by decide +kernel) (pma_cons (pm_lcW rfl sc_law.nd (pmi_seq (pm_v (pv 8))) (blkOk_by (own := [("other", 20), ("at", 21)]) (N := N_law) (sc := (defScope st_law)) (scope := { kind := .function, names := [(".0", .local), ("other", .local), ("at", .local), ("_law_less", .globalImplicit), ("end", .free), ("when", .free)], isGenerator := false, isCoroutine := false }) (by decide +kernel)) rfl (by decide) (fun _ _ _ _ _ => (pgm_tup rfl (pgms_cons (pgm_name sc_law.nd rfl (by first | exact Or.inl rfl | exact Or.inr rfl)) (pgms_cons (pgm_name sc_law.nd rfl (by first | exact Or.inl rfl | exact Or.inr rfl)) pgms_nil)))) (fun _ _ _ _ _ => pmts_nil) (fun _ _ _ _ _ => (pm_and (pm_eq (hu 0 _ rfl (by decide)) (pm_v (pv 20)) (pm_v (pv 11))) (pm_one (pm_call (ok__law_less T base) (hr.mono (by decide)) (by rfl) T.g__law_less T.F__law_less.kp T.d__law_less (pma_cons (pm_v (pv 21)) (pma_cons (pm_v (pv 12)) pma_nil))))))) pma_nil)) (fun _ => rfl)) (pmw_or (pmt_tru (pm_call (ok__law_less T base) (hr.mono (by decide)) (by rfl) T.g__law_less T.F__law_less.kp T.d__law_less (pma_cons (pm_v (pv 12)) (pma_cons (pm_v (pv 6)) pma_nil))) (fun _ => rfl)) (pmw_or1 (PMW.pt (pmw_and (pmt_ne (hu 0 _ rfl (by decide)) (pm_v (pv 12)) (pm_v (pv 6))) (pmw_and1 (pmt_ne (hu 0 _ rfl (by decide)) (pm_ix (pm_v (pv 12)) pm_int (fun _ _ => rfl)) pm_int))))))))
              · refine pmb_one ?_
                exact (pms_ret pm_bl)
              · exact pmb_nil
            refine pmb_one ?_
            refine pms_if ?_ ?_ ?_
            · exact (pmt_tru (pm_call (ok_less T base) (hr.mono (by decide)) (by rfl) T.g_less T.F_less.kp T.d_less (pma_cons (pm_v (pv 11)) (pma_cons (pm_call (ok_leg_end T base) (hr.mono (by decide)) (by rfl) T.g_leg_end T.F_leg_end.kp T.d_leg_end (pma_cons (pm_v (pv 4)) (pma_cons (pm_v (pv 5)) (pma_cons (pm_v (pv 6)) (pma_cons pm_bl pma_nil))))) pma_nil))) (fun _ => rfl))
            · refine pmb_one ?_
              exact (pms_ret pm_bl)
            · exact pmb_nil
          · exact pmb_nil
        refine pmb_cons ?_ ?_
        · exact (pms_set (by decide) sc_law.nd rfl (Or.inl rfl) (pm_call (ok_leg_end T base) (hr.mono (by decide)) (by rfl) T.g_leg_end T.F_leg_end.kp T.d_leg_end (pma_cons (pm_v (pv 4)) (pma_cons (pm_v (pv 5)) (pma_cons (pm_v (pv 6)) (pma_cons pm_bl pma_nil))))))
        refine pmb_cons ?_ ?_
        · refine pms_if ?_ ?_ ?_
          · exact (PMW.pt (pmw_and (pmt_isn (pm_v (pv 13)) pm_non) (pmw_and1 (PMW.pt (pmw_or (pmt_is (pm_v (pv 7)) pm_non) (pmw_or1 (pmt_tru (pm_call (ok_less T base) (hr.mono (by decide)) (by rfl) T.g_less T.F_less.kp T.d_less (pma_cons (pm_v (pv 13)) (pma_cons (pm_ix (pm_v (pv 7)) pm_int (fun _ _ => rfl)) pma_nil))) (fun _ => rfl))))))))
          · refine pmb_one ?_
            exact (pms_ret pm_bl)
          · exact pmb_nil
        refine pmb_cons ?_ ?_
        · exact (pms_set (by decide) sc_law.nd rfl (Or.inl rfl) (pm_add (pm_add (pm_lst (pma_cons (pm_v (pv 6)) pma_nil)) (pm_lcW rfl sc_law.nd (pmi_range1 (by rfl) T.b_range (pma_cons (pm_v (pv 3)) pma_nil)) (blkOk_by (own := [("k", 9)]) (N := N_law) (sc := (defScope st_law)) (scope := { kind := .function, names := [(".0", .local), ("k", .local), ("_law_less", .globalImplicit), ("start", .free)], isGenerator := false, isCoroutine := false }) (by decide +kernel)) rfl (by decide) (fun _ _ _ _ _ => (pgm_name sc_law.nd rfl (by first | exact Or.inl rfl | exact Or.inr rfl))) (fun _ _ _ _ _ => (pmts_one (pmt_tru (pm_call (ok__law_less T base) (hr.mono (by decide)) (by rfl) T.g__law_less T.F__law_less.kp T.d__law_less (pma_cons (pm_v (pv 6)) (pma_cons (pm_tup (pma_cons (pm_v (pv 9)) (pma_cons pm_int pma_nil))) pma_nil))) (fun _ => rfl)))) (fun _ _ _ _ _ => (pm_tup (pma_cons (pm_v (pv 9)) (pma_cons pm_int pma_nil)))))) (pm_if (pmt_tru (pm_call (ok__law_less T base) (hr.mono (by decide)) (by rfl) T.g__law_less T.F__law_less.kp T.d__law_less (pma_cons (pm_v (pv 6)) (pma_cons (pm_tup (pma_cons (pm_v (pv 3)) (pma_cons pm_int pma_nil))) pma_nil))) (fun _ => rfl)) (pm_lst (pma_cons (pm_tup (pma_cons (pm_v (pv 3)) (pma_cons pm_int pma_nil))) pma_nil)) (pm_lst pma_nil))))
        refine pmb_cons ?_ ?_
        · refine pms_if ?_ ?_ ?_
          · exact (pmt_not (pmt_tru (pm_call (ok__law_same T 70 base) (hr.mono (by decide)) (by rfl) T.g__law_same T.F__law_same.kp T.d__law_same (pma_cons (pm_call (ok_drift_starts T base) (hr.mono (by decide)) (by rfl) T.g_drift_starts T.F_drift_starts.kp T.d_drift_starts (pma_cons (pm_v (pv 4)) (pma_cons (pm_v (pv 6)) (pma_cons (pm_tup (pma_cons (pm_v (pv 3)) (pma_cons pm_int pma_nil))) pma_nil)))) (pma_cons (pm_v (pv 14)) pma_nil))) (fun _ => rfl)))
          · refine pmb_one ?_
            exact (pms_ret pm_bl)
          · exact pmb_nil
        refine pmb_cons ?_ ?_
        · exact (pms_setLcW (by decide) rfl sc_law.nd rfl rfl (sw_true rfl rfl rfl (by decide +kernel)) (pmi_range1 (by rfl) T.b_range (pma_cons (pm_v (pv 3)) pma_nil)) (blkOk_by (own := [("k", 9)]) (N := N_law) (sc := (defScope st_law)) (scope := { kind := .function, names := [(".0", .local), ("k", .local)], isGenerator := false, isCoroutine := false }) (by decide +kernel)) rfl (by decide) (fun _ _ _ _ _ => (pgm_name sc_law.nd rfl (by first | exact Or.inl rfl | exact Or.inr rfl))) (fun _ _ _ _ _ => pmts_nil) (fun _ _ _ _ _ => (pm_tup (pma_cons (pm_v (pv 9)) (pma_cons pm_int pma_nil)))))
        refine pmb_cons ?_ ?_
        · refine pms_for (by decide) PassesOwn.never rfl ?_ ?_ ?_
          · exact (pmi_range2 (by rfl) T.b_range (pma_cons pm_int (pma_cons (pm_add (pm_v (pv 3)) pm_int) pma_nil)))
          · exact (pgm_name sc_law.nd rfl (by first | exact Or.inl rfl | exact Or.inr rfl))
          · refine pmb_cons ?_ ?_
            · exact (pms_set (by decide) sc_law.nd rfl (Or.inl rfl) (pm_call (ok_latest_start T base) (hr.mono (by decide)) (by rfl) T.g_latest_start T.F_latest_start.kp T.d_latest_start (pma_cons (pm_v (pv 4)) (pma_cons (pm_v (pv 5)) (pma_cons (pm_tup (pma_cons (pm_v (pv 9)) (pma_cons pm_int pma_nil))) pma_nil)))))
            refine pmb_one ?_
            refine pms_if ?_ ?_ ?_
            · exact (pmt_isn (pm_v (pv 16)) pm_non)
            · refine pmb_one ?_
              exact (pms_expr (pm_append (pv 15) (pm_v (pv 16))))
            · exact pmb_nil
        refine pmb_cons ?_ ?_
        · refine pms_if ?_ ?_ ?_
          · exact (pmt_not (pmt_tru (pm_call (ok__law_same T 70 base) (hr.mono (by decide)) (by rfl) T.g__law_same T.F__law_same.kp T.d__law_same (pma_cons (pm_call (ok_turning_starts T base) (hr.mono (by decide)) (by rfl) T.g_turning_starts T.F_turning_starts.kp T.d_turning_starts (pma_cons (pm_v (pv 4)) (pma_cons (pm_v (pv 5)) pma_nil))) (pma_cons (pm_v (pv 15)) pma_nil))) (fun _ => rfl)))
          · refine pmb_one ?_
            exact (pms_ret pm_bl)
          · exact pmb_nil
        refine pmb_cons ?_ ?_
        · exact (pms_set (by decide) sc_law.nd rfl (Or.inl rfl) (pm_call (ok_quickest_start T base) (hr.mono (by decide)) (by rfl) T.g_quickest_start T.F_quickest_start.kp T.d_quickest_start (pma_cons (pm_v (pv 4)) (pma_cons (pm_v (pv 5)) pma_nil))))
        refine pmb_cons ?_ ?_
        · exact (pms_set (by decide) sc_law.nd rfl (Or.inl rfl) (pm_lst pma_nil))
        refine pmb_cons ?_ ?_
        · refine pms_for (by decide) PassesOwn.never rfl ?_ ?_ ?_
          · exact (pmi_seq (pm_add (pm_v (pv 15)) (pm_lcW rfl sc_law.nd (pmi_range1 (by rfl) T.b_range (pma_cons (pm_mul pm_int (pm_v (pv 3))) pma_nil)) (blkOk_by (own := [("k", 9)]) (N := N_law) (sc := (defScope st_law)) (scope := { kind := .function, names := [(".0", .local), ("k", .local), ("_law_ratio", .globalImplicit)], isGenerator := false, isCoroutine := false }) (by decide +kernel)) rfl (by decide) (fun _ _ _ _ _ => (pgm_name sc_law.nd rfl (by first | exact Or.inl rfl | exact Or.inr rfl))) (fun _ _ _ _ _ => pmts_nil) (fun _ _ _ _ _ => (pm_call (ok__law_ratio T base) (hr.mono (by decide)) (by rfl) T.g__law_ratio T.F__law_ratio.kp T.d__law_ratio (pma_cons (pm_v (pv 9)) (pma_cons pm_int pma_nil)))))))
          · exact (pgm_name sc_law.nd rfl (by first | exact Or.inl rfl | exact Or.inr rfl))
          · refine pmb_cons ?_ ?_
            · exact (pms_set (by decide) sc_law.nd rfl (Or.inr rfl) (pm_call (ok__law_end T base) (hr.mono (by decide)) (by rfl) T.g__law_end T.F__law_end.kp T.d__law_end (pma_cons (pm_v (pv 4)) (pma_cons (pm_v (pv 5)) (pma_cons (pm_v (pv 10)) (pma_cons pm_bl pma_nil))))))
            refine pmb_one ?_
            refine pms_if ?_ ?_ ?_
            · exact (pmt_isn (pm_v (pv 11)) pm_non)
            · refine pmb_one ?_
              exact (pms_expr (pm_append (pv 18) (pm_tup (pma_cons (pm_call (ok__law_plus T base) (hr.mono (by decide)) (by rfl) T.g__law_plus T.F__law_plus.kp T.d__law_plus (pma_cons (pm_v (pv 11)) (pma_cons (pm_tup (pma_cons (pm_neg (pm_ix (pm_v (pv 10)) pm_int (fun _ _ => rfl))) (pma_cons (pm_ix (pm_v (pv 10)) pm_int (fun _ _ => rfl)) pma_nil))) pma_nil))) (pma_cons (pm_v (pv 10)) pma_nil)))))
            · exact pmb_nil
        refine pmb_cons ?_ ?_
        · refine pms_if ?_ ?_ ?_
          · exact (pmt_ne (hu 0 _ rfl (by decide)) (pm_is (pm_v (pv 17)) pm_non) (pm_eq (hu 0 _ rfl (by decide)) (pm_v (pv 18)) (pm_lst pma_nil)))
          · refine pmb_one ?_
            exact (pms_ret pm_bl)
          · exact pmb_nil
        refine pmb_one ?_
        refine pms_if ?_ ?_ ?_
        · exact (pmt_isn (pm_v (pv 17)) pm_non)
        · refine pmb_cons ?_ ?_
          · exact (pms_unp (by decide) (pm_v (pv 17)) (pgm_tup rfl (pgms_cons (pgm_name sc_law.nd rfl (by first | exact Or.inl rfl | exact Or.inr rfl)) (pgms_cons (pgm_name sc_law.nd rfl (by first | exact Or.inl rfl | exact Or.inr rfl)) pgms_nil))))
          refine pmb_cons ?_ ?_
          · refine pms_if ?_ ?_ ?_
            · exact (pmt_tru (pm_callB (cr_any rfl) pr_any (by rfl) T.b_any (by decide +kernel) (pma_cons (pm_lcW rfl sc_law.nd (pmi_seq (pm_v (pv 18))) (blkOk_by (own := [("other", 20), ("at", 21)]) (N := N_law) (sc := (defScope st_law)) (scope := { kind := .function, names := [(".0", .local), ("other", .local), ("at", .local), ("_law_less", .globalImplicit), ("here", .free), ("span", .free)], isGenerator := false, isCoroutine := false }) (by decide +kernel)) rfl (by decide) (fun _ _ _ _ _ => (pgm_tup rfl (pgms_cons (pgm_name sc_law.nd rfl (by first | exact Or.inl rfl | exact Or.inr rfl)) (pgms_cons (pgm_name sc_law.nd rfl (by first | exact Or.inl rfl | exact Or.inr rfl)) pgms_nil)))) (fun _ _ _ _ _ => pmts_nil) (fun _ _ _ _ _ => (pm_or (pm_call (ok__law_less T base) (hr.mono (by decide)) (by rfl) T.g__law_less T.F__law_less.kp T.d__law_less (pma_cons (pm_v (pv 20)) (pma_cons (pm_v (pv 19)) pma_nil))) (pm_one (pm_and (pm_eq (hu 0 _ rfl (by decide)) (pm_v (pv 20)) (pm_v (pv 19))) (pm_one (pm_call (ok__law_less T base) (hr.mono (by decide)) (by rfl) T.g__law_less T.F__law_less.kp T.d__law_less (pma_cons (pm_v (pv 21)) (pma_cons (pm_v (pv 10)) pma_nil))))))))) pma_nil)) (fun _ => rfl))
            · refine pmb_one ?_
              exact (pms_ret pm_bl)
            · exact pmb_nil
          refine pmb_cons ?_ ?_
          · exact (pms_set (by decide) sc_law.nd rfl (Or.inr rfl) (pm_call (ok__law_end T base) (hr.mono (by decide)) (by rfl) T.g__law_end T.F__law_end.kp T.d__law_end (pma_cons (pm_v (pv 4)) (pma_cons (pm_v (pv 5)) (pma_cons (pm_v (pv 10)) (pma_cons pm_bl pma_nil))))))
          refine pmb_one ?_
          refine pms_if ?_ ?_ ?_
          · exact (PMW.pt (pmw_or (pmt_ne (hu 0 _ rfl (by decide)) (pm_call (ok__law_plus T base) (hr.mono (by decide)) (by rfl) T.g__law_plus T.F__law_plus.kp T.d__law_plus (pma_cons (pm_v (pv 11)) (pma_cons (pm_tup (pma_cons (pm_neg (pm_ix (pm_v (pv 10)) pm_int (fun _ _ => rfl))) (pma_cons (pm_ix (pm_v (pv 10)) pm_int (fun _ _ => rfl)) pma_nil))) pma_nil))) (pm_v (pv 19))) (pmw_or1 (PMW.pt (pmw_and (pmt_ne (hu 0 _ rfl (by decide)) (pm_ix (pm_v (pv 10)) pm_int (fun _ _ => rfl)) pm_int) (pmw_and1 (pmt_ne (hu 0 _ rfl (by decide)) (pm_ix (pm_v (pv 11)) pm_int (fun _ _ => rfl)) pm_int)))))))
          · refine pmb_one ?_
            exact (pms_ret pm_bl)
          · exact pmb_nil
        · exact pmb_nil
    refine pmb_one ?_
    exact (pms_ret pm_bl))
end
end MM
namespace MM
open PySem PySem.Spec PyProof.Rows L2
noncomputable def p__law_less (one : (Int × Int)) (other : (Int × Int)) : Option (Bool) := (mulO one.1 other.2).bind fun (v1 : Int) => (mulO other.1 one.2).bind fun (v2 : Int) => some (decide (v1 < v2))
theorem pS__law_less (one : (Int × Int)) (other : (Int × Int)) : S m__law_less [some (false, A.d ((eT2 eI eI) one)), some (false, A.d ((eT2 eI eI) other))] (p__law_less one other) (IF (fun (w : Bool) => A.d (eB w))) := by
  unfold p__law_less m__law_less
  exact S_bind fun v1 hv1 => S_bind fun v2 hv2 => S_retD (E_asV (T_cmp (E_m2 (E_ix (E_var rfl) E_c rfl) (E_ix (E_var rfl) E_c rfl) (mul_val hv1)) (E_m2 (E_ix (E_var rfl) E_c rfl) (E_ix (E_var rfl) E_c rfl) (mul_val hv2)) rfl)) (rt_F rfl)
theorem pf__law_less {one : (Int × Int)} {other : (Int × Int)} {r : Bool} (h : p__law_less one other = some r) : F__law_less [A.d ((eT2 eI eI) one), A.d ((eT2 eI eI) other)] = some (A.d (eB r)) := F_end (er := (fun (w : Bool) => A.d (eB w))) (pS__law_less one other) h rfl
noncomputable def p__law_ratio (p : Int) (q : Int) : Option ((Int × Int)) := letF (absI p) fun (a1 : Int) => letF (absI q) fun (b2 : Int) => (whileO (fun (s3 : (Int × Int)) => some (!decide (s3.2 = (0 : Int)))) (fun (s3 : (Int × Int)) => (fdivO s3.1 s3.2).bind fun (v4 : Int) => (mulO v4 s3.2).bind fun (v5 : Int) => letF (s3.1 - v5) fun (b6 : Int) => some (s3.2, b6)) (a1, b2)).bind fun (st7 : (Int × Int)) => (cond (decide ((0 : Int) < q)) ((fdivO p st7.1).bind fun (v8 : Int) => (fdivO q st7.1).bind fun (v9 : Int) => some (v8, v9)) ((fdivO (-p) st7.1).bind fun (v10 : Int) => (fdivO (-q) st7.1).bind fun (v11 : Int) => some (v10, v11))).bind fun (v12 : (Int × Int)) => some v12
theorem pS__law_ratio (p : Int) (q : Int) : S m__law_ratio [some (false, A.d (eI p)), some (false, A.d (eI q)), none, none] (p__law_ratio p q) (IF (fun (w : (Int × Int)) => A.d ((eT2 eI eI) w))) := by
  unfold p__law_ratio m__law_ratio
  exact S_let fun a1 ha1 => S_let fun b2 hb2 => S_step (t1 := [some (false, A.d (eI p)), some (false, A.d (eI q)), some (false, A.d (eI a1)), some (false, A.d (eI b2))]) (St_par' (Ess.d (E_let (fun (w : Int) => A.d (eI w)) ha1 (E_use (E_n (Es_cons (E_var rfl) Es_nil) rfl))) (Ess.d (E_let (fun (w : Int) => A.d (eI w)) hb2 (E_use (E_n (Es_cons (E_var rfl) Es_nil) rfl))) Ess.nil)) rfl rfl rfl rfl) (S_seqN (tt := fun (st : (Int × Int)) => [some (false, A.d (eI p)), some (false, A.d (eI q)), some (false, A.d (eI st.1)), some (false, A.d (eI st.2))]) (S_whileO (tt := fun (st : (Int × Int)) => [some (false, A.d (eI p)), some (false, A.d (eI q)), some (false, A.d (eI st.1)), some (false, A.d (eI st.2))]) (.keep (.keep (.keep (.keep .nil)))) (fun s3 => TQ_pure (T_cmp (E_var rfl) E_c neA_int)) (fun s3 => S_bind fun v4 hv4 => S_bind fun v5 hv5 => S_let fun b6 hb6 => S_last (t1 := [some (false, A.d (eI p)), some (false, A.d (eI q)), some (false, A.d (eI s3.2)), some (false, A.d (eI b6))]) (St_par' (Ess.d (E_use (E_var rfl)) (Ess.d (E_let (fun (w : Int) => A.d (eI w)) hb6 (E_use (E_m2 (E_var rfl) (E_m2 (E_m2 (E_var rfl) (E_var rfl) (fdiv_val hv4)) (E_var rfl) (mul_val hv5)) rfl))) Ess.nil)) rfl rfl rfl rfl) (Nd_C (.keep (.keep (.keep (.keep .nil))))))) (fun st7 => S_bind fun v12 hv12 => S_retD (E_if0 hv12 (fun (w : (Int × Int)) => A.d ((eT2 eI eI) w)) (T_cmp (E_var rfl) E_c rfl) (fun _ => EQ_bind fun v8 hv8 => EQ_bind fun v9 hv9 => EQ_ret (E_tup (ds := [eI v8, eI v9]) (Es_cons (E_m2 (E_var rfl) (E_var rfl) (fdiv_val hv8)) (Es_cons (E_m2 (E_var rfl) (E_var rfl) (fdiv_val hv9)) Es_nil)) rfl)) (fun _ => EQ_bind fun v10 hv10 => EQ_bind fun v11 hv11 => EQ_ret (E_tup (ds := [eI v10, eI v11]) (Es_cons (E_m2 (E_m1 (E_var rfl) rfl) (E_var rfl) (fdiv_val hv10)) (Es_cons (E_m2 (E_m1 (E_var rfl) rfl) (E_var rfl) (fdiv_val hv11)) Es_nil)) rfl))) (rt_F rfl)))
theorem pf__law_ratio {p : Int} {q : Int} {r : (Int × Int)} (h : p__law_ratio p q = some r) : F__law_ratio [A.d (eI p), A.d (eI q)] = some (A.d ((eT2 eI eI) r)) := F_end (er := (fun (w : (Int × Int)) => A.d ((eT2 eI eI) w))) (pS__law_ratio p q) h rfl
noncomputable def p__law_plus (one : (Int × Int)) (other : (Int × Int)) : Option ((Int × Int)) := (mulO one.1 other.2).bind fun (v1 : Int) => (mulO other.1 one.2).bind fun (v2 : Int) => (mulO one.2 other.2).bind fun (v3 : Int) => (p__law_ratio (v1 + v2) v3).bind fun (v4 : (Int × Int)) => some v4
theorem pS__law_plus (one : (Int × Int)) (other : (Int × Int)) : S m__law_plus [some (false, A.d ((eT2 eI eI) one)), some (false, A.d ((eT2 eI eI) other))] (p__law_plus one other) (IF (fun (w : (Int × Int)) => A.d ((eT2 eI eI) w))) := by
  unfold p__law_plus m__law_plus
  exact S_bind fun v1 hv1 => S_bind fun v2 hv2 => S_bind fun v3 hv3 => S_bind fun v4 hv4 => S_retD (E_nP (fNv2 (pf__law_ratio hv4)) (Es_cons (E_m2 (E_m2 (E_ix (E_var rfl) E_c rfl) (E_ix (E_var rfl) E_c rfl) (mul_val hv1)) (E_m2 (E_ix (E_var rfl) E_c rfl) (E_ix (E_var rfl) E_c rfl) (mul_val hv2)) rfl) (Es_cons (E_m2 (E_ix (E_var rfl) E_c rfl) (E_ix (E_var rfl) E_c rfl) (mul_val hv3)) Es_nil))) (rt_F rfl)
theorem pf__law_plus {one : (Int × Int)} {other : (Int × Int)} {r : (Int × Int)} (h : p__law_plus one other = some r) : F__law_plus [A.d ((eT2 eI eI) one), A.d ((eT2 eI eI) other)] = some (A.d ((eT2 eI eI) r)) := F_end (er := (fun (w : (Int × Int)) => A.d ((eT2 eI eI) w))) (pS__law_plus one other) h rfl
noncomputable def p__law_made (row : (List Int)) (start : (Int × Int)) (end_ : (Int × Int)) (anchored : Bool) : Option ((Int × Int)) := letF ((0 : Int), (1 : Int)) fun (found1 : (Int × Int)) => (rgO ((row.length : Nat) : Int)).bind fun (v2 : Unit) => (forO (fun (k3 : Int) (s4 : (Int × Int)) => letF (k3, (1 : Int)) fun (low5 : (Int × Int)) => letF ((k3 + (1 : Int)), (1 : Int)) fun (high6 : (Int × Int)) => (p__law_less low5 start).bind fun (v7 : Bool) => letF (cond v7 start low5) fun (low8 : (Int × Int)) => (p__law_less end_ high6).bind fun (v9 : Bool) => letF (cond v9 end_ high6) fun (high10 : (Int × Int)) => (p__law_less low8 high10).bind fun (v11 : Bool) => cond v11 ((cond anchored ((atI row k3).bind fun (v12 : Int) => some (max2I (0 : Int) v12)) (atI row k3)).bind fun (v14 : Int) => (p__law_plus high10 ((-low8.1), low8.2)).bind fun (v15 : (Int × Int)) => (mulO v15.1 v14).bind fun (v16 : Int) => (p__law_ratio v16 v15.2).bind fun (v17 : (Int × Int)) => (p__law_plus s4 v17).bind fun (v18 : (Int × Int)) => some v18) (some s4)) (rangeT 0 ((row.length : Nat) : Int).toNat) found1).bind fun (st19 : (Int × Int)) => some st19
theorem pS__law_made (row : (List Int)) (start : (Int × Int)) (end_ : (Int × Int)) (anchored : Bool) : S m__law_made [some (false, A.d ((eS eI) row)), some (false, A.d ((eT2 eI eI) start)), some (false, A.d ((eT2 eI eI) end_)), some (false, A.d (eB anchored)), none, none, none, none, none, none] (p__law_made row start end_ anchored) (IF (fun (w : (Int × Int)) => A.d ((eT2 eI eI) w))) := by
  unfold p__law_made m__law_made
  exact S_let fun found1 hfound1 => S_step (t1 := [some (false, A.d ((eS eI) row)), some (false, A.d ((eT2 eI eI) start)), some (false, A.d ((eT2 eI eI) end_)), some (false, A.d (eB anchored)), some (false, A.d ((eT2 eI eI) found1)), none, none, none, none, none]) (St_setD' (E_let (fun (w : (Int × Int)) => A.d ((eT2 eI eI) w)) hfound1 (E_tup (ds := [eI (0 : Int), eI (1 : Int)]) (Es_cons E_c (Es_cons E_c Es_nil)) rfl)) rfl rfl) (S_bind fun v2 hv2 => S_seqN (tt := fun (st : (Int × Int)) => [some (false, A.d ((eS eI) row)), some (false, A.d ((eT2 eI eI) start)), some (false, A.d ((eT2 eI eI) end_)), some (false, A.d (eB anchored)), some (false, A.d ((eT2 eI eI) st)), none, none, none, none, none]) (S_forO (enc := (fun i => A.d (.int i))) (tt := fun (st : (Int × Int)) => [some (false, A.d ((eS eI) row)), some (false, A.d ((eT2 eI eI) start)), some (false, A.d ((eT2 eI eI) end_)), some (false, A.d (eB anchored)), some (false, A.d ((eT2 eI eI) st)), none, none, none, none, none]) (tb := fun (k3 : Int) (s4 : (Int × Int)) => [some (false, A.d ((eS eI) row)), some (false, A.d ((eT2 eI eI) start)), some (false, A.d ((eT2 eI eI) end_)), some (false, A.d (eB anchored)), some (false, A.d ((eT2 eI eI) s4)), some (false, A.d (eI k3)), none, none, none, none]) (It_range1 (Es_cons (E_n (Es_cons (E_var rfl) Es_nil) (f1v lenT_val)) Es_nil) hv2) (.keep (.keep (.keep (.keep (.keep (.skip (.skip (.skip (.skip (.skip .nil)))))))))) (fun _ _ => (Put_nm' rfl)) (fun k3 s4 => S_let fun low5 hlow5 => S_let fun high6 hhigh6 => S_step (t1 := [some (false, A.d ((eS eI) row)), some (false, A.d ((eT2 eI eI) start)), some (false, A.d ((eT2 eI eI) end_)), some (false, A.d (eB anchored)), some (false, A.d ((eT2 eI eI) s4)), some (false, A.d (eI k3)), some (false, A.d ((eT2 eI eI) low5)), some (false, A.d ((eT2 eI eI) high6)), none, none]) (St_par' (Ess.d (E_let (fun (w : (Int × Int)) => A.d ((eT2 eI eI) w)) hlow5 (E_use (E_tup (ds := [eI k3, eI (1 : Int)]) (Es_cons (E_var rfl) (Es_cons E_c Es_nil)) rfl))) (Ess.d (E_let (fun (w : (Int × Int)) => A.d ((eT2 eI eI) w)) hhigh6 (E_use (E_tup (ds := [eI (k3 + (1 : Int)), eI (1 : Int)]) (Es_cons (E_m2 (E_var rfl) E_c rfl) (Es_cons E_c Es_nil)) rfl))) Ess.nil)) rfl rfl rfl rfl) (S_bind fun v7 hv7 => S_let fun low8 hlow8 => S_step (t1 := [some (false, A.d ((eS eI) row)), some (false, A.d ((eT2 eI eI) start)), some (false, A.d ((eT2 eI eI) end_)), some (false, A.d (eB anchored)), some (false, A.d ((eT2 eI eI) s4)), some (false, A.d (eI k3)), some (false, A.d ((eT2 eI eI) low8)), some (false, A.d ((eT2 eI eI) high6)), none, none]) (St_setD' (E_let (fun (w : (Int × Int)) => A.d ((eT2 eI eI) w)) hlow8 (E_if (fun (w : (Int × Int)) => A.d ((eT2 eI eI) w)) (T_tru (E_nP (fNv2 (pf__law_less hv7)) (Es_cons (E_var rfl) (Es_cons (E_var rfl) Es_nil))) rfl) (fun _ => (E_var rfl)) (fun _ => (E_var rfl)))) rfl rfl) (S_bind fun v9 hv9 => S_let fun high10 hhigh10 => S_step (t1 := [some (false, A.d ((eS eI) row)), some (false, A.d ((eT2 eI eI) start)), some (false, A.d ((eT2 eI eI) end_)), some (false, A.d (eB anchored)), some (false, A.d ((eT2 eI eI) s4)), some (false, A.d (eI k3)), some (false, A.d ((eT2 eI eI) low8)), some (false, A.d ((eT2 eI eI) high10)), none, none]) (St_setD' (E_let (fun (w : (Int × Int)) => A.d ((eT2 eI eI) w)) hhigh10 (E_if (fun (w : (Int × Int)) => A.d ((eT2 eI eI) w)) (T_tru (E_nP (fNv2 (pf__law_less hv9)) (Es_cons (E_var rfl) (Es_cons (E_var rfl) Es_nil))) rfl) (fun _ => (E_var rfl)) (fun _ => (E_var rfl)))) rfl rfl) (S_bind fun v11 hv11 => S_if (T_tru (E_nP (fNv2 (pf__law_less hv11)) (Es_cons (E_var rfl) (Es_cons (E_var rfl) Es_nil))) rfl) (fun _ => S_bind fun v14 hv14 => S_step (t1 := [some (false, A.d ((eS eI) row)), some (false, A.d ((eT2 eI eI) start)), some (false, A.d ((eT2 eI eI) end_)), some (false, A.d (eB anchored)), some (false, A.d ((eT2 eI eI) s4)), some (false, A.d (eI k3)), some (false, A.d ((eT2 eI eI) low8)), some (false, A.d ((eT2 eI eI) high10)), some (false, A.d (eI v14)), none]) (St_setD' (E_if0 hv14 (fun (w : Int) => A.d (eI w)) (T_tru (E_var rfl) rfl) (fun _ => EQ_bind fun v12 hv12 => EQ_ret (E_n (Es_cons E_c (Es_cons (E_ix (E_var rfl) (E_var rfl) (ixT_val hv12)) Es_nil)) rfl)) (fun _ => EQ_tail fun v13 hv13 => (E_ix (E_var rfl) (E_var rfl) (ixT_val hv13)))) rfl rfl) (S_bind fun v15 hv15 => S_step (t1 := [some (false, A.d ((eS eI) row)), some (false, A.d ((eT2 eI eI) start)), some (false, A.d ((eT2 eI eI) end_)), some (false, A.d (eB anchored)), some (false, A.d ((eT2 eI eI) s4)), some (false, A.d (eI k3)), some (false, A.d ((eT2 eI eI) low8)), some (false, A.d ((eT2 eI eI) high10)), some (false, A.d (eI v14)), some (false, A.d ((eT2 eI eI) v15))]) (St_setD' (E_nP (fNv2 (pf__law_plus hv15)) (Es_cons (E_var rfl) (Es_cons (E_tup (ds := [eI (-low8.1), eI low8.2]) (Es_cons (E_m1 (E_ix (E_var rfl) E_c rfl) rfl) (Es_cons (E_ix (E_var rfl) E_c rfl) Es_nil)) rfl) Es_nil))) rfl rfl) (S_bind fun v16 hv16 => S_bind fun v17 hv17 => S_bind fun v18 hv18 => S_last (t1 := [some (false, A.d ((eS eI) row)), some (false, A.d ((eT2 eI eI) start)), some (false, A.d ((eT2 eI eI) end_)), some (false, A.d (eB anchored)), some (false, A.d ((eT2 eI eI) v18)), some (false, A.d (eI k3)), some (false, A.d ((eT2 eI eI) low8)), some (false, A.d ((eT2 eI eI) high10)), some (false, A.d (eI v14)), some (false, A.d ((eT2 eI eI) v15))]) (St_setD' (E_nP (fNv2 (pf__law_plus hv18)) (Es_cons (E_var rfl) (Es_cons (E_nP (fNv2 (pf__law_ratio hv17)) (Es_cons (E_m2 (E_ix (E_var rfl) E_c rfl) (E_var rfl) (mul_val hv16)) (Es_cons (E_ix (E_var rfl) E_c rfl) Es_nil))) Es_nil))) rfl rfl) (Nd_C (.keep (.keep (.keep (.keep (.keep (.skip (.skip (.skip (.skip (.skip .nil)))))))))))))) (fun _ => S_nop (Nd_C (.keep (.keep (.keep (.keep (.keep (.skip (.skip (.skip (.skip (.skip .nil))))))))))))))))) (fun st19 => S_retD (E_var rfl) (rt_F rfl)))
theorem pf__law_made {row : (List Int)} {start : (Int × Int)} {end_ : (Int × Int)} {anchored : Bool} {r : (Int × Int)} (h : p__law_made row start end_ anchored = some r) : F__law_made [A.d ((eS eI) row), A.d ((eT2 eI eI) start), A.d ((eT2 eI eI) end_), A.d (eB anchored)] = some (A.d ((eT2 eI eI) r)) := F_end (er := (fun (w : (Int × Int)) => A.d ((eT2 eI eI) w))) (pS__law_made row start end_ anchored) h rfl
noncomputable def p__law_end (row : (List Int)) (length : Int) (start : (Int × Int)) (anchored : Bool) : Option ((Option (Int × Int))) := (fdivO start.1 start.2).bind fun (v1 : Int) => (rgO v1).bind fun (v2 : Unit) => (rgO ((row.length : Nat) : Int)).bind fun (v3 : Unit) => (forX (fun (k4 : Int) (s5 : Unit) => letF ((k4 + (1 : Int)), (1 : Int)) fun (high6 : (Int × Int)) => (p__law_made row start high6 anchored).bind fun (v7 : (Int × Int)) => (p__law_less v7 (length, (1 : Int))).bind fun (v8 : Bool) => cond (!v8) ((p__law_less (k4, (1 : Int)) start).bind fun (v9 : Bool) => letF (cond v9 start (k4, (1 : Int))) fun (low10 : (Int × Int)) => (p__law_made row start low10 anchored).bind fun (v11 : (Int × Int)) => (p__law_plus (length, (1 : Int)) ((-v11.1), v11.2)).bind fun (v12 : (Int × Int)) => (atI row k4).bind fun (v13 : Int) => (mulO v12.2 v13).bind fun (v14 : Int) => (p__law_ratio v12.1 v14).bind fun (v15 : (Int × Int)) => (p__law_plus low10 v15).bind fun (v16 : (Int × Int)) => some (Lp.out (some v16))) (some (Lp.go ()))) (rangeT v1 (((row.length : Nat) : Int) - v1).toNat) ()).bind (orX (fun (r : (Option (Int × Int))) => r) fun (st17 : Unit) => some none)
theorem pS__law_end (row : (List Int)) (length : Int) (start : (Int × Int)) (anchored : Bool) : S m__law_end [some (false, A.d ((eS eI) row)), some (false, A.d (eI length)), some (false, A.d ((eT2 eI eI) start)), some (false, A.d (eB anchored)), none, none, none, none, none] (p__law_end row length start anchored) (IF (fun (w : (Option (Int × Int))) => A.d ((eO (eT2 eI eI)) w))) := by
  unfold p__law_end m__law_end
  exact S_bind fun v1 hv1 => S_bind fun v2 hv2 => S_bind fun v3 hv3 => S_seqX (g := fun (r : (Option (Int × Int))) => r) (tt := fun (st : Unit) => [some (false, A.d ((eS eI) row)), some (false, A.d (eI length)), some (false, A.d ((eT2 eI eI) start)), some (false, A.d (eB anchored)), none, none, none, none, none]) (S_forX (enc := (fun i => A.d (.int i))) (tt := fun (st : Unit) => [some (false, A.d ((eS eI) row)), some (false, A.d (eI length)), some (false, A.d ((eT2 eI eI) start)), some (false, A.d (eB anchored)), none, none, none, none, none]) (tb := fun (k4 : Int) (s5 : Unit) => [some (false, A.d ((eS eI) row)), some (false, A.d (eI length)), some (false, A.d ((eT2 eI eI) start)), some (false, A.d (eB anchored)), some (false, A.d (eI k4)), none, none, none, none]) (It_range2 (Es_cons (E_m2 (E_ix (E_var rfl) E_c rfl) (E_ix (E_var rfl) E_c rfl) (fdiv_val hv1)) (Es_cons (E_n (Es_cons (E_var rfl) Es_nil) (f1v lenT_val)) Es_nil)) hv2 hv3) (.keep (.keep (.keep (.keep (.skip (.skip (.skip (.skip (.skip .nil))))))))) (fun _ _ => (Put_nm' rfl)) (fun k4 s5 => S_let fun high6 hhigh6 => S_step (t1 := [some (false, A.d ((eS eI) row)), some (false, A.d (eI length)), some (false, A.d ((eT2 eI eI) start)), some (false, A.d (eB anchored)), some (false, A.d (eI k4)), some (false, A.d ((eT2 eI eI) high6)), none, none, none]) (St_setD' (E_let (fun (w : (Int × Int)) => A.d ((eT2 eI eI) w)) hhigh6 (E_tup (ds := [eI (k4 + (1 : Int)), eI (1 : Int)]) (Es_cons (E_m2 (E_var rfl) E_c rfl) (Es_cons E_c Es_nil)) rfl)) rfl rfl) (S_bind fun v7 hv7 => S_bind fun v8 hv8 => S_if (T_not (T_tru (E_nP (fNv2 (pf__law_less hv8)) (Es_cons (E_nP (fNv4 (pf__law_made hv7)) (Es_cons (E_var rfl) (Es_cons (E_var rfl) (Es_cons (E_var rfl) (Es_cons (E_var rfl) Es_nil))))) (Es_cons (E_tup (ds := [eI length, eI (1 : Int)]) (Es_cons (E_var rfl) (Es_cons E_c Es_nil)) rfl) Es_nil))) rfl)) (fun _ => S_bind fun v9 hv9 => S_let fun low10 hlow10 => S_step (t1 := [some (false, A.d ((eS eI) row)), some (false, A.d (eI length)), some (false, A.d ((eT2 eI eI) start)), some (false, A.d (eB anchored)), some (false, A.d (eI k4)), some (false, A.d ((eT2 eI eI) high6)), some (false, A.d ((eT2 eI eI) low10)), none, none]) (St_setD' (E_let (fun (w : (Int × Int)) => A.d ((eT2 eI eI) w)) hlow10 (E_if (fun (w : (Int × Int)) => A.d ((eT2 eI eI) w)) (T_tru (E_nP (fNv2 (pf__law_less hv9)) (Es_cons (E_tup (ds := [eI k4, eI (1 : Int)]) (Es_cons (E_var rfl) (Es_cons E_c Es_nil)) rfl) (Es_cons (E_var rfl) Es_nil))) rfl) (fun _ => (E_var rfl)) (fun _ => (E_tup (ds := [eI k4, eI (1 : Int)]) (Es_cons (E_var rfl) (Es_cons E_c Es_nil)) rfl)))) rfl rfl) (S_bind fun v11 hv11 => S_step (t1 := [some (false, A.d ((eS eI) row)), some (false, A.d (eI length)), some (false, A.d ((eT2 eI eI) start)), some (false, A.d (eB anchored)), some (false, A.d (eI k4)), some (false, A.d ((eT2 eI eI) high6)), some (false, A.d ((eT2 eI eI) low10)), some (false, A.d ((eT2 eI eI) v11)), none]) (St_setD' (E_nP (fNv4 (pf__law_made hv11)) (Es_cons (E_var rfl) (Es_cons (E_var rfl) (Es_cons (E_var rfl) (Es_cons (E_var rfl) Es_nil))))) rfl rfl) (S_bind fun v12 hv12 => S_step (t1 := [some (false, A.d ((eS eI) row)), some (false, A.d (eI length)), some (false, A.d ((eT2 eI eI) start)), some (false, A.d (eB anchored)), some (false, A.d (eI k4)), some (false, A.d ((eT2 eI eI) high6)), some (false, A.d ((eT2 eI eI) low10)), some (false, A.d ((eT2 eI eI) v11)), some (false, A.d ((eT2 eI eI) v12))]) (St_setD' (E_nP (fNv2 (pf__law_plus hv12)) (Es_cons (E_tup (ds := [eI length, eI (1 : Int)]) (Es_cons (E_var rfl) (Es_cons E_c Es_nil)) rfl) (Es_cons (E_tup (ds := [eI (-v11.1), eI v11.2]) (Es_cons (E_m1 (E_ix (E_var rfl) E_c rfl) rfl) (Es_cons (E_ix (E_var rfl) E_c rfl) Es_nil)) rfl) Es_nil))) rfl rfl) (S_bind fun v13 hv13 => S_bind fun v14 hv14 => S_bind fun v15 hv15 => S_bind fun v16 hv16 => S_retD (E_eq (y := A.d ((eO (eT2 eI eI)) (some v16))) (E_nP (fNv2 (pf__law_plus hv16)) (Es_cons (E_var rfl) (Es_cons (E_nP (fNv2 (pf__law_ratio hv15)) (Es_cons (E_ix (E_var rfl) E_c rfl) (Es_cons (E_m2 (E_ix (E_var rfl) E_c rfl) (E_ix (E_var rfl) (E_var rfl) (ixT_val hv13)) (mul_val hv14)) Es_nil))) Es_nil))) rfl) (rt_L (rt_F rfl)))))) (fun _ => S_nop (Nd_L (.keep (.keep (.keep (.keep (.skip (.skip (.skip (.skip (.skip .nil)))))))))))))) (fun _ _ _ h _ => h) (fun st17 => S_retD (E_eq (y := A.d ((eO (eT2 eI eI)) none)) E_c rfl) (rt_F rfl))
theorem pf__law_end {row : (List Int)} {length : Int} {start : (Int × Int)} {anchored : Bool} {r : (Option (Int × Int))} (h : p__law_end row length start anchored = some r) : F__law_end [A.d ((eS eI) row), A.d (eI length), A.d ((eT2 eI eI) start), A.d (eB anchored)] = some (A.d ((eO (eT2 eI eI)) r)) := F_end (er := (fun (w : (Option (Int × Int))) => A.d ((eO (eT2 eI eI)) w))) (pS__law_end row length start anchored) h rfl
noncomputable def p__law_row (box : Bx) (hours : Int) : Option ((List Int) × Bx) := (rgO hours).bind fun (v1 : Unit) => (mapS (fun (x2 : Int) (b4 : Bx) => (drawO b4 (7 : Int)).bind fun (q5 : (Int × Bx)) => some ((q5.1 - (2 : Int)), q5.2)) (rangeT 0 hours.toNat) box).bind fun (v6 : (List Int × Bx)) => some (v6.1, v6.2)
theorem pS__law_row (box : Bx) (hours : Int) : S m__law_row [some (true, eBx box), some (false, A.d (eI hours)), none] (p__law_row box hours) (IB (eS eI) eBx) := by
  unfold p__law_row m__law_row
  exact S_bind fun v1 hv1 => S_bind fun v6 hv6 => S_retD (E_n (Es_cons (E_compS (enc := (fun i => A.d (.int i))) (tb := fun (x2 : Int) (b4 : Bx) => [some (true, eBx b4), some (false, A.d (eI hours)), some (false, A.d (eI x2))]) hv6 (fun (b4 : Bx) => [some (true, eBx b4), some (false, A.d (eI hours)), none]) eI (It_range1 (Es_cons (E_var rfl) Es_nil) hv1) (.keep (.keep (.skip .nil))) (fun _ => rfl) (fun _ _ => (Put_nm' rfl)) (fun _ _ => rfl) (fun x2 b4 => EQ_bind fun q5 hq5 => EQ_ret (E_m2 (E_draw' hq5 rfl (Es_cons E_c Es_nil) rfl rfl) E_c rfl))) Es_nil) rfl) (rt_B rfl rfl rfl)
theorem pf__law_row {box : Bx} {hours : Int} {r : (List Int) × Bx} (h : p__law_row box hours = some r) : F__law_row (eBx box) [eI hours] = some ((eS eI) r.1, eBx r.2) := B_end (er := (eS eI)) (eb := eBx) (pS__law_row box hours) h rfl
noncomputable def p_less (one : (Int × Int)) (other : (Int × Int)) : Option (Bool) := (mulO one.1 other.2).bind fun (v1 : Int) => (mulO other.1 one.2).bind fun (v2 : Int) => some (decide (v1 < v2))
theorem pS_less (one : (Int × Int)) (other : (Int × Int)) : S m_less [some (false, A.d ((eT2 eI eI) one)), some (false, A.d ((eT2 eI eI) other))] (p_less one other) (IF (fun (w : Bool) => A.d (eB w))) := by
  unfold p_less m_less
  exact S_bind fun v1 hv1 => S_bind fun v2 hv2 => S_retD (E_asV (T_cmp (E_m2 (E_ix (E_var rfl) E_c rfl) (E_ix (E_var rfl) E_c rfl) (mul_val hv1)) (E_m2 (E_ix (E_var rfl) E_c rfl) (E_ix (E_var rfl) E_c rfl) (mul_val hv2)) rfl)) (rt_F rfl)
theorem pf_less {one : (Int × Int)} {other : (Int × Int)} {r : Bool} (h : p_less one other = some r) : F_less [A.d ((eT2 eI eI) one), A.d ((eT2 eI eI) other)] = some (A.d (eB r)) := F_end (er := (fun (w : Bool) => A.d (eB w))) (pS_less one other) h rfl
noncomputable def p_whole (n : Int) : Option ((Int × Int)) := some (n, (1 : Int))
theorem pS_whole (n : Int) : S m_whole [some (false, A.d (eI n))] (p_whole n) (IF (fun (w : (Int × Int)) => A.d ((eT2 eI eI) w))) := by
  unfold p_whole m_whole
  exact S_retD (E_tup (ds := [eI n, eI (1 : Int)]) (Es_cons (E_var rfl) (Es_cons E_c Es_nil)) rfl) (rt_F rfl)
theorem pf_whole {n : Int} {r : (Int × Int)} (h : p_whole n = some r) : F_whole [A.d (eI n)] = some (A.d ((eT2 eI eI) r)) := F_end (er := (fun (w : (Int × Int)) => A.d ((eT2 eI eI) w))) (pS_whole n) h rfl
noncomputable def p_whole_hour (when : (Int × Int)) : Option (Int) := (fdivO when.1 when.2).bind fun (v1 : Int) => some v1
theorem pS_whole_hour (when : (Int × Int)) : S m_whole_hour [some (false, A.d ((eT2 eI eI) when))] (p_whole_hour when) (IF (fun (w : Int) => A.d (eI w))) := by
  unfold p_whole_hour m_whole_hour
  exact S_bind fun v1 hv1 => S_retD (E_m2 (E_ix (E_var rfl) E_c rfl) (E_ix (E_var rfl) E_c rfl) (fdiv_val hv1)) (rt_F rfl)
theorem pf_whole_hour {when : (Int × Int)} {r : Int} (h : p_whole_hour when = some r) : F_whole_hour [A.d ((eT2 eI eI) when)] = some (A.d (eI r)) := F_end (er := (fun (w : Int) => A.d (eI w))) (pS_whole_hour when) h rfl
noncomputable def p_drift_starts (row : (List Int)) (start : (Int × Int)) (last : (Int × Int)) : Option ((List (Int × Int))) := (p_whole_hour start).bind fun (v1 : Int) => letF ([start] : (List (Int × Int))) fun (found2 : (List (Int × Int))) => letF (v1 + (1 : Int)) fun (k3 : Int) => (whileO (fun (s4 : ((List (Int × Int)) × Int)) => (p_whole s4.2).bind fun (v5 : (Int × Int)) => p_less v5 last) (fun (s4 : ((List (Int × Int)) × Int)) => (p_whole s4.2).bind fun (v7 : (Int × Int)) => (pushO s4.1 v7).bind fun (v8 : (List (Int × Int))) => letF (s4.2 + (1 : Int)) fun (k9 : Int) => some (v8, k9)) (found2, k3)).bind fun (st10 : ((List (Int × Int)) × Int)) => (p_less start last).bind fun (v11 : Bool) => (catO st10.1 (cond v11 ([last] : (List (Int × Int))) ([] : (List (Int × Int))))).bind fun (v12 : (List (Int × Int))) => some v12
theorem pS_drift_starts (row : (List Int)) (start : (Int × Int)) (last : (Int × Int)) : S m_drift_starts [some (false, A.d ((eS eI) row)), some (false, A.d ((eT2 eI eI) start)), some (false, A.d ((eT2 eI eI) last)), none, none] (p_drift_starts row start last) (IF (fun (w : (List (Int × Int))) => A.ls (w.map (eT2 eI eI)))) := by
  unfold p_drift_starts m_drift_starts
  exact S_bind fun v1 hv1 => S_let fun found2 hfound2 => S_let fun k3 hk3 => S_step (t1 := [some (false, A.d ((eS eI) row)), some (false, A.d ((eT2 eI eI) start)), some (false, A.d ((eT2 eI eI) last)), some (true, A.ls (found2.map (eT2 eI eI))), some (false, A.d (eI k3))]) (St_par' (Ess.o (E_let (fun (w : (List (Int × Int))) => A.ls (w.map (eT2 eI eI))) hfound2 (E_useO (E_lst (ds := [(eT2 eI eI) start]) (Es_cons (E_var rfl) Es_nil) rfl))) (Ess.d (E_let (fun (w : Int) => A.d (eI w)) hk3 (E_use (E_m2 (E_nP (fNv1 (pf_whole_hour hv1)) (Es_cons (E_var rfl) Es_nil)) E_c rfl))) Ess.nil)) rfl rfl rfl rfl) (S_seqN (tt := fun (st : ((List (Int × Int)) × Int)) => [some (false, A.d ((eS eI) row)), some (false, A.d ((eT2 eI eI) start)), some (false, A.d ((eT2 eI eI) last)), some (true, A.ls (st.1.map (eT2 eI eI))), some (false, A.d (eI st.2))]) (S_whileO (tt := fun (st : ((List (Int × Int)) × Int)) => [some (false, A.d ((eS eI) row)), some (false, A.d ((eT2 eI eI) start)), some (false, A.d ((eT2 eI eI) last)), some (true, A.ls (st.1.map (eT2 eI eI))), some (false, A.d (eI st.2))]) (.keep (.keep (.keep (.keep (.keep .nil))))) (fun s4 => TQ_bind fun v5 hv5 => TQ_tail fun v6 hv6 => (T_tru (E_nP (fNv2 (pf_less hv6)) (Es_cons (E_nP (fNv1 (pf_whole hv5)) (Es_cons (E_var rfl) Es_nil)) (Es_cons (E_var rfl) Es_nil))) rfl)) (fun s4 => S_bind fun v7 hv7 => S_bind fun v8 hv8 => S_step (t1 := [some (false, A.d ((eS eI) row)), some (false, A.d ((eT2 eI eI) start)), some (false, A.d ((eT2 eI eI) last)), some (true, A.ls (v8.map (eT2 eI eI))), some (false, A.d (eI s4.2))]) (St_expr (E_append' (f := (eT2 eI eI)) hv8 rfl (E_nP (fNv1 (pf_whole hv7)) (Es_cons (E_var rfl) Es_nil)) rfl rfl)) (S_let fun k9 hk9 => S_last (t1 := [some (false, A.d ((eS eI) row)), some (false, A.d ((eT2 eI eI) start)), some (false, A.d ((eT2 eI eI) last)), some (true, A.ls (v8.map (eT2 eI eI))), some (false, A.d (eI k9))]) (St_augN rfl E_c hk9 rfl) (Nd_C (.keep (.keep (.keep (.keep (.keep .nil))))))))) (fun st10 => S_bind fun v11 hv11 => S_bind fun v12 hv12 => S_retO (E_m2o (E_var rfl) (E_if (fun (w : (List (Int × Int))) => A.ls (w.map (eT2 eI eI))) (T_tru (E_nP (fNv2 (pf_less hv11)) (Es_cons (E_var rfl) (Es_cons (E_var rfl) Es_nil))) rfl) (fun _ => (E_lst (ds := [(eT2 eI eI) last]) (Es_cons (E_var rfl) Es_nil) rfl)) (fun _ => (E_eq (y := A.ls (([] : (List (Int × Int))).map (eT2 eI eI))) (E_lst (ds := []) Es_nil rfl) rfl))) (cat_ls hv12) rfl) (rt_FO rfl)))
theorem pf_drift_starts {row : (List Int)} {start : (Int × Int)} {last : (Int × Int)} {r : (List (Int × Int))} (h : p_drift_starts row start last = some r) : F_drift_starts [A.d ((eS eI) row), A.d ((eT2 eI eI) start), A.d ((eT2 eI eI) last)] = some (A.ls (r.map (eT2 eI eI))) := F_end (er := (fun (w : (List (Int × Int))) => A.ls (w.map (eT2 eI eI)))) (pS_drift_starts row start last) h rfl
noncomputable def p_divisor_of (a : Int) (b : Int) : Option (Int) := letF (absI a) fun (a1 : Int) => letF (absI b) fun (b2 : Int) => (whileO (fun (s3 : (Int × Int)) => some (s3.2 != 0)) (fun (s3 : (Int × Int)) => (modO s3.1 s3.2).bind fun (v4 : Int) => some (s3.2, v4)) (a1, b2)).bind fun (st5 : (Int × Int)) => some st5.1
theorem pS_divisor_of (a : Int) (b : Int) : S m_divisor_of [some (false, A.d (eI a)), some (false, A.d (eI b))] (p_divisor_of a b) (IF (fun (w : Int) => A.d (eI w))) := by
  unfold p_divisor_of m_divisor_of
  exact S_let fun a1 ha1 => S_let fun b2 hb2 => S_step (t1 := [some (false, A.d (eI a1)), some (false, A.d (eI b2))]) (St_par' (Ess.d (E_let (fun (w : Int) => A.d (eI w)) ha1 (E_use (E_n (Es_cons (E_var rfl) Es_nil) rfl))) (Ess.d (E_let (fun (w : Int) => A.d (eI w)) hb2 (E_use (E_n (Es_cons (E_var rfl) Es_nil) rfl))) Ess.nil)) rfl rfl rfl rfl) (S_seqN (tt := fun (st : (Int × Int)) => [some (false, A.d (eI st.1)), some (false, A.d (eI st.2))]) (S_whileO (tt := fun (st : (Int × Int)) => [some (false, A.d (eI st.1)), some (false, A.d (eI st.2))]) (.keep (.keep .nil)) (fun s3 => TQ_pure (T_tru (E_var rfl) rfl)) (fun s3 => S_bind fun v4 hv4 => S_last (t1 := [some (false, A.d (eI s3.2)), some (false, A.d (eI v4))]) (St_par' (Ess.d (E_use (E_var rfl)) (Ess.d (E_use (E_m2 (E_var rfl) (E_var rfl) (mod_val hv4))) Ess.nil)) rfl rfl rfl rfl) (Nd_C (.keep (.keep .nil))))) (fun st5 => S_retD (E_var rfl) (rt_F rfl)))
theorem pf_divisor_of {a : Int} {b : Int} {r : Int} (h : p_divisor_of a b = some r) : F_divisor_of [A.d (eI a), A.d (eI b)] = some (A.d (eI r)) := F_end (er := (fun (w : Int) => A.d (eI w))) (pS_divisor_of a b) h rfl
noncomputable def p_ratio (p : Int) (q : Int) : Option ((Int × Int)) := (cond (decide ((0 : Int) < q)) (p_divisor_of p q) ((p_divisor_of p q).bind fun (v2 : Int) => some (-v2))).bind fun (v3 : Int) => (fdivO p v3).bind fun (v4 : Int) => (fdivO q v3).bind fun (v5 : Int) => some (v4, v5)
theorem pS_ratio (p : Int) (q : Int) : S m_ratio [some (false, A.d (eI p)), some (false, A.d (eI q)), none] (p_ratio p q) (IF (fun (w : (Int × Int)) => A.d ((eT2 eI eI) w))) := by
  unfold p_ratio m_ratio
  exact S_bind fun v3 hv3 => S_step (t1 := [some (false, A.d (eI p)), some (false, A.d (eI q)), some (false, A.d (eI v3))]) (St_setD' (E_if0 hv3 (fun (w : Int) => A.d (eI w)) (T_cmp (E_var rfl) E_c rfl) (fun _ => EQ_tail fun v1 hv1 => (E_nP (fNv2 (pf_divisor_of hv1)) (Es_cons (E_var rfl) (Es_cons (E_var rfl) Es_nil)))) (fun _ => EQ_bind fun v2 hv2 => EQ_ret (E_m1 (E_nP (fNv2 (pf_divisor_of hv2)) (Es_cons (E_var rfl) (Es_cons (E_var rfl) Es_nil))) rfl))) rfl rfl) (S_bind fun v4 hv4 => S_bind fun v5 hv5 => S_retD (E_tup (ds := [eI v4, eI v5]) (Es_cons (E_m2 (E_var rfl) (E_var rfl) (fdiv_val hv4)) (Es_cons (E_m2 (E_var rfl) (E_var rfl) (fdiv_val hv5)) Es_nil)) rfl) (rt_F rfl))
theorem pf_ratio {p : Int} {q : Int} {r : (Int × Int)} (h : p_ratio p q = some r) : F_ratio [A.d (eI p), A.d (eI q)] = some (A.d ((eT2 eI eI) r)) := F_end (er := (fun (w : (Int × Int)) => A.d ((eT2 eI eI) w))) (pS_ratio p q) h rfl
noncomputable def p_minus (one : (Int × Int)) (other : (Int × Int)) : Option ((Int × Int)) := (mulO one.1 other.2).bind fun (v1 : Int) => (mulO other.1 one.2).bind fun (v2 : Int) => (mulO one.2 other.2).bind fun (v3 : Int) => (p_ratio (v1 - v2) v3).bind fun (v4 : (Int × Int)) => some v4
theorem pS_minus (one : (Int × Int)) (other : (Int × Int)) : S m_minus [some (false, A.d ((eT2 eI eI) one)), some (false, A.d ((eT2 eI eI) other))] (p_minus one other) (IF (fun (w : (Int × Int)) => A.d ((eT2 eI eI) w))) := by
  unfold p_minus m_minus
  exact S_bind fun v1 hv1 => S_bind fun v2 hv2 => S_bind fun v3 hv3 => S_bind fun v4 hv4 => S_retD (E_nP (fNv2 (pf_ratio hv4)) (Es_cons (E_m2 (E_m2 (E_ix (E_var rfl) E_c rfl) (E_ix (E_var rfl) E_c rfl) (mul_val hv1)) (E_m2 (E_ix (E_var rfl) E_c rfl) (E_ix (E_var rfl) E_c rfl) (mul_val hv2)) rfl) (Es_cons (E_m2 (E_ix (E_var rfl) E_c rfl) (E_ix (E_var rfl) E_c rfl) (mul_val hv3)) Es_nil))) (rt_F rfl)
theorem pf_minus {one : (Int × Int)} {other : (Int × Int)} {r : (Int × Int)} (h : p_minus one other = some r) : F_minus [A.d ((eT2 eI eI) one), A.d ((eT2 eI eI) other)] = some (A.d ((eT2 eI eI) r)) := F_end (er := (fun (w : (Int × Int)) => A.d ((eT2 eI eI) w))) (pS_minus one other) h rfl
noncomputable def p_over (one : (Int × Int)) (other : (Int × Int)) : Option ((Int × Int)) := (mulO one.1 other.2).bind fun (v1 : Int) => (mulO one.2 other.1).bind fun (v2 : Int) => (p_ratio v1 v2).bind fun (v3 : (Int × Int)) => some v3
theorem pS_over (one : (Int × Int)) (other : (Int × Int)) : S m_over [some (false, A.d ((eT2 eI eI) one)), some (false, A.d ((eT2 eI eI) other))] (p_over one other) (IF (fun (w : (Int × Int)) => A.d ((eT2 eI eI) w))) := by
  unfold p_over m_over
  exact S_bind fun v1 hv1 => S_bind fun v2 hv2 => S_bind fun v3 hv3 => S_retD (E_nP (fNv2 (pf_ratio hv3)) (Es_cons (E_m2 (E_ix (E_var rfl) E_c rfl) (E_ix (E_var rfl) E_c rfl) (mul_val hv1)) (Es_cons (E_m2 (E_ix (E_var rfl) E_c rfl) (E_ix (E_var rfl) E_c rfl) (mul_val hv2)) Es_nil))) (rt_F rfl)
theorem pf_over {one : (Int × Int)} {other : (Int × Int)} {r : (Int × Int)} (h : p_over one other = some r) : F_over [A.d ((eT2 eI eI) one), A.d ((eT2 eI eI) other)] = some (A.d ((eT2 eI eI) r)) := F_end (er := (fun (w : (Int × Int)) => A.d ((eT2 eI eI) w))) (pS_over one other) h rfl
noncomputable def p_plus (one : (Int × Int)) (other : (Int × Int)) : Option ((Int × Int)) := (mulO one.1 other.2).bind fun (v1 : Int) => (mulO other.1 one.2).bind fun (v2 : Int) => (mulO one.2 other.2).bind fun (v3 : Int) => (p_ratio (v1 + v2) v3).bind fun (v4 : (Int × Int)) => some v4
theorem pS_plus (one : (Int × Int)) (other : (Int × Int)) : S m_plus [some (false, A.d ((eT2 eI eI) one)), some (false, A.d ((eT2 eI eI) other))] (p_plus one other) (IF (fun (w : (Int × Int)) => A.d ((eT2 eI eI) w))) := by
  unfold p_plus m_plus
  exact S_bind fun v1 hv1 => S_bind fun v2 hv2 => S_bind fun v3 hv3 => S_bind fun v4 hv4 => S_retD (E_nP (fNv2 (pf_ratio hv4)) (Es_cons (E_m2 (E_m2 (E_ix (E_var rfl) E_c rfl) (E_ix (E_var rfl) E_c rfl) (mul_val hv1)) (E_m2 (E_ix (E_var rfl) E_c rfl) (E_ix (E_var rfl) E_c rfl) (mul_val hv2)) rfl) (Es_cons (E_m2 (E_ix (E_var rfl) E_c rfl) (E_ix (E_var rfl) E_c rfl) (mul_val hv3)) Es_nil))) (rt_F rfl)
theorem pf_plus {one : (Int × Int)} {other : (Int × Int)} {r : (Int × Int)} (h : p_plus one other = some r) : F_plus [A.d ((eT2 eI eI) one), A.d ((eT2 eI eI) other)] = some (A.d ((eT2 eI eI) r)) := F_end (er := (fun (w : (Int × Int)) => A.d ((eT2 eI eI) w))) (pS_plus one other) h rfl
noncomputable def p_times (one : (Int × Int)) (other : (Int × Int)) : Option ((Int × Int)) := (mulO one.1 other.1).bind fun (v1 : Int) => (mulO one.2 other.2).bind fun (v2 : Int) => (p_ratio v1 v2).bind fun (v3 : (Int × Int)) => some v3
theorem pS_times (one : (Int × Int)) (other : (Int × Int)) : S m_times [some (false, A.d ((eT2 eI eI) one)), some (false, A.d ((eT2 eI eI) other))] (p_times one other) (IF (fun (w : (Int × Int)) => A.d ((eT2 eI eI) w))) := by
  unfold p_times m_times
  exact S_bind fun v1 hv1 => S_bind fun v2 hv2 => S_bind fun v3 hv3 => S_retD (E_nP (fNv2 (pf_ratio hv3)) (Es_cons (E_m2 (E_ix (E_var rfl) E_c rfl) (E_ix (E_var rfl) E_c rfl) (mul_val hv1)) (Es_cons (E_m2 (E_ix (E_var rfl) E_c rfl) (E_ix (E_var rfl) E_c rfl) (mul_val hv2)) Es_nil))) (rt_F rfl)
theorem pf_times {one : (Int × Int)} {other : (Int × Int)} {r : (Int × Int)} (h : p_times one other = some r) : F_times [A.d ((eT2 eI eI) one), A.d ((eT2 eI eI) other)] = some (A.d ((eT2 eI eI) r)) := F_end (er := (fun (w : (Int × Int)) => A.d ((eT2 eI eI) w))) (pS_times one other) h rfl
noncomputable def p_leg_end (row : (List Int)) (length : Int) (start : (Int × Int)) (anchored : Bool) : Option ((Option (Int × Int))) := (p_whole length).bind fun (v1 : (Int × Int)) => (whileX (fun (s2 : ((Int × Int) × (Int × Int))) => (p_whole ((row.length : Nat) : Int)).bind fun (v3 : (Int × Int)) => p_less s2.2 v3) (fun (s2 : ((Int × Int) × (Int × Int))) => (p_whole_hour s2.2).bind fun (v5 : Int) => (cond anchored ((atI row v5).bind fun (v6 : Int) => some (max2I (0 : Int) v6)) (atI row v5)).bind fun (v8 : Int) => (p_whole (v5 + (1 : Int))).bind fun (v9 : (Int × Int)) => (p_minus v9 s2.2).bind fun (v10 : (Int × Int)) => (p_whole v8).bind fun (v11 : (Int × Int)) => (p_times v10 v11).bind fun (v12 : (Int × Int)) => (p_less v12 s2.1).bind fun (v13 : Bool) => cond (!v13) ((p_whole v8).bind fun (v14 : (Int × Int)) => (p_over s2.1 v14).bind fun (v15 : (Int × Int)) => (p_plus s2.2 v15).bind fun (v16 : (Int × Int)) => some (Lp.out (some v16))) ((p_minus s2.1 v12).bind fun (v17 : (Int × Int)) => (p_whole (v5 + (1 : Int))).bind fun (v18 : (Int × Int)) => some (Lp.go (v17, v18)))) (v1, start)).bind (orX (fun (r : (Option (Int × Int))) => r) fun (st19 : ((Int × Int) × (Int × Int))) => some none)
theorem pS_leg_end (row : (List Int)) (length : Int) (start : (Int × Int)) (anchored : Bool) : S m_leg_end [some (false, A.d ((eS eI) row)), some (false, A.d (eI length)), some (false, A.d ((eT2 eI eI) start)), some (false, A.d (eB anchored)), none, none, none, none, none, none] (p_leg_end row length start anchored) (IF (fun (w : (Option (Int × Int))) => A.d ((eO (eT2 eI eI)) w))) := by
  unfold p_leg_end m_leg_end
  exact S_bind fun v1 hv1 => S_step (t1 := [some (false, A.d ((eS eI) row)), some (false, A.d (eI length)), some (false, A.d ((eT2 eI eI) start)), some (false, A.d (eB anchored)), some (false, A.d ((eT2 eI eI) v1)), some (false, A.d ((eT2 eI eI) start)), none, none, none, none]) (St_par' (Ess.d (E_use (E_nP (fNv1 (pf_whole hv1)) (Es_cons (E_var rfl) Es_nil))) (Ess.d (E_use (E_var rfl)) Ess.nil)) rfl rfl rfl rfl) (S_seqX (g := fun (r : (Option (Int × Int))) => r) (tt := fun (st : ((Int × Int) × (Int × Int))) => [some (false, A.d ((eS eI) row)), some (false, A.d (eI length)), some (false, A.d ((eT2 eI eI) start)), some (false, A.d (eB anchored)), some (false, A.d ((eT2 eI eI) st.1)), some (false, A.d ((eT2 eI eI) st.2)), none, none, none, none]) (S_whileX (tt := fun (st : ((Int × Int) × (Int × Int))) => [some (false, A.d ((eS eI) row)), some (false, A.d (eI length)), some (false, A.d ((eT2 eI eI) start)), some (false, A.d (eB anchored)), some (false, A.d ((eT2 eI eI) st.1)), some (false, A.d ((eT2 eI eI) st.2)), none, none, none, none]) (.keep (.keep (.keep (.keep (.keep (.keep (.skip (.skip (.skip (.skip .nil)))))))))) (fun s2 => TQ_bind fun v3 hv3 => TQ_tail fun v4 hv4 => (T_tru (E_nP (fNv2 (pf_less hv4)) (Es_cons (E_var rfl) (Es_cons (E_nP (fNv1 (pf_whole hv3)) (Es_cons (E_n (Es_cons (E_var rfl) Es_nil) (f1v lenT_val)) Es_nil)) Es_nil))) rfl)) (fun s2 => S_bind fun v5 hv5 => S_step (t1 := [some (false, A.d ((eS eI) row)), some (false, A.d (eI length)), some (false, A.d ((eT2 eI eI) start)), some (false, A.d (eB anchored)), some (false, A.d ((eT2 eI eI) s2.1)), some (false, A.d ((eT2 eI eI) s2.2)), some (false, A.d (eI v5)), none, none, none]) (St_setD' (E_nP (fNv1 (pf_whole_hour hv5)) (Es_cons (E_var rfl) Es_nil)) rfl rfl) (S_bind fun v8 hv8 => S_step (t1 := [some (false, A.d ((eS eI) row)), some (false, A.d (eI length)), some (false, A.d ((eT2 eI eI) start)), some (false, A.d (eB anchored)), some (false, A.d ((eT2 eI eI) s2.1)), some (false, A.d ((eT2 eI eI) s2.2)), some (false, A.d (eI v5)), some (false, A.d (eI v8)), none, none]) (St_setD' (E_if0 hv8 (fun (w : Int) => A.d (eI w)) (T_tru (E_var rfl) rfl) (fun _ => EQ_bind fun v6 hv6 => EQ_ret (E_n (Es_cons E_c (Es_cons (E_ix (E_var rfl) (E_var rfl) (ixT_val hv6)) Es_nil)) rfl)) (fun _ => EQ_tail fun v7 hv7 => (E_ix (E_var rfl) (E_var rfl) (ixT_val hv7)))) rfl rfl) (S_bind fun v9 hv9 => S_bind fun v10 hv10 => S_step (t1 := [some (false, A.d ((eS eI) row)), some (false, A.d (eI length)), some (false, A.d ((eT2 eI eI) start)), some (false, A.d (eB anchored)), some (false, A.d ((eT2 eI eI) s2.1)), some (false, A.d ((eT2 eI eI) s2.2)), some (false, A.d (eI v5)), some (false, A.d (eI v8)), some (false, A.d ((eT2 eI eI) v10)), none]) (St_setD' (E_nP (fNv2 (pf_minus hv10)) (Es_cons (E_nP (fNv1 (pf_whole hv9)) (Es_cons (E_m2 (E_var rfl) E_c rfl) Es_nil)) (Es_cons (E_var rfl) Es_nil))) rfl rfl) (S_bind fun v11 hv11 => S_bind fun v12 hv12 => S_step (t1 := [some (false, A.d ((eS eI) row)), some (false, A.d (eI length)), some (false, A.d ((eT2 eI eI) start)), some (false, A.d (eB anchored)), some (false, A.d ((eT2 eI eI) s2.1)), some (false, A.d ((eT2 eI eI) s2.2)), some (false, A.d (eI v5)), some (false, A.d (eI v8)), some (false, A.d ((eT2 eI eI) v10)), some (false, A.d ((eT2 eI eI) v12))]) (St_setD' (E_nP (fNv2 (pf_times hv12)) (Es_cons (E_var rfl) (Es_cons (E_nP (fNv1 (pf_whole hv11)) (Es_cons (E_var rfl) Es_nil)) Es_nil))) rfl rfl) (S_bind fun v13 hv13 => S_ifA (T_not (T_tru (E_nP (fNv2 (pf_less hv13)) (Es_cons (E_var rfl) (Es_cons (E_var rfl) Es_nil))) rfl)) (fun _ => S_bind fun v14 hv14 => S_bind fun v15 hv15 => S_bind fun v16 hv16 => S_retD (E_eq (y := A.d ((eO (eT2 eI eI)) (some v16))) (E_nP (fNv2 (pf_plus hv16)) (Es_cons (E_var rfl) (Es_cons (E_nP (fNv2 (pf_over hv15)) (Es_cons (E_var rfl) (Es_cons (E_nP (fNv1 (pf_whole hv14)) (Es_cons (E_var rfl) Es_nil)) Es_nil))) Es_nil))) rfl) (rt_A (rt_L (rt_F rfl)))) (fun _ => S_nopSeq (S_bind fun v17 hv17 => S_bind fun v18 hv18 => S_last (t1 := [some (false, A.d ((eS eI) row)), some (false, A.d (eI length)), some (false, A.d ((eT2 eI eI) start)), some (false, A.d (eB anchored)), some (false, A.d ((eT2 eI eI) v17)), some (false, A.d ((eT2 eI eI) v18)), some (false, A.d (eI v5)), some (false, A.d (eI v8)), some (false, A.d ((eT2 eI eI) v10)), some (false, A.d ((eT2 eI eI) v12))]) (St_par' (Ess.d (E_use (E_nP (fNv2 (pf_minus hv17)) (Es_cons (E_var rfl) (Es_cons (E_var rfl) Es_nil)))) (Ess.d (E_use (E_nP (fNv1 (pf_whole hv18)) (Es_cons (E_m2 (E_var rfl) E_c rfl) Es_nil))) Ess.nil)) rfl rfl rfl rfl) (Nd_L (.keep (.keep (.keep (.keep (.keep (.keep (.skip (.skip (.skip (.skip .nil))))))))))))))))))) (fun _ _ _ h _ => h) (fun st19 => S_retD (E_eq (y := A.d ((eO (eT2 eI eI)) none)) E_c rfl) (rt_F rfl)))
theorem pf_leg_end {row : (List Int)} {length : Int} {start : (Int × Int)} {anchored : Bool} {r : (Option (Int × Int))} (h : p_leg_end row length start anchored = some r) : F_leg_end [A.d ((eS eI) row), A.d (eI length), A.d ((eT2 eI eI) start), A.d (eB anchored)] = some (A.d ((eO (eT2 eI eI)) r)) := F_end (er := (fun (w : (Option (Int × Int))) => A.d ((eO (eT2 eI eI)) w))) (pS_leg_end row length start anchored) h rfl
noncomputable def p_best_drift (row : (List Int)) (length : Int) (start : (Int × Int)) : Option ((Option ((Option (Int × Int)) × (Int × Int)))) := (p_whole ((row.length : Nat) : Int)).bind fun (v1 : (Int × Int)) => (p_drift_starts row start v1).bind fun (v2 : (List (Int × Int))) => (forO (fun (here3 : (Int × Int)) (s4 : (Option ((Option (Int × Int)) × (Int × Int)))) => (p_leg_end row length here3 false).bind fun (v5 : (Option (Int × Int))) => (cond v5.isSome (cond s4.isNone (some true) ((v5).bind fun (v6 : (Int × Int)) => (s4).bind fun (v7 : ((Option (Int × Int)) × (Int × Int))) => (v7.1).bind fun (v8 : (Int × Int)) => p_less v6 v8)) (some false)).bind fun (v11 : Bool) => cond v11 (letF (v5, here3) fun (best12 : ((Option (Int × Int)) × (Int × Int))) => some (some best12)) (some s4)) v2 none).bind fun (st13 : (Option ((Option (Int × Int)) × (Int × Int)))) => some st13
theorem pS_best_drift (row : (List Int)) (length : Int) (start : (Int × Int)) : S m_best_drift [some (false, A.d ((eS eI) row)), some (false, A.d (eI length)), some (false, A.d ((eT2 eI eI) start)), none, none, none] (p_best_drift row length start) (IF (fun (w : (Option ((Option (Int × Int)) × (Int × Int)))) => A.d ((eO (eT2 (eO (eT2 eI eI)) (eT2 eI eI))) w))) := by
  unfold p_best_drift m_best_drift
  exact S_step (t1 := [some (false, A.d ((eS eI) row)), some (false, A.d (eI length)), some (false, A.d ((eT2 eI eI) start)), some (false, A.d (eN ())), none, none]) (St_setD' E_c rfl rfl) (S_bind fun v1 hv1 => S_bind fun v2 hv2 => S_seqN (tt := fun (st : (Option ((Option (Int × Int)) × (Int × Int)))) => [some (false, A.d ((eS eI) row)), some (false, A.d (eI length)), some (false, A.d ((eT2 eI eI) start)), some (false, A.d ((eO (eT2 (eO (eT2 eI eI)) (eT2 eI eI))) st)), none, none]) (S_forO (enc := (fun w => A.d ((eT2 eI eI) w))) (tt := fun (st : (Option ((Option (Int × Int)) × (Int × Int)))) => [some (false, A.d ((eS eI) row)), some (false, A.d (eI length)), some (false, A.d ((eT2 eI eI) start)), some (false, A.d ((eO (eT2 (eO (eT2 eI eI)) (eT2 eI eI))) st)), none, none]) (tb := fun (here3 : (Int × Int)) (s4 : (Option ((Option (Int × Int)) × (Int × Int)))) => [some (false, A.d ((eS eI) row)), some (false, A.d (eI length)), some (false, A.d ((eT2 eI eI) start)), some (false, A.d ((eO (eT2 (eO (eT2 eI eI)) (eT2 eI eI))) s4)), some (false, A.d ((eT2 eI eI) here3)), none]) (It_iter (E_noP (fNv3 (pf_drift_starts hv2)) rfl (Es_cons (E_var rfl) (Es_cons (E_var rfl) (Es_cons (E_nP (fNv1 (pf_whole hv1)) (Es_cons (E_n (Es_cons (E_var rfl) Es_nil) (f1v lenT_val)) Es_nil)) Es_nil)))) iter_ls (trivial)) (.keep (.keep (.keep (.keep (.skip (.skip .nil)))))) (fun _ _ => (Put_nm' rfl)) (fun here3 s4 => S_bind fun v5 hv5 => S_step (t1 := [some (false, A.d ((eS eI) row)), some (false, A.d (eI length)), some (false, A.d ((eT2 eI eI) start)), some (false, A.d ((eO (eT2 (eO (eT2 eI eI)) (eT2 eI eI))) s4)), some (false, A.d ((eT2 eI eI) here3)), some (false, A.d ((eO (eT2 eI eI)) v5))]) (St_setD' (E_nP (fNv4 (pf_leg_end hv5)) (Es_cons (E_var rfl) (Es_cons (E_var rfl) (Es_cons (E_var rfl) (Es_cons E_c Es_nil))))) rfl rfl) (S_bind fun v11 hv11 => S_if (T_and0 hv11 (T_cmp (E_var rfl) E_c (isnA_opt (fun _ => rfl))) (fun _ => TQ_tail fun v10 hv10 => (T_or0 hv10 (T_cmp (E_var rfl) E_c (isA_opt (fun _ => rfl))) (fun _ => TQ_bind fun v6 hv6 => TQ_bind fun v7 hv7 => TQ_bind fun v8 hv8 => TQ_tail fun v9 hv9 => (T_tru (E_nP (fNv2 (pf_less hv9)) (Es_cons (E_narO (e := (eT2 eI eI)) hv6 (E_var rfl)) (Es_cons (E_narO (e := (eT2 eI eI)) hv8 (E_ix (E_narO (e := (eT2 (eO (eT2 eI eI)) (eT2 eI eI))) hv7 (E_var rfl)) E_c rfl)) Es_nil))) rfl))))) (fun _ => S_let fun best12 hbest12 => S_last (t1 := [some (false, A.d ((eS eI) row)), some (false, A.d (eI length)), some (false, A.d ((eT2 eI eI) start)), some (false, A.d ((eT2 (eO (eT2 eI eI)) (eT2 eI eI)) best12)), some (false, A.d ((eT2 eI eI) here3)), some (false, A.d ((eO (eT2 eI eI)) v5))]) (St_setD' (E_let (fun (w : ((Option (Int × Int)) × (Int × Int))) => A.d ((eT2 (eO (eT2 eI eI)) (eT2 eI eI)) w)) hbest12 (E_tup (ds := [(eO (eT2 eI eI)) v5, (eT2 eI eI) here3]) (Es_cons (E_var rfl) (Es_cons (E_var rfl) Es_nil)) rfl)) rfl rfl) (Nd_C (.keep (.keep (.keep (.keep (.skip (.skip .nil)))))))) (fun _ => S_nop (Nd_C (.keep (.keep (.keep (.keep (.skip (.skip .nil))))))))))) (fun st13 => S_retD (E_var rfl) (rt_F rfl)))
theorem pf_best_drift {row : (List Int)} {length : Int} {start : (Int × Int)} {r : (Option ((Option (Int × Int)) × (Int × Int)))} (h : p_best_drift row length start = some r) : F_best_drift [A.d ((eS eI) row), A.d (eI length), A.d ((eT2 eI eI) start)] = some (A.d ((eO (eT2 (eO (eT2 eI eI)) (eT2 eI eI))) r)) := F_end (er := (fun (w : (Option ((Option (Int × Int)) × (Int × Int)))) => A.d ((eO (eT2 (eO (eT2 eI eI)) (eT2 eI eI))) w))) (pS_best_drift row length start) h rfl
noncomputable def p_latest_start (row : (List Int)) (length : Int) (end_ : (Int × Int)) : Option ((Option (Int × Int))) := (p_whole length).bind fun (v1 : (Int × Int)) => (whileX (fun (s2 : ((Int × Int) × (Int × Int))) => (p_whole (0 : Int)).bind fun (v3 : (Int × Int)) => p_less v3 s2.2) (fun (s2 : ((Int × Int) × (Int × Int))) => (cond (decide ((1 : Int) < s2.2.2)) (p_whole_hour s2.2) (some (s2.2.1 - (1 : Int)))).bind fun (v6 : Int) => (atI row v6).bind fun (v7 : Int) => letF (max2I (0 : Int) v7) fun (speed8 : Int) => (p_whole v6).bind fun (v9 : (Int × Int)) => (p_minus s2.2 v9).bind fun (v10 : (Int × Int)) => (p_whole speed8).bind fun (v11 : (Int × Int)) => (p_times v10 v11).bind fun (v12 : (Int × Int)) => (p_less v12 s2.1).bind fun (v13 : Bool) => cond (!v13) ((p_whole speed8).bind fun (v14 : (Int × Int)) => (p_over s2.1 v14).bind fun (v15 : (Int × Int)) => (p_minus s2.2 v15).bind fun (v16 : (Int × Int)) => some (Lp.out (some v16))) ((p_minus s2.1 v12).bind fun (v17 : (Int × Int)) => (p_whole v6).bind fun (v18 : (Int × Int)) => some (Lp.go (v17, v18)))) (v1, end_)).bind (orX (fun (r : (Option (Int × Int))) => r) fun (st19 : ((Int × Int) × (Int × Int))) => some none)
theorem pS_latest_start (row : (List Int)) (length : Int) (end_ : (Int × Int)) : S m_latest_start [some (false, A.d ((eS eI) row)), some (false, A.d (eI length)), some (false, A.d ((eT2 eI eI) end_)), none, none, none, none, none] (p_latest_start row length end_) (IF (fun (w : (Option (Int × Int))) => A.d ((eO (eT2 eI eI)) w))) := by
  unfold p_latest_start m_latest_start
  exact S_bind fun v1 hv1 => S_step (t1 := [some (false, A.d ((eS eI) row)), some (false, A.d (eI length)), some (false, A.d ((eT2 eI eI) end_)), some (false, A.d ((eT2 eI eI) v1)), some (false, A.d ((eT2 eI eI) end_)), none, none, none]) (St_par' (Ess.d (E_use (E_nP (fNv1 (pf_whole hv1)) (Es_cons (E_var rfl) Es_nil))) (Ess.d (E_use (E_var rfl)) Ess.nil)) rfl rfl rfl rfl) (S_seqX (g := fun (r : (Option (Int × Int))) => r) (tt := fun (st : ((Int × Int) × (Int × Int))) => [some (false, A.d ((eS eI) row)), some (false, A.d (eI length)), some (false, A.d ((eT2 eI eI) end_)), some (false, A.d ((eT2 eI eI) st.1)), some (false, A.d ((eT2 eI eI) st.2)), none, none, none]) (S_whileX (tt := fun (st : ((Int × Int) × (Int × Int))) => [some (false, A.d ((eS eI) row)), some (false, A.d (eI length)), some (false, A.d ((eT2 eI eI) end_)), some (false, A.d ((eT2 eI eI) st.1)), some (false, A.d ((eT2 eI eI) st.2)), none, none, none]) (.keep (.keep (.keep (.keep (.keep (.skip (.skip (.skip .nil)))))))) (fun s2 => TQ_bind fun v3 hv3 => TQ_tail fun v4 hv4 => (T_tru (E_nP (fNv2 (pf_less hv4)) (Es_cons (E_nP (fNv1 (pf_whole hv3)) (Es_cons E_c Es_nil)) (Es_cons (E_var rfl) Es_nil))) rfl)) (fun s2 => S_bind fun v6 hv6 => S_step (t1 := [some (false, A.d ((eS eI) row)), some (false, A.d (eI length)), some (false, A.d ((eT2 eI eI) end_)), some (false, A.d ((eT2 eI eI) s2.1)), some (false, A.d ((eT2 eI eI) s2.2)), some (false, A.d (eI v6)), none, none]) (St_setD' (E_if0 hv6 (fun (w : Int) => A.d (eI w)) (T_cmp (E_ix (E_var rfl) E_c rfl) E_c rfl) (fun _ => EQ_tail fun v5 hv5 => (E_nP (fNv1 (pf_whole_hour hv5)) (Es_cons (E_var rfl) Es_nil))) (fun _ => EQ_ret (E_m2 (E_ix (E_var rfl) E_c rfl) E_c rfl))) rfl rfl) (S_bind fun v7 hv7 => S_let fun speed8 hspeed8 => S_step (t1 := [some (false, A.d ((eS eI) row)), some (false, A.d (eI length)), some (false, A.d ((eT2 eI eI) end_)), some (false, A.d ((eT2 eI eI) s2.1)), some (false, A.d ((eT2 eI eI) s2.2)), some (false, A.d (eI v6)), some (false, A.d (eI speed8)), none]) (St_setD' (E_let (fun (w : Int) => A.d (eI w)) hspeed8 (E_n (Es_cons E_c (Es_cons (E_ix (E_var rfl) (E_var rfl) (ixT_val hv7)) Es_nil)) rfl)) rfl rfl) (S_bind fun v9 hv9 => S_bind fun v10 hv10 => S_bind fun v11 hv11 => S_bind fun v12 hv12 => S_step (t1 := [some (false, A.d ((eS eI) row)), some (false, A.d (eI length)), some (false, A.d ((eT2 eI eI) end_)), some (false, A.d ((eT2 eI eI) s2.1)), some (false, A.d ((eT2 eI eI) s2.2)), some (false, A.d (eI v6)), some (false, A.d (eI speed8)), some (false, A.d ((eT2 eI eI) v12))]) (St_setD' (E_nP (fNv2 (pf_times hv12)) (Es_cons (E_nP (fNv2 (pf_minus hv10)) (Es_cons (E_var rfl) (Es_cons (E_nP (fNv1 (pf_whole hv9)) (Es_cons (E_var rfl) Es_nil)) Es_nil))) (Es_cons (E_nP (fNv1 (pf_whole hv11)) (Es_cons (E_var rfl) Es_nil)) Es_nil))) rfl rfl) (S_bind fun v13 hv13 => S_ifA (T_not (T_tru (E_nP (fNv2 (pf_less hv13)) (Es_cons (E_var rfl) (Es_cons (E_var rfl) Es_nil))) rfl)) (fun _ => S_bind fun v14 hv14 => S_bind fun v15 hv15 => S_bind fun v16 hv16 => S_retD (E_eq (y := A.d ((eO (eT2 eI eI)) (some v16))) (E_nP (fNv2 (pf_minus hv16)) (Es_cons (E_var rfl) (Es_cons (E_nP (fNv2 (pf_over hv15)) (Es_cons (E_var rfl) (Es_cons (E_nP (fNv1 (pf_whole hv14)) (Es_cons (E_var rfl) Es_nil)) Es_nil))) Es_nil))) rfl) (rt_A (rt_L (rt_F rfl)))) (fun _ => S_nopSeq (S_bind fun v17 hv17 => S_bind fun v18 hv18 => S_last (t1 := [some (false, A.d ((eS eI) row)), some (false, A.d (eI length)), some (false, A.d ((eT2 eI eI) end_)), some (false, A.d ((eT2 eI eI) v17)), some (false, A.d ((eT2 eI eI) v18)), some (false, A.d (eI v6)), some (false, A.d (eI speed8)), some (false, A.d ((eT2 eI eI) v12))]) (St_par' (Ess.d (E_use (E_nP (fNv2 (pf_minus hv17)) (Es_cons (E_var rfl) (Es_cons (E_var rfl) Es_nil)))) (Ess.d (E_use (E_nP (fNv1 (pf_whole hv18)) (Es_cons (E_var rfl) Es_nil))) Ess.nil)) rfl rfl rfl rfl) (Nd_L (.keep (.keep (.keep (.keep (.keep (.skip (.skip (.skip .nil)))))))))))))))) (fun _ _ _ h _ => h) (fun st19 => S_retD (E_eq (y := A.d ((eO (eT2 eI eI)) none)) E_c rfl) (rt_F rfl)))
theorem pf_latest_start {row : (List Int)} {length : Int} {end_ : (Int × Int)} {r : (Option (Int × Int))} (h : p_latest_start row length end_ = some r) : F_latest_start [A.d ((eS eI) row), A.d (eI length), A.d ((eT2 eI eI) end_)] = some (A.d ((eO (eT2 eI eI)) r)) := F_end (er := (fun (w : (Option (Int × Int))) => A.d ((eO (eT2 eI eI)) w))) (pS_latest_start row length end_) h rfl
noncomputable def p_turning_starts (row : (List Int)) (length : Int) : Option ((List (Int × Int))) := (rgO ((row.length : Nat) : Int)).bind fun (v1 : Unit) => (mapO (fun (x2 : Int) => p_whole x2) (rangeT 0 ((row.length : Nat) : Int).toNat)).bind fun (v4 : (List (Int × Int))) => (rgO (1 : Int)).bind fun (v5 : Unit) => (rgO (((row.length : Nat) : Int) + (1 : Int))).bind fun (v6 : Unit) => (forO (fun (k7 : Int) (s8 : (List (Int × Int))) => (p_whole k7).bind fun (v9 : (Int × Int)) => (p_latest_start row length v9).bind fun (v10 : (Option (Int × Int))) => cond v10.isSome ((v10).bind fun (v11 : (Int × Int)) => (pushO s8 v11).bind fun (v12 : (List (Int × Int))) => some v12) (some s8)) (rangeT (1 : Int) ((((row.length : Nat) : Int) + (1 : Int)) - (1 : Int)).toNat) v4).bind fun (st13 : (List (Int × Int))) => some st13
theorem pS_turning_starts (row : (List Int)) (length : Int) : S m_turning_starts [some (false, A.d ((eS eI) row)), some (false, A.d (eI length)), none, none, none] (p_turning_starts row length) (IF (fun (w : (List (Int × Int))) => A.ls (w.map (eT2 eI eI)))) := by
  unfold p_turning_starts m_turning_starts
  exact S_bind fun v1 hv1 => S_bind fun v4 hv4 => S_step (t1 := [some (false, A.d ((eS eI) row)), some (false, A.d (eI length)), none, some (true, A.ls (v4.map (eT2 eI eI))), none]) (St_setO' (E_compM (enc := (fun i => A.d (.int i))) (tb := fun (x2 : Int) => [some (false, A.d ((eS eI) row)), some (false, A.d (eI length)), some (false, A.d (eI x2)), none, none]) hv4 (eT2 eI eI) (It_range1 (Es_cons (E_n (Es_cons (E_var rfl) Es_nil) (f1v lenT_val)) Es_nil) hv1) rfl (fun _ => (Put_nm' rfl)) (fun _ => rfl) (fun x2 => EQ_tail fun v3 hv3 => (E_nP (fNv1 (pf_whole hv3)) (Es_cons (E_var rfl) Es_nil)))) rfl rfl) (S_bind fun v5 hv5 => S_bind fun v6 hv6 => S_seqN (tt := fun (st : (List (Int × Int))) => [some (false, A.d ((eS eI) row)), some (false, A.d (eI length)), none, some (true, A.ls (st.map (eT2 eI eI))), none]) (S_forO (enc := (fun i => A.d (.int i))) (tt := fun (st : (List (Int × Int))) => [some (false, A.d ((eS eI) row)), some (false, A.d (eI length)), none, some (true, A.ls (st.map (eT2 eI eI))), none]) (tb := fun (k7 : Int) (s8 : (List (Int × Int))) => [some (false, A.d ((eS eI) row)), some (false, A.d (eI length)), some (false, A.d (eI k7)), some (true, A.ls (s8.map (eT2 eI eI))), none]) (It_range2 (Es_cons E_c (Es_cons (E_m2 (E_n (Es_cons (E_var rfl) Es_nil) (f1v lenT_val)) E_c rfl) Es_nil)) hv5 hv6) (.keep (.keep (.skip (.keep (.skip .nil))))) (fun _ _ => (Put_nm' rfl)) (fun k7 s8 => S_bind fun v9 hv9 => S_bind fun v10 hv10 => S_step (t1 := [some (false, A.d ((eS eI) row)), some (false, A.d (eI length)), some (false, A.d (eI k7)), some (true, A.ls (s8.map (eT2 eI eI))), some (false, A.d ((eO (eT2 eI eI)) v10))]) (St_setD' (E_nP (fNv3 (pf_latest_start hv10)) (Es_cons (E_var rfl) (Es_cons (E_var rfl) (Es_cons (E_nP (fNv1 (pf_whole hv9)) (Es_cons (E_var rfl) Es_nil)) Es_nil)))) rfl rfl) (S_if (T_cmp (E_var rfl) E_c (isnA_opt (fun _ => rfl))) (fun _ => S_bind fun v11 hv11 => S_bind fun v12 hv12 => S_last (t1 := [some (false, A.d ((eS eI) row)), some (false, A.d (eI length)), some (false, A.d (eI k7)), some (true, A.ls (v12.map (eT2 eI eI))), some (false, A.d ((eO (eT2 eI eI)) v10))]) (St_expr (E_append' (f := (eT2 eI eI)) hv12 rfl (E_narO (e := (eT2 eI eI)) hv11 (E_var rfl)) rfl rfl)) (Nd_C (.keep (.keep (.skip (.keep (.skip .nil))))))) (fun _ => S_nop (Nd_C (.keep (.keep (.skip (.keep (.skip .nil)))))))))) (fun st13 => S_retP rfl (rt_FO rfl)))
theorem pf_turning_starts {row : (List Int)} {length : Int} {r : (List (Int × Int))} (h : p_turning_starts row length = some r) : F_turning_starts [A.d ((eS eI) row), A.d (eI length)] = some (A.ls (r.map (eT2 eI eI))) := F_end (er := (fun (w : (List (Int × Int))) => A.ls (w.map (eT2 eI eI)))) (pS_turning_starts row length) h rfl
noncomputable def p_quickest_start (row : (List Int)) (length : Int) : Option ((Option ((Int × Int) × (Int × Int)))) := (p_turning_starts row length).bind fun (v1 : (List (Int × Int))) => (forO (fun (here2 : (Int × Int)) (s3 : (Option ((Int × Int) × (Int × Int)))) => (p_leg_end row length here2 true).bind fun (v4 : (Option (Int × Int))) => cond v4.isSome ((v4).bind fun (v5 : (Int × Int)) => (p_minus v5 here2).bind fun (v6 : (Int × Int)) => (cond s3.isNone (some true) ((s3).bind fun (v7 : ((Int × Int) × (Int × Int))) => (p_less v6 v7.1).bind fun (v8 : Bool) => cond v8 (some true) ((s3).bind fun (v9 : ((Int × Int) × (Int × Int))) => (eqA (A.d ((eT2 eI eI) v6)) (A.d ((eT2 eI eI) v9.1))).bind fun (v10 : Bool) => cond v10 ((s3).bind fun (v11 : ((Int × Int) × (Int × Int))) => p_less here2 v11.2) (some false)))).bind fun (v15 : Bool) => cond v15 (letF (v6, here2) fun (best16 : ((Int × Int) × (Int × Int))) => some (some best16)) (some s3)) (some s3)) v1 none).bind fun (st17 : (Option ((Int × Int) × (Int × Int)))) => some st17
theorem pS_quickest_start (row : (List Int)) (length : Int) : S m_quickest_start [some (false, A.d ((eS eI) row)), some (false, A.d (eI length)), none, none, none, none] (p_quickest_start row length) (IF (fun (w : (Option ((Int × Int) × (Int × Int)))) => A.d ((eO (eT2 (eT2 eI eI) (eT2 eI eI))) w))) := by
  unfold p_quickest_start m_quickest_start
  exact S_step (t1 := [some (false, A.d ((eS eI) row)), some (false, A.d (eI length)), some (false, A.d (eN ())), none, none, none]) (St_setD' E_c rfl rfl) (S_bind fun v1 hv1 => S_seqN (tt := fun (st : (Option ((Int × Int) × (Int × Int)))) => [some (false, A.d ((eS eI) row)), some (false, A.d (eI length)), some (false, A.d ((eO (eT2 (eT2 eI eI) (eT2 eI eI))) st)), none, none, none]) (S_forO (enc := (fun w => A.d ((eT2 eI eI) w))) (tt := fun (st : (Option ((Int × Int) × (Int × Int)))) => [some (false, A.d ((eS eI) row)), some (false, A.d (eI length)), some (false, A.d ((eO (eT2 (eT2 eI eI) (eT2 eI eI))) st)), none, none, none]) (tb := fun (here2 : (Int × Int)) (s3 : (Option ((Int × Int) × (Int × Int)))) => [some (false, A.d ((eS eI) row)), some (false, A.d (eI length)), some (false, A.d ((eO (eT2 (eT2 eI eI) (eT2 eI eI))) s3)), some (false, A.d ((eT2 eI eI) here2)), none, none]) (It_iter (E_noP (fNv2 (pf_turning_starts hv1)) rfl (Es_cons (E_var rfl) (Es_cons (E_var rfl) Es_nil))) iter_ls (trivial)) (.keep (.keep (.keep (.skip (.skip (.skip .nil)))))) (fun _ _ => (Put_nm' rfl)) (fun here2 s3 => S_bind fun v4 hv4 => S_step (t1 := [some (false, A.d ((eS eI) row)), some (false, A.d (eI length)), some (false, A.d ((eO (eT2 (eT2 eI eI) (eT2 eI eI))) s3)), some (false, A.d ((eT2 eI eI) here2)), some (false, A.d ((eO (eT2 eI eI)) v4)), none]) (St_setD' (E_nP (fNv4 (pf_leg_end hv4)) (Es_cons (E_var rfl) (Es_cons (E_var rfl) (Es_cons (E_var rfl) (Es_cons E_c Es_nil))))) rfl rfl) (S_if (T_cmp (E_var rfl) E_c (isnA_opt (fun _ => rfl))) (fun _ => S_bind fun v5 hv5 => S_bind fun v6 hv6 => S_step (t1 := [some (false, A.d ((eS eI) row)), some (false, A.d (eI length)), some (false, A.d ((eO (eT2 (eT2 eI eI) (eT2 eI eI))) s3)), some (false, A.d ((eT2 eI eI) here2)), some (false, A.d ((eO (eT2 eI eI)) v4)), some (false, A.d ((eT2 eI eI) v6))]) (St_setD' (E_nP (fNv2 (pf_minus hv6)) (Es_cons (E_narO (e := (eT2 eI eI)) hv5 (E_var rfl)) (Es_cons (E_var rfl) Es_nil))) rfl rfl) (S_bind fun v15 hv15 => S_if (T_or0 hv15 (T_cmp (E_var rfl) E_c (isA_opt (fun _ => rfl))) (fun _ => TQ_bind fun v7 hv7 => TQ_bind fun v8 hv8 => TQ_tail fun v14 hv14 => (T_or0 hv14 (T_tru (E_nP (fNv2 (pf_less hv8)) (Es_cons (E_var rfl) (Es_cons (E_ix (E_narO (e := (eT2 (eT2 eI eI) (eT2 eI eI))) hv7 (E_var rfl)) E_c rfl) Es_nil))) rfl) (fun _ => TQ_bind fun v9 hv9 => TQ_bind fun v10 hv10 => TQ_tail fun v13 hv13 => (T_and0 hv13 (T_cmp (E_var rfl) (E_ix (E_narO (e := (eT2 (eT2 eI eI) (eT2 eI eI))) hv9 (E_var rfl)) E_c rfl) hv10) (fun _ => TQ_bind fun v11 hv11 => TQ_tail fun v12 hv12 => (T_tru (E_nP (fNv2 (pf_less hv12)) (Es_cons (E_var rfl) (Es_cons (E_ix (E_narO (e := (eT2 (eT2 eI eI) (eT2 eI eI))) hv11 (E_var rfl)) E_c rfl) Es_nil))) rfl))))))) (fun _ => S_let fun best16 hbest16 => S_last (t1 := [some (false, A.d ((eS eI) row)), some (false, A.d (eI length)), some (false, A.d ((eT2 (eT2 eI eI) (eT2 eI eI)) best16)), some (false, A.d ((eT2 eI eI) here2)), some (false, A.d ((eO (eT2 eI eI)) v4)), some (false, A.d ((eT2 eI eI) v6))]) (St_setD' (E_let (fun (w : ((Int × Int) × (Int × Int))) => A.d ((eT2 (eT2 eI eI) (eT2 eI eI)) w)) hbest16 (E_tup (ds := [(eT2 eI eI) v6, (eT2 eI eI) here2]) (Es_cons (E_var rfl) (Es_cons (E_var rfl) Es_nil)) rfl)) rfl rfl) (Nd_C (.keep (.keep (.keep (.skip (.skip (.skip .nil)))))))) (fun _ => S_nop (Nd_C (.keep (.keep (.keep (.skip (.skip (.skip .nil)))))))))) (fun _ => S_nop (Nd_C (.keep (.keep (.keep (.skip (.skip (.skip .nil))))))))))) (fun st17 => S_retD (E_var rfl) (rt_F rfl)))
theorem pf_quickest_start {row : (List Int)} {length : Int} {r : (Option ((Int × Int) × (Int × Int)))} (h : p_quickest_start row length = some r) : F_quickest_start [A.d ((eS eI) row), A.d (eI length)] = some (A.d ((eO (eT2 (eT2 eI eI) (eT2 eI eI))) r)) := F_end (er := (fun (w : (Option ((Int × Int) × (Int × Int)))) => A.d ((eO (eT2 (eT2 eI eI) (eT2 eI eI))) w))) (pS_quickest_start row length) h rfl
noncomputable def p_law (script : (List Int)) : Option (Bool) := (boxO script).bind fun (v1 : Bx) => (rgO (4 : Int)).bind fun (v2 : Unit) => (forX (fun (turn3 : Int) (s4 : Bx) => (drawO s4 (8 : Int)).bind fun (q5 : (Int × Bx)) => letF ((1 : Int) + q5.1) fun (hours6 : Int) => (p__law_row q5.2 hours6).bind fun (q7 : ((List Int) × Bx)) => (drawO q7.2 (9 : Int)).bind fun (q8 : (Int × Bx)) => letF ((1 : Int) + q8.1) fun (length9 : Int) => (drawO q8.2 ((6 : Int) * hours6)).bind fun (q10 : (Int × Bx)) => (p__law_ratio q10.1 (6 : Int)).bind fun (v11 : (Int × Int)) => (p_best_drift q7.1 length9 v11).bind fun (v12 : (Option ((Option (Int × Int)) × (Int × Int)))) => letF ([] : (List ((Option (Int × Int)) × (Int × Int)))) fun (every13 : (List ((Option (Int × Int)) × (Int × Int)))) => (rgO ((12 : Int) * hours6)).bind fun (v14 : Unit) => (forO (fun (k15 : Int) (s16 : (List ((Option (Int × Int)) × (Int × Int)))) => letF (k15, (12 : Int)) fun (here17 : (Int × Int)) => (p__law_less here17 v11).bind fun (v18 : Bool) => cond (!v18) ((p__law_ratio k15 (12 : Int)).bind fun (v19 : (Int × Int)) => (p__law_end q7.1 length9 v19 false).bind fun (v20 : (Option (Int × Int))) => cond v20.isSome ((p__law_ratio k15 (12 : Int)).bind fun (v21 : (Int × Int)) => (pushO s16 (v20, v21)).bind fun (v22 : (List ((Option (Int × Int)) × (Int × Int)))) => some v22) (some s16)) (some s16)) (rangeT 0 ((12 : Int) * hours6).toNat) every13).bind fun (st23 : (List ((Option (Int × Int)) × (Int × Int)))) => (eqA (A.ls (st23.map (eT2 (eO (eT2 eI eI)) (eT2 eI eI)))) (A.ls (([] : (List Unit)).map eN))).bind fun (v24 : Bool) => (neA (A.d (eB v12.isNone)) (A.d (eB v24))).bind fun (v25 : Bool) => cond v25 (some (Lp.out false)) ((cond v12.isSome ((v12).bind fun (v26 : ((Option (Int × Int)) × (Int × Int))) => (p__law_end q7.1 length9 v26.2 false).bind fun (v27 : (Option (Int × Int))) => (sameO ((eO (eT2 eI eI)) v27) ((eO (eT2 eI eI)) v26.1)).bind fun (v28 : Bool) => (cond (!v28) (some true) ((mapO (fun (x29 : ((Option (Int × Int)) × (Int × Int))) => (x29.1).bind fun (v30 : (Int × Int)) => (v26.1).bind fun (v31 : (Int × Int)) => p__law_less v30 v31) st23).bind fun (v33 : (List Bool)) => some (v33.any id))).bind fun (v34 : Bool) => cond v34 (some (Sum.inl (Lp.out false))) ((mapO (fun (x35 : ((Option (Int × Int)) × (Int × Int))) => (eqA (A.d ((eO (eT2 eI eI)) x35.1)) (A.d ((eO (eT2 eI eI)) v26.1))).bind fun (v36 : Bool) => cond v36 (p__law_less x35.2 v26.2) (some false)) st23).bind fun (v39 : (List Bool)) => (cond (v39.any id) (some true) ((p__law_less v26.2 v11).bind fun (v40 : Bool) => cond v40 (some true) ((neA (A.d ((eT2 eI eI) v26.2)) (A.d ((eT2 eI eI) v11))).bind fun (v41 : Bool) => some (v41 && (!decide (v26.2.2 = (1 : Int))))))).bind fun (v43 : Bool) => cond v43 (some (Sum.inl (Lp.out false))) ((v26.1).bind fun (v44 : (Int × Int)) => (p_leg_end q7.1 length9 v11 true).bind fun (v45 : (Option (Int × Int))) => (v45).bind fun (v46 : (Int × Int)) => (p_less v44 v46).bind fun (v47 : Bool) => cond v47 (some (Sum.inl (Lp.out false))) (some (Sum.inr ()))))) (some (Sum.inr ()))).bind (orX (fun (r : (Lp Bool Bx)) => r) fun (st48 : Unit) => (p_leg_end q7.1 length9 v11 false).bind fun (v49 : (Option (Int × Int))) => (cond v49.isSome (cond v12.isNone (some true) ((v49).bind fun (v50 : (Int × Int)) => (v12).bind fun (v51 : ((Option (Int × Int)) × (Int × Int))) => (v51.1).bind fun (v52 : (Int × Int)) => p_less v50 v52)) (some false)).bind fun (v55 : Bool) => cond v55 (some (Lp.out false)) ((rgO hours6).bind fun (v56 : Unit) => (compO (fun (x57 : Int) => p__law_less v11 (x57, (1 : Int))) (fun (x57 : Int) => some (x57, (1 : Int))) (rangeT 0 hours6.toNat)).bind fun (v59 : (List (Int × Int))) => (catO ([v11] : (List (Int × Int))) v59).bind fun (v60 : (List (Int × Int))) => (p__law_less v11 (hours6, (1 : Int))).bind fun (v61 : Bool) => (catO v60 (cond v61 ([(hours6, (1 : Int))] : (List (Int × Int))) ([] : (List (Int × Int))))).bind fun (v62 : (List (Int × Int))) => (p_drift_starts q7.1 v11 (hours6, (1 : Int))).bind fun (v63 : (List (Int × Int))) => (sameLO (v63.map (eT2 eI eI)) (v62.map (eT2 eI eI))).bind fun (v64 : Bool) => cond (!v64) (some (Lp.out false)) ((rgO hours6).bind fun (v65 : Unit) => (mapP (fun (x66 : Int) => (x66, (1 : Int))) (rangeT 0 hours6.toNat)).bind fun (v67 : (List (Int × Int))) => (rgO (1 : Int)).bind fun (v68 : Unit) => (rgO (hours6 + (1 : Int))).bind fun (v69 : Unit) => (forO (fun (k70 : Int) (s71 : (List (Int × Int))) => (p_latest_start q7.1 length9 (k70, (1 : Int))).bind fun (v72 : (Option (Int × Int))) => cond v72.isSome ((v72).bind fun (v73 : (Int × Int)) => (pushO s71 v73).bind fun (v74 : (List (Int × Int))) => some v74) (some s71)) (rangeT (1 : Int) ((hours6 + (1 : Int)) - (1 : Int)).toNat) v67).bind fun (st75 : (List (Int × Int))) => (p_turning_starts q7.1 length9).bind fun (v76 : (List (Int × Int))) => (sameLO (v76.map (eT2 eI eI)) (st75.map (eT2 eI eI))).bind fun (v77 : Bool) => cond (!v77) (some (Lp.out false)) ((p_quickest_start q7.1 length9).bind fun (v78 : (Option ((Int × Int) × (Int × Int)))) => letF ([] : (List ((Int × Int) × (Int × Int)))) fun (spans79 : (List ((Int × Int) × (Int × Int)))) => (rgO ((12 : Int) * hours6)).bind fun (v80 : Unit) => (mapO (fun (x81 : Int) => p__law_ratio x81 (12 : Int)) (rangeT 0 ((12 : Int) * hours6).toNat)).bind fun (v83 : (List (Int × Int))) => (catO st75 v83).bind fun (v84 : (List (Int × Int))) => (forO (fun (here85 : (Int × Int)) (s86 : (List ((Int × Int) × (Int × Int)))) => (p__law_end q7.1 length9 here85 true).bind fun (v87 : (Option (Int × Int))) => cond v87.isSome ((v87).bind fun (v88 : (Int × Int)) => (p__law_plus v88 ((-here85.1), here85.2)).bind fun (v89 : (Int × Int)) => (pushO s86 (v89, here85)).bind fun (v90 : (List ((Int × Int) × (Int × Int)))) => some v90) (some s86)) v84 spans79).bind fun (st91 : (List ((Int × Int) × (Int × Int)))) => (eqA (A.ls (st91.map (eT2 (eT2 eI eI) (eT2 eI eI)))) (A.ls (([] : (List Unit)).map eN))).bind fun (v92 : Bool) => (neA (A.d (eB v78.isNone)) (A.d (eB v92))).bind fun (v93 : Bool) => cond v93 (some (Lp.out false)) (cond v78.isSome ((v78).bind fun (v94 : ((Int × Int) × (Int × Int))) => (mapO (fun (x95 : ((Int × Int) × (Int × Int))) => (p__law_less x95.1 v94.1).bind fun (v96 : Bool) => cond v96 (some true) ((eqA (A.d ((eT2 eI eI) x95.1)) (A.d ((eT2 eI eI) v94.1))).bind fun (v97 : Bool) => cond v97 (p__law_less x95.2 v94.2) (some false))) st91).bind fun (v101 : (List Bool)) => cond (v101.any id) (some (Lp.out false)) ((p__law_end q7.1 length9 v94.2 true).bind fun (v102 : (Option (Int × Int))) => (v102).bind fun (v103 : (Int × Int)) => (p__law_plus v103 ((-v94.2.1), v94.2.2)).bind fun (v104 : (Int × Int)) => (neA (A.d ((eT2 eI eI) v104)) (A.d ((eT2 eI eI) v94.1))).bind fun (v105 : Bool) => (cond v105 (some true) (cond (!decide (v94.2.2 = (1 : Int))) ((v102).bind fun (v106 : (Int × Int)) => some (!decide (v106.2 = (1 : Int)))) (some false))).bind fun (v108 : Bool) => cond v108 (some (Lp.out false)) (some (Lp.go q10.2)))) (some (Lp.go q10.2))))))))) (rangeT 0 (4 : Int).toNat) v1).bind (orX (fun (r : Bool) => r) fun (st109 : Bx) => some true)
theorem pS_law (script : (List Int)) : S m_law [some (false, A.d (D.scr script)), none, none, none, none, none, none, none, none, none, none, none, none, none, none, none, none, none, none, none, none, none] (p_law script) (IF (fun (w : Bool) => A.d (eB w))) := by
  unfold p_law m_law
  exact S_bind fun v1 hv1 => S_step (t1 := [some (false, A.d (D.scr script)), some (true, eBx v1), none, none, none, none, none, none, none, none, none, none, none, none, none, none, none, none, none, none, none, none]) (St_setO' (E_no (Es_cons (E_var rfl) Es_nil) (fNv1 (box_val hv1)) rfl) rfl rfl) (S_bind fun v2 hv2 => S_seqX (g := fun (r : Bool) => r) (tt := fun (st : Bx) => [some (false, A.d (D.scr script)), some (true, eBx st), none, none, none, none, none, none, none, none, none, none, none, none, none, none, none, none, none, none, none, none]) (S_forX (enc := (fun i => A.d (.int i))) (tt := fun (st : Bx) => [some (false, A.d (D.scr script)), some (true, eBx st), none, none, none, none, none, none, none, none, none, none, none, none, none, none, none, none, none, none, none, none]) (tb := fun (turn3 : Int) (s4 : Bx) => [some (false, A.d (D.scr script)), some (true, eBx s4), some (false, A.d (eI turn3)), none, none, none, none, none, none, none, none, none, none, none, none, none, none, none, none, none, none, none]) (It_range1 (Es_cons E_c Es_nil) hv2) (.keep (.keep (.skip (.skip (.skip (.skip (.skip (.skip (.skip (.skip (.skip (.skip (.skip (.skip (.skip (.skip (.skip (.skip (.skip (.skip (.skip (.skip .nil)))))))))))))))))))))) (fun _ _ => (Put_nm' rfl)) (fun turn3 s4 => S_bind fun q5 hq5 => S_let fun hours6 hhours6 => S_step (t1 := [some (false, A.d (D.scr script)), some (true, eBx q5.2), some (false, A.d (eI turn3)), some (false, A.d (eI hours6)), none, none, none, none, none, none, none, none, none, none, none, none, none, none, none, none, none, none]) (St_setD' (E_let (fun (w : Int) => A.d (eI w)) hhours6 (E_m2e E_c (E_draw' hq5 rfl (Es_cons E_c Es_nil) rfl rfl) trivial rfl)) rfl rfl) (S_bind fun q7 hq7 => S_bind fun q8 hq8 => S_let fun length9 hlength9 => S_step (t1 := [some (false, A.d (D.scr script)), some (true, eBx q8.2), some (false, A.d (eI turn3)), some (false, A.d (eI hours6)), some (false, A.d ((eS eI) q7.1)), some (false, A.d (eI length9)), none, none, none, none, none, none, none, none, none, none, none, none, none, none, none, none]) (St_par' (Ess.d (E_use (E_callB' (ds := [eI hours6]) (pf__law_row hq7) rfl (Es_cons (E_var rfl) Es_nil) rfl rfl rfl rfl)) (Ess.d (E_let (fun (w : Int) => A.d (eI w)) hlength9 (E_use (E_m2e E_c (E_draw' hq8 rfl (Es_cons E_c Es_nil) rfl rfl) trivial rfl))) Ess.nil)) rfl rfl rfl rfl) (S_bind fun q10 hq10 => S_bind fun v11 hv11 => S_step (t1 := [some (false, A.d (D.scr script)), some (true, eBx q10.2), some (false, A.d (eI turn3)), some (false, A.d (eI hours6)), some (false, A.d ((eS eI) q7.1)), some (false, A.d (eI length9)), some (false, A.d ((eT2 eI eI) v11)), none, none, none, none, none, none, none, none, none, none, none, none, none, none, none]) (St_setD' (E_nP (fNv2 (pf__law_ratio hv11)) (Es_cons (E_draw' hq10 rfl (Es_cons (E_m2 E_c (E_var rfl) (mul_pure (mulP_l (by decide)))) Es_nil) rfl rfl) (Es_cons E_c Es_nil))) rfl rfl) (S_bind fun v12 hv12 => S_step (t1 := [some (false, A.d (D.scr script)), some (true, eBx q10.2), some (false, A.d (eI turn3)), some (false, A.d (eI hours6)), some (false, A.d ((eS eI) q7.1)), some (false, A.d (eI length9)), some (false, A.d ((eT2 eI eI) v11)), some (false, A.d ((eO (eT2 (eO (eT2 eI eI)) (eT2 eI eI))) v12)), none, none, none, none, none, none, none, none, none, none, none, none, none, none]) (St_setD' (E_nP (fNv3 (pf_best_drift hv12)) (Es_cons (E_var rfl) (Es_cons (E_var rfl) (Es_cons (E_var rfl) Es_nil)))) rfl rfl) (S_let fun every13 hevery13 => S_step (t1 := [some (false, A.d (D.scr script)), some (true, eBx q10.2), some (false, A.d (eI turn3)), some (false, A.d (eI hours6)), some (false, A.d ((eS eI) q7.1)), some (false, A.d (eI length9)), some (false, A.d ((eT2 eI eI) v11)), some (false, A.d ((eO (eT2 (eO (eT2 eI eI)) (eT2 eI eI))) v12)), some (true, A.ls (every13.map (eT2 (eO (eT2 eI eI)) (eT2 eI eI)))), none, none, none, none, none, none, none, none, none, none, none, none, none]) (St_setO' (E_let (fun (w : (List ((Option (Int × Int)) × (Int × Int)))) => A.ls (w.map (eT2 (eO (eT2 eI eI)) (eT2 eI eI)))) hevery13 (E_lst (ds := []) Es_nil rfl)) rfl rfl) (S_bind fun v14 hv14 => S_seqN (tt := fun (st : (List ((Option (Int × Int)) × (Int × Int)))) => [some (false, A.d (D.scr script)), some (true, eBx q10.2), some (false, A.d (eI turn3)), some (false, A.d (eI hours6)), some (false, A.d ((eS eI) q7.1)), some (false, A.d (eI length9)), some (false, A.d ((eT2 eI eI) v11)), some (false, A.d ((eO (eT2 (eO (eT2 eI eI)) (eT2 eI eI))) v12)), some (true, A.ls (st.map (eT2 (eO (eT2 eI eI)) (eT2 eI eI)))), none, none, none, none, none, none, none, none, none, none, none, none, none]) (S_forO (enc := (fun i => A.d (.int i))) (tt := fun (st : (List ((Option (Int × Int)) × (Int × Int)))) => [some (false, A.d (D.scr script)), some (true, eBx q10.2), some (false, A.d (eI turn3)), some (false, A.d (eI hours6)), some (false, A.d ((eS eI) q7.1)), some (false, A.d (eI length9)), some (false, A.d ((eT2 eI eI) v11)), some (false, A.d ((eO (eT2 (eO (eT2 eI eI)) (eT2 eI eI))) v12)), some (true, A.ls (st.map (eT2 (eO (eT2 eI eI)) (eT2 eI eI)))), none, none, none, none, none, none, none, none, none, none, none, none, none]) (tb := fun (k15 : Int) (s16 : (List ((Option (Int × Int)) × (Int × Int)))) => [some (false, A.d (D.scr script)), some (true, eBx q10.2), some (false, A.d (eI turn3)), some (false, A.d (eI hours6)), some (false, A.d ((eS eI) q7.1)), some (false, A.d (eI length9)), some (false, A.d ((eT2 eI eI) v11)), some (false, A.d ((eO (eT2 (eO (eT2 eI eI)) (eT2 eI eI))) v12)), some (true, A.ls (s16.map (eT2 (eO (eT2 eI eI)) (eT2 eI eI)))), some (false, A.d (eI k15)), none, none, none, none, none, none, none, none, none, none, none, none]) (It_range1 (Es_cons (E_m2 E_c (E_var rfl) (mul_pure (mulP_l (by decide)))) Es_nil) hv14) (.keep (.keep (.keep (.keep (.keep (.keep (.keep (.keep (.keep (.skip (.skip (.skip (.skip (.skip (.skip (.skip (.skip (.skip (.skip (.skip (.skip (.skip .nil)))))))))))))))))))))) (fun _ _ => (Put_nm' rfl)) (fun k15 s16 => S_let fun here17 hhere17 => S_step (t1 := [some (false, A.d (D.scr script)), some (true, eBx q10.2), some (false, A.d (eI turn3)), some (false, A.d (eI hours6)), some (false, A.d ((eS eI) q7.1)), some (false, A.d (eI length9)), some (false, A.d ((eT2 eI eI) v11)), some (false, A.d ((eO (eT2 (eO (eT2 eI eI)) (eT2 eI eI))) v12)), some (true, A.ls (s16.map (eT2 (eO (eT2 eI eI)) (eT2 eI eI)))), some (false, A.d (eI k15)), some (false, A.d ((eT2 eI eI) here17)), none, none, none, none, none, none, none, none, none, none, none]) (St_setD' (E_let (fun (w : (Int × Int)) => A.d ((eT2 eI eI) w)) hhere17 (E_tup (ds := [eI k15, eI (12 : Int)]) (Es_cons (E_var rfl) (Es_cons E_c Es_nil)) rfl)) rfl rfl) (S_bind fun v18 hv18 => S_if (T_not (T_tru (E_nP (fNv2 (pf__law_less hv18)) (Es_cons (E_var rfl) (Es_cons (E_var rfl) Es_nil))) rfl)) (fun _ => S_bind fun v19 hv19 => S_bind fun v20 hv20 => S_step (t1 := [some (false, A.d (D.scr script)), some (true, eBx q10.2), some (false, A.d (eI turn3)), some (false, A.d (eI hours6)), some (false, A.d ((eS eI) q7.1)), some (false, A.d (eI length9)), some (false, A.d ((eT2 eI eI) v11)), some (false, A.d ((eO (eT2 (eO (eT2 eI eI)) (eT2 eI eI))) v12)), some (true, A.ls (s16.map (eT2 (eO (eT2 eI eI)) (eT2 eI eI)))), some (false, A.d (eI k15)), some (false, A.d ((eT2 eI eI) here17)), some (false, A.d ((eO (eT2 eI eI)) v20)), none, none, none, none, none, none, none, none, none, none]) (St_setD' (E_nP (fNv4 (pf__law_end hv20)) (Es_cons (E_var rfl) (Es_cons (E_var rfl) (Es_cons (E_nP (fNv2 (pf__law_ratio hv19)) (Es_cons (E_var rfl) (Es_cons E_c Es_nil))) (Es_cons E_c Es_nil))))) rfl rfl) (S_if (T_cmp (E_var rfl) E_c (isnA_opt (fun _ => rfl))) (fun _ => S_bind fun v21 hv21 => S_bind fun v22 hv22 => S_last (t1 := [some (false, A.d (D.scr script)), some (true, eBx q10.2), some (false, A.d (eI turn3)), some (false, A.d (eI hours6)), some (false, A.d ((eS eI) q7.1)), some (false, A.d (eI length9)), some (false, A.d ((eT2 eI eI) v11)), some (false, A.d ((eO (eT2 (eO (eT2 eI eI)) (eT2 eI eI))) v12)), some (true, A.ls (v22.map (eT2 (eO (eT2 eI eI)) (eT2 eI eI)))), some (false, A.d (eI k15)), some (false, A.d ((eT2 eI eI) here17)), some (false, A.d ((eO (eT2 eI eI)) v20)), none, none, none, none, none, none, none, none, none, none]) (St_expr (E_append' (f := (eT2 (eO (eT2 eI eI)) (eT2 eI eI))) hv22 rfl (E_tup (ds := [(eO (eT2 eI eI)) v20, (eT2 eI eI) v21]) (Es_cons (E_var rfl) (Es_cons (E_nP (fNv2 (pf__law_ratio hv21)) (Es_cons (E_var rfl) (Es_cons E_c Es_nil))) Es_nil)) rfl) rfl rfl)) (Nd_C (.keep (.keep (.keep (.keep (.keep (.keep (.keep (.keep (.keep (.skip (.skip (.skip (.skip (.skip (.skip (.skip (.skip (.skip (.skip (.skip (.skip (.skip .nil)))))))))))))))))))))))) (fun _ => S_nop (Nd_C (.keep (.keep (.keep (.keep (.keep (.keep (.keep (.keep (.keep (.skip (.skip (.skip (.skip (.skip (.skip (.skip (.skip (.skip (.skip (.skip (.skip (.skip .nil)))))))))))))))))))))))))) (fun _ => S_nop (Nd_C (.keep (.keep (.keep (.keep (.keep (.keep (.keep (.keep (.keep (.skip (.skip (.skip (.skip (.skip (.skip (.skip (.skip (.skip (.skip (.skip (.skip (.skip .nil))))))))))))))))))))))))))) (fun st23 => S_bind fun v24 hv24 => S_bind fun v25 hv25 => S_ifA (T_cmp (E_asV (T_cmp (E_var rfl) E_c (isA_opt (fun _ => rfl)))) (E_asV (T_cmp (E_var rfl) (E_lst (ds := []) Es_nil rfl) hv24)) hv25) (fun _ => S_retD E_c (rt_A (rt_L (rt_F rfl)))) (fun _ => S_nopSeq (S_seqX (g := fun (r : (Lp Bool Bx)) => r) (tt := fun (st : Unit) => [some (false, A.d (D.scr script)), some (true, eBx q10.2), some (false, A.d (eI turn3)), some (false, A.d (eI hours6)), some (false, A.d ((eS eI) q7.1)), some (false, A.d (eI length9)), some (false, A.d ((eT2 eI eI) v11)), some (false, A.d ((eO (eT2 (eO (eT2 eI eI)) (eT2 eI eI))) v12)), some (false, A.ls (st23.map (eT2 (eO (eT2 eI eI)) (eT2 eI eI)))), none, none, none, none, none, none, none, none, none, none, none, none, none]) (S_if (T_cmp (E_var rfl) E_c (isnA_opt (fun _ => rfl))) (fun _ => S_bind fun v26 hv26 => S_step (t1 := [some (false, A.d (D.scr script)), some (true, eBx q10.2), some (false, A.d (eI turn3)), some (false, A.d (eI hours6)), some (false, A.d ((eS eI) q7.1)), some (false, A.d (eI length9)), some (false, A.d ((eT2 eI eI) v11)), some (false, A.d ((eO (eT2 (eO (eT2 eI eI)) (eT2 eI eI))) v12)), some (true, A.ls (st23.map (eT2 (eO (eT2 eI eI)) (eT2 eI eI)))), none, none, some (false, A.d ((eO (eT2 eI eI)) v26.1)), some (false, A.d ((eT2 eI eI) v26.2)), none, none, none, none, none, none, none, none, none]) (St_unp (E_narO (e := (eT2 (eO (eT2 eI eI)) (eT2 eI eI))) hv26 (E_var rfl)) (Put_tp (.cons (Put_nm' rfl) (.cons (Put_nm' rfl) .nil)))) (S_bind fun v27 hv27 => S_bind fun v28 hv28 => S_bind fun v34 hv34 => S_ifA (T_or0 hv34 (T_post (.keep (.keep (.keep (.keep (.keep (.keep (.keep (.keep (.down (.skip (.skip (.keep (.keep (.skip (.skip (.skip (.skip (.skip (.skip (.skip (.skip (.skip .nil)))))))))))))))))))))) (T_not (T_tru (E_nP (fNv2 (same_val hv28)) (Es_cons (E_nP (fNv4 (pf__law_end hv27)) (Es_cons (E_var rfl) (Es_cons (E_var rfl) (Es_cons (E_var rfl) (Es_cons E_c Es_nil))))) (Es_cons (E_var rfl) Es_nil))) rfl))) (fun _ => TQ_bind fun v33 hv33 => TQ_pure (T_tru (E_n (Es_cons (E_compM (enc := (fun w => A.d ((eT2 (eO (eT2 eI eI)) (eT2 eI eI)) w))) (tb := fun (x29 : ((Option (Int × Int)) × (Int × Int))) => [some (false, A.d (D.scr script)), some (true, eBx q10.2), some (false, A.d (eI turn3)), some (false, A.d (eI hours6)), some (false, A.d ((eS eI) q7.1)), some (false, A.d (eI length9)), some (false, A.d ((eT2 eI eI) v11)), some (false, A.d ((eO (eT2 (eO (eT2 eI eI)) (eT2 eI eI))) v12)), some (false, A.ls (st23.map (eT2 (eO (eT2 eI eI)) (eT2 eI eI)))), none, none, some (false, A.d ((eO (eT2 eI eI)) v26.1)), some (false, A.d ((eT2 eI eI) v26.2)), none, none, none, none, none, none, none, some (false, A.d ((eO (eT2 eI eI)) x29.1)), some (false, A.d ((eT2 eI eI) x29.2))]) hv33 eB (It_iterN' (E_var rfl) iter_ls rfl) rfl (fun _ => (Put_tp (.cons (Put_nm' rfl) (.cons (Put_nm' rfl) .nil)))) (fun _ => rfl) (fun x29 => EQ_bind fun v30 hv30 => EQ_bind fun v31 hv31 => EQ_tail fun v32 hv32 => (E_nP (fNv2 (pf__law_less hv32)) (Es_cons (E_narO (e := (eT2 eI eI)) hv30 (E_var rfl)) (Es_cons (E_narO (e := (eT2 eI eI)) hv31 (E_var rfl)) Es_nil))))) Es_nil) (f1v anyL_val)) rfl))) (fun _ => S_retD E_c (rt_A (rt_X (rt_L (rt_F rfl))))) (fun _ => S_nopSeq (S_bind fun v39 hv39 => S_bind fun v43 hv43 => S_ifA (T_or0 hv43 (T_tru (E_n (Es_cons (E_compM (enc := (fun w => A.d ((eT2 (eO (eT2 eI eI)) (eT2 eI eI)) w))) (tb := fun (x35 : ((Option (Int × Int)) × (Int × Int))) => [some (false, A.d (D.scr script)), some (true, eBx q10.2), some (false, A.d (eI turn3)), some (false, A.d (eI hours6)), some (false, A.d ((eS eI) q7.1)), some (false, A.d (eI length9)), some (false, A.d ((eT2 eI eI) v11)), some (false, A.d ((eO (eT2 (eO (eT2 eI eI)) (eT2 eI eI))) v12)), some (false, A.ls (st23.map (eT2 (eO (eT2 eI eI)) (eT2 eI eI)))), none, none, some (false, A.d ((eO (eT2 eI eI)) v26.1)), some (false, A.d ((eT2 eI eI) v26.2)), none, none, none, none, none, none, none, some (false, A.d ((eO (eT2 eI eI)) x35.1)), some (false, A.d ((eT2 eI eI) x35.2))]) hv39 eB (It_iterN' (E_var rfl) iter_ls rfl) rfl (fun _ => (Put_tp (.cons (Put_nm' rfl) (.cons (Put_nm' rfl) .nil)))) (fun _ => rfl) (fun x35 => EQ_bind fun v36 hv36 => EQ_tail fun v38 hv38 => (E_andV0 hv38 (E_asV (T_cmp (E_var rfl) (E_var rfl) hv36)) (fun _ => EQ_tail fun v37 hv37 => (E_nP (fNv2 (pf__law_less hv37)) (Es_cons (E_var rfl) (Es_cons (E_var rfl) Es_nil))))))) Es_nil) (f1v anyL_val)) rfl) (fun _ => TQ_bind fun v40 hv40 => TQ_tail fun v42 hv42 => (T_or0 hv42 (T_tru (E_nP (fNv2 (pf__law_less hv40)) (Es_cons (E_var rfl) (Es_cons (E_var rfl) Es_nil))) rfl) (fun _ => TQ_bind fun v41 hv41 => TQ_pure (T_and (T_cmp (E_var rfl) (E_var rfl) hv41) fun _ => (T_cmp (E_ix (E_var rfl) E_c rfl) E_c neA_int)))))) (fun _ => S_retD E_c (rt_A (rt_X (rt_L (rt_F rfl))))) (fun _ => S_nopSeq (S_bind fun v44 hv44 => S_bind fun v45 hv45 => S_bind fun v46 hv46 => S_bind fun v47 hv47 => S_if (T_tru (E_nP (fNv2 (pf_less hv47)) (Es_cons (E_narO (e := (eT2 eI eI)) hv44 (E_var rfl)) (Es_cons (E_narO (e := (eT2 eI eI)) hv46 (E_nP (fNv4 (pf_leg_end hv45)) (Es_cons (E_var rfl) (Es_cons (E_var rfl) (Es_cons (E_var rfl) (Es_cons E_c Es_nil)))))) Es_nil))) rfl) (fun _ => S_retD E_c (rt_X (rt_L (rt_F rfl)))) (fun _ => S_nop (Nd_X (.keep (.keep (.keep (.keep (.keep (.keep (.keep (.keep (.keep (.skip (.skip (.skip (.skip (.skip (.skip (.skip (.skip (.skip (.skip (.skip (.skip (.skip .nil)))))))))))))))))))))))))))))) (fun _ => S_nop (Nd_X (.keep (.keep (.keep (.keep (.keep (.keep (.keep (.keep (.down (.skip (.skip (.skip (.skip (.skip (.skip (.skip (.skip (.skip (.skip (.skip (.skip (.skip .nil))))))))))))))))))))))))) (fun _ _ _ h _ => h) (fun st48 => S_bind fun v49 hv49 => S_step (t1 := [some (false, A.d (D.scr script)), some (true, eBx q10.2), some (false, A.d (eI turn3)), some (false, A.d (eI hours6)), some (false, A.d ((eS eI) q7.1)), some (false, A.d (eI length9)), some (false, A.d ((eT2 eI eI) v11)), some (false, A.d ((eO (eT2 (eO (eT2 eI eI)) (eT2 eI eI))) v12)), some (false, A.ls (st23.map (eT2 (eO (eT2 eI eI)) (eT2 eI eI)))), none, none, none, none, some (false, A.d ((eO (eT2 eI eI)) v49)), none, none, none, none, none, none, none, none]) (St_setD' (E_nP (fNv4 (pf_leg_end hv49)) (Es_cons (E_var rfl) (Es_cons (E_var rfl) (Es_cons (E_var rfl) (Es_cons E_c Es_nil))))) rfl rfl) (S_bind fun v55 hv55 => S_ifA (T_and0 hv55 (T_cmp (E_var rfl) E_c (isnA_opt (fun _ => rfl))) (fun _ => TQ_tail fun v54 hv54 => (T_or0 hv54 (T_cmp (E_var rfl) E_c (isA_opt (fun _ => rfl))) (fun _ => TQ_bind fun v50 hv50 => TQ_bind fun v51 hv51 => TQ_bind fun v52 hv52 => TQ_tail fun v53 hv53 => (T_tru (E_nP (fNv2 (pf_less hv53)) (Es_cons (E_narO (e := (eT2 eI eI)) hv50 (E_var rfl)) (Es_cons (E_narO (e := (eT2 eI eI)) hv52 (E_ix (E_narO (e := (eT2 (eO (eT2 eI eI)) (eT2 eI eI))) hv51 (E_var rfl)) E_c rfl)) Es_nil))) rfl))))) (fun _ => S_retD E_c (rt_A (rt_L (rt_F rfl)))) (fun _ => S_nopSeq (S_bind fun v56 hv56 => S_bind fun v59 hv59 => S_bind fun v60 hv60 => S_bind fun v61 hv61 => S_bind fun v62 hv62 => S_step (t1 := [some (false, A.d (D.scr script)), some (true, eBx q10.2), some (false, A.d (eI turn3)), some (false, A.d (eI hours6)), some (false, A.d ((eS eI) q7.1)), some (false, A.d (eI length9)), some (false, A.d ((eT2 eI eI) v11)), some (false, A.d ((eO (eT2 (eO (eT2 eI eI)) (eT2 eI eI))) v12)), some (false, A.ls (st23.map (eT2 (eO (eT2 eI eI)) (eT2 eI eI)))), none, none, none, none, some (false, A.d ((eO (eT2 eI eI)) v49)), some (true, A.ls (v62.map (eT2 eI eI))), none, none, none, none, none, none, none]) (St_setO' (E_m2o (E_m2o (E_lst (ds := [(eT2 eI eI) v11]) (Es_cons (E_var rfl) Es_nil) rfl) (E_compC (enc := (fun i => A.d (.int i))) (tb := fun (x57 : Int) => [some (false, A.d (D.scr script)), some (true, eBx q10.2), some (false, A.d (eI turn3)), some (false, A.d (eI hours6)), some (false, A.d ((eS eI) q7.1)), some (false, A.d (eI length9)), some (false, A.d ((eT2 eI eI) v11)), some (false, A.d ((eO (eT2 (eO (eT2 eI eI)) (eT2 eI eI))) v12)), some (false, A.ls (st23.map (eT2 (eO (eT2 eI eI)) (eT2 eI eI)))), some (false, A.d (eI x57)), none, none, none, some (false, A.d ((eO (eT2 eI eI)) v49)), none, none, none, none, none, none, none, none]) hv59 (eT2 eI eI) (It_range1 (Es_cons (E_var rfl) Es_nil) hv56) rfl (fun _ => (Put_nm' rfl)) (fun _ => rfl) (fun x57 => TQ_tail fun v58 hv58 => (T_tru (E_nP (fNv2 (pf__law_less hv58)) (Es_cons (E_var rfl) (Es_cons (E_tup (ds := [eI x57, eI (1 : Int)]) (Es_cons (E_var rfl) (Es_cons E_c Es_nil)) rfl) Es_nil))) rfl)) (fun x57 => EQ_ret (E_tup (ds := [eI x57, eI (1 : Int)]) (Es_cons (E_var rfl) (Es_cons E_c Es_nil)) rfl))) (cat_ls hv60) rfl) (E_if (fun (w : (List (Int × Int))) => A.ls (w.map (eT2 eI eI))) (T_tru (E_nP (fNv2 (pf__law_less hv61)) (Es_cons (E_var rfl) (Es_cons (E_tup (ds := [eI hours6, eI (1 : Int)]) (Es_cons (E_var rfl) (Es_cons E_c Es_nil)) rfl) Es_nil))) rfl) (fun _ => (E_lst (ds := [(eT2 eI eI) (hours6, (1 : Int))]) (Es_cons (E_tup (ds := [eI hours6, eI (1 : Int)]) (Es_cons (E_var rfl) (Es_cons E_c Es_nil)) rfl) Es_nil) rfl)) (fun _ => (E_eq (y := A.ls (([] : (List (Int × Int))).map (eT2 eI eI))) (E_lst (ds := []) Es_nil rfl) rfl))) (cat_ls hv62) rfl) rfl rfl) (S_bind fun v63 hv63 => S_bind fun v64 hv64 => S_ifA (T_not (T_tru (E_nP (fNv2 (sameL_val hv64)) (Es_cons (E_noP (fNv3 (pf_drift_starts hv63)) rfl (Es_cons (E_var rfl) (Es_cons (E_var rfl) (Es_cons (E_tup (ds := [eI hours6, eI (1 : Int)]) (Es_cons (E_var rfl) (Es_cons E_c Es_nil)) rfl) Es_nil)))) (Es_cons (E_var rfl) Es_nil))) rfl)) (fun _ => S_retD E_c (rt_A (rt_L (rt_F rfl)))) (fun _ => S_nopSeq (S_bind fun v65 hv65 => S_bind fun v67 hv67 => S_step (t1 := [some (false, A.d (D.scr script)), some (true, eBx q10.2), some (false, A.d (eI turn3)), some (false, A.d (eI hours6)), some (false, A.d ((eS eI) q7.1)), some (false, A.d (eI length9)), some (false, A.d ((eT2 eI eI) v11)), some (false, A.d ((eO (eT2 (eO (eT2 eI eI)) (eT2 eI eI))) v12)), some (false, A.ls (st23.map (eT2 (eO (eT2 eI eI)) (eT2 eI eI)))), none, none, none, none, some (false, A.d ((eO (eT2 eI eI)) v49)), some (true, A.ls (v62.map (eT2 eI eI))), some (true, A.ls (v67.map (eT2 eI eI))), none, none, none, none, none, none]) (St_setO' (E_compP (enc := (fun i => A.d (.int i))) (tb := fun (x66 : Int) => [some (false, A.d (D.scr script)), some (true, eBx q10.2), some (false, A.d (eI turn3)), some (false, A.d (eI hours6)), some (false, A.d ((eS eI) q7.1)), some (false, A.d (eI length9)), some (false, A.d ((eT2 eI eI) v11)), some (false, A.d ((eO (eT2 (eO (eT2 eI eI)) (eT2 eI eI))) v12)), some (false, A.ls (st23.map (eT2 (eO (eT2 eI eI)) (eT2 eI eI)))), some (false, A.d (eI x66)), none, none, none, some (false, A.d ((eO (eT2 eI eI)) v49)), some (true, A.ls (v62.map (eT2 eI eI))), none, none, none, none, none, none, none]) hv67 (eT2 eI eI) (It_range1 (Es_cons (E_var rfl) Es_nil) hv65) rfl (fun _ => (Put_nm' rfl)) (fun _ => rfl) (fun x66 => E.vw (E_tup (ds := [eI x66, eI (1 : Int)]) (Es_cons (E_var rfl) (Es_cons E_c Es_nil)) rfl))) rfl rfl) (S_bind fun v68 hv68 => S_bind fun v69 hv69 => S_seqN (tt := fun (st : (List (Int × Int))) => [some (false, A.d (D.scr script)), some (true, eBx q10.2), some (false, A.d (eI turn3)), some (false, A.d (eI hours6)), some (false, A.d ((eS eI) q7.1)), some (false, A.d (eI length9)), some (false, A.d ((eT2 eI eI) v11)), some (false, A.d ((eO (eT2 (eO (eT2 eI eI)) (eT2 eI eI))) v12)), some (false, A.ls (st23.map (eT2 (eO (eT2 eI eI)) (eT2 eI eI)))), none, none, none, none, some (false, A.d ((eO (eT2 eI eI)) v49)), some (false, A.ls (v62.map (eT2 eI eI))), some (true, A.ls (st.map (eT2 eI eI))), none, none, none, none, none, none]) (S_forO (enc := (fun i => A.d (.int i))) (tt := fun (st : (List (Int × Int))) => [some (false, A.d (D.scr script)), some (true, eBx q10.2), some (false, A.d (eI turn3)), some (false, A.d (eI hours6)), some (false, A.d ((eS eI) q7.1)), some (false, A.d (eI length9)), some (false, A.d ((eT2 eI eI) v11)), some (false, A.d ((eO (eT2 (eO (eT2 eI eI)) (eT2 eI eI))) v12)), some (false, A.ls (st23.map (eT2 (eO (eT2 eI eI)) (eT2 eI eI)))), none, none, none, none, some (false, A.d ((eO (eT2 eI eI)) v49)), some (false, A.ls (v62.map (eT2 eI eI))), some (true, A.ls (st.map (eT2 eI eI))), none, none, none, none, none, none]) (tb := fun (k70 : Int) (s71 : (List (Int × Int))) => [some (false, A.d (D.scr script)), some (true, eBx q10.2), some (false, A.d (eI turn3)), some (false, A.d (eI hours6)), some (false, A.d ((eS eI) q7.1)), some (false, A.d (eI length9)), some (false, A.d ((eT2 eI eI) v11)), some (false, A.d ((eO (eT2 (eO (eT2 eI eI)) (eT2 eI eI))) v12)), some (false, A.ls (st23.map (eT2 (eO (eT2 eI eI)) (eT2 eI eI)))), some (false, A.d (eI k70)), none, none, none, some (false, A.d ((eO (eT2 eI eI)) v49)), some (false, A.ls (v62.map (eT2 eI eI))), some (true, A.ls (s71.map (eT2 eI eI))), none, none, none, none, none, none]) (It_range2 (Es_cons E_c (Es_cons (E_m2 (E_var rfl) E_c rfl) Es_nil)) hv68 hv69) (.keep (.keep (.keep (.keep (.keep (.keep (.keep (.keep (.keep (.skip (.skip (.skip (.skip (.keep (.down (.keep (.skip (.skip (.skip (.skip (.skip (.skip .nil)))))))))))))))))))))) (fun _ _ => (Put_nm' rfl)) (fun k70 s71 => S_bind fun v72 hv72 => S_step (t1 := [some (false, A.d (D.scr script)), some (true, eBx q10.2), some (false, A.d (eI turn3)), some (false, A.d (eI hours6)), some (false, A.d ((eS eI) q7.1)), some (false, A.d (eI length9)), some (false, A.d ((eT2 eI eI) v11)), some (false, A.d ((eO (eT2 (eO (eT2 eI eI)) (eT2 eI eI))) v12)), some (false, A.ls (st23.map (eT2 (eO (eT2 eI eI)) (eT2 eI eI)))), some (false, A.d (eI k70)), none, none, none, some (false, A.d ((eO (eT2 eI eI)) v49)), some (false, A.ls (v62.map (eT2 eI eI))), some (true, A.ls (s71.map (eT2 eI eI))), some (false, A.d ((eO (eT2 eI eI)) v72)), none, none, none, none, none]) (St_setD' (E_nP (fNv3 (pf_latest_start hv72)) (Es_cons (E_var rfl) (Es_cons (E_var rfl) (Es_cons (E_tup (ds := [eI k70, eI (1 : Int)]) (Es_cons (E_var rfl) (Es_cons E_c Es_nil)) rfl) Es_nil)))) rfl rfl) (S_if (T_cmp (E_var rfl) E_c (isnA_opt (fun _ => rfl))) (fun _ => S_bind fun v73 hv73 => S_bind fun v74 hv74 => S_last (t1 := [some (false, A.d (D.scr script)), some (true, eBx q10.2), some (false, A.d (eI turn3)), some (false, A.d (eI hours6)), some (false, A.d ((eS eI) q7.1)), some (false, A.d (eI length9)), some (false, A.d ((eT2 eI eI) v11)), some (false, A.d ((eO (eT2 (eO (eT2 eI eI)) (eT2 eI eI))) v12)), some (false, A.ls (st23.map (eT2 (eO (eT2 eI eI)) (eT2 eI eI)))), some (false, A.d (eI k70)), none, none, none, some (false, A.d ((eO (eT2 eI eI)) v49)), some (false, A.ls (v62.map (eT2 eI eI))), some (true, A.ls (v74.map (eT2 eI eI))), some (false, A.d ((eO (eT2 eI eI)) v72)), none, none, none, none, none]) (St_expr (E_append' (f := (eT2 eI eI)) hv74 rfl (E_narO (e := (eT2 eI eI)) hv73 (E_var rfl)) rfl rfl)) (Nd_C (.keep (.keep (.keep (.keep (.keep (.keep (.keep (.keep (.keep (.skip (.skip (.skip (.skip (.keep (.keep (.keep (.skip (.skip (.skip (.skip (.skip (.skip .nil)))))))))))))))))))))))) (fun _ => S_nop (Nd_C (.keep (.keep (.keep (.keep (.keep (.keep (.keep (.keep (.keep (.skip (.skip (.skip (.skip (.keep (.keep (.keep (.skip (.skip (.skip (.skip (.skip (.skip .nil))))))))))))))))))))))))))) (fun st75 => S_bind fun v76 hv76 => S_bind fun v77 hv77 => S_ifA (T_not (T_tru (E_nP (fNv2 (sameL_val hv77)) (Es_cons (E_noP (fNv2 (pf_turning_starts hv76)) rfl (Es_cons (E_var rfl) (Es_cons (E_var rfl) Es_nil))) (Es_cons (E_var rfl) Es_nil))) rfl)) (fun _ => S_retD E_c (rt_A (rt_L (rt_F rfl)))) (fun _ => S_nopSeq (S_bind fun v78 hv78 => S_step (t1 := [some (false, A.d (D.scr script)), some (true, eBx q10.2), some (false, A.d (eI turn3)), some (false, A.d (eI hours6)), some (false, A.d ((eS eI) q7.1)), some (false, A.d (eI length9)), some (false, A.d ((eT2 eI eI) v11)), some (false, A.d ((eO (eT2 (eO (eT2 eI eI)) (eT2 eI eI))) v12)), some (false, A.ls (st23.map (eT2 (eO (eT2 eI eI)) (eT2 eI eI)))), none, none, none, none, some (false, A.d ((eO (eT2 eI eI)) v49)), some (false, A.ls (v62.map (eT2 eI eI))), some (true, A.ls (st75.map (eT2 eI eI))), none, some (false, A.d ((eO (eT2 (eT2 eI eI) (eT2 eI eI))) v78)), none, none, none, none]) (St_setD' (E_nP (fNv2 (pf_quickest_start hv78)) (Es_cons (E_var rfl) (Es_cons (E_var rfl) Es_nil))) rfl rfl) (S_let fun spans79 hspans79 => S_step (t1 := [some (false, A.d (D.scr script)), some (true, eBx q10.2), some (false, A.d (eI turn3)), some (false, A.d (eI hours6)), some (false, A.d ((eS eI) q7.1)), some (false, A.d (eI length9)), some (false, A.d ((eT2 eI eI) v11)), some (false, A.d ((eO (eT2 (eO (eT2 eI eI)) (eT2 eI eI))) v12)), some (false, A.ls (st23.map (eT2 (eO (eT2 eI eI)) (eT2 eI eI)))), none, none, none, none, some (false, A.d ((eO (eT2 eI eI)) v49)), some (false, A.ls (v62.map (eT2 eI eI))), some (true, A.ls (st75.map (eT2 eI eI))), none, some (false, A.d ((eO (eT2 (eT2 eI eI) (eT2 eI eI))) v78)), some (true, A.ls (spans79.map (eT2 (eT2 eI eI) (eT2 eI eI)))), none, none, none]) (St_setO' (E_let (fun (w : (List ((Int × Int) × (Int × Int)))) => A.ls (w.map (eT2 (eT2 eI eI) (eT2 eI eI)))) hspans79 (E_lst (ds := []) Es_nil rfl)) rfl rfl) (S_bind fun v80 hv80 => S_bind fun v83 hv83 => S_bind fun v84 hv84 => S_seqN (tt := fun (st : (List ((Int × Int) × (Int × Int)))) => [some (false, A.d (D.scr script)), some (true, eBx q10.2), some (false, A.d (eI turn3)), some (false, A.d (eI hours6)), some (false, A.d ((eS eI) q7.1)), some (false, A.d (eI length9)), some (false, A.d ((eT2 eI eI) v11)), some (false, A.d ((eO (eT2 (eO (eT2 eI eI)) (eT2 eI eI))) v12)), some (false, A.ls (st23.map (eT2 (eO (eT2 eI eI)) (eT2 eI eI)))), none, none, none, none, some (false, A.d ((eO (eT2 eI eI)) v49)), some (false, A.ls (v62.map (eT2 eI eI))), some (false, A.ls (st75.map (eT2 eI eI))), none, some (false, A.d ((eO (eT2 (eT2 eI eI) (eT2 eI eI))) v78)), some (true, A.ls (st.map (eT2 (eT2 eI eI) (eT2 eI eI)))), none, none, none]) (S_forO (enc := (fun w => A.d ((eT2 eI eI) w))) (tt := fun (st : (List ((Int × Int) × (Int × Int)))) => [some (false, A.d (D.scr script)), some (true, eBx q10.2), some (false, A.d (eI turn3)), some (false, A.d (eI hours6)), some (false, A.d ((eS eI) q7.1)), some (false, A.d (eI length9)), some (false, A.d ((eT2 eI eI) v11)), some (false, A.d ((eO (eT2 (eO (eT2 eI eI)) (eT2 eI eI))) v12)), some (false, A.ls (st23.map (eT2 (eO (eT2 eI eI)) (eT2 eI eI)))), none, none, none, none, some (false, A.d ((eO (eT2 eI eI)) v49)), some (false, A.ls (v62.map (eT2 eI eI))), some (false, A.ls (st75.map (eT2 eI eI))), none, some (false, A.d ((eO (eT2 (eT2 eI eI) (eT2 eI eI))) v78)), some (true, A.ls (st.map (eT2 (eT2 eI eI) (eT2 eI eI)))), none, none, none]) (tb := fun (here85 : (Int × Int)) (s86 : (List ((Int × Int) × (Int × Int)))) => [some (false, A.d (D.scr script)), some (true, eBx q10.2), some (false, A.d (eI turn3)), some (false, A.d (eI hours6)), some (false, A.d ((eS eI) q7.1)), some (false, A.d (eI length9)), some (false, A.d ((eT2 eI eI) v11)), some (false, A.d ((eO (eT2 (eO (eT2 eI eI)) (eT2 eI eI))) v12)), some (false, A.ls (st23.map (eT2 (eO (eT2 eI eI)) (eT2 eI eI)))), none, some (false, A.d ((eT2 eI eI) here85)), none, none, some (false, A.d ((eO (eT2 eI eI)) v49)), some (false, A.ls (v62.map (eT2 eI eI))), some (false, A.ls (st75.map (eT2 eI eI))), none, some (false, A.d ((eO (eT2 (eT2 eI eI) (eT2 eI eI))) v78)), some (true, A.ls (s86.map (eT2 (eT2 eI eI) (eT2 eI eI)))), none, none, none]) (It_iter (E_m2o (E_var rfl) (E_compM (enc := (fun i => A.d (.int i))) (tb := fun (x81 : Int) => [some (false, A.d (D.scr script)), some (true, eBx q10.2), some (false, A.d (eI turn3)), some (false, A.d (eI hours6)), some (false, A.d ((eS eI) q7.1)), some (false, A.d (eI length9)), some (false, A.d ((eT2 eI eI) v11)), some (false, A.d ((eO (eT2 (eO (eT2 eI eI)) (eT2 eI eI))) v12)), some (false, A.ls (st23.map (eT2 (eO (eT2 eI eI)) (eT2 eI eI)))), some (false, A.d (eI x81)), none, none, none, some (false, A.d ((eO (eT2 eI eI)) v49)), some (false, A.ls (v62.map (eT2 eI eI))), some (true, A.ls (st75.map (eT2 eI eI))), none, some (false, A.d ((eO (eT2 (eT2 eI eI) (eT2 eI eI))) v78)), some (true, A.ls (spans79.map (eT2 (eT2 eI eI) (eT2 eI eI)))), none, none, none]) hv83 (eT2 eI eI) (It_range1 (Es_cons (E_m2 E_c (E_var rfl) (mul_pure (mulP_l (by decide)))) Es_nil) hv80) rfl (fun _ => (Put_nm' rfl)) (fun _ => rfl) (fun x81 => EQ_tail fun v82 hv82 => (E_nP (fNv2 (pf__law_ratio hv82)) (Es_cons (E_var rfl) (Es_cons E_c Es_nil))))) (cat_ls hv84) rfl) iter_ls (trivial)) (.keep (.keep (.keep (.keep (.keep (.keep (.keep (.keep (.keep (.skip (.skip (.skip (.skip (.keep (.keep (.down (.skip (.keep (.keep (.skip (.skip (.skip .nil)))))))))))))))))))))) (fun _ _ => (Put_nm' rfl)) (fun here85 s86 => S_bind fun v87 hv87 => S_step (t1 := [some (false, A.d (D.scr script)), some (true, eBx q10.2), some (false, A.d (eI turn3)), some (false, A.d (eI hours6)), some (false, A.d ((eS eI) q7.1)), some (false, A.d (eI length9)), some (false, A.d ((eT2 eI eI) v11)), some (false, A.d ((eO (eT2 (eO (eT2 eI eI)) (eT2 eI eI))) v12)), some (false, A.ls (st23.map (eT2 (eO (eT2 eI eI)) (eT2 eI eI)))), none, some (false, A.d ((eT2 eI eI) here85)), some (false, A.d ((eO (eT2 eI eI)) v87)), none, some (false, A.d ((eO (eT2 eI eI)) v49)), some (false, A.ls (v62.map (eT2 eI eI))), some (false, A.ls (st75.map (eT2 eI eI))), none, some (false, A.d ((eO (eT2 (eT2 eI eI) (eT2 eI eI))) v78)), some (true, A.ls (s86.map (eT2 (eT2 eI eI) (eT2 eI eI)))), none, none, none]) (St_setD' (E_nP (fNv4 (pf__law_end hv87)) (Es_cons (E_var rfl) (Es_cons (E_var rfl) (Es_cons (E_var rfl) (Es_cons E_c Es_nil))))) rfl rfl) (S_if (T_cmp (E_var rfl) E_c (isnA_opt (fun _ => rfl))) (fun _ => S_bind fun v88 hv88 => S_bind fun v89 hv89 => S_bind fun v90 hv90 => S_last (t1 := [some (false, A.d (D.scr script)), some (true, eBx q10.2), some (false, A.d (eI turn3)), some (false, A.d (eI hours6)), some (false, A.d ((eS eI) q7.1)), some (false, A.d (eI length9)), some (false, A.d ((eT2 eI eI) v11)), some (false, A.d ((eO (eT2 (eO (eT2 eI eI)) (eT2 eI eI))) v12)), some (false, A.ls (st23.map (eT2 (eO (eT2 eI eI)) (eT2 eI eI)))), none, some (false, A.d ((eT2 eI eI) here85)), some (false, A.d ((eO (eT2 eI eI)) v87)), none, some (false, A.d ((eO (eT2 eI eI)) v49)), some (false, A.ls (v62.map (eT2 eI eI))), some (false, A.ls (st75.map (eT2 eI eI))), none, some (false, A.d ((eO (eT2 (eT2 eI eI) (eT2 eI eI))) v78)), some (true, A.ls (v90.map (eT2 (eT2 eI eI) (eT2 eI eI)))), none, none, none]) (St_expr (E_append' (f := (eT2 (eT2 eI eI) (eT2 eI eI))) hv90 rfl (E_tup (ds := [(eT2 eI eI) v89, (eT2 eI eI) here85]) (Es_cons (E_nP (fNv2 (pf__law_plus hv89)) (Es_cons (E_narO (e := (eT2 eI eI)) hv88 (E_var rfl)) (Es_cons (E_tup (ds := [eI (-here85.1), eI here85.2]) (Es_cons (E_m1 (E_ix (E_var rfl) E_c rfl) rfl) (Es_cons (E_ix (E_var rfl) E_c rfl) Es_nil)) rfl) Es_nil))) (Es_cons (E_var rfl) Es_nil)) rfl) rfl rfl)) (Nd_C (.keep (.keep (.keep (.keep (.keep (.keep (.keep (.keep (.keep (.skip (.skip (.skip (.skip (.keep (.keep (.keep (.skip (.keep (.keep (.skip (.skip (.skip .nil)))))))))))))))))))))))) (fun _ => S_nop (Nd_C (.keep (.keep (.keep (.keep (.keep (.keep (.keep (.keep (.keep (.skip (.skip (.skip (.skip (.keep (.keep (.keep (.skip (.keep (.keep (.skip (.skip (.skip .nil))))))))))))))))))))))))))) (fun st91 => S_bind fun v92 hv92 => S_bind fun v93 hv93 => S_ifA (T_cmp (E_asV (T_cmp (E_var rfl) E_c (isA_opt (fun _ => rfl)))) (E_asV (T_cmp (E_var rfl) (E_lst (ds := []) Es_nil rfl) hv92)) hv93) (fun _ => S_retD E_c (rt_A (rt_L (rt_F rfl)))) (fun _ => S_nopSeq (S_if (T_cmp (E_var rfl) E_c (isnA_opt (fun _ => rfl))) (fun _ => S_bind fun v94 hv94 => S_step (t1 := [some (false, A.d (D.scr script)), some (true, eBx q10.2), some (false, A.d (eI turn3)), some (false, A.d (eI hours6)), some (false, A.d ((eS eI) q7.1)), some (false, A.d (eI length9)), some (false, A.d ((eT2 eI eI) v11)), some (false, A.d ((eO (eT2 (eO (eT2 eI eI)) (eT2 eI eI))) v12)), some (false, A.ls (st23.map (eT2 (eO (eT2 eI eI)) (eT2 eI eI)))), none, some (false, A.d ((eT2 eI eI) v94.2)), none, none, some (false, A.d ((eO (eT2 eI eI)) v49)), some (false, A.ls (v62.map (eT2 eI eI))), some (false, A.ls (st75.map (eT2 eI eI))), none, some (false, A.d ((eO (eT2 (eT2 eI eI) (eT2 eI eI))) v78)), some (true, A.ls (st91.map (eT2 (eT2 eI eI) (eT2 eI eI)))), some (false, A.d ((eT2 eI eI) v94.1)), none, none]) (St_unp (E_narO (e := (eT2 (eT2 eI eI) (eT2 eI eI))) hv94 (E_var rfl)) (Put_tp (.cons (Put_nm' rfl) (.cons (Put_nm' rfl) .nil)))) (S_bind fun v101 hv101 => S_ifA (T_tru (E_n (Es_cons (E_compM (enc := (fun w => A.d ((eT2 (eT2 eI eI) (eT2 eI eI)) w))) (tb := fun (x95 : ((Int × Int) × (Int × Int))) => [some (false, A.d (D.scr script)), some (true, eBx q10.2), some (false, A.d (eI turn3)), some (false, A.d (eI hours6)), some (false, A.d ((eS eI) q7.1)), some (false, A.d (eI length9)), some (false, A.d ((eT2 eI eI) v11)), some (false, A.d ((eO (eT2 (eO (eT2 eI eI)) (eT2 eI eI))) v12)), some (false, A.ls (st23.map (eT2 (eO (eT2 eI eI)) (eT2 eI eI)))), none, some (false, A.d ((eT2 eI eI) v94.2)), none, none, some (false, A.d ((eO (eT2 eI eI)) v49)), some (false, A.ls (v62.map (eT2 eI eI))), some (false, A.ls (st75.map (eT2 eI eI))), none, some (false, A.d ((eO (eT2 (eT2 eI eI) (eT2 eI eI))) v78)), some (false, A.ls (st91.map (eT2 (eT2 eI eI) (eT2 eI eI)))), some (false, A.d ((eT2 eI eI) v94.1)), some (false, A.d ((eT2 eI eI) x95.1)), some (false, A.d ((eT2 eI eI) x95.2))]) hv101 eB (It_iterN' (E_var rfl) iter_ls rfl) rfl (fun _ => (Put_tp (.cons (Put_nm' rfl) (.cons (Put_nm' rfl) .nil)))) (fun _ => rfl) (fun x95 => EQ_bind fun v96 hv96 => EQ_tail fun v100 hv100 => (E_orV0 hv100 (E_nP (fNv2 (pf__law_less hv96)) (Es_cons (E_var rfl) (Es_cons (E_var rfl) Es_nil))) (fun _ => EQ_bind fun v97 hv97 => EQ_tail fun v99 hv99 => (E_andV0 hv99 (E_asV (T_cmp (E_var rfl) (E_var rfl) hv97)) (fun _ => EQ_tail fun v98 hv98 => (E_nP (fNv2 (pf__law_less hv98)) (Es_cons (E_var rfl) (Es_cons (E_var rfl) Es_nil))))))))) Es_nil) (f1v anyL_val)) rfl) (fun _ => S_retD E_c (rt_A (rt_L (rt_F rfl)))) (fun _ => S_nopSeq (S_bind fun v102 hv102 => S_step (t1 := [some (false, A.d (D.scr script)), some (true, eBx q10.2), some (false, A.d (eI turn3)), some (false, A.d (eI hours6)), some (false, A.d ((eS eI) q7.1)), some (false, A.d (eI length9)), some (false, A.d ((eT2 eI eI) v11)), some (false, A.d ((eO (eT2 (eO (eT2 eI eI)) (eT2 eI eI))) v12)), some (false, A.ls (st23.map (eT2 (eO (eT2 eI eI)) (eT2 eI eI)))), none, some (false, A.d ((eT2 eI eI) v94.2)), some (false, A.d ((eO (eT2 eI eI)) v102)), none, some (false, A.d ((eO (eT2 eI eI)) v49)), some (false, A.ls (v62.map (eT2 eI eI))), some (false, A.ls (st75.map (eT2 eI eI))), none, some (false, A.d ((eO (eT2 (eT2 eI eI) (eT2 eI eI))) v78)), some (false, A.ls (st91.map (eT2 (eT2 eI eI) (eT2 eI eI)))), some (false, A.d ((eT2 eI eI) v94.1)), none, none]) (St_setD' (E_nP (fNv4 (pf__law_end hv102)) (Es_cons (E_var rfl) (Es_cons (E_var rfl) (Es_cons (E_var rfl) (Es_cons E_c Es_nil))))) rfl rfl) (S_bind fun v103 hv103 => S_bind fun v104 hv104 => S_bind fun v105 hv105 => S_bind fun v108 hv108 => S_if (T_or0 hv108 (T_cmp (E_nP (fNv2 (pf__law_plus hv104)) (Es_cons (E_narO (e := (eT2 eI eI)) hv103 (E_var rfl)) (Es_cons (E_tup (ds := [eI (-v94.2.1), eI v94.2.2]) (Es_cons (E_m1 (E_ix (E_var rfl) E_c rfl) rfl) (Es_cons (E_ix (E_var rfl) E_c rfl) Es_nil)) rfl) Es_nil))) (E_var rfl) hv105) (fun _ => TQ_tail fun v107 hv107 => (T_and0 hv107 (T_cmp (E_ix (E_var rfl) E_c rfl) E_c neA_int) (fun _ => TQ_bind fun v106 hv106 => TQ_pure (T_cmp (E_ix (E_narO (e := (eT2 eI eI)) hv106 (E_var rfl)) E_c rfl) E_c neA_int))))) (fun _ => S_retD E_c (rt_L (rt_F rfl))) (fun _ => S_nop (Nd_L (.keep (.keep (.skip (.skip (.skip (.skip (.skip (.skip (.skip (.skip (.skip (.skip (.skip (.skip (.skip (.skip (.skip (.skip (.skip (.skip (.skip (.skip .nil))))))))))))))))))))))))))))) (fun _ => S_nop (Nd_L (.keep (.keep (.skip (.skip (.skip (.skip (.skip (.skip (.skip (.skip (.skip (.skip (.skip (.skip (.skip (.skip (.skip (.skip (.skip (.skip (.skip (.skip .nil)))))))))))))))))))))))))))))))))))))))))))))))))) (fun _ _ _ h _ => h) (fun st109 => S_retD E_c (rt_F rfl)))
theorem pf_law {script : (List Int)} {r : Bool} (h : p_law script = some r) : F_law [A.d (D.scr script)] = some (A.d (eB r)) := F_end (er := (fun (w : Bool) => A.d (eB w))) (pS_law script) h rfl
end MM
namespace MM
open PySem PySem.Spec PyProof.Rows L2

/-! ### more of lists: what is the same, filters, searches -/
theorem okb_pds {B n : Nat} : ∀ {xs : List D}, (∀ x ∈ xs, okb B n x = true) → ∃ ps, toPDs xs = some ps ∧ ps.length = xs.length ∧ ∀ p ∈ ps, p.canLay0 = true ∧ p.depth ≤ n
  | [], _ => ⟨[], by simp [toPDs], rfl, by simp⟩
  | x :: r, h => by
    obtain ⟨p, e1, h1⟩ := okb_pd (h x List.mem_cons_self)
    obtain ⟨ps, e2, l2, h2⟩ := okb_pds fun y hy => h y (List.mem_cons_of_mem _ hy)
    refine ⟨p :: ps, ?_, by simp [l2], fun q hq => ?_⟩
    · unfold toPDs
      rw [e1, e2]
    · rcases List.mem_cons.mp hq with rfl | hq
      · exact h1
      · exact h2 q hq
theorem canAll2 {ps : List PyData} (h : ∀ p ∈ ps, p.canLay0 = true) : PyData.canLayAll0 ps = true := canAll h
theorem eqA_ls_nil {B n : Nat} {xs : List D} (h : ∀ x ∈ xs, okb B n x = true) (hn : n ≤ 60) : eqA (.ls xs) (.ls []) = some xs.isEmpty := by
  obtain ⟨ps, e, l, hp⟩ := okb_pds h
  unfold eqA
  show (match (toPDs xs).map PyData.list, (toPDs []).map PyData.list with
    | some d, some e => if SeqAt.shaped d && SeqAt.shaped e then some (PyData.eqv d e) else none
    | _, _ => none) = _
  have e0 : toPDs [] = some [] := by simp [toPDs]
  have s1 : SeqAt.shaped (.list ps) = true := by
    refine okb_shaped (n := n + 1) ?_ ?_ (by omega)
    · unfold PyData.canLay0
      exact canAll2 fun p hq => (hp p hq).1
    · unfold PyData.depth
      have := depthAll_le (ds := ps) (m := n) fun p hq => (hp p hq).2
      omega
  have s0 : SeqAt.shaped (.list []) = true := by decide
  rw [e, e0]
  simp only [Option.map_some, s1, s0, Bool.and_self, if_true]
  congr 1
  cases xs with
  | nil =>
    cases ps with
    | nil => decide
    | cons p r => simp at l
  | cons x r =>
    cases ps with
    | nil => simp at l
    | cons p r => rfl
theorem okD_pair {n : Nat} {p : Int × Int} : okD (n + 2) ((eT2 eI eI) p) = true := rfl
theorem sameN_any {B n : Nat} {xs : List D} (h : ∀ x ∈ xs, okb B n x = true) : sameN (n + 1) (.tup xs) (.tup xs) = true := by
  refine sameN_refl (B := B + xs.length) ?_
  rw [okb_tup]
  exact ⟨fun x hx => okb_mono (h x hx) (by omega) (Nat.le_refl _), by omega⟩
/-- lists that are the same -/
theorem sameLO_refl {B : Nat} {xs : List D} (h : ∀ x ∈ xs, okb B 69 x = true) (hd : ∀ x ∈ xs, okD 69 x = true) (hl : xs.length ≤ 16777216) : sameLO xs xs = some true := by
  unfold sameLO
  have h1 : xs.all (okD 69) = true := List.all_eq_true.mpr hd
  rw [h1, szB_of hl, sameN_any (n := 69) h]
  rfl
theorem int_list_bound {xs : List (Int × Int)} : ∃ B, 2 ≤ B ∧ ∀ x ∈ xs, x.1.natAbs ≤ B ∧ x.2.natAbs ≤ B := by
  induction xs with
  | nil => exact ⟨2, by omega, by simp⟩
  | cons x r ih =>
    obtain ⟨B, h0, h⟩ := ih
    refine ⟨B + x.1.natAbs + x.2.natAbs, by omega, fun y hy => ?_⟩
    rcases List.mem_cons.mp hy with rfl | hy
    · omega
    · have := h y hy
      omega
theorem pair_okb {B n : Nat} {p : Int × Int} (h0 : 2 ≤ B) (h1 : p.1.natAbs ≤ B) (h2 : p.2.natAbs ≤ B) : okb B (n + 2) ((eT2 eI eI) p) = true := by
  show okb B (n + 2) (.tup [.int p.1, .int p.2]) = true
  rw [okb_tup]
  refine ⟨fun x hx => ?_, by simp; omega⟩
  simp at hx
  rcases hx with rfl | rfl <;> (rw [okb_int]; assumption)
theorem same_pairs {xs : List (Int × Int)} (hl : xs.length ≤ 16777216) : sameLO (xs.map (eT2 eI eI)) (xs.map (eT2 eI eI)) = some true := by
  obtain ⟨B, h0, h⟩ := int_list_bound (xs := xs)
  refine sameLO_refl (B := B) (fun x hx => ?_) (fun x hx => ?_) (by simpa using hl)
  · obtain ⟨p, hp, rfl⟩ := List.mem_map.mp hx
    exact pair_okb h0 (h p hp).1 (h p hp).2
  · obtain ⟨p, hp, rfl⟩ := List.mem_map.mp hx
    exact okD_pair
theorem eqD_pair {p q : Int × Int} : eqD ((eT2 eI eI) p) ((eT2 eI eI) q) = decide (p = q) := by
  show eqD (.tup [.int p.1, .int p.2]) (.tup [.int q.1, .int q.2]) = _
  simp only [eqD, eqDs, Bool.and_true]
  rw [Bool.eq_iff_iff]
  simp [Prod.ext_iff]
theorem pair_okb' {p : Int × Int} : okb (p.1.natAbs + p.2.natAbs + 2) 2 ((eT2 eI eI) p) = true := pair_okb (by omega) (by omega) (by omega)
theorem eq_pairs {p q : Int × Int} : eqA (A.d ((eT2 eI eI) p)) (A.d ((eT2 eI eI) q)) = some (decide (p = q)) := by
  rw [eqA_okb pair_okb' pair_okb' (by omega) (by omega), eqD_pair]
theorem ne_pairs {p q : Int × Int} : neA (A.d ((eT2 eI eI) p)) (A.d ((eT2 eI eI) q)) = some (!decide (p = q)) := by
  rw [neA_okb pair_okb' pair_okb' (by omega) (by omega), eqD_pair]
theorem ne_bls {k l : Bool} : neA (A.d (eB k)) (A.d (eB l)) = some (!(k == l)) := by
  rw [neA_okb (B := 2) (n := 1) (B2 := 2) (n2 := 1) rfl rfl (by omega) (by omega)]
  show some (!eqD (.bl k) (.bl l)) = _
  simp [eqD]
theorem forO_map {α β σ : Type} {g : β → α} {f : α → σ → Option σ} : ∀ {xs : List β} {s : σ}, forO f (xs.map g) s = forO (fun x => f (g x)) xs s
  | [], _ => rfl
  | x :: r, s => by
    rw [List.map_cons, forO_cons, forO_cons]
    congr 1
    funext s
    exact forO_map
/-- a loop that gathers -/
theorem forO_gather {α β : Type} {f : α → List β → Option (List β)} {g : α → Option β} : ∀ {xs : List α} {s : List β}, (∀ x ∈ xs, ∀ s, s.length < 16777216 → f x s = some (match g x with | some v => s ++ [v] | none => s)) → s.length + xs.length ≤ 16777216 → forO f xs s = some (s ++ xs.filterMap g)
  | [], s, _, _ => by simp [forO_nil]
  | x :: r, s, h, hl => by
    rw [List.length_cons] at hl
    rw [forO_cons, h x List.mem_cons_self s (by omega), Option.bind_some]
    cases hg : g x with
    | none =>
      rw [List.filterMap_cons_none hg]
      show forO f r s = _
      exact forO_gather (fun y hy => h y (List.mem_cons_of_mem _ hy)) (by omega)
    | some v =>
      rw [List.filterMap_cons_some hg]
      have := forO_gather (f := f) (g := g) (xs := r) (s := s ++ [v]) (fun y hy => h y (List.mem_cons_of_mem _ hy)) (by simp; omega)
      simp only
      rw [this]
      simp
theorem any_none {α : Type} {f : α → Option Bool} {xs : List α} (h : ∀ x ∈ xs, f x = some false) (hz : xs.length ≤ 16777216) : ∃ bs, mapO f xs = some bs ∧ bs.any id = false := by
  refine ⟨_, mapO_some (g := fun _ => false) h hz, ?_⟩
  rw [List.any_eq_false]
  intro b hb
  obtain ⟨x, _, rfl⟩ := List.mem_map.mp hb
  simp
theorem range_filter : ∀ {n : Nat} {a c : Int}, a ≤ c → c ≤ a + n → (rangeT a n).filter (fun k => decide (c ≤ k)) = rangeT c (a + n - c).toNat
  | 0, a, c, h1, h2 => by
    have : c = a := by omega
    subst this
    simp [rangeT]
  | n + 1, a, c, h1, h2 => by
    rw [rangeT_succ]
    by_cases h : a = c
    · subst h
      have : (a + ((n + 1 : Nat) : Int) - a).toNat = n + 1 := by omega
      rw [this, rangeT_succ, List.filter_eq_self.mpr]
      intro k hk
      rw [← rangeT_succ] at hk
      have := rangeT_mem.mp hk
      simpa using this.1
    · rw [List.filter_cons_of_neg (by simp; omega), range_filter (by omega) (by omega)]
      congr 1
      omega
end MM
namespace MM
open PySem PySem.Spec PyProof.Rows L2

/-! ### ratios in lowest terms are rational numbers -/
def rt (x : Rat) : Int × Int := (x.num, (x.den : Int))
def Sz (n : Nat) (i : Int) : Prop := i.natAbs < 2 ^ n
def Rz (n : Nat) (x : Rat) : Prop := Sz n x.num ∧ Sz n (x.den : Int)
theorem Sz.mono {n m : Nat} {i : Int} (h : Sz n i) (hm : n ≤ m) : Sz m i := Nat.lt_of_lt_of_le h (Nat.pow_le_pow_right (by decide) hm)
theorem Rz.mono {n m : Nat} {x : Rat} (h : Rz n x) (hm : n ≤ m) : Rz m x := ⟨h.1.mono hm, h.2.mono hm⟩
theorem Sz.log {n : Nat} {i : Int} (h : Sz n i) : i.natAbs.log2 ≤ n := by
  rcases Nat.eq_zero_or_pos i.natAbs with z | z
  · rw [z]; simp
  · exact Nat.le_of_lt ((Nat.log2_lt (by omega)).mpr h)
theorem Sz.mul {n m : Nat} {i j : Int} (h : Sz n i) (k : Sz m j) : Sz (n + m) (i * j) := by
  unfold Sz at *
  rw [Int.natAbs_mul, Nat.pow_add]
  exact Nat.mul_lt_mul'' h k
theorem Sz.add {n : Nat} {i j : Int} (h : Sz n i) (k : Sz n j) : Sz (n + 1) (i + j) := by
  unfold Sz at *
  rw [Nat.pow_succ]
  omega
theorem Sz.neg {n : Nat} {i : Int} (h : Sz n i) : Sz n (-i) := by unfold Sz at *; omega
theorem mulO_sz {n m : Nat} {a b : Int} (ha : Sz n a) (hb : Sz m b) (h : n + m < 1000000) : mulO a b = some (a * b) := by
  unfold mulO mulB
  have h1 := ha.log
  have h2 := hb.log
  have : decide (a.natAbs.log2 + b.natAbs.log2 < 1000000) = true := decide_eq_true (by omega)
  rw [this, Bool.or_true, if_pos rfl]
theorem fdivO_sz {n : Nat} {a b : Int} (h0 : 0 < b) (hb : Sz n b) (h : n < 9000) : fdivO a b = some (a / b) := by
  unfold fdivO divB
  have h1 := hb.log
  have : decide (0 < b ∧ b.natAbs.log2 < 9000) = true := decide_eq_true ⟨h0, by omega⟩
  rw [this, Bool.or_true, if_pos rfl, Int.fdiv_eq_ediv_of_nonneg _ (by omega)]
/-- the greatest common divisor, by remainders -/
theorem gcd_run {f : Int × Int → Option (Int × Int)} (hf : ∀ m n : Nat, 0 < n → f ((m : Int), (n : Int)) = some ((n : Int), ((m % n : Nat) : Int))) {c : Int × Int → Option Bool} (hc : ∀ s, c s = some (!decide (s.2 = 0))) (m n : Nat) : whileO c f ((m : Int), (n : Int)) = some (((Nat.gcd m n : Nat) : Int), 0) := by
  obtain ⟨st, e, ⟨a, b, rfl, hg⟩, h⟩ := whileO_ok (c := c) (b := f) (fun s => ∃ a b : Nat, s = ((a : Int), (b : Int)) ∧ Nat.gcd a b = Nat.gcd m n) (fun s => s.2.toNat) (fun s _ => ⟨_, hc s⟩) (fun s ⟨a, b, e, hg⟩ ht => by
    subst e
    rw [hc] at ht
    have hb : 0 < b := by
      simp at ht
      omega
    refine ⟨_, hf a b hb, ⟨b, a % b, rfl, ?_⟩, ?_⟩
    · rw [← hg, Nat.gcd_comm a b, Nat.gcd_rec b a, Nat.gcd_comm]
    · have := Nat.mod_lt a hb
      simp only [Int.toNat_natCast]
      omega) (st := ((m : Int), (n : Int))) ⟨m, n, rfl, rfl⟩
  rw [hc] at h
  have hb : b = 0 := by simp at h; omega
  subst hb
  rw [Nat.gcd_zero_right] at hg
  rw [e, hg]
  rfl
theorem fmod_nat {m n : Nat} : Int.fmod (m : Int) (n : Int) = ((m % n : Nat) : Int) := by
  rw [Int.fmod_eq_emod_of_nonneg _ (by omega)]
  simp
theorem fdiv_nat {m n : Nat} : Int.fdiv (m : Int) (n : Int) = ((m / n : Nat) : Int) := by
  rw [Int.fdiv_eq_ediv_of_nonneg _ (by omega)]
  simp
theorem absI_nat {i : Int} : absI i = (i.natAbs : Int) := by unfold absI; split <;> omega
theorem rt_divInt {p q : Int} (hq : 0 < q) : rt (Rat.divInt p q) = (p / (Nat.gcd p.natAbs q.natAbs : Nat), q / (Nat.gcd p.natAbs q.natAbs : Nat)) := by
  unfold rt
  rw [Rat.num_divInt, Rat.den_divInt]
  have e1 : q.sign = 1 := Int.sign_eq_one_of_pos hq
  have e2 : (q.gcd p) = Nat.gcd p.natAbs q.natAbs := by rw [Int.gcd_comm]; rfl
  rw [e1, Int.one_mul, if_neg (by omega), e2]
  congr 1
  rw [Int.natCast_ediv]
  congr 1
  omega
theorem divInt_sz {n : Nat} {p q : Int} (hq : 0 < q) (hp : Sz n p) (hq2 : Sz n q) : Rz n (Rat.divInt p q) := by
  have e := rt_divInt (p := p) hq
  unfold rt at e
  have e1 := congrArg Prod.fst e
  have e2 := congrArg Prod.snd e
  simp only at e1 e2
  unfold Rz
  rw [e1, e2]
  unfold Sz at *
  constructor
  · exact Nat.lt_of_le_of_lt (Int.natAbs_ediv_le_natAbs _ _) hp
  · exact Nat.lt_of_le_of_lt (Int.natAbs_ediv_le_natAbs _ _) hq2
theorem den_pos (x : Rat) : (0 : Int) < x.den := by have := x.den_pos; omega
theorem rat_add (x y : Rat) : Rat.divInt (x.num * y.den + y.num * x.den) (x.den * y.den) = x + y := by
  have := Rat.divInt_add_divInt x.num y.num (d₁ := x.den) (d₂ := y.den) (by have := den_pos x; omega) (by have := den_pos y; omega)
  rw [Rat.num_divInt_den, Rat.num_divInt_den] at this
  exact this.symm
theorem rat_sub (x y : Rat) : Rat.divInt (x.num * y.den - y.num * x.den) (x.den * y.den) = x - y := by
  have := rat_add x (-y)
  rw [Rat.neg_num, Rat.neg_den, Int.neg_mul] at this
  rw [Int.sub_eq_add_neg, this, Rat.sub_eq_add_neg]
theorem rat_mul (x y : Rat) : Rat.divInt (x.num * y.num) (x.den * y.den) = x * y := by
  have := Rat.divInt_mul_divInt x.num y.num (d₁ := x.den) (d₂ := y.den)
  rw [Rat.num_divInt_den, Rat.num_divInt_den] at this
  exact this.symm
theorem rat_div (x y : Rat) : Rat.divInt (x.num * y.den) (x.den * y.num) = x / y := by
  have := Rat.divInt_mul_divInt x.num y.den (d₁ := x.den) (d₂ := y.num)
  rw [Rat.num_divInt_den, ← Rat.inv_divInt, Rat.num_divInt_den, ← Rat.div_def] at this
  exact this.symm
theorem rat_lt (x y : Rat) : decide (x.num * y.den < y.num * x.den) = decide (x < y) := by
  congr 1
  exact propext (Rat.lt_iff x y).symm
theorem Rz.den {n : Nat} {x : Rat} (h : Rz n x) : Sz n (x.den : Int) := h.2
theorem rz_add {n m : Nat} {x y : Rat} (hx : Rz n x) (hy : Rz m y) : Rz (n + m + 1) (x + y) := by
  rw [← rat_add]
  refine divInt_sz (Int.mul_pos (den_pos x) (den_pos y)) ?_ ((hx.2.mul hy.2).mono (by omega))
  exact ((hx.1.mul hy.2)).add (by rw [Nat.add_comm]; exact hy.1.mul hx.2)
theorem rz_neg {n : Nat} {x : Rat} (hx : Rz n x) : Rz n (-x) := by
  unfold Rz
  rw [Rat.neg_num, Rat.neg_den]
  exact ⟨hx.1.neg, hx.2⟩
theorem rz_sub {n m : Nat} {x y : Rat} (hx : Rz n x) (hy : Rz m y) : Rz (n + m + 1) (x - y) := by
  rw [Rat.sub_eq_add_neg]
  exact rz_add hx (rz_neg hy)
theorem rz_mul {n m : Nat} {x y : Rat} (hx : Rz n x) (hy : Rz m y) : Rz (n + m) (x * y) := by
  rw [← rat_mul]
  exact divInt_sz (Int.mul_pos (den_pos x) (den_pos y)) (hx.1.mul hy.1) (hx.2.mul hy.2)
theorem num_pos {y : Rat} (h : 0 < y) : 0 < y.num := by
  have h1 : 0 ≤ y.num := Rat.num_nonneg.mpr (by grind)
  have h2 : y.num ≠ 0 := fun e => by
    have := Rat.num_eq_zero.mp e
    grind
  omega
theorem rz_div {n m : Nat} {x y : Rat} (hx : Rz n x) (hy : Rz m y) (h : 0 < y) : Rz (n + m) (x / y) := by
  rw [← rat_div]
  exact divInt_sz (Int.mul_pos (den_pos x) (num_pos h)) (hx.1.mul hy.2) (hx.2.mul hy.1)
theorem rz_int {n : Nat} {i : Int} (h : Sz n i) (hn : 1 ≤ n) : Rz n (i : Rat) := by
  unfold Rz
  rw [Rat.num_intCast, Rat.den_intCast]
  refine ⟨h, ?_⟩
  unfold Sz
  exact Nat.one_lt_two_pow (by omega)
theorem rt_int {i : Int} : rt (i : Rat) = (i, 1) := by
  unfold rt
  rw [Rat.num_intCast, Rat.den_intCast]
  rfl
theorem rt_inj {x y : Rat} (h : rt x = rt y) : x = y := by
  unfold rt at h
  injection h with h1 h2
  rw [← Rat.num_divInt_den x, ← Rat.num_divInt_den y, h1, h2]
theorem rt_neg {x : Rat} : (-(rt x).1, (rt x).2) = rt (-x) := by
  unfold rt
  rw [Rat.neg_num, Rat.neg_den]
theorem floor_rt {x : Rat} : (rt x).1 / (rt x).2 = x.floor := by
  unfold rt
  rw [Rat.floor_def]
end MM
namespace MM
open PySem PySem.Spec PyProof.Rows L2

/-! ### what is made good up to a moment, hour by hour -/
theorem rle (a b : Rat) : a ≤ b ∨ b ≤ a := Rat.le_total
theorem rlt_eq {a b : Rat} (h : a ≤ b) : a < b ∨ a = b := by grind
theorem rtri (a b : Rat) : a < b ∨ a = b ∨ b < a := by grind
def cl (t : Rat) : Rat := if t < 0 then 0 else if 1 < t then 1 else t
def PP : List Int → Rat → Rat
  | [], _ => 0
  | s :: r, t => cl t * (s : Rat) + PP r (t - 1)
theorem cl_neg {t : Rat} (h : t ≤ 0) : cl t = 0 := by unfold cl; grind
theorem cl_one {t : Rat} (h : 1 ≤ t) : cl t = 1 := by unfold cl; grind
theorem cl_mid {t : Rat} (h : 0 ≤ t) (h2 : t ≤ 1) : cl t = t := by unfold cl; grind
theorem cl_mono {a b : Rat} (h : a ≤ b) : cl a ≤ cl b := by unfold cl; grind
theorem PP_neg : ∀ {S : List Int} {t : Rat}, t ≤ 0 → PP S t = 0
  | [], _, _ => rfl
  | s :: r, t, h => by
    show cl t * (s : Rat) + PP r (t - 1) = 0
    rw [cl_neg h, PP_neg (by grind)]
    grind
theorem PP_hour : ∀ {S : List Int} {k : Nat} {s : Int} {a b : Rat}, S[k]? = some s → (k : Rat) ≤ a → a ≤ b → b ≤ (k : Rat) + 1 → PP S b = PP S a + (b - a) * (s : Rat)
  | [], k, s, a, b, h, _, _, _ => by simp at h
  | s0 :: r, 0, s, a, b, h, h1, h2, h3 => by
    simp at h
    subst h
    have h1 : (0 : Rat) ≤ a := by simpa using h1
    have h3 : b ≤ 1 := by have : b ≤ ((0 : Nat) : Rat) + 1 := h3; grind
    show cl b * (s0 : Rat) + PP r (b - 1) = cl a * (s0 : Rat) + PP r (a - 1) + (b - a) * (s0 : Rat)
    rw [cl_mid (by grind) h3, cl_mid h1 (by grind), PP_neg (by grind), PP_neg (by grind)]
    grind
  | s0 :: r, k + 1, s, a, b, h, h1, h2, h3 => by
    simp at h
    have e : ((k + 1 : Nat) : Rat) = (k : Rat) + 1 := by simp
    rw [e] at h1 h3
    have hk : (0 : Rat) ≤ (k : Rat) := by exact_mod_cast Nat.zero_le k
    show cl b * (s0 : Rat) + PP r (b - 1) = cl a * (s0 : Rat) + PP r (a - 1) + (b - a) * (s : Rat)
    rw [cl_one (by grind), cl_one (by grind), PP_hour (S := r) (a := a - 1) (b := b - 1) h (by grind) (by grind) (by grind)]
    grind
theorem PP_mono : ∀ {S : List Int} {a b : Rat}, (∀ s ∈ S, 0 ≤ s) → a ≤ b → PP S a ≤ PP S b
  | [], _, _, _, _ => by simp [PP]
  | s :: r, a, b, h, hab => by
    have ih := PP_mono (S := r) (a := a - 1) (b := b - 1) (fun x hx => h x (List.mem_cons_of_mem _ hx)) (by grind)
    have hs : (0 : Rat) ≤ (s : Rat) := by exact_mod_cast h s List.mem_cons_self
    have := Rat.mul_le_mul_of_nonneg_right (cl_mono hab) hs
    show cl a * (s : Rat) + PP r (a - 1) ≤ cl b * (s : Rat) + PP r (b - 1)
    grind
/-- the speeds with an anchor, or without -/
def spd (anch : Bool) (row : List Int) : List Int := row.map fun s => cond anch (max2I 0 s) s
theorem spd_nn {row : List Int} : ∀ s ∈ spd true row, 0 ≤ s := by
  intro s hs
  unfold spd at hs
  obtain ⟨x, _, rfl⟩ := List.mem_map.mp hs
  show 0 ≤ max2I 0 x
  unfold max2I
  split <;> omega
theorem PP_dom : ∀ {row : List Int} {a b : Rat}, a ≤ b → PP (spd false row) b - PP (spd false row) a ≤ PP (spd true row) b - PP (spd true row) a
  | [], _, _, _ => by simp [spd, PP]
  | s :: r, a, b, hab => by
    have ih := PP_dom (row := r) (a := a - 1) (b := b - 1) (by grind)
    have hs : (s : Rat) ≤ ((max2I 0 s : Int) : Rat) := by
      have : s ≤ max2I 0 s := by unfold max2I; split <;> omega
      exact_mod_cast this
    have h2 : 0 ≤ cl b - cl a := by have := cl_mono hab; grind
    have := Rat.mul_le_mul_of_nonneg_left hs h2
    show cl b * (s : Rat) + PP (spd false r) (b - 1) - (cl a * (s : Rat) + PP (spd false r) (a - 1)) ≤ cl b * ((max2I 0 s : Int) : Rat) + PP (spd true r) (b - 1) - (cl a * ((max2I 0 s : Int) : Rat) + PP (spd true r) (a - 1))
    grind
/-! the first moment at which L is made good -/
def First (S : List Int) (st L e : Rat) : Prop := st ≤ e ∧ e ≤ (S.length : Rat) ∧ PP S e - PP S st = L ∧ ∀ t, st ≤ t → t < e → PP S t - PP S st < L
def Never (S : List Int) (st L : Rat) : Prop := ∀ t, st ≤ t → t ≤ (S.length : Rat) → PP S t - PP S st < L
def FP (S : List Int) (st L : Rat) : Option Rat → Prop
  | some e => First S st L e
  | none => Never S st L
theorem FP_unique {S : List Int} {st L : Rat} {r r' : Option Rat} (h : FP S st L r) (h' : FP S st L r') : r = r' := by
  cases r with
  | none =>
    cases r' with
    | none => rfl
    | some e =>
      obtain ⟨h1, h2, h3, _⟩ := (h' : First S st L e)
      have := (h : Never S st L) e h1 h2
      grind
  | some e =>
    obtain ⟨h1, h2, h3, h4⟩ := (h : First S st L e)
    cases r' with
    | none =>
      have := (h' : Never S st L) e h1 h2
      grind
    | some e' =>
      obtain ⟨k1, k2, k3, k4⟩ := (h' : First S st L e')
      congr 1
      rcases rtri e e' with z | z | z
      · have := k4 e h1 z; grind
      · exact z
      · have := h4 e' k1 z; grind
theorem hour_no {S : List Int} {k : Nat} {s : Int} {st a L : Rat} (hs : S[k]? = some s) (h1 : (k : Rat) ≤ a) (h2 : a ≤ (k : Rat) + 1) (hsa : st ≤ a) (hb : ∀ t, st ≤ t → t ≤ a → PP S t - PP S st < L) (h : PP S ((k : Rat) + 1) - PP S st < L) : ∀ t, st ≤ t → t ≤ (k : Rat) + 1 → PP S t - PP S st < L := by
  intro t ht ht2
  rcases rle t a with z | z
  · exact hb t ht z
  · have e1 := PP_hour hs h1 z ht2
    have e2 := PP_hour hs h1 h2 (by grind)
    have ea := hb a hsa (by grind)
    rcases rle (s : Rat) 0 with w | w
    · have : (t - a) * (s : Rat) ≤ 0 := by
        have := Rat.mul_le_mul_of_nonneg_left w (show 0 ≤ t - a by grind)
        grind
      grind
    · have : (t - a) * (s : Rat) ≤ ((k : Rat) + 1 - a) * (s : Rat) := Rat.mul_le_mul_of_nonneg_right (by grind) w
      grind
theorem hour_yes {S : List Int} {k : Nat} {s : Int} {st a L : Rat} (hs : S[k]? = some s) (h1 : (k : Rat) ≤ a) (h2 : a ≤ (k : Rat) + 1) (hsa : st ≤ a) (hb : ∀ t, st ≤ t → t ≤ a → PP S t - PP S st < L) (h : L ≤ PP S ((k : Rat) + 1) - PP S st) : 0 < (s : Rat) ∧ First S st L (a + (L - (PP S a - PP S st)) / (s : Rat)) ∧ a + (L - (PP S a - PP S st)) / (s : Rat) ≤ (k : Rat) + 1 := by
  have e2 := PP_hour hs h1 h2 (by grind)
  have ea := hb a hsa (by grind)
  have hp : 0 < (s : Rat) := by
    rcases rle (s : Rat) 0 with w | w
    · have : ((k : Rat) + 1 - a) * (s : Rat) ≤ 0 := by
        have := Rat.mul_le_mul_of_nonneg_left w (show 0 ≤ (k : Rat) + 1 - a by grind)
        grind
      grind
    · rcases rlt_eq w with z | z
      · exact z
      · rw [← z] at e2
        grind
  have hd : 0 < L - (PP S a - PP S st) := by grind
  have hq : (L - (PP S a - PP S st)) / (s : Rat) * (s : Rat) = L - (PP S a - PP S st) := Rat.div_mul_cancel (by grind)
  have hq0 : 0 ≤ (L - (PP S a - PP S st)) / (s : Rat) := by
    rcases rle 0 ((L - (PP S a - PP S st)) / (s : Rat)) with z | z
    · exact z
    · have := Rat.mul_le_mul_of_nonneg_right z (Rat.le_of_lt hp)
      grind
  generalize (L - (PP S a - PP S st)) / (s : Rat) = q at *
  have hle : a + q ≤ (k : Rat) + 1 := by
    rcases rle (a + q) ((k : Rat) + 1) with z | z
    · exact z
    · rcases rlt_eq z with z2 | z2
      · have := (Rat.mul_lt_mul_right hp).mpr (show (k : Rat) + 1 - a < q by grind)
        grind
      · grind
  have hkl : (k : Rat) + 1 ≤ (S.length : Rat) := by
    have hk : k < S.length := (List.getElem?_eq_some_iff.mp hs).1
    have : ((k + 1 : Nat) : Rat) ≤ ((S.length : Nat) : Rat) := by exact_mod_cast hk
    have e : ((k + 1 : Nat) : Rat) = (k : Rat) + 1 := by simp
    grind
  have e3 := PP_hour hs h1 (show a ≤ a + q by grind) hle
  refine ⟨hp, ⟨by grind, by grind, by grind, fun t ht ht2 => ?_⟩, hle⟩
  rcases rle t a with z | z
  · exact hb t ht z
  · have e4 := PP_hour hs h1 z (by grind)
    have := (Rat.mul_lt_mul_right hp).mpr (show t - a < q by grind)
    grind
end MM
namespace MM
open PySem PySem.Spec PyProof.Rows L2
/-! sizes -/
theorem PP_lin : ∀ {S : List Int} {t : Rat}, (∀ s ∈ S, s.natAbs ≤ 128) → ∃ u v : Int, PP S t = (u : Rat) + (v : Rat) * t ∧ v.natAbs ≤ 128 * S.length ∧ u.natAbs ≤ 128 * (S.length * S.length)
  | [], t, _ => ⟨0, 0, by simp [PP]; grind, by simp, by simp⟩
  | s :: r, t, h => by
    obtain ⟨u, v, e, hv, hu⟩ := PP_lin (S := r) (t := t - 1) fun x hx => h x (List.mem_cons_of_mem _ hx)
    have hs := h s List.mem_cons_self
    have hc : ∃ a b : Int, cl t * (s : Rat) = (a : Rat) + (b : Rat) * t ∧ a.natAbs ≤ 128 ∧ b.natAbs ≤ 128 := by
      by_cases h1 : t < 0
      · exact ⟨0, 0, by rw [cl_neg (by grind)]; simp; grind, by simp, by simp⟩
      · by_cases h2 : 1 < t
        · exact ⟨s, 0, by rw [cl_one (by grind)]; simp; grind, hs, by simp⟩
        · exact ⟨0, s, by rw [cl_mid (by grind) (by grind)]; simp; grind, by simp, hs⟩
    obtain ⟨a, b, e2, ha, hb⟩ := hc
    refine ⟨a + u - v, b + v, ?_, ?_, ?_⟩
    · show cl t * (s : Rat) + PP r (t - 1) = _
      rw [e, e2, Rat.intCast_sub, Rat.intCast_add, Rat.intCast_add]
      grind
    · simp only [List.length_cons]
      omega
    · simp only [List.length_cons]
      have : (r.length + 1) * (r.length + 1) = r.length * r.length + 2 * r.length + 1 := by grind
      rw [this]
      omega
theorem PP_sz {S : List Int} {t : Rat} {n : Nat} (h : ∀ s ∈ S, s.natAbs ≤ 128) (hl : S.length ≤ 40) (ht : Rz n t) : Rz (n + 41) (PP S t) := by
  obtain ⟨u, v, e, hv, hu⟩ := PP_lin (t := t) h
  rw [e]
  have h1 : S.length * S.length ≤ 40 * 40 := Nat.mul_le_mul hl hl
  have su : Sz 20 u := by
    unfold Sz
    have : (2 : Nat) ^ 20 = 1048576 := by decide
    omega
  have sv : Sz 20 v := by
    unfold Sz
    have : (2 : Nat) ^ 20 = 1048576 := by decide
    omega
  exact (rz_add (rz_int su (by omega)) (rz_mul (rz_int sv (by omega)) ht)).mono (by omega)
theorem PP_take : ∀ {S : List Int} {k : Nat} {s : Int} {t : Rat}, S[k]? = some s → PP (S.take (k + 1)) t = PP (S.take k) t + cl (t - (k : Rat)) * (s : Rat)
  | [], k, s, t, h => by simp at h
  | s0 :: r, 0, s, t, h => by
    simp at h
    subst h
    show cl t * (s0 : Rat) + PP (r.take 0) (t - 1) = PP [] t + cl (t - ((0 : Nat) : Rat)) * (s0 : Rat)
    have : t - ((0 : Nat) : Rat) = t := by simp; grind
    rw [this]
    simp [PP]
    grind
  | s0 :: r, k + 1, s, t, h => by
    simp at h
    show cl t * (s0 : Rat) + PP (r.take (k + 1)) (t - 1) = cl t * (s0 : Rat) + PP (r.take k) (t - 1) + cl (t - ((k + 1 : Nat) : Rat)) * (s : Rat)
    rw [PP_take h]
    have : t - 1 - (k : Rat) = t - ((k + 1 : Nat) : Rat) := by simp; grind
    rw [this]
    grind
theorem cl_diff {x y : Rat} {k : Rat} (h : x ≤ y) : cl (y - k) - cl (x - k) = if (if k < x then x else k) < (if y < k + 1 then y else k + 1) then (if y < k + 1 then y else k + 1) - (if k < x then x else k) else 0 := by
  unfold cl
  grind
theorem nat_rat {k : Int} (h : 0 ≤ k) : ((k.toNat : Nat) : Rat) = (k : Rat) := by
  have : ((k.toNat : Nat) : Int) = k := Int.toNat_of_nonneg h
  have h2 : (((k.toNat : Nat) : Int) : Rat) = (k : Rat) := by rw [this]
  rw [← h2]
  rfl
theorem spd_get {a : Bool} {row : List Int} {k : Nat} {s : Int} (h : row[k]? = some s) : (spd a row)[k]? = some (cond a (max2I 0 s) s) := by
  unfold spd
  rw [List.getElem?_map, h]
  rfl
theorem spd_len {a : Bool} {row : List Int} : (spd a row).length = row.length := by simp [spd]
theorem spd_sz {a : Bool} {row : List Int} (h : ∀ s ∈ row, s.natAbs ≤ 128) : ∀ s ∈ spd a row, s.natAbs ≤ 128 := by
  intro s hs
  unfold spd at hs
  obtain ⟨x, hx, rfl⟩ := List.mem_map.mp hs
  have := h x hx
  cases a with
  | true => show (max2I 0 x).natAbs ≤ 128; unfold max2I; split <;> omega
  | false => exact this
theorem speed_ok {a : Bool} {row : List Int} {k : Int} {s : Int} (h0 : 0 ≤ k) (h : row[k.toNat]? = some s) : (cond a ((atI row k).bind fun (v9 : Int) => some (max2I (0 : Int) v9)) (atI row k)) = some (cond a (max2I 0 s) s) := by
  rw [atI_of (k := k.toNat) (by omega), h]
  cases a <;> rfl
theorem floor_nn {x : Rat} (h : 0 ≤ x) : 0 ≤ x.floor := by
  have := (Rat.le_floor_iff (x := 0) (a := x)).mpr (by simpa using h)
  exact this
theorem floor_add {x : Rat} : x < (x.floor : Rat) + 1 := by
  have := Rat.lt_floor_add_one x
  rw [Rat.intCast_add] at this
  exact this
theorem floor_int {k : Int} : (k : Rat).floor = k := by simp
theorem floor_eq {x : Rat} {k : Int} (h1 : (k : Rat) ≤ x) (h2 : x < (k : Rat) + 1) : x.floor = k := by
  have a := Rat.le_floor_iff.mpr h1
  have b := Rat.floor_le x
  have c : (x.floor : Rat) < (((k + 1 : Int)) : Rat) := by rw [Rat.intCast_add]; grind
  have := Rat.intCast_lt_intCast.mp c
  omega
end MM
namespace MM
open PySem PySem.Spec PyProof.Rows L2

/-! ### what the program and the law reckon with ratios -/
theorem divisor_ok {p q : Int} : p_divisor_of p q = some ((Nat.gcd p.natAbs q.natAbs : Nat) : Int) := by
  unfold p_divisor_of
  rw [letF_eq, letF_eq, absI_nat, absI_nat, gcd_run (m := p.natAbs) (n := q.natAbs) (fun m n hn => by
    show ((modO (m : Int) (n : Int)).bind fun v => some ((n : Int), v)) = _
    rw [modO_of (by omega), fmod_nat, Option.bind_some]) (fun s => by
    show some (s.2 != 0) = _
    rfl)]
  try rfl
theorem gcd_pos {p q : Int} (hq : 0 < q) : 0 < Nat.gcd p.natAbs q.natAbs := Nat.gcd_pos_of_pos_right _ (by omega)
theorem gcd_sz {n : Nat} {p q : Int} (hq : 0 < q) (h : Sz n q) : Sz n ((Nat.gcd p.natAbs q.natAbs : Nat) : Int) := by
  unfold Sz at *
  exact Nat.lt_of_le_of_lt (Nat.gcd_le_right _ (by omega)) h
theorem ratio_ok {n : Nat} {p q : Int} (hq : 0 < q) (h : Sz n q) (hn : n < 9000) : p_ratio p q = some (rt (Rat.divInt p q)) := by
  unfold p_ratio
  have h0 := gcd_pos (p := p) hq
  rw [decide_eq_true hq, cond_true, divisor_ok, Option.bind_some, fdivO_sz (by omega) (gcd_sz hq h) hn, Option.bind_some, fdivO_sz (by omega) (gcd_sz hq h) hn, rt_divInt hq]
  rfl
theorem plus_ok {n m : Nat} {x y : Rat} (hx : Rz n x) (hy : Rz m y) (h : n + m < 9000) : p_plus (rt x) (rt y) = some (rt (x + y)) := by
  unfold p_plus rt
  simp only
  rw [mulO_sz hx.1 hy.2 (by omega), Option.bind_some, mulO_sz hy.1 hx.2 (by omega), Option.bind_some, mulO_sz hx.2 hy.2 (by omega), Option.bind_some,
    ratio_ok (Int.mul_pos (den_pos x) (den_pos y)) (hx.2.mul hy.2) h, rat_add]
  rfl
theorem minus_ok {n m : Nat} {x y : Rat} (hx : Rz n x) (hy : Rz m y) (h : n + m < 9000) : p_minus (rt x) (rt y) = some (rt (x - y)) := by
  unfold p_minus rt
  simp only
  rw [mulO_sz hx.1 hy.2 (by omega), Option.bind_some, mulO_sz hy.1 hx.2 (by omega), Option.bind_some, mulO_sz hx.2 hy.2 (by omega), Option.bind_some,
    ratio_ok (Int.mul_pos (den_pos x) (den_pos y)) (hx.2.mul hy.2) h, rat_sub]
  rfl
theorem times_ok {n m : Nat} {x y : Rat} (hx : Rz n x) (hy : Rz m y) (h : n + m < 9000) : p_times (rt x) (rt y) = some (rt (x * y)) := by
  unfold p_times rt
  simp only
  rw [mulO_sz hx.1 hy.1 (by omega), Option.bind_some, mulO_sz hx.2 hy.2 (by omega), Option.bind_some,
    ratio_ok (Int.mul_pos (den_pos x) (den_pos y)) (hx.2.mul hy.2) h, rat_mul]
  rfl
theorem over_ok {n m : Nat} {x y : Rat} (hx : Rz n x) (hy : Rz m y) (h0 : 0 < y) (h : n + m < 9000) : p_over (rt x) (rt y) = some (rt (x / y)) := by
  unfold p_over rt
  simp only
  rw [mulO_sz hx.1 hy.2 (by omega), Option.bind_some, mulO_sz hx.2 hy.1 (by omega), Option.bind_some,
    ratio_ok (Int.mul_pos (den_pos x) (num_pos h0)) (hx.2.mul hy.1) h, rat_div]
  rfl
theorem less_ok {n m : Nat} {x y : Rat} (hx : Rz n x) (hy : Rz m y) (h : n + m < 9000) : p_less (rt x) (rt y) = some (decide (x < y)) := by
  unfold p_less rt
  simp only
  rw [mulO_sz hx.1 hy.2 (by omega), Option.bind_some, mulO_sz hy.1 hx.2 (by omega), Option.bind_some, rat_lt]
theorem whole_ok2 {i : Int} : p_whole i = some (rt (i : Rat)) := by unfold p_whole; rw [rt_int]
theorem hour_ok {n : Nat} {x : Rat} (hx : Rz n x) (h : n < 9000) : p_whole_hour (rt x) = some x.floor := by
  unfold p_whole_hour
  rw [show (rt x).2 = (x.den : Int) from rfl, fdivO_sz (den_pos x) hx.2 h, show (rt x).1 / (x.den : Int) = x.floor from floor_rt]
  rfl
theorem lratio_ok {n : Nat} {p q : Int} (hq : 0 < q) (h : Sz n q) (hp : Sz n p) (hn : n < 9000) : p__law_ratio p q = some (rt (Rat.divInt p q)) := by
  unfold p__law_ratio
  have h0 := gcd_pos (p := p) hq
  rw [letF_eq, letF_eq, absI_nat, absI_nat]
  -- the steps keep to sizes that are bounded by both
  have key : ∀ m k : Nat, (m : Nat) < 2 ^ n → k < 2 ^ n → whileO (fun (s3 : (Int × Int)) => some (!decide (s3.2 = (0 : Int)))) (fun (s3 : (Int × Int)) => (fdivO s3.1 s3.2).bind fun (v4 : Int) => (mulO v4 s3.2).bind fun (v5 : Int) => letF (s3.1 - v5) fun (b6 : Int) => some (s3.2, b6)) ((m : Int), (k : Int)) = some (((Nat.gcd m k : Nat) : Int), 0) := by
    intro m k hm hk
    obtain ⟨st, e, ⟨a, b, rfl, ha, hb, hg⟩, h⟩ := whileO_ok (c := fun (s3 : (Int × Int)) => some (!decide (s3.2 = (0 : Int)))) (b := fun (s3 : (Int × Int)) => (fdivO s3.1 s3.2).bind fun (v4 : Int) => (mulO v4 s3.2).bind fun (v5 : Int) => letF (s3.1 - v5) fun (b6 : Int) => some (s3.2, b6)) (fun s => ∃ a b : Nat, s = ((a : Int), (b : Int)) ∧ a < 2 ^ n ∧ b < 2 ^ n ∧ Nat.gcd a b = Nat.gcd m k) (fun s => s.2.toNat) (fun s _ => ⟨_, rfl⟩) (fun s ⟨a, b, e, ha, hb, hg⟩ ht => by
      subst e
      have hb0 : 0 < b := by
        simp at ht
        omega
      have sa : Sz n ((a / b : Nat) : Int) := Nat.lt_of_le_of_lt (Nat.div_le_self a b) ha
      have sb : Sz n (b : Int) := hb
      refine ⟨((b : Int), ((a % b : Nat) : Int)), ?_, ⟨b, a % b, rfl, hb, Nat.lt_of_le_of_lt (Nat.le_of_lt (Nat.mod_lt a hb0)) hb, ?_⟩, ?_⟩
      · simp only
        rw [fdivO_sz (by omega) sb (by omega), Option.bind_some, ← Int.natCast_ediv, mulO_sz sa sb (by omega), Option.bind_some, letF_eq]
        congr 2
        have := Nat.div_add_mod a b
        rw [Nat.mul_comm] at this
        have h2 : ((a / b : Nat) : Int) * (b : Int) + ((a % b : Nat) : Int) = (a : Int) := by exact_mod_cast this
        omega
      · rw [← hg, Nat.gcd_comm a b, Nat.gcd_rec b a, Nat.gcd_comm]
      · have := Nat.mod_lt a hb0
        simp only [Int.toNat_natCast]
        omega) (st := ((m : Int), (k : Int))) ⟨m, k, rfl, hm, hk, rfl⟩
    have hb : b = 0 := by simp at h; omega
    subst hb
    rw [Nat.gcd_zero_right] at hg
    rw [e, hg]
    rfl
  rw [key _ _ hp h, Option.bind_some, decide_eq_true hq, cond_true]
  simp only
  rw [fdivO_sz (by omega) (gcd_sz hq h) hn, Option.bind_some, fdivO_sz (by omega) (gcd_sz hq h) hn, rt_divInt hq]
  rfl
theorem lplus_ok {n m : Nat} {x y : Rat} (hx : Rz n x) (hy : Rz m y) (h : n + m + 1 < 9000) : p__law_plus (rt x) (rt y) = some (rt (x + y)) := by
  unfold p__law_plus rt
  simp only
  rw [mulO_sz hx.1 hy.2 (by omega), Option.bind_some, mulO_sz hy.1 hx.2 (by omega), Option.bind_some, mulO_sz hx.2 hy.2 (by omega), Option.bind_some,
    lratio_ok (n := n + m + 1) (Int.mul_pos (den_pos x) (den_pos y)) ((hx.2.mul hy.2).mono (by omega)) ((hx.1.mul hy.2).add (by rw [Nat.add_comm]; exact hy.1.mul hx.2)) h, rat_add]
  rfl
theorem lless_ok {n m : Nat} {x y : Rat} (hx : Rz n x) (hy : Rz m y) (h : n + m < 9000) : p__law_less (rt x) (rt y) = some (decide (x < y)) := less_ok hx hy h
end MM
namespace MM
open PySem PySem.Spec PyProof.Rows L2

/-! ### legs in tides: the program -/
abbrev S4 := (Int × Int) × (Int × Int)
noncomputable def legC (row : List Int) : S4 → Option Bool := (fun (s2 : ((Int × Int) × (Int × Int))) => (p_whole ((row.length : Nat) : Int)).bind fun (v3 : (Int × Int)) => p_less s2.2 v3)
noncomputable def legB (row : List Int) (a : Bool) : S4 → Option (Lp (Option (Int × Int)) S4) := (fun (s2 : ((Int × Int) × (Int × Int))) => (p_whole_hour s2.2).bind fun (v5 : Int) => (cond a ((atI row v5).bind fun (v6 : Int) => some (max2I (0 : Int) v6)) (atI row v5)).bind fun (v8 : Int) => (p_whole (v5 + (1 : Int))).bind fun (v9 : (Int × Int)) => (p_minus v9 s2.2).bind fun (v10 : (Int × Int)) => (p_whole v8).bind fun (v11 : (Int × Int)) => (p_times v10 v11).bind fun (v12 : (Int × Int)) => (p_less v12 s2.1).bind fun (v13 : Bool) => cond (!v13) ((p_whole v8).bind fun (v14 : (Int × Int)) => (p_over s2.1 v14).bind fun (v15 : (Int × Int)) => (p_plus s2.2 v15).bind fun (v16 : (Int × Int)) => some (Lp.out (some v16))) ((p_minus s2.1 v12).bind fun (v17 : (Int × Int)) => (p_whole (v5 + (1 : Int))).bind fun (v18 : (Int × Int)) => some (Lp.go (v17, v18))))
theorem sz7 {i : Int} (h : i.natAbs < 128) : Sz 7 i := h
theorem sz8 {i : Int} (h : i.natAbs < 256) : Sz 8 i := h
structure RowOk (row : List Int) : Prop where
  sz : ∀ s ∈ row, s.natAbs ≤ 128
  len : row.length ≤ 40
section
variable {row : List Int} {a : Bool}
/-- what an hour is -/
theorem hour_at {x : Rat} (h0 : 0 ≤ x) (h1 : x < (row.length : Rat)) : ∃ s, row[x.floor.toNat]? = some s ∧ 0 ≤ x.floor ∧ x.floor.toNat < row.length ∧ ((x.floor.toNat : Nat) : Rat) = (x.floor : Rat) ∧ (x.floor : Rat) ≤ x ∧ x < (x.floor : Rat) + 1 := by
  have hf := floor_nn h0
  have hn := nat_rat hf
  have hle := Rat.floor_le x
  have hl : x.floor.toNat < row.length := by
    have : ((x.floor.toNat : Nat) : Rat) < ((row.length : Nat) : Rat) := by rw [hn]; grind
    exact_mod_cast this
  exact ⟨row[x.floor.toNat], List.getElem?_eq_getElem hl, hf, hl, hn, hle, floor_add⟩
theorem hour_sz {k : Int} (h0 : 0 ≤ k) (h : k ≤ 64) : Rz 7 (k : Rat) := rz_int (sz7 (by omega)) (by omega)
theorem spd_at (R : RowOk row) {k : Nat} {s : Int} (h : row[k]? = some s) : Rz 8 ((cond a (max2I 0 s) s : Int) : Rat) := by
  have := spd_sz (a := a) R.sz _ (List.mem_of_getElem? (spd_get (a := a) h))
  exact rz_int (sz8 (by omega)) (by omega)
theorem PP_szr (R : RowOk row) {n : Nat} {x : Rat} (hx : Rz n x) : Rz (n + 41) (PP (spd a row) x) := PP_sz (spd_sz R.sz) (by rw [spd_len]; exact R.len) hx
/-- the first moment at which a length is made good -/
theorem leg_end_ok (R : RowOk row) {n : Nat} {st : Rat} {L : Int} (hn : n ≤ 500) (h0 : 0 ≤ st) (h1 : st ≤ (row.length : Rat)) (zs : Rz n st) (hL : 0 < L) (hL2 : L ≤ 64) : ∃ r, p_leg_end row L (rt st) a = some (r.map rt) ∧ FP (spd a row) st (L : Rat) r ∧ ∀ e, r = some e → Rz (3 * n + 200) e := by
  show ∃ r, ((p_whole L).bind fun v1 => (whileX (legC row) (legB row a) (v1, rt st)).bind (orX (fun r => r) fun _ => some none)) = _ ∧ _
  rw [whole_ok2, Option.bind_some]
  have hlc : (((row.length : Nat) : Int) : Rat) = ((row.length : Nat) : Rat) := rfl
  have zl : Rz 7 ((row.length : Nat) : Rat) := by
    have := hour_sz (k := (row.length : Int)) (by omega) (by have := R.len; omega)
    exact this
  have key : ∀ (m : Nat) (x : Rat), ((row.length : Int) - x.floor).toNat ≤ m → st ≤ x → x ≤ (row.length : Rat) → Rz (n + 8) x → (∀ t, st ≤ t → t ≤ x → PP (spd a row) t - PP (spd a row) st < (L : Rat)) →
      ∃ r, (whileX (legC row) (legB row a) (rt ((L : Rat) - (PP (spd a row) x - PP (spd a row) st)), rt x)).bind (orX (fun (r : (Option (Int × Int))) => r) fun (st19 : ((Int × Int) × (Int × Int))) => some none) = some (r.map rt) ∧ FP (spd a row) st (L : Rat) r ∧ ∀ e, r = some e → Rz (3 * n + 200) e := by
    intro m
    induction m with
    | zero =>
      intro x hm hsx hxl zx hb
      have hx : x = (row.length : Rat) := by
        have h1 : (row.length : Int) ≤ x.floor := by omega
        have h2 : ((row.length : Int) : Rat) ≤ (x.floor : Rat) := Rat.intCast_le_intCast.mpr h1
        have := Rat.floor_le x
        have e : ((row.length : Int) : Rat) = ((row.length : Nat) : Rat) := rfl
        grind
      refine ⟨none, ?_, ?_, by simp⟩
      · rw [whileX_end]
        · rfl
        · show ((p_whole ((row.length : Nat) : Int)).bind fun v3 => p_less (rt x) v3) = _
          rw [whole_ok2, Option.bind_some, hlc, less_ok zx zl (by omega), decide_eq_false (by rw [hx]; exact Rat.lt_irrefl)]
      · intro t ht ht2
        rw [spd_len] at ht2
        exact hb t ht (by grind)
    | succ m ih =>
      intro x hm hsx hxl zx hb
      by_cases hx : x < (row.length : Rat)
      · obtain ⟨s, es, hf, hl, hn2, hle, hlt2⟩ := hour_at (row := row) (x := x) (by grind) hx
        have zf1 : Rz 7 ((x.floor + 1 : Int) : Rat) := hour_sz (by omega) (by have := R.len; omega)
        have e1 : ((x.floor + 1 : Int) : Rat) = (x.floor : Rat) + 1 := by rw [Rat.intCast_add]; rfl
        have ep := PP_hour (spd_get (a := a) es) (a := x) (b := (x.floor : Rat) + 1) (by rw [hn2]; exact hle) (by grind) (by rw [hn2]; grind)
        have zleft := rz_sub (rz_int (n := 7) (i := L) (sz7 (by omega)) (by omega)) (rz_sub (PP_szr (a := a) R zx) (PP_szr (a := a) R zs))
        have zmade := rz_mul (rz_sub zf1 zx) (spd_at (a := a) R es)
        have hc : legC row (rt ((L : Rat) - (PP (spd a row) x - PP (spd a row) st)), rt x) = some true := by
          show ((p_whole ((row.length : Nat) : Int)).bind fun v3 => p_less (rt x) v3) = _
          rw [whole_ok2, Option.bind_some, hlc, less_ok zx zl (by omega), decide_eq_true hx]
        have hmade : (((x.floor + 1 : Int) : Rat) - x) * ((cond a (max2I 0 s) s : Int) : Rat) = PP (spd a row) ((x.floor : Rat) + 1) - PP (spd a row) x := by
          rw [ep, e1]
          grind
        by_cases hd : PP (spd a row) ((x.floor : Rat) + 1) - PP (spd a row) st < (L : Rat)
        · have hb2 := hour_no (spd_get (a := a) es) (a := x) (st := st) (L := (L : Rat)) (by rw [hn2]; exact hle) (by rw [hn2]; grind) hsx hb (by rw [hn2]; exact hd)
          rw [hn2] at hb2
          have step : whileX (legC row) (legB row a) (rt ((L : Rat) - (PP (spd a row) x - PP (spd a row) st)), rt x) =
              whileX (legC row) (legB row a) (rt ((L : Rat) - (PP (spd a row) ((x.floor + 1 : Int) : Rat) - PP (spd a row) st)), rt ((x.floor + 1 : Int) : Rat)) := by
            refine whileX_go hc ?_
            show ((p_whole_hour (rt x)).bind _) = _
            rw [hour_ok zx (by omega), Option.bind_some, speed_ok hf es, Option.bind_some, whole_ok2, Option.bind_some, minus_ok zf1 zx (by omega), Option.bind_some, whole_ok2, Option.bind_some, times_ok (rz_sub zf1 zx) (spd_at R es) (by omega), Option.bind_some,
              less_ok zmade zleft (by omega), Option.bind_some, hmade, decide_eq_true (by grind), Bool.not_true, cond_false, ← hmade, minus_ok zleft zmade (by omega), Option.bind_some, Option.bind_some, hmade, e1]
            congr 4
            grind
          rw [step]
          refine ih _ ?_ (by rw [e1]; grind) ?_ (zf1.mono (by omega)) (by rw [e1]; exact hb2)
          · rw [floor_int]
            omega
          · have : ((x.floor.toNat + 1 : Nat) : Rat) ≤ ((row.length : Nat) : Rat) := by exact_mod_cast hl
            have e3 : ((x.floor.toNat + 1 : Nat) : Rat) = (x.floor : Rat) + 1 := by rw [← hn2]; simp
            rw [e1, ← e3]
            exact this
        · obtain ⟨hsp, hF, hle2⟩ := hour_yes (spd_get (a := a) es) (a := x) (st := st) (L := (L : Rat)) (by rw [hn2]; exact hle) (by rw [hn2]; grind) hsx hb (by rw [hn2]; grind)
          have zspd := spd_at (a := a) R es
          refine ⟨some _, ?_, hF, fun e he => ?_⟩
          · rw [whileX_out hc (r := some (rt (x + ((L : Rat) - (PP (spd a row) x - PP (spd a row) st)) / ((cond a (max2I 0 s) s : Int) : Rat))))]
            · rfl
            · show ((p_whole_hour (rt x)).bind _) = _
              rw [hour_ok zx (by omega), Option.bind_some, speed_ok hf es, Option.bind_some, whole_ok2, Option.bind_some, minus_ok zf1 zx (by omega), Option.bind_some, whole_ok2, Option.bind_some, times_ok (rz_sub zf1 zx) (spd_at R es) (by omega), Option.bind_some,
                less_ok zmade zleft (by omega), Option.bind_some, hmade, decide_eq_false (by grind), Bool.not_false, cond_true, Option.bind_some, over_ok zleft zspd hsp (by omega), Option.bind_some, plus_ok zx (rz_div zleft zspd hsp) (by omega), Option.bind_some]
          · cases he
            exact (rz_add zx (rz_div zleft zspd hsp)).mono (by omega)
      · have hx : x = (row.length : Rat) := by grind
        refine ⟨none, ?_, ?_, by simp⟩
        · rw [whileX_end]
          · rfl
          · show ((p_whole ((row.length : Nat) : Int)).bind fun v3 => p_less (rt x) v3) = _
            rw [whole_ok2, Option.bind_some, hlc, less_ok zx zl (by omega), decide_eq_false (by rw [hx]; exact Rat.lt_irrefl)]
        · intro t ht ht2
          rw [spd_len] at ht2
          exact hb t ht (by grind)
  have hL0 : (0 : Rat) < (L : Rat) := by exact_mod_cast hL
  have := key _ st (Nat.le_refl _) (by grind) h1 (zs.mono (by omega)) (fun t h1 h2 => by
    have : t = st := by grind
    rw [this]
    grind)
  have e0 : (L : Rat) - (PP (spd a row) st - PP (spd a row) st) = (L : Rat) := by grind
  rw [e0] at this
  exact this
end
end MM
namespace MM
open PySem PySem.Spec PyProof.Rows L2

/-! ### legs in tides: the law's hour by hour -/
noncomputable def lmB (row : List Int) (a : Bool) (st en : Int × Int) : Int → Int × Int → Option (Int × Int) := fun (k3 : Int) (s4 : (Int × Int)) => letF (k3, (1 : Int)) fun (low5 : (Int × Int)) => letF ((k3 + (1 : Int)), (1 : Int)) fun (high6 : (Int × Int)) => (p__law_less low5 st).bind fun (v7 : Bool) => letF (cond v7 st low5) fun (low8 : (Int × Int)) => (p__law_less en high6).bind fun (v9 : Bool) => letF (cond v9 en high6) fun (high10 : (Int × Int)) => (p__law_less low8 high10).bind fun (v11 : Bool) => cond v11 ((cond a ((atI row k3).bind fun (v12 : Int) => some (max2I (0 : Int) v12)) (atI row k3)).bind fun (v14 : Int) => (p__law_plus high10 ((-low8.1), low8.2)).bind fun (v15 : (Int × Int)) => (mulO v15.1 v14).bind fun (v16 : Int) => (p__law_ratio v16 v15.2).bind fun (v17 : (Int × Int)) => (p__law_plus s4 v17).bind fun (v18 : (Int × Int)) => some v18) (some s4)
theorem lmade_def {row : List Int} {a : Bool} {st en : Int × Int} : p__law_made row st en a = (rgO ((row.length : Nat) : Int)).bind fun _ => (forO (lmB row a st en) (rangeT 0 ((row.length : Nat) : Int).toNat) (0, 1)).bind fun st19 => some st19 := by
  unfold p__law_made
  rw [letF_eq]
  rfl
section
variable {row : List Int} {a : Bool}
theorem rz_ite {p : Prop} [Decidable p] {n : Nat} {x y : Rat} (hx : Rz n x) (hy : Rz n y) : Rz n (if p then x else y) := by split <;> assumption
theorem rt_pair {k : Int} : ((k : Int), (1 : Int)) = rt (k : Rat) := rt_int.symm
theorem neg_rt {x : Rat} : (-(rt x).1, (rt x).2) = rt (-x) := rt_neg
theorem cond_rt {b : Bool} {x y : Rat} : cond b (rt x) (rt y) = rt (if b = true then x else y) := by cases b <;> rfl
theorem dec_if {p : Prop} [Decidable p] {x y : Rat} : (if decide p = true then x else y) = if p then x else y := by
  by_cases h : p <;> simp [h]
theorem take_sz (R : RowOk row) {n k : Nat} {x : Rat} (hx : Rz n x) : Rz (n + 41) (PP ((spd a row).take k) x) := PP_sz (fun s hs => spd_sz R.sz s (List.mem_of_mem_take hs)) (by rw [List.length_take, spd_len]; have := R.len; omega) hx
theorem scale_ok {n m : Nat} {x : Rat} {s : Int} (hx : Rz n x) (hs : Rz m (s : Rat)) (h : n + m < 9000) : (mulO (rt x).1 s).bind (fun v16 => (p__law_ratio v16 (rt x).2).bind fun v => some v) = some (rt (x * (s : Rat))) := by
  have hs1 : Sz m s := by have := hs.1; rwa [Rat.num_intCast] at this
  show (mulO x.num s).bind (fun v16 => (p__law_ratio v16 (x.den : Int)).bind fun v => some v) = _
  rw [mulO_sz hx.1 hs1 (by omega), Option.bind_some, lratio_ok (n := n + m) (den_pos x) (hx.2.mono (by omega)) (hx.1.mul hs1) h]
  have e := rat_mul x (s : Rat)
  rw [Rat.num_intCast, Rat.den_intCast] at e
  have e2 : (x.den : Int) * ((1 : Nat) : Int) = x.den := by simp
  rw [e2] at e
  rw [e]
  rfl
theorem lmade_ok (R : RowOk row) {n : Nat} {st en : Rat} (hn : n ≤ 700) (zs : Rz n st) (ze : Rz n en) (h0 : 0 ≤ st) (h1 : st ≤ en) : p__law_made row (rt st) (rt en) a = some (rt (PP (spd a row) en - PP (spd a row) st)) := by
  rw [lmade_def, rgO_of (by have := R.len; omega) (by have := R.len; omega), Option.bind_some]
  have en2 : ((row.length : Nat) : Int).toNat = row.length := by simp
  rw [en2]
  obtain ⟨st', e, h⟩ := forO_ok (f := lmB row a (rt st) (rt en)) (xs := rangeT 0 row.length) (st := ((0 : Int), (1 : Int))) (fun i s => s = rt (PP ((spd a row).take i) en - PP ((spd a row).take i) st)) (by
    have : PP ((spd a row).take 0) en - PP ((spd a row).take 0) st = ((0 : Int) : Rat) := by simp [PP]; grind
    rw [this, rt_int]) (fun i k s hk hs => by
    subst hs
    have hi : i < row.length := by
      have := (List.getElem?_eq_some_iff.mp hk).1
      rwa [rangeT_len] at this
    have ek : k = (i : Int) := by
      rw [rangeT_get hi] at hk
      have := Option.some.inj hk
      omega
    subst ek
    have es : row[i]? = some row[i] := List.getElem?_eq_getElem hi
    have zk : Rz 7 ((i : Int) : Rat) := hour_sz (by omega) (by have := R.len; omega)
    have zk1 : Rz 7 (((i : Int) + 1 : Int) : Rat) := hour_sz (by omega) (by have := R.len; omega)
    have e1 : (((i : Int) + 1 : Int) : Rat) = ((i : Int) : Rat) + 1 := by rw [Rat.intCast_add]; rfl
    refine ⟨_, ?_, rfl⟩
    unfold lmB
    rw [letF_eq, letF_eq, rt_pair, lless_ok zk zs (by omega), Option.bind_some, letF_eq, rt_pair, lless_ok ze zk1 (by omega), Option.bind_some, letF_eq, cond_rt, cond_rt, dec_if, dec_if]
    have zlow : Rz (n + 7) (if ((i : Int) : Rat) < st then st else ((i : Int) : Rat)) := rz_ite (zs.mono (by omega)) (zk.mono (by omega))
    have zhigh : Rz (n + 7) (if en < (((i : Int) + 1 : Int) : Rat) then en else (((i : Int) + 1 : Int) : Rat)) := rz_ite (ze.mono (by omega)) (zk1.mono (by omega))
    have hcd := cl_diff (k := ((i : Int) : Rat)) h1
    rw [← e1] at hcd
    have hk3 : ((i : Nat) : Rat) = ((i : Int) : Rat) := rfl
    have t1 := PP_take (t := en) (spd_get (a := a) es)
    have t2 := PP_take (t := st) (spd_get (a := a) es)
    rw [hk3] at t1 t2
    rw [lless_ok zlow zhigh (by omega), Option.bind_some]
    generalize (if ((i : Int) : Rat) < st then st else ((i : Int) : Rat)) = low at *
    generalize (if en < (((i : Int) + 1 : Int) : Rat) then en else (((i : Int) + 1 : Int) : Rat)) = high at *
    by_cases hlt : low < high
    · rw [decide_eq_true hlt, cond_true, speed_ok (by omega) (by rw [Int.toNat_natCast]; exact es), Option.bind_some, neg_rt, lplus_ok zhigh (rz_neg zlow) (by omega), Option.bind_some]
      have zsum := rz_add zhigh (rz_neg zlow)
      have zspd := spd_at (a := a) R es
      have := scale_ok zsum zspd (by omega)
      have zold := rz_sub (take_sz (a := a) (k := i) R ze) (take_sz (a := a) (k := i) R zs)
      have fin := lplus_ok zold (rz_mul zsum zspd) (by omega)
      have e3 : ∀ (f : Int × Int → Option (Int × Int)), ((mulO (rt (high + -low)).1 (cond a (max2I 0 row[i]) row[i])).bind fun v16 => (p__law_ratio v16 (rt (high + -low)).2).bind fun v17 => f v17) = f (rt ((high + -low) * ((cond a (max2I 0 row[i]) row[i] : Int) : Rat))) := by
        intro f
        cases h5 : mulO (rt (high + -low)).1 (cond a (max2I 0 row[i]) row[i]) with
        | none => rw [h5] at this; cases this
        | some v =>
          rw [h5, Option.bind_some] at this
          rw [Option.bind_some]
          cases h6 : p__law_ratio v (rt (high + -low)).2 with
          | none => rw [h6] at this; cases this
          | some u =>
            rw [h6] at this
            rw [Option.bind_some, Option.some.inj this]
      rw [e3, fin, Option.bind_some]
      congr 2
      rw [if_pos hlt] at hcd
      rw [t1, t2]
      have : cl (en - ((i : Int) : Rat)) = cl (st - ((i : Int) : Rat)) + (high - low) := by grind
      rw [this]
      grind
    · rw [decide_eq_false hlt, cond_false]
      congr 2
      rw [if_neg hlt] at hcd
      rw [t1, t2]
      have : cl (en - ((i : Int) : Rat)) = cl (st - ((i : Int) : Rat)) := by grind
      rw [this]
      grind)
  rw [e, Option.bind_some, h, rangeT_len]
  have : (spd a row).take row.length = spd a row := List.take_of_length_le (by rw [spd_len]; exact Nat.le_refl _)
  rw [this]
/-- .. between two moments the wrong way round: nothing -/
theorem lmade_back (R : RowOk row) {n : Nat} {st en : Rat} (hn : n ≤ 700) (zs : Rz n st) (ze : Rz n en) (h1 : en < st) : p__law_made row (rt st) (rt en) a = some (0, 1) := by
  rw [lmade_def, rgO_of (by have := R.len; omega) (by have := R.len; omega), Option.bind_some]
  have en2 : ((row.length : Nat) : Int).toNat = row.length := by simp
  rw [en2]
  obtain ⟨st', e, h⟩ := forO_ok (f := lmB row a (rt st) (rt en)) (xs := rangeT 0 row.length) (st := ((0 : Int), (1 : Int))) (fun i s => s = ((0 : Int), (1 : Int))) rfl (fun i k s hk hs => by
    subst hs
    have hi : i < row.length := by
      have := (List.getElem?_eq_some_iff.mp hk).1
      rwa [rangeT_len] at this
    have ek : k = (i : Int) := by
      rw [rangeT_get hi] at hk
      have := Option.some.inj hk
      omega
    subst ek
    have zk : Rz 7 ((i : Int) : Rat) := hour_sz (by omega) (by have := R.len; omega)
    have zk1 : Rz 7 (((i : Int) + 1 : Int) : Rat) := hour_sz (by omega) (by have := R.len; omega)
    refine ⟨_, ?_, rfl⟩
    unfold lmB
    rw [letF_eq, letF_eq, rt_pair, lless_ok zk zs (by omega), Option.bind_some, letF_eq, rt_pair, lless_ok ze zk1 (by omega), Option.bind_some, letF_eq, cond_rt, cond_rt, dec_if, dec_if]
    have zlow : Rz (n + 7) (if ((i : Int) : Rat) < st then st else ((i : Int) : Rat)) := rz_ite (zs.mono (by omega)) (zk.mono (by omega))
    have zhigh : Rz (n + 7) (if en < (((i : Int) + 1 : Int) : Rat) then en else (((i : Int) + 1 : Int) : Rat)) := rz_ite (ze.mono (by omega)) (zk1.mono (by omega))
    rw [lless_ok zlow zhigh (by omega), Option.bind_some, decide_eq_false, cond_false]
    grind)
  rw [e, Option.bind_some, h]
noncomputable def leB (row : List Int) (a : Bool) (length : Int) (st : Int × Int) : Int → Unit → Option (Lp (Option (Int × Int)) Unit) := fun (k4 : Int) (s5 : Unit) => letF ((k4 + (1 : Int)), (1 : Int)) fun (high6 : (Int × Int)) => (p__law_made row st high6 a).bind fun (v7 : (Int × Int)) => (p__law_less v7 (length, (1 : Int))).bind fun (v8 : Bool) => cond (!v8) ((p__law_less (k4, (1 : Int)) st).bind fun (v9 : Bool) => letF (cond v9 st (k4, (1 : Int))) fun (low10 : (Int × Int)) => (p__law_made row st low10 a).bind fun (v11 : (Int × Int)) => (p__law_plus (length, (1 : Int)) ((-v11.1), v11.2)).bind fun (v12 : (Int × Int)) => (atI row k4).bind fun (v13 : Int) => (mulO v12.2 v13).bind fun (v14 : Int) => (p__law_ratio v12.1 v14).bind fun (v15 : (Int × Int)) => (p__law_plus low10 v15).bind fun (v16 : (Int × Int)) => some (Lp.out (some v16))) (some (Lp.go ()))
theorem lend_def {row : List Int} {a : Bool} {L : Int} {st : Int × Int} : p__law_end row L st a = (fdivO st.1 st.2).bind fun v1 => (rgO v1).bind fun _ => (rgO ((row.length : Nat) : Int)).bind fun _ => (forX (leB row a L st) (rangeT v1 (((row.length : Nat) : Int) - v1).toNat) ()).bind (orX (fun r => r) fun _ => some none) := rfl
theorem law_end_ok (R : RowOk row) {n : Nat} {st : Rat} {L : Int} (hn : n ≤ 500) (h0 : 0 ≤ st) (h1 : st ≤ (row.length : Rat)) (zs : Rz n st) (hL : 0 < L) (hL2 : L ≤ 64) : ∃ r, p__law_end row L (rt st) a = some (r.map rt) ∧ FP (spd a row) st (L : Rat) r := by
  have hf := floor_nn h0
  have hfl : st.floor ≤ (row.length : Int) := by
    have := Rat.floor_le st
    have : (st.floor : Rat) ≤ (((row.length : Nat) : Int) : Rat) := by
      have e : (((row.length : Nat) : Int) : Rat) = ((row.length : Nat) : Rat) := rfl
      grind
    exact Rat.intCast_le_intCast.mp this
  have hlen := R.len
  have hdiv : fdivO (rt st).1 (rt st).2 = some st.floor := by
    rw [show (rt st).2 = (st.den : Int) from rfl, fdivO_sz (den_pos st) zs.2 (by omega), show (rt st).1 / (st.den : Int) = st.floor from floor_rt]
  rw [lend_def, hdiv, Option.bind_some, rgO_of (by omega) (by omega), Option.bind_some, rgO_of (by omega) (by omega), Option.bind_some]
  have zL : Rz 7 (L : Rat) := rz_int (sz7 (by omega)) (by omega)
  have key : ∀ (m : Nat) (k : Int), (((row.length : Nat) : Int) - k).toNat = m → st.floor ≤ k → k ≤ (row.length : Int) → (∀ t, st ≤ t → t ≤ (if (k : Rat) < st then st else (k : Rat)) → PP (spd a row) t - PP (spd a row) st < (L : Rat)) →
      ∃ r, ((forX (leB row a L (rt st)) (rangeT k m) ()).bind (orX (fun r => r) fun _ => some none)) = some (r.map rt) ∧ FP (spd a row) st (L : Rat) r := by
    intro m
    induction m with
    | zero =>
      intro k hm hk hk2 hb
      refine ⟨none, rfl, fun t ht ht2 => ?_⟩
      have ek : k = (row.length : Int) := by omega
      rw [spd_len] at ht2
      refine hb t ht ?_
      have e : ((k : Int) : Rat) = ((row.length : Nat) : Rat) := by rw [ek]; rfl
      rw [e]
      split <;> grind
    | succ m ih =>
      intro k hm hk hk2 hb
      have hkl : k.toNat < row.length := by omega
      have es : row[k.toNat]? = some row[k.toNat] := List.getElem?_eq_getElem hkl
      have hn2 : ((k.toNat : Nat) : Rat) = (k : Rat) := nat_rat (by omega)
      have zk : Rz 7 (k : Rat) := hour_sz (by omega) (by omega)
      have zk1 : Rz 7 ((k + 1 : Int) : Rat) := hour_sz (by omega) (by omega)
      have e1 : ((k + 1 : Int) : Rat) = (k : Rat) + 1 := by rw [Rat.intCast_add]; rfl
      have hst1 : st < (k : Rat) + 1 := by
        have h3 : st < (st.floor : Rat) + 1 := floor_add
        have h4 : (st.floor : Rat) ≤ (k : Rat) := Rat.intCast_le_intCast.mpr hk
        grind
      have emade : p__law_made row (rt st) (k + 1, 1) a = some (rt (PP (spd a row) ((k : Rat) + 1) - PP (spd a row) st)) := by
        have := lmade_ok (a := a) R (n := n + 7) (st := st) (en := ((k + 1 : Int) : Rat)) (by omega) (zs.mono (by omega)) (zk1.mono (by omega)) h0 (by rw [e1]; grind)
        rw [rt_int, e1] at this
        exact this
      have zmade : Rz (n + 7 + 41 + (n + 41) + 1) (PP (spd a row) ((k : Rat) + 1) - PP (spd a row) st) := by
        have z1 : Rz (n + 7) ((k : Rat) + 1) := by rw [← e1]; exact zk1.mono (by omega)
        exact rz_sub (PP_szr R z1) (PP_szr R zs)
      rw [rangeT_succ, forX_cons]
      by_cases hd : PP (spd a row) ((k : Rat) + 1) - PP (spd a row) st < (L : Rat)
      · have step : leB row a L (rt st) k () = some (.go ()) := by
          unfold leB
          rw [letF_eq, emade, Option.bind_some, rt_pair, lless_ok zmade zL (by omega), Option.bind_some, decide_eq_true hd, Bool.not_true, cond_false]
        rw [step, Option.bind_some, lpK_go]
        refine ih (k + 1) (by omega) (by omega) (by omega) ?_
        have ha : (k : Rat) ≤ (if (k : Rat) < st then st else (k : Rat)) := by split <;> grind
        have ha2 : (if (k : Rat) < st then st else (k : Rat)) ≤ (k : Rat) + 1 := by split <;> grind
        have ha3 : st ≤ (if (k : Rat) < st then st else (k : Rat)) := by split <;> grind
        have hb2 := hour_no (spd_get (a := a) es) (st := st) (L := (L : Rat)) (by rw [hn2]; exact ha) (by rw [hn2]; exact ha2) ha3 hb (by rw [hn2]; exact hd)
        rw [hn2] at hb2
        intro t ht ht2
        refine hb2 t ht ?_
        rw [e1] at ht2
        revert ht2
        split
        · intro _; grind
        · intro h; exact h
      · have ha : (k : Rat) ≤ (if (k : Rat) < st then st else (k : Rat)) := by split <;> grind
        have ha2 : (if (k : Rat) < st then st else (k : Rat)) ≤ (k : Rat) + 1 := by split <;> grind
        have ha3 : st ≤ (if (k : Rat) < st then st else (k : Rat)) := by split <;> grind
        have zlow : Rz (n + 7) (if (k : Rat) < st then st else (k : Rat)) := rz_ite (zs.mono (by omega)) (zk.mono (by omega))
        obtain ⟨hsp, hF, hle2⟩ := hour_yes (spd_get (a := a) es) (st := st) (L := (L : Rat)) (by rw [hn2]; exact ha) (by rw [hn2]; exact ha2) ha3 hb (by rw [hn2]; grind)
        -- the speed is the row's own
        have hown : (cond a (max2I 0 row[k.toNat]) row[k.toNat] : Int) = row[k.toNat] := by
          cases a with
          | false => rfl
          | true =>
            show max2I 0 row[k.toNat] = row[k.toNat]
            have h5 : (0 : Int) < max2I 0 row[k.toNat] := by
              have : ((0 : Int) : Rat) < ((max2I 0 row[k.toNat] : Int) : Rat) := hsp
              exact Rat.intCast_lt_intCast.mp this
            unfold max2I at *
            split at h5
            · rw [if_pos (by assumption)]
            · omega
        rw [hown] at hsp hF hle2
        have zspd : Rz 8 ((row[k.toNat] : Int) : Rat) := by have := spd_at (a := a) R es; rwa [hown] at this
        have spos : 0 < row[k.toNat] := by
          have : ((0 : Int) : Rat) < ((row[k.toNat] : Int) : Rat) := hsp
          exact Rat.intCast_lt_intCast.mp this
        refine ⟨some _, ?_, hF⟩
        have elow := lmade_ok (a := a) R (n := n + 7) (st := st) (en := (if (k : Rat) < st then st else (k : Rat))) (by omega) (zs.mono (by omega)) zlow h0 ha3
        have zl2 := rz_sub (PP_szr (a := a) R zlow) (PP_szr (a := a) R zs)
        have zrest := rz_add zL (rz_neg zl2)
        have hover : ∀ x : Rat, ∀ N : Nat, Rz N x → N + 8 < 8000 → ∀ (f : Int × Int → Option (Lp (Option (Int × Int)) Unit)), ((mulO (rt x).2 row[k.toNat]).bind fun v14 => (p__law_ratio (rt x).1 v14).bind fun v15 => f v15) = f (rt (x / ((row[k.toNat] : Int) : Rat))) := by
          intro x N zx hN f
          have hs1 : Sz 8 row[k.toNat] := by have := zspd.1; rwa [Rat.num_intCast] at this
          show ((mulO (x.den : Int) row[k.toNat]).bind fun v14 => (p__law_ratio x.num v14).bind fun v15 => f v15) = _
          rw [mulO_sz zx.2 hs1 (by omega), Option.bind_some, lratio_ok (n := N + 8) (Int.mul_pos (den_pos x) spos) (zx.2.mul hs1) (zx.1.mono (by omega)) (by omega), Option.bind_some]
          have e := rat_div x ((row[k.toNat] : Int) : Rat)
          rw [Rat.num_intCast, Rat.den_intCast] at e
          have e2 : x.num * ((1 : Nat) : Int) = x.num := by simp
          rw [e2] at e
          rw [e]
        have hsub : (L : Rat) + -(PP (spd a row) (if (k : Rat) < st then st else (k : Rat)) - PP (spd a row) st) = (L : Rat) - (PP (spd a row) (if (k : Rat) < st then st else (k : Rat)) - PP (spd a row) st) := by grind
        have step : leB row a L (rt st) k () = some (.out (some (rt ((if (k : Rat) < st then st else (k : Rat)) + ((L : Rat) - (PP (spd a row) (if (k : Rat) < st then st else (k : Rat)) - PP (spd a row) st)) / ((row[k.toNat] : Int) : Rat))))) := by
          unfold leB
          rw [letF_eq, emade, Option.bind_some, rt_pair (k := L), lless_ok zmade zL (by omega), Option.bind_some, decide_eq_false hd, Bool.not_false, cond_true, rt_pair (k := k), lless_ok zk zs (by omega), Option.bind_some, letF_eq, cond_rt, dec_if, elow, Option.bind_some, neg_rt, lplus_ok zL (rz_neg zl2) (by omega), Option.bind_some, atI_of (k := k.toNat) (by omega), es, Option.bind_some, hover _ _ zrest (by omega), lplus_ok zlow (rz_div zrest zspd hsp) (by omega), Option.bind_some, hsub]
        rw [step, Option.bind_some, lpK_out]
        rfl
  have hL0 : (0 : Rat) < (L : Rat) := by exact_mod_cast hL
  exact key _ st.floor rfl (by omega) hfl (fun t ht ht2 => by
    have h3 := Rat.floor_le st
    have : t = st := by
      revert ht2
      split <;> grind
    rw [this]
    grind)
end
end MM
namespace MM
open PySem PySem.Spec PyProof.Rows L2

/-! ### the latest start -/
noncomputable def lsC : S4 → Option Bool := fun s2 => (p_whole (0 : Int)).bind fun (v3 : (Int × Int)) => p_less v3 s2.2
noncomputable def lsB (row : List Int) : S4 → Option (Lp (Option (Int × Int)) S4) := fun s2 => (cond (decide ((1 : Int) < s2.2.2)) (p_whole_hour s2.2) (some (s2.2.1 - (1 : Int)))).bind fun (v6 : Int) => (atI row v6).bind fun (v7 : Int) => letF (max2I (0 : Int) v7) fun (speed8 : Int) => (p_whole v6).bind fun (v9 : (Int × Int)) => (p_minus s2.2 v9).bind fun (v10 : (Int × Int)) => (p_whole speed8).bind fun (v11 : (Int × Int)) => (p_times v10 v11).bind fun (v12 : (Int × Int)) => (p_less v12 s2.1).bind fun (v13 : Bool) => cond (!v13) ((p_whole speed8).bind fun (v14 : (Int × Int)) => (p_over s2.1 v14).bind fun (v15 : (Int × Int)) => (p_minus s2.2 v15).bind fun (v16 : (Int × Int)) => some (Lp.out (some v16))) ((p_minus s2.1 v12).bind fun (v17 : (Int × Int)) => (p_whole v6).bind fun (v18 : (Int × Int)) => some (Lp.go (v17, v18)))
theorem latest_def {row : List Int} {L : Int} {en : Int × Int} : p_latest_start row L en = (p_whole L).bind fun v1 => (whileX lsC (lsB row) (v1, en)).bind (orX (fun r => r) fun _ => some none) := by
  unfold p_latest_start
  rfl
/-- the last moment from which L is made good by en -/
def Last (S : List Int) (en L s : Rat) : Prop := 0 ≤ s ∧ s ≤ en ∧ PP S en - PP S s = L ∧ ∀ t, s < t → t ≤ en → PP S en - PP S t < L
def NeverL (S : List Int) (en L : Rat) : Prop := ∀ t, 0 ≤ t → t ≤ en → PP S en - PP S t < L
def LP (S : List Int) (en L : Rat) : Option Rat → Prop
  | some s => Last S en L s
  | none => NeverL S en L
/-- the hour that ends at a moment above nought or lies around it -/
theorem hour_back {n : Nat} {x : Rat} (zx : Rz n x) (hn : n < 9000) (h0 : 0 < x) : ∃ k : Int, cond (decide ((1 : Int) < (rt x).2)) (p_whole_hour (rt x)) (some ((rt x).1 - (1 : Int))) = some k ∧ 0 ≤ k ∧ (k : Rat) < x ∧ x ≤ (k : Rat) + 1 := by
  by_cases hd : 1 < (rt x).2
  · rw [decide_eq_true hd, cond_true, hour_ok zx hn]
    refine ⟨x.floor, rfl, floor_nn (by grind), ?_, ?_⟩
    · have h1 := Rat.floor_le x
      rcases rlt_eq h1 with z | z
      · exact z
      · have : x.den = 1 := by rw [← z]; exact Rat.den_intCast _
        have h2 : (rt x).2 = (x.den : Int) := rfl
        rw [h2, this] at hd
        omega
    · have h2 : x < (x.floor : Rat) + 1 := floor_add
      grind
  · rw [decide_eq_false hd, cond_false]
    have h2 : (rt x).2 = (x.den : Int) := rfl
    have hp := den_pos x
    have hden : x.den = 1 := by
      rw [h2] at hd
      omega
    have hx : x = (x.num : Rat) := Rat.ext (by rw [Rat.num_intCast]) (by rw [Rat.den_intCast, hden])
    have hnum := num_pos h0
    refine ⟨x.num - 1, rfl, by omega, ?_, ?_⟩
    · rw [Rat.intCast_sub]
      have : ((1 : Int) : Rat) = 1 := rfl
      grind
    · rw [Rat.intCast_sub]
      have : ((1 : Int) : Rat) = 1 := rfl
      grind
section
variable {row : List Int}
theorem latest_ok (R : RowOk row) {n : Nat} {en : Rat} {L : Int} (hn : n ≤ 500) (h0 : 0 ≤ en) (h1 : en ≤ (row.length : Rat)) (ze : Rz n en) (hL : 0 < L) (hL2 : L ≤ 64) : ∃ r, p_latest_start row L (rt en) = some (r.map rt) ∧ LP (spd true row) en (L : Rat) r ∧ ∀ e, r = some e → Rz (3 * n + 200) e := by
  rw [latest_def, whole_ok2, Option.bind_some]
  have key : ∀ (m : Nat) (x : Rat), x ≤ (m : Rat) → 0 ≤ x → x ≤ en → Rz (n + 8) x → (∀ t, x ≤ t → t ≤ en → PP (spd true row) en - PP (spd true row) t < (L : Rat)) →
      ∃ r, (whileX lsC (lsB row) (rt ((L : Rat) - (PP (spd true row) en - PP (spd true row) x)), rt x)).bind (orX (fun r => r) fun _ => some none) = some (r.map rt) ∧ LP (spd true row) en (L : Rat) r ∧ ∀ e, r = some e → Rz (3 * n + 200) e := by
    intro m
    have zero : ∀ x : Rat, x = 0 → (∀ t, x ≤ t → t ≤ en → PP (spd true row) en - PP (spd true row) t < (L : Rat)) → Rz (n + 8) x → ∃ r, (whileX lsC (lsB row) (rt ((L : Rat) - (PP (spd true row) en - PP (spd true row) x)), rt x)).bind (orX (fun r => r) fun _ => some none) = some (r.map rt) ∧ LP (spd true row) en (L : Rat) r ∧ ∀ e, r = some e → Rz (3 * n + 200) e := by
      intro x hx hb zx
      refine ⟨none, ?_, fun t ht ht2 => hb t (by grind) ht2, by simp⟩
      rw [whileX_end (show lsC (rt ((L : Rat) - (PP (spd true row) en - PP (spd true row) x)), rt x) = some false from ?_)]
      · rfl
      · show ((p_whole 0).bind fun v3 => p_less v3 (rt x)) = _
        rw [whole_ok2, Option.bind_some, less_ok (hour_sz (k := 0) (by omega) (by omega)) zx (by omega), decide_eq_false]
        rw [hx]
        exact Rat.lt_irrefl
    induction m with
    | zero =>
      intro x hm hx0 hxe zx hb
      have : x = 0 := by
        have : ((0 : Nat) : Rat) = 0 := rfl
        grind
      exact zero x this hb zx
    | succ m ih =>
      intro x hm hx0 hxe zx hb
      by_cases hx : 0 < x
      · obtain ⟨k, ek, hk0, hkx, hxk⟩ := hour_back zx (by omega) hx
        have hn2 : ((k.toNat : Nat) : Rat) = (k : Rat) := nat_rat hk0
        have hkl : k.toNat < row.length := by
          have : ((k.toNat : Nat) : Rat) < ((row.length : Nat) : Rat) := by rw [hn2]; grind
          exact_mod_cast this
        have hlen := R.len
        have es : row[k.toNat]? = some row[k.toNat] := List.getElem?_eq_getElem hkl
        have zk : Rz 7 (k : Rat) := hour_sz hk0 (by omega)
        have eP := PP_hour (spd_get (a := true) es) (a := (k : Rat)) (b := x) (by rw [hn2]; exact Rat.le_refl) (by grind) (by rw [hn2]; exact hxk)
        have zspd := spd_at (a := true) R es
        have espd : (cond true (max2I 0 row[k.toNat]) row[k.toNat] : Int) = max2I 0 row[k.toNat] := rfl
        rw [espd] at eP zspd
        have zleft := rz_sub (rz_int (n := 7) (i := L) (sz7 (by omega)) (by omega)) (rz_sub (PP_szr (a := true) R ze) (PP_szr (a := true) R zx))
        have zmade := rz_mul (rz_sub zx zk) zspd
        have hmade : (x - (k : Rat)) * ((max2I 0 row[k.toNat] : Int) : Rat) = PP (spd true row) x - PP (spd true row) (k : Rat) := by rw [eP]; grind
        have hnn : (0 : Rat) ≤ ((max2I 0 row[k.toNat] : Int) : Rat) := by
          have : (0 : Int) ≤ max2I 0 row[k.toNat] := by unfold max2I; split <;> omega
          exact_mod_cast this
        have hc : lsC (rt ((L : Rat) - (PP (spd true row) en - PP (spd true row) x)), rt x) = some true := by
          show ((p_whole 0).bind fun v3 => p_less v3 (rt x)) = _
          rw [whole_ok2, Option.bind_some, less_ok (hour_sz (k := 0) (by omega) (by omega)) zx (by omega), decide_eq_true]
          exact hx
        have hour : ∀ t, (k : Rat) ≤ t → t ≤ x → PP (spd true row) x = PP (spd true row) t + (x - t) * ((max2I 0 row[k.toNat] : Int) : Rat) := fun t ht ht2 => PP_hour (spd_get (a := true) es) (by rw [hn2]; exact ht) ht2 (by rw [hn2]; exact hxk)
        by_cases hd : PP (spd true row) en - PP (spd true row) (k : Rat) < (L : Rat)
        · have step : whileX lsC (lsB row) (rt ((L : Rat) - (PP (spd true row) en - PP (spd true row) x)), rt x) = whileX lsC (lsB row) (rt ((L : Rat) - (PP (spd true row) en - PP (spd true row) (k : Rat))), rt (k : Rat)) := by
            refine whileX_go hc ?_
            unfold lsB
            rw [show ((rt ((L : Rat) - (PP (spd true row) en - PP (spd true row) x)), rt x) : S4).2 = rt x from rfl, ek, Option.bind_some, atI_of (k := k.toNat) (by omega), es, Option.bind_some, letF_eq, whole_ok2, Option.bind_some, minus_ok zx zk (by omega), Option.bind_some, whole_ok2, Option.bind_some, times_ok (rz_sub zx zk) zspd (by omega), Option.bind_some]
            rw [show ((rt ((L : Rat) - (PP (spd true row) en - PP (spd true row) x)), rt x) : S4).1 = rt ((L : Rat) - (PP (spd true row) en - PP (spd true row) x)) from rfl, less_ok zmade zleft (by omega), Option.bind_some, hmade, decide_eq_true (by grind), Bool.not_true, cond_false, ← hmade, minus_ok zleft zmade (by omega), Option.bind_some, Option.bind_some, hmade]
            have e9 : (L : Rat) - (PP (spd true row) en - PP (spd true row) x) - (PP (spd true row) x - PP (spd true row) (k : Rat)) = (L : Rat) - (PP (spd true row) en - PP (spd true row) (k : Rat)) := by grind
            rw [e9]
          rw [step]
          refine ih _ ?_ (by exact_mod_cast hk0) (by grind) (zk.mono (by omega)) (fun t ht ht2 => ?_)
          · have h5 : ((k : Int) : Rat) < (((m + 1 : Nat) : Int) : Rat) := by
              have : (((m + 1 : Nat) : Int) : Rat) = ((m + 1 : Nat) : Rat) := rfl
              grind
            have h6 := Rat.intCast_lt_intCast.mp h5
            have h7 : k ≤ (m : Int) := by omega
            have h8 : ((k : Int) : Rat) ≤ (((m : Nat) : Int) : Rat) := Rat.intCast_le_intCast.mpr h7
            exact h8
          · rcases rle x t with z | z
            · exact hb t z ht2
            · have e2 := hour t ht z
              have : (x - t) * ((max2I 0 row[k.toNat] : Int) : Rat) ≤ (x - (k : Rat)) * ((max2I 0 row[k.toNat] : Int) : Rat) := Rat.mul_le_mul_of_nonneg_right (by grind) hnn
              grind
        · have hd0 : 0 < (L : Rat) - (PP (spd true row) en - PP (spd true row) x) := by
            have := hb x (by grind) hxe
            grind
          have hsp : 0 < ((max2I 0 row[k.toNat] : Int) : Rat) := by
            rcases rlt_eq hnn with z | z
            · exact z
            · rw [← z] at hmade
              grind
          have hq : ((L : Rat) - (PP (spd true row) en - PP (spd true row) x)) / ((max2I 0 row[k.toNat] : Int) : Rat) * ((max2I 0 row[k.toNat] : Int) : Rat) = (L : Rat) - (PP (spd true row) en - PP (spd true row) x) := Rat.div_mul_cancel (by grind)
          have zq := rz_div zleft zspd hsp
          refine ⟨some (x - ((L : Rat) - (PP (spd true row) en - PP (spd true row) x)) / ((max2I 0 row[k.toNat] : Int) : Rat)), ?_, ?_, fun e he => ?_⟩
          · rw [whileX_out hc (r := some (rt (x - ((L : Rat) - (PP (spd true row) en - PP (spd true row) x)) / ((max2I 0 row[k.toNat] : Int) : Rat))))]
            · rfl
            · unfold lsB
              rw [show ((rt ((L : Rat) - (PP (spd true row) en - PP (spd true row) x)), rt x) : S4).2 = rt x from rfl, ek, Option.bind_some, atI_of (k := k.toNat) (by omega), es, Option.bind_some, letF_eq, whole_ok2, Option.bind_some, minus_ok zx zk (by omega), Option.bind_some, whole_ok2, Option.bind_some, times_ok (rz_sub zx zk) zspd (by omega), Option.bind_some]
              rw [show ((rt ((L : Rat) - (PP (spd true row) en - PP (spd true row) x)), rt x) : S4).1 = rt ((L : Rat) - (PP (spd true row) en - PP (spd true row) x)) from rfl, less_ok zmade zleft (by omega), Option.bind_some, hmade, decide_eq_false (by grind), Bool.not_false, cond_true, Option.bind_some, over_ok zleft zspd hsp (by omega), Option.bind_some, minus_ok zx zq (by omega), Option.bind_some]
          · generalize ((L : Rat) - (PP (spd true row) en - PP (spd true row) x)) / ((max2I 0 row[k.toNat] : Int) : Rat) = q at *
            have hq0 : 0 < q := by
              rcases rle q 0 with z | z
              · have := Rat.mul_le_mul_of_nonneg_right z hnn
                grind
              · rcases rlt_eq z with w | w
                · exact w
                · rw [← w] at hq
                  grind
            have hqk : q ≤ x - (k : Rat) := by
              rcases rle q (x - (k : Rat)) with z | z
              · exact z
              · rcases rlt_eq z with w | w
                · have := (Rat.mul_lt_mul_right hsp).mpr w
                  grind
                · grind
            have hkr : (0 : Rat) ≤ (k : Rat) := by exact_mod_cast hk0
            have e3 := hour (x - q) (by grind) (by grind)
            refine ⟨by grind, by grind, by grind, fun t ht ht2 => ?_⟩
            rcases rle x t with z | z
            · exact hb t z ht2
            · have e2 := hour t (by grind) z
              have := (Rat.mul_lt_mul_right hsp).mpr (show x - t < q by grind)
              grind
          · cases he
            exact (rz_sub zx zq).mono (by omega)
      · exact zero x (by grind) hb zx
  have hL0 : (0 : Rat) < (L : Rat) := by exact_mod_cast hL
  have := key row.length en h1 h0 (by grind) (ze.mono (by omega)) (fun t h1 h2 => by
    have : t = en := by grind
    rw [this]
    grind)
  have e0 : (L : Rat) - (PP (spd true row) en - PP (spd true row) en) = (L : Rat) := by grind
  rw [e0] at this
  exact this
end
end MM
namespace MM
open PySem PySem.Spec PyProof.Rows L2

/-! ### the row, the starts, and what is the same -/
theorem same_pair {p : Int × Int} : sameO ((eT2 eI eI) p) ((eT2 eI eI) p) = some true := by
  have h : okb (p.1.natAbs + p.2.natAbs + 2) 70 ((eT2 eI eI) p) = true := by
    show okb (p.1.natAbs + p.2.natAbs + 2) (69 + 1) (.tup [.int p.1, .int p.2]) = true
    rw [okb_tup]
    refine ⟨fun x hx => ?_, by simp⟩
    simp at hx
    rcases hx with rfl | rfl <;> (rw [okb_int]; omega)
  have h2 : okD 70 ((eT2 eI eI) p) = true := rfl
  unfold sameO
  rw [h2, sameN_refl h]
  rfl
theorem same_opt {p : Option (Int × Int)} : sameO ((eO (eT2 eI eI)) p) ((eO (eT2 eI eI)) p) = some true := by
  cases p with
  | none => rfl
  | some p => exact same_pair
theorem same_bl {k : Bool} : sameO (eB k) (eB k) = some true := by show sameO (.bl k) (.bl k) = _; rw [sameO_bl]; simp
theorem same_ints {xs : List Int} {B : Nat} (h : ∀ x ∈ xs, x.natAbs ≤ B) (hl : xs.length ≤ B) (hB : B ≤ 16777216) : sameO ((eS eI) xs) ((eS eI) xs) = some true := by
  refine sameO_refl (B := B) (n := 2) ?_ (by omega) hB
  show okb B 2 (.tup (xs.map eI)) = true
  rw [okb_tup]
  refine ⟨fun x hx => ?_, by simpa using hl⟩
  obtain ⟨z, hz, rfl⟩ := List.mem_map.mp hx
  show okb B 1 (.int z) = true
  rw [okb_int]
  exact h z hz
theorem compG_some {α β : Type} {c : α → Option Bool} {f : α → Option β} {g : α → Bool} {h : α → β} : ∀ {xs : List α}, (∀ x ∈ xs, c x = some (g x)) → (∀ x ∈ xs, f x = some (h x)) → compG c f xs = some ((xs.filter g).map h)
  | [], _, _ => rfl
  | x :: r, hc, hf => by
    have ih := compG_some (xs := r) (fun y hy => hc y (List.mem_cons_of_mem _ hy)) (fun y hy => hf y (List.mem_cons_of_mem _ hy))
    unfold compG
    rw [hc x List.mem_cons_self, Option.bind_some]
    cases hg : g x with
    | true =>
      simp only [List.filter_cons, hg, if_true, List.map_cons]
      rw [hf x List.mem_cons_self, Option.bind_some, ih]
      rfl
    | false =>
      simp only [List.filter_cons, hg]
      exact ih
theorem compO_some {α β : Type} {c : α → Option Bool} {f : α → Option β} {g : α → Bool} {h : α → β} {xs : List α} (hc : ∀ x ∈ xs, c x = some (g x)) (hf : ∀ x ∈ xs, f x = some (h x)) (hz : xs.length ≤ 16777216) : compO c f xs = some ((xs.filter g).map h) := by
  unfold compO
  rw [compG_some hc hf]
  refine capL_of ?_
  rw [List.length_map]
  exact Nat.le_trans (List.length_filter_le _ _) hz
theorem row_ok66 {h : Int} {b : Bx} (B : b.Ok) (h0 : 1 ≤ h) (h1 : h ≤ 8) : ∃ row b', p__law_row b h = some (row, b') ∧ b'.Ok ∧ row.length = h.toNat ∧ ∀ s ∈ row, -2 ≤ s ∧ s ≤ 4 := by
  unfold p__law_row
  rw [rgO_of (by omega) (by omega), Option.bind_some]
  obtain ⟨ys, b', e, B', l, P⟩ := mapS_ok (f := fun (x2 : Int) (b4 : Bx) => (drawO b4 (7 : Int)).bind fun (q5 : (Int × Bx)) => some ((q5.1 - (2 : Int)), q5.2)) (P := fun s => -2 ≤ s ∧ s ≤ 4) Bx.Ok (xs := rangeT 0 h.toNat) B (by rw [rangeT_len]; omega) (fun x _ b hb => by
    obtain ⟨k, b', e, h1, h2, hb'⟩ := drawO_ok hb (m := 7) (by omega) (by omega)
    exact ⟨k - 2, b', by rw [e]; rfl, by omega, hb'⟩)
  rw [e, Option.bind_some]
  rw [rangeT_len] at l
  exact ⟨ys, b', rfl, B', l, P⟩
theorem rowOk_of {row : List Int} (h : ∀ s ∈ row, -2 ≤ s ∧ s ≤ 4) (hl : row.length ≤ 8) : RowOk row := ⟨fun s hs => by have := h s hs; omega, by omega⟩
/-- a moment of the row -/
def Mom (row : List Int) (y : Int × Int) : Prop := ∃ x : Rat, y = rt x ∧ 0 ≤ x ∧ x ≤ (row.length : Rat) ∧ Rz 7 x
theorem start_ok {q : Int} {k : Nat} (h0 : 0 ≤ q) (h1 : q ≤ 6 * (k : Int)) (hk : k ≤ 8) : ∃ x : Rat, p__law_ratio q 6 = some (rt x) ∧ 0 ≤ x ∧ x ≤ (k : Rat) ∧ Rz 7 x := by
  have z6 : Sz 7 (6 : Int) := sz7 (by omega)
  have zq : Sz 7 q := sz7 (by omega)
  refine ⟨Rat.divInt q 6, lratio_ok (n := 7) (by omega) z6 zq (by omega), ?_, ?_, divInt_sz (by omega) zq z6⟩
  · rw [Rat.divInt_eq_div]
    have a : (0 : Rat) ≤ (q : Rat) := by exact_mod_cast h0
    have b : ((6 : Int) : Rat) = 6 := rfl
    grind
  · rw [Rat.divInt_eq_div]
    have a : (q : Rat) ≤ ((6 * (k : Int) : Int) : Rat) := by exact_mod_cast h1
    have b : ((6 : Int) : Rat) = 6 := rfl
    have c : ((6 * (k : Int) : Int) : Rat) = 6 * (k : Rat) := by rw [Rat.intCast_mul]; rfl
    grind
end MM
namespace MM
open PySem PySem.Spec PyProof.Rows L2

/-! ### ends as a function -/
noncomputable def En (S : List Int) (x L : Rat) : Option Rat := Classical.epsilon (FP S x L)
structure Vd (row : List Int) (x : Rat) : Prop where
  z0 : 0 ≤ x
  z1 : x ≤ (row.length : Rat)
  sz : Rz 221 x
section
variable {row : List Int} {a : Bool}
theorem ends_ok (R : RowOk row) {n : Nat} {st : Rat} {L : Int} (hn : n ≤ 500) (h0 : 0 ≤ st) (h1 : st ≤ (row.length : Rat)) (zs : Rz n st) (hL : 0 < L) (hL2 : L ≤ 64) : ∃ r, p__law_end row L (rt st) a = some (r.map rt) ∧ p_leg_end row L (rt st) a = some (r.map rt) ∧ FP (spd a row) st (L : Rat) r ∧ ∀ e, r = some e → Rz (3 * n + 200) e := by
  obtain ⟨r, e1, f1⟩ := law_end_ok (a := a) R hn h0 h1 zs hL hL2
  obtain ⟨r', e2, f2, z⟩ := leg_end_ok (a := a) R hn h0 h1 zs hL hL2
  have := FP_unique f1 f2
  subst this
  exact ⟨r, e1, e2, f1, z⟩
theorem en_ok (R : RowOk row) {x : Rat} {L : Int} (V : Vd row x) (hL : 0 < L) (hL2 : L ≤ 64) : p__law_end row L (rt x) a = some ((En (spd a row) x L).map rt) ∧ p_leg_end row L (rt x) a = some ((En (spd a row) x L).map rt) ∧ FP (spd a row) x (L : Rat) (En (spd a row) x L) ∧ ∀ e, En (spd a row) x L = some e → Rz 863 e := by
  obtain ⟨r, e1, e2, f, z⟩ := ends_ok (a := a) R (by omega : 221 ≤ 500) V.z0 V.z1 V.sz hL hL2
  have hE : FP (spd a row) x (L : Rat) (En (spd a row) x L) := Classical.epsilon_spec (p := FP (spd a row) x (L : Rat)) ⟨r, f⟩
  have := FP_unique hE f
  rw [this]
  exact ⟨e1, e2, f, z⟩
theorem reach {S : List Int} {x L t : Rat} {r : Option Rat} (F : FP S x L r) (h0 : x ≤ t) (h1 : t ≤ (S.length : Rat)) (h : L ≤ PP S t - PP S x) : ∃ e, r = some e ∧ e ≤ t ∧ (L < PP S t - PP S x → e < t) := by
  cases r with
  | none =>
    have := (F : Never S x L) t h0 h1
    grind
  | some e =>
    obtain ⟨k1, k2, k3, k4⟩ := (F : First S x L e)
    have hle : e ≤ t := by
      rcases rle e t with z | z
      · exact z
      · rcases rlt_eq z with w | w
        · have := k4 t h0 w
          grind
        · grind
    refine ⟨e, rfl, hle, fun h2 => ?_⟩
    rcases rlt_eq hle with w | w
    · exact w
    · rw [w] at k3
      grind
/-! ### starts to try -/
def ratI (k : Int) : Rat := (k : Rat)
def CS (st : Rat) (h : Int) : List Rat := st :: ((rangeT (st.floor + 1) (h - (st.floor + 1)).toNat).map ratI ++ [(h : Rat)])
theorem rt_ratI {k : Int} : rt (ratI k) = (k, 1) := rt_int
theorem drift_ok {st : Rat} {h : Int} (z : Rz 7 st) (h0 : 0 ≤ st) (h1 : st < (h : Rat)) (h2 : h ≤ 8) : p_drift_starts row (rt st) (rt (h : Rat)) = some ((CS st h).map rt) := by
  have hf0 := floor_nn h0
  have hfh : st.floor < h := by
    have : (st.floor : Rat) < (h : Rat) := by have := Rat.floor_le st; grind
    exact Rat.intCast_lt_intCast.mp this
  have zh : Rz 7 (h : Rat) := hour_sz (by omega) (by omega)
  unfold p_drift_starts
  rw [hour_ok z (by omega), Option.bind_some, letF_eq, letF_eq]
  have loop : ∀ (n : Nat) (k : Int) (l : List (Int × Int)), 0 ≤ k → k ≤ h → (h - k).toNat = n → l.length + n ≤ 100 → whileO (fun (s4 : ((List (Int × Int)) × Int)) => (p_whole s4.2).bind fun (v5 : (Int × Int)) => p_less v5 (rt (h : Rat))) (fun (s4 : ((List (Int × Int)) × Int)) => (p_whole s4.2).bind fun (v7 : (Int × Int)) => (pushO s4.1 v7).bind fun (v8 : (List (Int × Int))) => letF (s4.2 + (1 : Int)) fun (k9 : Int) => some (v8, k9)) (l, k) = some (l ++ ((rangeT k n).map ratI).map rt, h) := by
    intro n
    induction n with
    | zero =>
      intro k l hk0 hk hn hl
      have : k = h := by omega
      subst this
      have zk : Rz 7 (k : Rat) := hour_sz (by omega) (by omega)
      rw [whileO_end]
      · simp [rangeT]
      · show (p_whole k).bind (fun v5 => p_less v5 (rt (k : Rat))) = _
        rw [whole_ok2, Option.bind_some, less_ok zk zk (by omega), decide_eq_false Rat.lt_irrefl]
    | succ n ih =>
      intro k l hk0 hk hn hl
      have zk : Rz 7 (k : Rat) := hour_sz (by omega) (by omega)
      refine whileO_step (s1 := (l ++ [rt (k : Rat)], k + 1)) ?_ ?_ ?_
      · show (p_whole k).bind (fun v5 => p_less v5 (rt (h : Rat))) = _
        rw [whole_ok2, Option.bind_some, less_ok zk zh (by omega), decide_eq_true (by exact_mod_cast (by omega : k < h))]
      · show (p_whole k).bind _ = _
        rw [whole_ok2, Option.bind_some, pushO_some (by simp only; omega)]
        rfl
      · rw [ih (k + 1) _ (by omega) (by omega) (by omega) (by simp; omega), rangeT_succ]
        simp [ratI]
  have hfl : (h - (st.floor + 1)).toNat + 1 ≤ 100 := by omega
  rw [loop _ (st.floor + 1) [rt st] (by omega) (by omega) rfl (by simp; omega), Option.bind_some, less_ok z zh (by omega), decide_eq_true h1, Option.bind_some, cond_true, catO_some (by simp [rangeT_len]; omega)]
  simp [CS]
theorem floor_lt_int {x : Rat} {k : Int} : x < (k : Rat) ↔ x.floor + 1 ≤ k := by
  constructor
  · intro h
    have : (x.floor : Rat) < (k : Rat) := by have := Rat.floor_le x; grind
    have := Rat.intCast_lt_intCast.mp this
    omega
  · intro h
    have h2 : ((x.floor + 1 : Int) : Rat) ≤ (k : Rat) := Rat.intCast_le_intCast.mpr h
    have h3 : x < (x.floor : Rat) + 1 := floor_add
    rw [Rat.intCast_add] at h2
    have : ((1 : Int) : Rat) = 1 := rfl
    grind
/-- the law's starts to try are the same -/
theorem lstarts_ok {st : Rat} {h : Int} (z : Rz 7 st) (h0 : 0 ≤ st) (h1 : st < (h : Rat)) (h2 : h ≤ 8) : compO (fun (x57 : Int) => p__law_less (rt st) (x57, (1 : Int))) (fun (x57 : Int) => some (x57, (1 : Int))) (rangeT 0 h.toNat) = some (((rangeT (st.floor + 1) (h - (st.floor + 1)).toNat).map ratI).map rt) := by
  have hf0 := floor_nn h0
  have hfh := floor_lt_int.mp h1
  rw [compO_some (g := fun k => decide (st.floor + 1 ≤ k)) (h := fun k => rt (ratI k)) (fun k hk => ?_) (fun k hk => by rw [rt_ratI]) (by rw [rangeT_len]; omega), range_filter (by omega) (by omega)]
  · have : (0 + ((h.toNat : Nat) : Int) - (st.floor + 1)).toNat = (h - (st.floor + 1)).toNat := by omega
    rw [this, List.map_map]
    rfl
  · have hk := rangeT_mem.mp hk
    have zk : Rz 7 (k : Rat) := hour_sz (by omega) (by omega)
    rw [← rt_int, lless_ok z zk (by omega)]
    congr 1
    rw [Bool.eq_iff_iff, decide_eq_true_eq, decide_eq_true_eq]
    exact floor_lt_int
theorem cs_mem {st : Rat} {h : Int} {c : Rat} (hc : c ∈ CS st h) : c = st ∨ (∃ k : Int, c = (k : Rat) ∧ st.floor + 1 ≤ k ∧ k < h) ∨ c = (h : Rat) := by
  unfold CS at hc
  rcases List.mem_cons.mp hc with hc | hc
  · exact .inl hc
  · rcases List.mem_append.mp hc with hc | hc
    · obtain ⟨k, hk, rfl⟩ := List.mem_map.mp hc
      have := rangeT_mem.mp hk
      exact .inr (.inl ⟨k, rfl, by omega, by omega⟩)
    · simp at hc
      exact .inr (.inr hc)
theorem cs_whole {st : Rat} {h k : Int} (h1 : st.floor + 1 ≤ k) (h2 : k < h) : (k : Rat) ∈ CS st h := by
  unfold CS
  refine List.mem_cons_of_mem _ (List.mem_append_left _ (List.mem_map.mpr ⟨k, rangeT_mem.mpr ?_, rfl⟩))
  omega
theorem cs_valid (hr : ((row.length : Nat) : Int) = h) (h8 : h ≤ 8) {st : Rat} (z : Rz 7 st) (h0 : 0 ≤ st) (h1 : st < (h : Rat)) {c : Rat} (hc : c ∈ CS st h) : Vd row c ∧ st ≤ c := by
  have hf0 := floor_nn h0
  have hl : (h : Rat) = (row.length : Rat) := by rw [← hr]; rfl
  rcases cs_mem hc with rfl | ⟨k, rfl, k1, k2⟩ | rfl
  · exact ⟨⟨h0, by grind, z.mono (by omega)⟩, by grind⟩
  · have a1 : (k : Rat) < (h : Rat) := by exact_mod_cast k2
    have a2 := floor_lt_int.mpr k1
    exact ⟨⟨by grind, by grind, (hour_sz (by omega) (by omega)).mono (by omega)⟩, by grind⟩
  · exact ⟨⟨by grind, by grind, (hour_sz (by omega) (by omega)).mono (by omega)⟩, by grind⟩
theorem cs_sorted {st : Rat} {h : Int} (h1 : st < (h : Rat)) : (CS st h).Pairwise (fun x y => x ≤ y) := by
  unfold CS
  refine List.pairwise_cons.mpr ⟨fun c hc => ?_, ?_⟩
  · have hc : c ∈ CS st h := List.mem_cons_of_mem _ hc
    rcases cs_mem hc with rfl | ⟨k, rfl, k1, k2⟩ | rfl
    · exact Rat.le_refl
    · have := floor_lt_int.mpr k1
      grind
    · grind
  · refine List.pairwise_append.mpr ⟨?_, List.pairwise_singleton _ _, fun x hx y hy => ?_⟩
    · rw [List.pairwise_map]
      have : ∀ (n : Nat) (a : Int), (rangeT a n).Pairwise fun x y => ratI x ≤ ratI y := by
        intro n
        induction n with
        | zero => intro a; rw [rangeT_zero]; exact List.Pairwise.nil
        | succ n ih =>
          intro a
          rw [rangeT_succ]
          refine List.pairwise_cons.mpr ⟨fun k hk => ?_, ih _⟩
          have := rangeT_mem.mp hk
          exact Rat.intCast_le_intCast.mpr (by omega)
      exact this _ _
    · obtain ⟨k, hk, rfl⟩ := List.mem_map.mp hx
      have := rangeT_mem.mp hk
      simp at hy
      subst hy
      exact Rat.intCast_le_intCast.mpr (by omega)
end
end MM
namespace MM
open PySem PySem.Spec PyProof.Rows L2

/-! ### the best start without an anchor -/
abbrev BD := Option ((Option (Int × Int)) × (Int × Int))
noncomputable def bdF (row : List Int) (length : Int) : Int × Int → BD → Option BD := fun (here3 : (Int × Int)) (s4 : (Option ((Option (Int × Int)) × (Int × Int)))) => (p_leg_end row length here3 false).bind fun (v5 : (Option (Int × Int))) => (cond v5.isSome (cond s4.isNone (some true) ((v5).bind fun (v6 : (Int × Int)) => (s4).bind fun (v7 : ((Option (Int × Int)) × (Int × Int))) => (v7.1).bind fun (v8 : (Int × Int)) => p_less v6 v8)) (some false)).bind fun (v11 : Bool) => cond v11 (letF (v5, here3) fun (best12 : ((Option (Int × Int)) × (Int × Int))) => some (some best12)) (some s4)
theorem best_def {row : List Int} {L : Int} {st : Int × Int} : p_best_drift row L st = (p_whole ((row.length : Nat) : Int)).bind fun v1 => (p_drift_starts row st v1).bind fun v2 => (forO (bdF row L) v2 none).bind fun v => some v := rfl
section
variable {row : List Int} {L : Int}
theorem bd_skip {x : Rat} {s : BD} (h : p_leg_end row L (rt x) false = some none) : bdF row L (rt x) s = some s := by
  unfold bdF
  rw [h]
  rfl
theorem bd_first {x e : Rat} (h : p_leg_end row L (rt x) false = some (some (rt e))) : bdF row L (rt x) none = some (some (some (rt e), rt x)) := by
  unfold bdF
  rw [h]
  rfl
theorem bd_next {x e c e0 : Rat} (h : p_leg_end row L (rt x) false = some (some (rt e))) (z : Rz 863 e) (z0 : Rz 863 e0) : bdF row L (rt x) (some (some (rt e0), rt c)) = some (some (if e < e0 then (some (rt e), rt x) else (some (rt e0), rt c))) := by
  unfold bdF
  rw [h]
  show (p_less (rt e) (rt e0)).bind _ = _
  rw [less_ok z z0 (by omega), Option.bind_some]
  by_cases hlt : e < e0
  · rw [decide_eq_true hlt, if_pos hlt]
    rfl
  · rw [decide_eq_false hlt, if_neg hlt]
    rfl
theorem bd_go (R : RowOk row) (hL : 0 < L) (hL2 : L ≤ 64) : ∀ (xs : List Rat) (c e : Rat), (∀ x ∈ xs, Vd row x) → xs.Pairwise (fun x y => x ≤ y) → Rz 863 e → (∀ x ∈ xs, c ≤ x) →
    ∃ c' e', forO (bdF row L) (xs.map rt) (some (some (rt e), rt c)) = some (some (some (rt e'), rt c')) ∧ ((c' = c ∧ e' = e) ∨ (c' ∈ xs ∧ En (spd false row) c' L = some e')) ∧ (e' < e ∨ (e' = e ∧ c' = c)) ∧ ∀ x ∈ xs, ∀ y, En (spd false row) x L = some y → e' < y ∨ (e' = y ∧ c' ≤ x)
  | [], c, e, _, _, _, _ => ⟨c, e, rfl, .inl ⟨rfl, rfl⟩, .inr ⟨rfl, rfl⟩, by simp⟩
  | x :: r, c, e, V, P, z, hc => by
    have Vx := V x List.mem_cons_self
    have Vr : ∀ y ∈ r, Vd row y := fun y hy => V y (List.mem_cons_of_mem _ hy)
    have hcr : ∀ y ∈ r, c ≤ y := fun y hy => hc y (List.mem_cons_of_mem _ hy)
    have hcx := hc x List.mem_cons_self
    obtain ⟨P1, P2⟩ := List.pairwise_cons.mp P
    obtain ⟨_, h2, F, hz⟩ := en_ok (a := false) R Vx hL hL2
    rw [List.map_cons, forO_cons]
    cases hE : En (spd false row) x L with
    | none =>
      rw [hE] at h2
      rw [bd_skip h2, Option.bind_some]
      obtain ⟨c', e', h, a, b, d⟩ := bd_go R hL hL2 r c e Vr P2 z hcr
      refine ⟨c', e', h, ?_, b, fun y hy w hw => ?_⟩
      · rcases a with a | ⟨a1, a2⟩
        · exact .inl a
        · exact .inr ⟨List.mem_cons_of_mem _ a1, a2⟩
      · rcases List.mem_cons.mp hy with rfl | hy
        · rw [hE] at hw; cases hw
        · exact d y hy w hw
    | some e1 =>
      rw [hE] at h2
      have z1 := hz e1 hE
      rw [bd_next h2 z1 z, Option.bind_some]
      by_cases hlt : e1 < e
      · rw [if_pos hlt]
        obtain ⟨c', e', h, a, b, d⟩ := bd_go R hL hL2 r x e1 Vr P2 z1 P1
        refine ⟨c', e', h, ?_, ?_, fun y hy w hw => ?_⟩
        · rcases a with ⟨rfl, rfl⟩ | ⟨a1, a2⟩
          · exact .inr ⟨List.mem_cons_self, hE⟩
          · exact .inr ⟨List.mem_cons_of_mem _ a1, a2⟩
        · left
          rcases b with b | ⟨rfl, rfl⟩ <;> grind
        · rcases List.mem_cons.mp hy with rfl | hy
          · rw [hE] at hw
            cases hw
            rcases b with b | ⟨rfl, rfl⟩
            · exact .inl b
            · exact .inr ⟨rfl, Rat.le_refl⟩
          · exact d y hy w hw
      · rw [if_neg hlt]
        obtain ⟨c', e', h, a, b, d⟩ := bd_go R hL hL2 r c e Vr P2 z hcr
        refine ⟨c', e', h, ?_, b, fun y hy w hw => ?_⟩
        · rcases a with a | ⟨a1, a2⟩
          · exact .inl a
          · exact .inr ⟨List.mem_cons_of_mem _ a1, a2⟩
        · rcases List.mem_cons.mp hy with rfl | hy
          · rw [hE] at hw
            cases hw
            rcases b with b | ⟨rfl, rfl⟩
            · left; grind
            · rcases rtri e' e1 with w | w | w
              · exact .inl w
              · exact .inr ⟨w, hcx⟩
              · exact absurd w hlt
          · exact d y hy w hw
theorem bd_none (R : RowOk row) (hL : 0 < L) (hL2 : L ≤ 64) : ∀ (xs : List Rat), (∀ x ∈ xs, Vd row x) → xs.Pairwise (fun x y => x ≤ y) →
    (forO (bdF row L) (xs.map rt) none = some none ∧ ∀ x ∈ xs, En (spd false row) x L = none) ∨ ∃ c e, forO (bdF row L) (xs.map rt) none = some (some (some (rt e), rt c)) ∧ c ∈ xs ∧ En (spd false row) c L = some e ∧ ∀ x ∈ xs, ∀ y, En (spd false row) x L = some y → e < y ∨ (e = y ∧ c ≤ x)
  | [], _, _ => .inl ⟨rfl, by simp⟩
  | x :: r, V, P => by
    have Vx := V x List.mem_cons_self
    have Vr : ∀ y ∈ r, Vd row y := fun y hy => V y (List.mem_cons_of_mem _ hy)
    obtain ⟨P1, P2⟩ := List.pairwise_cons.mp P
    obtain ⟨_, h2, F, hz⟩ := en_ok (a := false) R Vx hL hL2
    rw [List.map_cons, forO_cons]
    cases hE : En (spd false row) x L with
    | none =>
      rw [hE] at h2
      rw [bd_skip h2, Option.bind_some]
      rcases bd_none R hL hL2 r Vr P2 with ⟨a, b⟩ | ⟨c, e, a, b, d, f⟩
      · refine .inl ⟨a, fun y hy => ?_⟩
        rcases List.mem_cons.mp hy with rfl | hy
        · exact hE
        · exact b y hy
      · refine .inr ⟨c, e, a, List.mem_cons_of_mem _ b, d, fun y hy w hw => ?_⟩
        rcases List.mem_cons.mp hy with rfl | hy
        · rw [hE] at hw; cases hw
        · exact f y hy w hw
    | some e1 =>
      rw [hE] at h2
      have z1 := hz e1 hE
      rw [bd_first h2, Option.bind_some]
      obtain ⟨c', e', h, a, b, d⟩ := bd_go R hL hL2 r x e1 Vr P2 z1 P1
      refine .inr ⟨c', e', h, ?_, ?_, fun y hy w hw => ?_⟩
      · rcases a with ⟨rfl, rfl⟩ | ⟨a1, a2⟩
        · exact List.mem_cons_self
        · exact List.mem_cons_of_mem _ a1
      · rcases a with ⟨rfl, rfl⟩ | ⟨a1, a2⟩
        · exact hE
        · exact a2
      · rcases List.mem_cons.mp hy with rfl | hy
        · rw [hE] at hw
          cases hw
          rcases b with b | ⟨rfl, rfl⟩
          · exact .inl b
          · exact .inr ⟨rfl, Rat.le_refl⟩
        · exact d y hy w hw
/-- what is told without an anchor -/
theorem best_ok (R : RowOk row) (hL : 0 < L) (hL2 : L ≤ 64) {h : Int} (hr : ((row.length : Nat) : Int) = h) (h8 : h ≤ 8) {st : Rat} (z : Rz 7 st) (h0 : 0 ≤ st) (h1 : st < (h : Rat)) :
    (p_best_drift row L (rt st) = some none ∧ ∀ x ∈ CS st h, En (spd false row) x L = none) ∨ ∃ c e, p_best_drift row L (rt st) = some (some (some (rt e), rt c)) ∧ c ∈ CS st h ∧ En (spd false row) c L = some e ∧ ∀ x ∈ CS st h, ∀ y, En (spd false row) x L = some y → e < y ∨ (e = y ∧ c ≤ x) := by
  rw [best_def, hr, whole_ok2, Option.bind_some, drift_ok z h0 h1 h8, Option.bind_some]
  rcases bd_none R hL hL2 (CS st h) (fun c hc => (cs_valid hr h8 z h0 h1 hc).1) (cs_sorted h1) with ⟨a, b⟩ | ⟨c, e, a, b⟩
  · exact .inl ⟨by rw [a]; rfl, b⟩
  · exact .inr ⟨c, e, by rw [a]; rfl, b⟩
/-- a start to try is as good as any -/
theorem drift_best (R : RowOk row) (hL : 0 < L) (hL2 : L ≤ 64) {h : Int} (hr : ((row.length : Nat) : Int) = h) (h8 : h ≤ 8) {st x e : Rat} (z : Rz 7 st) (h0 : 0 ≤ st) (h1 : st < (h : Rat)) (hx : st ≤ x) (hx2 : x < (h : Rat)) (F : First (spd false row) x (L : Rat) e) :
    ∃ c ∈ CS st h, ∃ e', En (spd false row) c L = some e' ∧ (e' < e ∨ (e' = e ∧ c ≤ x)) := by
  obtain ⟨k1, k2, k3, k4⟩ := F
  have hL0 : (0 : Rat) < (L : Rat) := by exact_mod_cast hL
  have hl : (h : Rat) = (row.length : Rat) := by rw [← hr]; rfl
  obtain ⟨s, es, hf, hlt, hn2, hle, hlt2⟩ := hour_at (row := row) (x := x) (by grind) (by grind)
  have hour : ∀ a b : Rat, (x.floor : Rat) ≤ a → a ≤ b → b ≤ (x.floor : Rat) + 1 → PP (spd false row) b = PP (spd false row) a + (b - a) * (s : Rat) := fun a b h1 h2 h3 => PP_hour (spd_get (a := false) es) (by rw [hn2]; exact h1) h2 (by rw [hn2]; exact h3)
  have use : ∀ c ∈ CS st h, ∀ (hce : c ≤ e), (L : Rat) ≤ PP (spd false row) e - PP (spd false row) c → (c ≤ x ∨ (L : Rat) < PP (spd false row) e - PP (spd false row) c) → ∃ c ∈ CS st h, ∃ e', En (spd false row) c L = some e' ∧ (e' < e ∨ (e' = e ∧ c ≤ x)) := by
    intro c hc hce h2 h3
    obtain ⟨_, _, F, _⟩ := en_ok (a := false) R (cs_valid hr h8 z h0 h1 hc).1 hL hL2
    obtain ⟨e', he, hle, hst⟩ := reach F hce k2 h2
    refine ⟨c, hc, e', he, ?_⟩
    rcases h3 with h3 | h3
    · rcases rlt_eq hle with w | w
      · exact .inl w
      · exact .inr ⟨w, h3⟩
    · exact .inl (hst h3)
  by_cases hs : 0 ≤ (s : Rat)
  · by_cases hk : (x.floor : Rat) ≤ st
    · have e1 := hour st x hk hx (by grind)
      have : 0 ≤ (x - st) * (s : Rat) := Rat.mul_nonneg (by grind) hs
      exact use st List.mem_cons_self (by grind) (by grind) (.inl hx)
    · have e1 := hour (x.floor : Rat) x Rat.le_refl hle (by grind)
      have : 0 ≤ (x - (x.floor : Rat)) * (s : Rat) := Rat.mul_nonneg (by grind) hs
      have a1 : st.floor + 1 ≤ x.floor := floor_lt_int.mp (by grind)
      have a2 : x.floor < h := by omega
      exact use _ (cs_whole a1 a2) (by grind) (by grind) (.inl hle)
  · have hs2 : (s : Rat) ≤ 0 := by grind
    have hgt : (x.floor : Rat) + 1 < e := by
      rcases rle e ((x.floor : Rat) + 1) with w | w
      · have e1 := hour x e hle k1 w
        have := Rat.mul_le_mul_of_nonneg_left hs2 (show 0 ≤ e - x by grind)
        grind
      · rcases rlt_eq w with w | w
        · exact w
        · have e1 := hour x e hle k1 (by grind)
          have := Rat.mul_le_mul_of_nonneg_left hs2 (show 0 ≤ e - x by grind)
          grind
    have e1 := hour x ((x.floor : Rat) + 1) hle (by grind) Rat.le_refl
    have hneg : ((x.floor : Rat) + 1 - x) * (s : Rat) < 0 := by
      have hp : 0 < (x.floor : Rat) + 1 - x := by grind
      have hs3 : 0 < -(s : Rat) := by grind
      have := Rat.mul_pos hp hs3
      grind
    have ek : ((x.floor + 1 : Int) : Rat) = (x.floor : Rat) + 1 := by rw [Rat.intCast_add]; rfl
    rw [spd_len] at k2
    have a2 : x.floor + 1 < h := by
      have : ((x.floor + 1 : Int) : Rat) < (h : Rat) := by rw [ek]; grind
      exact Rat.intCast_lt_intCast.mp this
    have a1 : st.floor + 1 ≤ x.floor + 1 := by
      have := Rat.floor_monotone hx
      omega
    have hmem := cs_whole a1 a2
    rw [ek] at hmem
    exact use _ hmem (by grind) (by grind) (.inr (by grind))
end
end MM
namespace MM
open PySem PySem.Spec PyProof.Rows L2

/-! ### turning starts, the quickest start -/
def LsP (row : List Int) (L : Int) (k : Int) (r : Option Rat) : Prop := p_latest_start row L (rt (k : Rat)) = some (r.map rt) ∧ LP (spd true row) (k : Rat) (L : Rat) r ∧ ∀ e, r = some e → Rz 221 e
noncomputable def Ls (row : List Int) (L : Int) (k : Int) : Option Rat := Classical.epsilon (LsP row L k)
noncomputable def TS (row : List Int) (L h : Int) : List Rat := (rangeT 0 h.toNat).map ratI ++ (rangeT 1 h.toNat).filterMap (Ls row L)
section
variable {row : List Int} {L h : Int}
theorem ls_ok (R : RowOk row) (hL : 0 < L) (hL2 : L ≤ 64) (hr : ((row.length : Nat) : Int) = h) (h8 : h ≤ 8) {k : Int} (k0 : 0 ≤ k) (k1 : k ≤ h) : LsP row L k (Ls row L k) := by
  have hl : (h : Rat) = (row.length : Rat) := by rw [← hr]; rfl
  have a1 : (k : Rat) ≤ (h : Rat) := Rat.intCast_le_intCast.mpr k1
  have a0 : ((0 : Int) : Rat) ≤ (k : Rat) := Rat.intCast_le_intCast.mpr k0
  obtain ⟨r, e1, F, z⟩ := latest_ok R (L := L) (en := (k : Rat)) (by omega : 7 ≤ 500) a0 (by grind) (hour_sz k0 (by omega)) hL hL2
  exact Classical.epsilon_spec (p := LsP row L k) ⟨r, e1, F, z⟩
theorem gather_ls (R : RowOk row) (hL : 0 < L) (hL2 : L ≤ 64) (hr : ((row.length : Nat) : Int) = h) (h8 : h ≤ 8) (h0 : 0 ≤ h) {f : Int → List (Int × Int) → Option (List (Int × Int))} (hf : ∀ k s, f k s = (p_latest_start row L (rt (k : Rat))).bind fun v10 => cond v10.isSome (v10.bind fun v11 => (pushO s v11).bind fun v12 => some v12) (some s)) :
    forO f (rangeT 1 (h + 1 - 1).toNat) (((rangeT 0 h.toNat).map ratI).map rt) = some ((TS row L h).map rt) := by
  rw [show h + 1 - 1 = h by omega]
  rw [forO_gather (g := fun k => (Ls row L k).map rt) (fun k hk s hs => ?_) (by simp [rangeT_len]; omega)]
  · unfold TS
    rw [List.map_append, List.map_filterMap]
  · have hk := rangeT_mem.mp hk
    obtain ⟨e1, _, _⟩ := ls_ok R hL hL2 hr h8 (k := k) (by omega) (by omega)
    rw [hf, e1, Option.bind_some]
    cases Ls row L k with
    | none => rfl
    | some x =>
      show (pushO s (rt x)).bind _ = _
      rw [pushO_some hs]
      rfl
theorem turn_ok (R : RowOk row) (hL : 0 < L) (hL2 : L ≤ 64) (hr : ((row.length : Nat) : Int) = h) (h8 : h ≤ 8) : p_turning_starts row L = some ((TS row L h).map rt) := by
  unfold p_turning_starts
  rw [hr, rgO_of (by omega) (by omega), Option.bind_some, mapO_some (g := fun k => rt (ratI k)) (fun k _ => whole_ok2) (by rw [rangeT_len]; omega), Option.bind_some, rgO_of (by omega) (by omega), Option.bind_some, rgO_of (by omega) (by omega), Option.bind_some]
  have e : (rangeT 0 h.toNat).map (fun k => rt (ratI k)) = ((rangeT 0 h.toNat).map ratI).map rt := by rw [List.map_map]; rfl
  rw [e, gather_ls R hL hL2 hr h8 (by omega) (fun k s => by rw [whole_ok2, Option.bind_some])]
  rfl
theorem ts_mem (R : RowOk row) (hL : 0 < L) (hL2 : L ≤ 64) (hr : ((row.length : Nat) : Int) = h) (h8 : h ≤ 8) {c : Rat} (hc : c ∈ TS row L h) : (∃ k : Int, c = (k : Rat) ∧ 0 ≤ k ∧ k < h) ∨ ∃ k : Int, 1 ≤ k ∧ k ≤ h ∧ Last (spd true row) (k : Rat) (L : Rat) c ∧ Rz 221 c := by
  unfold TS at hc
  rcases List.mem_append.mp hc with hc | hc
  · obtain ⟨k, hk, rfl⟩ := List.mem_map.mp hc
    have := rangeT_mem.mp hk
    exact .inl ⟨k, rfl, by omega, by omega⟩
  · obtain ⟨k, hk, e⟩ := List.mem_filterMap.mp hc
    have := rangeT_mem.mp hk
    obtain ⟨_, F, z⟩ := ls_ok R hL hL2 hr h8 (k := k) (by omega) (by omega)
    rw [e] at F
    exact .inr ⟨k, by omega, by omega, F, z c e⟩
theorem ts_whole {k : Int} (h0 : 0 ≤ k) (h1 : k < h) : (k : Rat) ∈ TS row L h := by
  unfold TS
  exact List.mem_append_left _ (List.mem_map.mpr ⟨k, rangeT_mem.mpr (by omega), rfl⟩)
theorem ts_last (R : RowOk row) (hL : 0 < L) (hL2 : L ≤ 64) (hr : ((row.length : Nat) : Int) = h) (h8 : h ≤ 8) {k : Int} (h0 : 1 ≤ k) (h1 : k ≤ h) {x : Rat} (hx0 : 0 ≤ x) (hx1 : x ≤ (k : Rat)) (hx : (L : Rat) ≤ PP (spd true row) (k : Rat) - PP (spd true row) x) : ∃ c ∈ TS row L h, Last (spd true row) (k : Rat) (L : Rat) c ∧ x ≤ c := by
  obtain ⟨_, F, z⟩ := ls_ok R hL hL2 hr h8 (k := k) (by omega) (by omega)
  cases e : Ls row L k with
  | none =>
    rw [e] at F
    have := (F : NeverL _ _ _) x hx0 hx1
    grind
  | some c =>
    rw [e] at F
    have F : Last (spd true row) (k : Rat) (L : Rat) c := F
    refine ⟨c, ?_, F, ?_⟩
    · unfold TS
      exact List.mem_append_right _ (List.mem_filterMap.mpr ⟨k, rangeT_mem.mpr (by omega), e⟩)
    · rcases rle x c with w | w
      · exact w
      · rcases rlt_eq w with w2 | w2
        · have := F.2.2.2 x w2 hx1
          grind
        · grind
theorem ts_valid (R : RowOk row) (hL : 0 < L) (hL2 : L ≤ 64) (hr : ((row.length : Nat) : Int) = h) (h8 : h ≤ 8) {c : Rat} (hc : c ∈ TS row L h) : Vd row c := by
  have hl : (h : Rat) = (row.length : Rat) := by rw [← hr]; rfl
  rcases ts_mem R hL hL2 hr h8 hc with ⟨k, rfl, k0, k1⟩ | ⟨k, k0, k1, F, z⟩
  · have a1 : (k : Rat) ≤ (h : Rat) := Rat.intCast_le_intCast.mpr (by omega)
    have a0 : ((0 : Int) : Rat) ≤ (k : Rat) := Rat.intCast_le_intCast.mpr k0
    exact ⟨a0, by grind, (hour_sz k0 (by omega)).mono (by omega)⟩
  · have a1 : (k : Rat) ≤ (h : Rat) := Rat.intCast_le_intCast.mpr k1
    exact ⟨F.1, by have := F.2.1; grind, z⟩
/-! the least hours -/
def Lx (d c d' c' : Rat) : Prop := d < d' ∨ (d = d' ∧ c ≤ c')
theorem Lx.trans {d c d1 c1 d2 c2 : Rat} (h : Lx d c d1 c1) (k : Lx d1 c1 d2 c2) : Lx d c d2 c2 := by unfold Lx at *; grind
theorem Lx.refl {d c : Rat} : Lx d c d c := .inr ⟨rfl, Rat.le_refl⟩
abbrev QD := Option ((Int × Int) × (Int × Int))
noncomputable def qF (row : List Int) (length : Int) : Int × Int → QD → Option QD := fun (here2 : (Int × Int)) (s3 : (Option ((Int × Int) × (Int × Int)))) => (p_leg_end row length here2 true).bind fun (v4 : (Option (Int × Int))) => cond v4.isSome ((v4).bind fun (v5 : (Int × Int)) => (p_minus v5 here2).bind fun (v6 : (Int × Int)) => (cond s3.isNone (some true) ((s3).bind fun (v7 : ((Int × Int) × (Int × Int))) => (p_less v6 v7.1).bind fun (v8 : Bool) => cond v8 (some true) ((s3).bind fun (v9 : ((Int × Int) × (Int × Int))) => (eqA (A.d ((eT2 eI eI) v6)) (A.d ((eT2 eI eI) v9.1))).bind fun (v10 : Bool) => cond v10 ((s3).bind fun (v11 : ((Int × Int) × (Int × Int))) => p_less here2 v11.2) (some false)))).bind fun (v15 : Bool) => cond v15 (letF (v6, here2) fun (best16 : ((Int × Int) × (Int × Int))) => some (some best16)) (some s3)) (some s3)
theorem quick_def : p_quickest_start row L = (p_turning_starts row L).bind fun v1 => (forO (qF row L) v1 none).bind fun v => some v := rfl
theorem q_skip {x : Rat} {s : QD} (h : p_leg_end row L (rt x) true = some none) : qF row L (rt x) s = some s := by
  unfold qF
  rw [h]
  rfl
theorem q_first {x e : Rat} (h : p_leg_end row L (rt x) true = some (some (rt e))) (z : Rz 863 e) (zx : Rz 221 x) : qF row L (rt x) none = some (some (rt (e - x), rt x)) := by
  unfold qF
  rw [h]
  show (p_minus (rt e) (rt x)).bind _ = _
  rw [minus_ok z zx (by omega)]
  rfl
theorem rt_eq {x y : Rat} : decide (rt x = rt y) = decide (x = y) := by
  rw [Bool.eq_iff_iff, decide_eq_true_eq, decide_eq_true_eq]
  exact ⟨rt_inj, fun h => by rw [h]⟩
theorem q_next {x e d c : Rat} (h : p_leg_end row L (rt x) true = some (some (rt e))) (z : Rz 863 e) (zx : Rz 221 x) (zd : Rz 1085 d) (zc : Rz 221 c) : ∃ d' c', qF row L (rt x) (some (rt d, rt c)) = some (some (rt d', rt c')) ∧ ((d' = d ∧ c' = c) ∨ (d' = e - x ∧ c' = x)) ∧ Lx d' c' d c ∧ Lx d' c' (e - x) x := by
  have zs := rz_sub z zx
  have e1 : qF row L (rt x) (some (rt d, rt c)) = ((p_less (rt (e - x)) (rt d)).bind fun (v8 : Bool) => cond v8 (some true) ((eqA (A.d ((eT2 eI eI) (rt (e - x)))) (A.d ((eT2 eI eI) (rt d)))).bind fun (v10 : Bool) => cond v10 (p_less (rt x) (rt c)) (some false))).bind fun (v15 : Bool) => cond v15 (some (some (rt (e - x), rt x))) (some (some (rt d, rt c))) := by
    unfold qF
    rw [h]
    show (p_minus (rt e) (rt x)).bind _ = _
    rw [minus_ok z zx (by omega)]
    rfl
  rw [e1, less_ok zs zd (by omega), Option.bind_some, eq_pairs, Option.bind_some, rt_eq, less_ok zx zc (by omega)]
  by_cases h1 : e - x < d
  · rw [decide_eq_true h1]
    exact ⟨e - x, x, rfl, .inr ⟨rfl, rfl⟩, .inl h1, .refl⟩
  · rw [decide_eq_false h1]
    by_cases h2 : e - x = d
    · rw [decide_eq_true h2]
      by_cases h3 : x < c
      · rw [decide_eq_true h3]
        exact ⟨e - x, x, rfl, .inr ⟨rfl, rfl⟩, .inr ⟨h2, by grind⟩, .refl⟩
      · rw [decide_eq_false h3]
        exact ⟨d, c, rfl, .inl ⟨rfl, rfl⟩, .refl, .inr ⟨h2.symm, by grind⟩⟩
    · rw [decide_eq_false h2]
      exact ⟨d, c, rfl, .inl ⟨rfl, rfl⟩, .refl, .inl (by grind)⟩
theorem q_go (R : RowOk row) (hL : 0 < L) (hL2 : L ≤ 64) : ∀ (xs : List Rat) (d c : Rat), (∀ x ∈ xs, Vd row x) → Rz 1085 d → Rz 221 c →
    ∃ d' c', forO (qF row L) (xs.map rt) (some (rt d, rt c)) = some (some (rt d', rt c')) ∧ ((d' = d ∧ c' = c) ∨ (c' ∈ xs ∧ ∃ e, En (spd true row) c' L = some e ∧ d' = e - c')) ∧ Lx d' c' d c ∧ ∀ x ∈ xs, ∀ y, En (spd true row) x L = some y → Lx d' c' (y - x) x
  | [], d, c, _, _, _ => ⟨d, c, rfl, .inl ⟨rfl, rfl⟩, .refl, by simp⟩
  | x :: r, d, c, V, zd, zc => by
    have Vx := V x List.mem_cons_self
    have Vr : ∀ y ∈ r, Vd row y := fun y hy => V y (List.mem_cons_of_mem _ hy)
    obtain ⟨_, h2, F, hz⟩ := en_ok (a := true) R Vx hL hL2
    rw [List.map_cons, forO_cons]
    cases hE : En (spd true row) x L with
    | none =>
      rw [hE] at h2
      rw [q_skip h2, Option.bind_some]
      obtain ⟨d', c', h, a, b, g⟩ := q_go R hL hL2 r d c Vr zd zc
      refine ⟨d', c', h, ?_, b, fun y hy w hw => ?_⟩
      · rcases a with a | ⟨a1, a2⟩
        · exact .inl a
        · exact .inr ⟨List.mem_cons_of_mem _ a1, a2⟩
      · rcases List.mem_cons.mp hy with rfl | hy
        · rw [hE] at hw; cases hw
        · exact g y hy w hw
    | some e1 =>
      rw [hE] at h2
      have z1 := hz e1 hE
      obtain ⟨d1, c1, eq, a0, b0, g0⟩ := q_next h2 z1 Vx.sz zd zc
      rw [eq, Option.bind_some]
      have zz : Rz 1085 d1 ∧ Rz 221 c1 := by
        rcases a0 with ⟨rfl, rfl⟩ | ⟨rfl, rfl⟩
        · exact ⟨zd, zc⟩
        · exact ⟨(rz_sub z1 Vx.sz).mono (by omega), Vx.sz⟩
      obtain ⟨d', c', h, a, b, g⟩ := q_go R hL hL2 r d1 c1 Vr zz.1 zz.2
      refine ⟨d', c', h, ?_, b.trans b0, fun y hy w hw => ?_⟩
      · rcases a with ⟨rfl, rfl⟩ | ⟨a1, a2⟩
        · rcases a0 with a0 | ⟨rfl, rfl⟩
          · exact .inl a0
          · exact .inr ⟨List.mem_cons_self, e1, hE, rfl⟩
        · exact .inr ⟨List.mem_cons_of_mem _ a1, a2⟩
      · rcases List.mem_cons.mp hy with rfl | hy
        · rw [hE] at hw
          cases hw
          exact b.trans g0
        · exact g y hy w hw
theorem q_none (R : RowOk row) (hL : 0 < L) (hL2 : L ≤ 64) : ∀ (xs : List Rat), (∀ x ∈ xs, Vd row x) →
    (forO (qF row L) (xs.map rt) none = some none ∧ ∀ x ∈ xs, En (spd true row) x L = none) ∨ ∃ c e, forO (qF row L) (xs.map rt) none = some (some (rt (e - c), rt c)) ∧ c ∈ xs ∧ En (spd true row) c L = some e ∧ ∀ x ∈ xs, ∀ y, En (spd true row) x L = some y → Lx (e - c) c (y - x) x
  | [], _ => .inl ⟨rfl, by simp⟩
  | x :: r, V => by
    have Vx := V x List.mem_cons_self
    have Vr : ∀ y ∈ r, Vd row y := fun y hy => V y (List.mem_cons_of_mem _ hy)
    obtain ⟨_, h2, F, hz⟩ := en_ok (a := true) R Vx hL hL2
    rw [List.map_cons, forO_cons]
    cases hE : En (spd true row) x L with
    | none =>
      rw [hE] at h2
      rw [q_skip h2, Option.bind_some]
      rcases q_none R hL hL2 r Vr with ⟨a, b⟩ | ⟨c, e, a, b, d, f⟩
      · refine .inl ⟨a, fun y hy => ?_⟩
        rcases List.mem_cons.mp hy with rfl | hy
        · exact hE
        · exact b y hy
      · refine .inr ⟨c, e, a, List.mem_cons_of_mem _ b, d, fun y hy w hw => ?_⟩
        rcases List.mem_cons.mp hy with rfl | hy
        · rw [hE] at hw; cases hw
        · exact f y hy w hw
    | some e1 =>
      rw [hE] at h2
      have z1 := hz e1 hE
      rw [q_first h2 z1 Vx.sz, Option.bind_some]
      obtain ⟨d', c', h, a, b, g⟩ := q_go R hL hL2 r (e1 - x) x Vr ((rz_sub z1 Vx.sz).mono (by omega)) Vx.sz
      have a : ∃ e, c' ∈ x :: r ∧ En (spd true row) c' L = some e ∧ d' = e - c' := by
        rcases a with ⟨rfl, rfl⟩ | ⟨a1, e, a2, a3⟩
        · exact ⟨e1, List.mem_cons_self, hE, rfl⟩
        · exact ⟨e, List.mem_cons_of_mem _ a1, a2, a3⟩
      obtain ⟨e, m, hE2, rfl⟩ := a
      refine .inr ⟨c', e, h, m, hE2, fun y hy w hw => ?_⟩
      rcases List.mem_cons.mp hy with rfl | hy
      · rw [hE] at hw
        cases hw
        exact b
      · exact g y hy w hw
theorem quick_ok (R : RowOk row) (hL : 0 < L) (hL2 : L ≤ 64) (hr : ((row.length : Nat) : Int) = h) (h8 : h ≤ 8) :
    (p_quickest_start row L = some none ∧ ∀ x ∈ TS row L h, En (spd true row) x L = none) ∨ ∃ c e, p_quickest_start row L = some (some (rt (e - c), rt c)) ∧ c ∈ TS row L h ∧ En (spd true row) c L = some e ∧ ∀ x ∈ TS row L h, ∀ y, En (spd true row) x L = some y → Lx (e - c) c (y - x) x := by
  rw [quick_def, turn_ok R hL hL2 hr h8, Option.bind_some]
  rcases q_none R hL hL2 (TS row L h) (fun c hc => ts_valid R hL hL2 hr h8 hc) with ⟨a, b⟩ | ⟨c, e, a, b⟩
  · exact .inl ⟨by rw [a]; rfl, b⟩
  · exact .inr ⟨c, e, by rw [a]; rfl, b⟩
end
end MM
namespace MM
open PySem PySem.Spec PyProof.Rows L2

/-! ### the least hours are those of a turning start -/
section
variable {row : List Int} {L h : Int}
/-- the hour that ends at a moment above nought or lies around it -/
theorem hour_up {x : Rat} (h0 : 0 < x) : ∃ m : Int, 0 ≤ m ∧ (m : Rat) < x ∧ x ≤ (m : Rat) + 1 := by
  have h1 := Rat.floor_le x
  have h2 : x < (x.floor : Rat) + 1 := floor_add
  rcases rlt_eq h1 with w | w
  · exact ⟨x.floor, floor_nn (by grind), w, by grind⟩
  · have hp : 0 < x.floor := by
      rw [← w] at h0
      exact Rat.intCast_lt_intCast.mp (by exact h0)
    refine ⟨x.floor - 1, by omega, ?_, ?_⟩
    · rw [Rat.intCast_sub]
      have : ((1 : Int) : Rat) = 1 := rfl
      grind
    · rw [Rat.intCast_sub]
      have : ((1 : Int) : Rat) = 1 := rfl
      grind
theorem hour_len {S : List Int} {m : Int} {x : Rat} (h0 : 0 ≤ m) (h1 : (m : Rat) < x) (h2 : x ≤ (S.length : Rat)) : m.toNat < S.length := by
  have h3 : (m : Rat) < (((S.length : Nat) : Int) : Rat) := by
    have : (((S.length : Nat) : Int) : Rat) = (S.length : Rat) := rfl
    grind
  have := Rat.intCast_lt_intCast.mp h3
  omega
/-- the hour at whose speed a length is ended -/
theorem last_hour {S : List Int} {x L e : Rat} (hS : ∀ s ∈ S, 0 ≤ s) (hL : 0 < L) (h0 : 0 ≤ x) (F : First S x L e) : ∃ (m s : Int), 0 ≤ m ∧ m.toNat < S.length ∧ (m : Rat) < e ∧ e ≤ (m : Rat) + 1 ∧ 0 < (s : Rat) ∧ (∀ a b : Rat, (m : Rat) ≤ a → a ≤ b → b ≤ (m : Rat) + 1 → PP S b = PP S a + (b - a) * (s : Rat)) := by
  obtain ⟨k1, k2, k3, k4⟩ := F
  have hxe : x < e := by
    rcases rlt_eq k1 with w | w
    · exact w
    · rw [w] at k3
      grind
  obtain ⟨m, m0, m1, m2⟩ := hour_up (x := e) (by grind)
  have ml := hour_len m0 m1 k2
  have hn2 := nat_rat m0
  have es : S[m.toNat]? = some S[m.toNat] := List.getElem?_eq_getElem ml
  have hour : ∀ a b : Rat, (m : Rat) ≤ a → a ≤ b → b ≤ (m : Rat) + 1 → PP S b = PP S a + (b - a) * ((S[m.toNat] : Int) : Rat) := fun a b h1 h2 h3 => PP_hour es (by rw [hn2]; exact h1) h2 (by rw [hn2]; exact h3)
  refine ⟨m, S[m.toNat], m0, ml, m1, m2, ?_, hour⟩
  have hnn : (0 : Rat) ≤ ((S[m.toNat] : Int) : Rat) := by exact_mod_cast hS _ (List.getElem_mem ml)
  rcases rlt_eq hnn with w | w
  · exact w
  · rcases rle x (m : Rat) with z | z
    · have e1 := hour (m : Rat) e Rat.le_refl (by grind) m2
      have := k4 (m : Rat) z m1
      rw [← w] at e1
      grind
    · have e1 := hour x e z k1 m2
      rw [← w] at e1
      grind
theorem mul_cmp {u v a b : Rat} (hb : 0 < b) (hu : 0 ≤ u) (hab : b ≤ a) (he : v * b = u * a) : u ≤ v := by
  rcases rle u v with w | w
  · exact w
  · rcases rlt_eq w with z | z
    · have h1 := (Rat.mul_lt_mul_right hb).mpr z
      have h2 := Rat.mul_le_mul_of_nonneg_left hab hu
      grind
    · grind
theorem mul_cmp2 {u v a b : Rat} (hb : 0 < b) (hu : 0 ≤ u) (hab : a < b) (he : v * b = u * a) : v ≤ u ∧ (0 < u → v < u) := by
  have h2 := Rat.mul_le_mul_of_nonneg_left (Rat.le_of_lt hab) hu
  have hle : v ≤ u := by
    rcases rle v u with w | w
    · exact w
    · rcases rlt_eq w with z | z
      · have h1 := (Rat.mul_lt_mul_right hb).mpr z
        grind
      · grind
  refine ⟨hle, fun hu0 => ?_⟩
  rcases rlt_eq hle with z | z
  · exact z
  · rw [z] at he
    have := (Rat.mul_lt_mul_left hu0).mpr hab
    grind
theorem span_best (R : RowOk row) (hL : 0 < L) (hL2 : L ≤ 64) (hr : ((row.length : Nat) : Int) = h) (h8 : h ≤ 8) {x e : Rat} (h0 : 0 ≤ x) (F : First (spd true row) x (L : Rat) e) :
    (∃ c ∈ TS row L h, ∃ e', En (spd true row) c L = some e' ∧ Lx (e' - c) c (e - x) x) := by
  have hL0 : (0 : Rat) < (L : Rat) := by exact_mod_cast hL
  have hl : (h : Rat) = (row.length : Rat) := by rw [← hr]; rfl
  obtain ⟨m, sm, m0, ml, m1, m2, hsm, hm⟩ := last_hour spd_nn hL0 h0 F
  obtain ⟨k1, k2, k3, k4⟩ := F
  rw [spd_len] at k2 ml
  have hxe : x < e := by
    rcases rlt_eq k1 with w | w
    · exact w
    · rw [w] at k3
      grind
  obtain ⟨s, es, hf, hlt, hn2, hle, hlt2⟩ := hour_at (row := row) (x := x) h0 (by grind)
  have hk : ∀ a b : Rat, (x.floor : Rat) ≤ a → a ≤ b → b ≤ (x.floor : Rat) + 1 → PP (spd true row) b = PP (spd true row) a + (b - a) * ((max2I 0 s : Int) : Rat) := fun a b h1 h2 h3 => PP_hour (spd_get (a := true) es) (by rw [hn2]; exact h1) h2 (by rw [hn2]; exact h3)
  have mono : ∀ {a b : Rat}, a ≤ b → PP (spd true row) a ≤ PP (spd true row) b := fun h => PP_mono spd_nn h
  generalize ((max2I 0 s : Int) : Rat) = sk at *
  have km : x.floor ≤ m := by
    have : (x.floor : Rat) < (m : Rat) + 1 := by grind
    have e1 : ((m + 1 : Int) : Rat) = (m : Rat) + 1 := by rw [Rat.intCast_add]; rfl
    rw [← e1] at this
    have := Rat.intCast_lt_intCast.mp this
    omega
  have kmr : (x.floor : Rat) ≤ (m : Rat) := Rat.intCast_le_intCast.mpr km
  have em1 : ((m + 1 : Int) : Rat) = (m : Rat) + 1 := by rw [Rat.intCast_add]; rfl
  have ek1 : ((x.floor + 1 : Int) : Rat) = (x.floor : Rat) + 1 := by rw [Rat.intCast_add]; rfl
  have endOf : ∀ c ∈ TS row L h, ∀ t : Rat, c ≤ t → t ≤ (row.length : Rat) → (L : Rat) ≤ PP (spd true row) t - PP (spd true row) c → ∃ e', En (spd true row) c L = some e' ∧ e' ≤ t ∧ First (spd true row) c (L : Rat) e' := by
    intro c hc t h1 h2 h3
    obtain ⟨_, _, G, _⟩ := en_ok (a := true) R (ts_valid R hL hL2 hr h8 hc) hL hL2
    obtain ⟨e', he, hle, _⟩ := reach G h1 (by rw [spd_len]; exact h2) h3
    rw [he] at G
    exact ⟨e', he, hle, G⟩
  by_cases hs : (sm : Rat) ≤ sk
  · -- the first hour is at least as fast: an earlier start
    by_cases hd : (L : Rat) ≤ PP (spd true row) (m : Rat) - PP (spd true row) (x.floor : Rat)
    · have hmpos : 1 ≤ m := by
        rcases Int.lt_or_le 0 m with w | w
        · omega
        · have : m = x.floor := by omega
          rw [this] at hd
          grind
      have hfr : ((0 : Int) : Rat) ≤ (x.floor : Rat) := Rat.intCast_le_intCast.mpr hf
      obtain ⟨c, hc, G, hxc⟩ := ts_last R hL hL2 hr h8 (k := m) hmpos (by omega) (x := (x.floor : Rat)) hfr kmr hd
      obtain ⟨g1, g2, g3, g4⟩ := G
      have hcx : c < x := by
        rcases rle x c with w | w
        · have := mono w
          have := hm (m : Rat) e Rat.le_refl (by grind) m2
          have hp := Rat.mul_pos (show 0 < e - (m : Rat) by grind) hsm
          grind
        · rcases rlt_eq w with z | z
          · exact z
          · have := hm (m : Rat) e Rat.le_refl (by grind) m2
            have hp := Rat.mul_pos (show 0 < e - (m : Rat) by grind) hsm
            rw [z] at g3
            grind
      have e1 := hm (m : Rat) e Rat.le_refl (by grind) m2
      have e2 := hk c x hxc (by grind) (by grind)
      have := mul_cmp (u := x - c) (v := e - (m : Rat)) hsm (by grind) hs (by grind)
      have hmr : (m : Rat) ≤ (row.length : Rat) := by grind
      obtain ⟨e', he, hle', _⟩ := endOf c hc (m : Rat) g2 hmr (by grind)
      refine ⟨c, hc, e', he, ?_⟩
      rcases rlt_eq (show e' - c ≤ e - x by grind) with w | w
      · exact .inl w
      · exact .inr ⟨w, by grind⟩
    · have hc := ts_whole (row := row) (L := L) (k := x.floor) (h := h) hf (by omega)
      have hmo := mono hle
      obtain ⟨e', he, hle', G⟩ := endOf _ hc e (by grind) k2 (by grind)
      have hme : (m : Rat) < e' := by
        rcases rle e' (m : Rat) with w | w
        · have := mono w
          have := G.2.2.1
          grind
        · rcases rlt_eq w with z | z
          · exact z
          · have := G.2.2.1
            rw [← z] at this
            grind
      have e1 := hm e' e (by grind) hle' m2
      have e2 := hk (x.floor : Rat) x Rat.le_refl hle (by grind)
      have g3 := G.2.2.1
      have := mul_cmp (u := x - (x.floor : Rat)) (v := e - e') hsm (by grind) hs (by grind)
      refine ⟨_, hc, e', he, ?_⟩
      rcases rlt_eq (show e' - (x.floor : Rat) ≤ e - x by grind) with w | w
      · exact .inl w
      · exact .inr ⟨w, hle⟩
  · -- the first hour is slower: a later start
    have hs : sk < (sm : Rat) := by grind
    have hm1l : (m : Rat) + 1 ≤ (row.length : Rat) := by
      have : ((m + 1 : Int) : Rat) ≤ (((row.length : Nat) : Int) : Rat) := Rat.intCast_le_intCast.mpr (by omega)
      rw [em1] at this
      exact this
    by_cases hd : (L : Rat) ≤ PP (spd true row) ((m : Rat) + 1) - PP (spd true row) ((x.floor : Rat) + 1)
    · have hkm : x.floor + 1 ≤ m := by
        rcases Int.lt_or_le x.floor m with w | w
        · omega
        · have : m = x.floor := by omega
          rw [this] at hd
          grind
      have hc := ts_whole (row := row) (L := L) (k := x.floor + 1) (h := h) (by omega) (by omega)
      rw [ek1] at hc
      have hkmr : ((x.floor + 1 : Int) : Rat) ≤ (m : Rat) := Rat.intCast_le_intCast.mpr hkm
      obtain ⟨e', he, hle', G⟩ := endOf _ hc ((m : Rat) + 1) (by grind) hm1l hd
      have g3 := G.2.2.1
      have hmo := mono (show x ≤ (x.floor : Rat) + 1 by grind)
      have hee : e ≤ e' := by
        rcases rle e e' with w | w
        · exact w
        · rcases rlt_eq w with z | z
          · have g0 := G.1
            have := k4 e' (by grind) z
            grind
          · grind
      have e1 := hm e e' (by grind) hee hle'
      have e2 := hk x ((x.floor : Rat) + 1) hle (by grind) Rat.le_refl
      have := (mul_cmp2 (u := (x.floor : Rat) + 1 - x) (v := e' - e) hsm (by grind) hs (by grind)).2 (by grind)
      exact ⟨_, hc, e', he, .inl (by grind)⟩
    · have hmo := mono m2
      have hx1 : x ≤ (m : Rat) + 1 := by grind
      have hb : (L : Rat) ≤ PP (spd true row) (((m + 1 : Int)) : Rat) - PP (spd true row) x := by rw [em1]; grind
      obtain ⟨c, hc, G, hxc⟩ := ts_last R hL hL2 hr h8 (k := m + 1) (by omega) (by omega) (x := x) h0 (by rw [em1]; exact hx1) hb
      obtain ⟨g1, g2, g3, g4⟩ := G
      rw [em1] at g2 g3 g4
      have hck : c < (x.floor : Rat) + 1 := by
        rcases rle ((x.floor : Rat) + 1) c with w | w
        · have := mono w
          grind
        · rcases rlt_eq w with z | z
          · exact z
          · rw [z] at g3
            grind
      have e1 := hm e ((m : Rat) + 1) (by grind) m2 Rat.le_refl
      have e2 := hk x c hle hxc (by grind)
      have h3 := mul_cmp2 (u := c - x) (v := (m : Rat) + 1 - e) hsm (by grind) hs (by grind)
      obtain ⟨e', he, hle', _⟩ := endOf c hc ((m : Rat) + 1) g2 hm1l (by grind)
      refine ⟨c, hc, e', he, ?_⟩
      rcases rlt_eq hxc with w | w
      · have := h3.2 (by grind)
        exact .inl (by grind)
      · have := h3.1
        rcases rlt_eq (show e' - c ≤ e - x by grind) with w2 | w2
        · exact .inl w2
        · exact .inr ⟨w2, by grind⟩
/-- a turning start is whole, or its end is -/
theorem turn_whole (R : RowOk row) (hL : 0 < L) (hL2 : L ≤ 64) (hr : ((row.length : Nat) : Int) = h) (h8 : h ≤ 8) {c e : Rat} (hc : c ∈ TS row L h) (F : First (spd true row) c (L : Rat) e) : (∃ k : Int, c = (k : Rat)) ∨ ∃ k : Int, e = (k : Rat) := by
  rcases ts_mem R hL hL2 hr h8 hc with ⟨k, rfl, k0, k1⟩ | ⟨k, k0, k1, G, z⟩
  · exact .inl ⟨k, rfl⟩
  · right
    have hL0 : (0 : Rat) < (L : Rat) := by exact_mod_cast hL
    obtain ⟨g1, g2, g3, g4⟩ := G
    obtain ⟨m, sm, m0, ml, m1, m2, hsm, hm⟩ := last_hour spd_nn hL0 g1 F
    obtain ⟨k1, k2, k3, k4⟩ := F
    have em1 : ((m + 1 : Int) : Rat) = (m : Rat) + 1 := by rw [Rat.intCast_add]; rfl
    have hek : e ≤ (k : Rat) := by
      rcases rle e (k : Rat) with w | w
      · exact w
      · rcases rlt_eq w with z | z
        · have := k4 (k : Rat) g2 z
          grind
        · grind
    have hmk : m + 1 ≤ k := by
      have : (m : Rat) < (k : Rat) := by grind
      have := Rat.intCast_lt_intCast.mp this
      omega
    have hmk2 : ((m + 1 : Int) : Rat) ≤ (k : Rat) := Rat.intCast_le_intCast.mpr hmk
    rw [em1] at hmk2
    refine ⟨m + 1, ?_⟩
    rw [em1]
    rcases rlt_eq m2 with w | w
    · have e1 := hm e ((m : Rat) + 1) (by grind) m2 Rat.le_refl
      have hp := Rat.mul_pos (show 0 < (m : Rat) + 1 - e by grind) hsm
      have := PP_mono (S := spd true row) (a := (m : Rat) + 1) (b := (k : Rat)) spd_nn hmk2
      grind
    · exact w
end
end MM
namespace MM
open PySem PySem.Spec PyProof.Rows L2

/-! ### the law -/
def tf (k : Int) : Rat := Rat.divInt k 12
theorem tf_div {k : Int} : tf k = (k : Rat) / 12 := by unfold tf; rw [Rat.divInt_eq_div]; rfl
theorem okb_bound {n : Nat} : ∀ {xs : List D}, (∀ x ∈ xs, ∃ B, okb B n x = true) → ∃ B, ∀ x ∈ xs, okb B n x = true
  | [], _ => ⟨0, by simp⟩
  | x :: r, h => by
    obtain ⟨B, h1⟩ := h x List.mem_cons_self
    obtain ⟨B2, h2⟩ := okb_bound (xs := r) fun y hy => h y (List.mem_cons_of_mem _ hy)
    refine ⟨B + B2, fun y hy => ?_⟩
    rcases List.mem_cons.mp hy with rfl | hy
    · exact okb_mono h1 (by omega) (Nat.le_refl _)
    · exact okb_mono (h2 y hy) (by omega) (Nat.le_refl _)
theorem okb_tup2 {n B1 B2 : Nat} {x y : D} (h1 : okb B1 n x = true) (h2 : okb B2 n y = true) : ∃ B, okb B (n + 1) (.tup [x, y]) = true := by
  refine ⟨B1 + B2 + 2, ?_⟩
  rw [okb_tup]
  refine ⟨fun z hz => ?_, by simp⟩
  simp at hz
  rcases hz with rfl | rfl
  · exact okb_mono h1 (by omega) (Nat.le_refl _)
  · exact okb_mono h2 (by omega) (Nat.le_refl _)
theorem opt_okb {p : Option (Int × Int)} : ∃ B, okb B 2 ((eO (eT2 eI eI)) p) = true := by
  cases p with
  | none => exact ⟨0, rfl⟩
  | some p => exact ⟨_, pair_okb'⟩
theorem eq_nil1 {xs : List (Option (Int × Int) × (Int × Int))} : eqA (A.ls (xs.map (eT2 (eO (eT2 eI eI)) (eT2 eI eI)))) (A.ls (([] : List Unit).map eN)) = some xs.isEmpty := by
  obtain ⟨B, h⟩ := okb_bound (n := 3) (xs := xs.map (eT2 (eO (eT2 eI eI)) (eT2 eI eI))) (fun x hx => by
    obtain ⟨p, _, rfl⟩ := List.mem_map.mp hx
    obtain ⟨B, hB⟩ := opt_okb (p := p.1)
    exact okb_tup2 hB (pair_okb' (p := p.2)))
  have := eqA_ls_nil h (by omega)
  rw [List.isEmpty_map] at this
  exact this
theorem eq_nil2 {xs : List ((Int × Int) × (Int × Int))} : eqA (A.ls (xs.map (eT2 (eT2 eI eI) (eT2 eI eI)))) (A.ls (([] : List Unit).map eN)) = some xs.isEmpty := by
  obtain ⟨B, h⟩ := okb_bound (n := 3) (xs := xs.map (eT2 (eT2 eI eI) (eT2 eI eI))) (fun x hx => by
    obtain ⟨p, _, rfl⟩ := List.mem_map.mp hx
    exact okb_tup2 (pair_okb' (p := p.1)) (pair_okb' (p := p.2)))
  have := eqA_ls_nil h (by omega)
  rw [List.isEmpty_map] at this
  exact this
theorem eq_opts {p q : Int × Int} : eqA (A.d ((eO (eT2 eI eI)) (some p))) (A.d ((eO (eT2 eI eI)) (some q))) = some (decide (p = q)) := eq_pairs
section
variable {row : List Int} {L h : Int}
theorem tf_ok (hr : ((row.length : Nat) : Int) = h) (h8 : h ≤ 8) {k : Int} (k0 : 0 ≤ k) (k1 : k < 12 * h) : p__law_ratio k 12 = some (rt (tf k)) ∧ Vd row (tf k) ∧ tf k < (h : Rat) ∧ Rz 7 (tf k) := by
  have z6 : Sz 7 (12 : Int) := sz7 (by omega)
  have zq : Sz 7 k := sz7 (by omega)
  have hl : (h : Rat) = (row.length : Rat) := by rw [← hr]; rfl
  have a0 : ((0 : Int) : Rat) ≤ (k : Rat) := Rat.intCast_le_intCast.mpr k0
  have a1 : (k : Rat) < ((12 * h : Int) : Rat) := Rat.intCast_lt_intCast.mpr k1
  have a2 : ((12 * h : Int) : Rat) = 12 * (h : Rat) := by rw [Rat.intCast_mul]; rfl
  have a3 : ((0 : Int) : Rat) = 0 := rfl
  have e := tf_div (k := k)
  have zz : Rz 7 (tf k) := divInt_sz (by omega) zq z6
  exact ⟨lratio_ok (n := 7) (by omega) z6 zq (by omega), ⟨by grind, by grind, zz.mono (by omega)⟩, by grind, zz⟩
theorem tless_ok {k : Int} {st : Rat} (k0 : 0 ≤ k) (k1 : k < 12 * h) (h8 : h ≤ 8) (z : Rz 7 st) : p__law_less (k, (12 : Int)) (rt st) = some (decide (tf k < st)) := by
  have z6 : Sz 7 (12 : Int) := sz7 (by omega)
  have zq : Sz 7 k := sz7 (by omega)
  unfold p__law_less rt
  simp only
  rw [mulO_sz zq z.2 (by omega), Option.bind_some, mulO_sz z.1 z6 (by omega), Option.bind_some]
  congr 1
  rw [Bool.eq_iff_iff, decide_eq_true_eq, decide_eq_true_eq]
  have hd : (0 : Rat) < ((st.den : Int) : Rat) := by exact_mod_cast den_pos st
  have e1 : st * ((st.den : Int) : Rat) = (st.num : Rat) := by
    have e6 := Rat.num_divInt_den st
    rw [Rat.divInt_eq_div] at e6
    have e7 : (st.num : Rat) / ((st.den : Int) : Rat) * ((st.den : Int) : Rat) = (st.num : Rat) := Rat.div_mul_cancel (by grind)
    rw [e6] at e7
    exact e7
  have e2 := tf_div (k := k)
  have e3 : ((k * (st.den : Int) : Int) : Rat) = (k : Rat) * ((st.den : Int) : Rat) := Rat.intCast_mul _ _
  have e4 : ((st.num * 12 : Int) : Rat) = (st.num : Rat) * 12 := Rat.intCast_mul _ _
  have e5 : (k : Rat) = tf k * 12 := by grind
  constructor
  · intro hlt
    have := Rat.intCast_lt_intCast.mpr hlt
    rw [e3, e4, ← e1, e5] at this
    exact (Rat.mul_lt_mul_right (c := ((st.den : Int) : Rat) * 12) (by grind)).mp (by grind)
  · intro hlt
    refine Rat.intCast_lt_intCast.mp ?_
    rw [e3, e4, ← e1, e5]
    have := (Rat.mul_lt_mul_right (c := ((st.den : Int) : Rat) * 12) (by grind)).mpr hlt
    grind
noncomputable def evG (row : List Int) (L : Int) (st : Rat) (k : Int) : Option (Option (Int × Int) × (Int × Int)) := if tf k < st then none else (En (spd false row) (tf k) L).map fun e => (some (rt e), rt (tf k))
noncomputable def EV (row : List Int) (L h : Int) (st : Rat) := (rangeT 0 (12 * h).toNat).filterMap (evG row L st)
theorem every_ok (R : RowOk row) (hL : 0 < L) (hL2 : L ≤ 64) (hr : ((row.length : Nat) : Int) = h) (h8 : h ≤ 8) (h0 : 0 ≤ h) {st : Rat} (z : Rz 7 st) :
    forO (fun (k15 : Int) (s16 : (List ((Option (Int × Int)) × (Int × Int)))) => letF (k15, (12 : Int)) fun (here17 : (Int × Int)) => (p__law_less here17 (rt st)).bind fun (v18 : Bool) => cond (!v18) ((p__law_ratio k15 (12 : Int)).bind fun (v19 : (Int × Int)) => (p__law_end row L v19 false).bind fun (v20 : (Option (Int × Int))) => cond v20.isSome ((p__law_ratio k15 (12 : Int)).bind fun (v21 : (Int × Int)) => (pushO s16 (v20, v21)).bind fun (v22 : (List ((Option (Int × Int)) × (Int × Int)))) => some v22) (some s16)) (some s16)) (rangeT 0 ((12 : Int) * h).toNat) ([] : (List ((Option (Int × Int)) × (Int × Int)))) = some (EV row L h st) := by
  rw [forO_gather (g := evG row L st) (fun k hk s hs => ?_) (by simp [rangeT_len]; omega)]
  · rfl
  · have hk := rangeT_mem.mp hk
    obtain ⟨t1, t2, t3, _⟩ := tf_ok (row := row) hr h8 (k := k) (by omega) (by omega)
    obtain ⟨e1, _, _, _⟩ := en_ok (a := false) R t2 hL hL2
    rw [letF_eq, tless_ok (h := h) (by omega) (by omega) h8 z, Option.bind_some]
    unfold evG
    by_cases hlt : tf k < st
    · rw [decide_eq_true hlt, if_pos hlt]
      rfl
    · rw [decide_eq_false hlt, if_neg hlt, Bool.not_false, cond_true, t1, Option.bind_some, e1, Option.bind_some, Option.bind_some]
      cases En (spd false row) (tf k) L with
      | none => rfl
      | some e =>
        show (pushO s (some (rt e), rt (tf k))).bind _ = _
        rw [pushO_some hs]
        rfl
theorem ev_mem (hr : ((row.length : Nat) : Int) = h) (h8 : h ≤ 8) {st : Rat} {y : Option (Int × Int) × (Int × Int)} (hy : y ∈ EV row L h st) : ∃ x e, y = (some (rt e), rt x) ∧ st ≤ x ∧ Vd row x ∧ x < (h : Rat) ∧ Rz 7 x ∧ En (spd false row) x L = some e := by
  unfold EV at hy
  obtain ⟨k, hk, e⟩ := List.mem_filterMap.mp hy
  have hk := rangeT_mem.mp hk
  obtain ⟨t1, t2, t3, t4⟩ := tf_ok (row := row) hr h8 (k := k) (by omega) (by omega)
  unfold evG at e
  by_cases hlt : tf k < st
  · rw [if_pos hlt] at e; cases e
  · rw [if_neg hlt] at e
    cases hE : En (spd false row) (tf k) L with
    | none => rw [hE] at e; cases e
    | some v =>
      rw [hE] at e
      cases e
      exact ⟨tf k, v, rfl, by grind, t2, t3, t4, hE⟩
theorem ev_in {st e : Rat} {k : Int} (k0 : 0 ≤ k) (k1 : k < 12 * h) (hs : st ≤ tf k) (hE : En (spd false row) (tf k) L = some e) : EV row L h st ≠ [] := by
  have : (some (rt e), rt (tf k)) ∈ EV row L h st := by
    unfold EV
    refine List.mem_filterMap.mpr ⟨k, rangeT_mem.mpr (by omega), ?_⟩
    unfold evG
    rw [if_neg (by grind), hE]
    rfl
  intro h0
  rw [h0] at this
  cases this
theorem tf_whole {k : Int} : tf (12 * k) = (k : Rat) := by
  rw [tf_div, Rat.intCast_mul]
  have : ((12 : Int) : Rat) = 12 := rfl
  grind
theorem tf_sixth {q : Int} : tf (2 * q) = Rat.divInt q 6 := by
  rw [tf_div, Rat.intCast_mul, Rat.divInt_eq_div]
  have a : ((2 : Int) : Rat) = 2 := rfl
  have b : ((6 : Int) : Rat) = 6 := rfl
  grind
/-- what is told without an anchor -/
theorem partA (R : RowOk row) (hL : 0 < L) (hL2 : L ≤ 64) (hr : ((row.length : Nat) : Int) = h) (h8 : h ≤ 8) {q : Int} (q0 : 0 ≤ q) (q1 : q < 6 * h) {st : Rat} (hst : st = Rat.divInt q 6) (z : Rz 7 st) (h0 : 0 ≤ st) (h1 : st < (h : Rat)) {Q : Option (Lp Bool Bx)} :
    ((p_best_drift row L (rt st)).bind fun (v12 : (Option ((Option (Int × Int)) × (Int × Int)))) => letF ([] : (List ((Option (Int × Int)) × (Int × Int)))) fun (every13 : (List ((Option (Int × Int)) × (Int × Int)))) => (rgO ((12 : Int) * h)).bind fun (v14 : Unit) => (forO (fun (k15 : Int) (s16 : (List ((Option (Int × Int)) × (Int × Int)))) => letF (k15, (12 : Int)) fun (here17 : (Int × Int)) => (p__law_less here17 (rt st)).bind fun (v18 : Bool) => cond (!v18) ((p__law_ratio k15 (12 : Int)).bind fun (v19 : (Int × Int)) => (p__law_end row L v19 false).bind fun (v20 : (Option (Int × Int))) => cond v20.isSome ((p__law_ratio k15 (12 : Int)).bind fun (v21 : (Int × Int)) => (pushO s16 (v20, v21)).bind fun (v22 : (List ((Option (Int × Int)) × (Int × Int)))) => some v22) (some s16)) (some s16)) (rangeT 0 ((12 : Int) * h).toNat) every13).bind fun (st23 : (List ((Option (Int × Int)) × (Int × Int)))) => (eqA (A.ls (st23.map (eT2 (eO (eT2 eI eI)) (eT2 eI eI)))) (A.ls (([] : (List Unit)).map eN))).bind fun (v24 : Bool) => (neA (A.d (eB v12.isNone)) (A.d (eB v24))).bind fun (v25 : Bool) => cond v25 (some (Lp.out false)) ((cond v12.isSome ((v12).bind fun (v26 : ((Option (Int × Int)) × (Int × Int))) => (p__law_end row L v26.2 false).bind fun (v27 : (Option (Int × Int))) => (sameO ((eO (eT2 eI eI)) v27) ((eO (eT2 eI eI)) v26.1)).bind fun (v28 : Bool) => (cond (!v28) (some true) ((mapO (fun (x29 : ((Option (Int × Int)) × (Int × Int))) => (x29.1).bind fun (v30 : (Int × Int)) => (v26.1).bind fun (v31 : (Int × Int)) => p__law_less v30 v31) st23).bind fun (v33 : (List Bool)) => some (v33.any id))).bind fun (v34 : Bool) => cond v34 (some (Sum.inl (Lp.out false))) ((mapO (fun (x35 : ((Option (Int × Int)) × (Int × Int))) => (eqA (A.d ((eO (eT2 eI eI)) x35.1)) (A.d ((eO (eT2 eI eI)) v26.1))).bind fun (v36 : Bool) => cond v36 (p__law_less x35.2 v26.2) (some false)) st23).bind fun (v39 : (List Bool)) => (cond (v39.any id) (some true) ((p__law_less v26.2 (rt st)).bind fun (v40 : Bool) => cond v40 (some true) ((neA (A.d ((eT2 eI eI) v26.2)) (A.d ((eT2 eI eI) (rt st)))).bind fun (v41 : Bool) => some (v41 && (!decide (v26.2.2 = (1 : Int))))))).bind fun (v43 : Bool) => cond v43 (some (Sum.inl (Lp.out false))) ((v26.1).bind fun (v44 : (Int × Int)) => (p_leg_end row L (rt st) true).bind fun (v45 : (Option (Int × Int))) => (v45).bind fun (v46 : (Int × Int)) => (p_less v44 v46).bind fun (v47 : Bool) => cond v47 (some (Sum.inl (Lp.out false))) (some (Sum.inr ()))))) (some (Sum.inr ()))).bind (orX (fun (r : (Lp Bool Bx)) => r) fun (st48 : Unit) => (p_leg_end row L (rt st) false).bind fun (v49 : (Option (Int × Int))) => (cond v49.isSome (cond v12.isNone (some true) ((v49).bind fun (v50 : (Int × Int)) => (v12).bind fun (v51 : ((Option (Int × Int)) × (Int × Int))) => (v51.1).bind fun (v52 : (Int × Int)) => p_less v50 v52)) (some false)).bind fun (v55 : Bool) => cond v55 (some (Lp.out false)) Q))) = Q := by
  have hl : (h : Rat) = (row.length : Rat) := by rw [← hr]; rfl
  have hL0 : (0 : Rat) < (L : Rat) := by exact_mod_cast hL
  have hstm : st ∈ CS st h := List.mem_cons_self
  have Vst := (cs_valid hr h8 z h0 h1 hstm).1
  obtain ⟨_, es, Fs, zs⟩ := en_ok (a := false) R Vst hL hL2
  have hevl : (EV row L h st).length ≤ 16777216 := by
    unfold EV
    refine Nat.le_trans (List.length_filterMap_le _ _) ?_
    rw [rangeT_len]
    omega
  have best : ∀ y ∈ EV row L h st, ∃ x e, y = (some (rt e), rt x) ∧ Rz 221 x ∧ Rz 863 e ∧ ∃ c ∈ CS st h, ∃ e', En (spd false row) c L = some e' ∧ (e' < e ∨ (e' = e ∧ c ≤ x)) := by
    intro y hy
    obtain ⟨x, e, rfl, x1, x2, x3, x4, hE⟩ := ev_mem hr h8 hy
    obtain ⟨_, _, F, zz⟩ := en_ok (a := false) R x2 hL hL2
    rw [hE] at F
    exact ⟨x, e, rfl, x2.sz, zz e hE, drift_best R hL hL2 hr h8 z h0 h1 x1 x3 F⟩
  rcases best_ok R hL hL2 hr h8 z h0 h1 with ⟨a, b⟩ | ⟨c, e, a, hc, hE, b⟩
  · have hev : EV row L h st = [] := by
      cases hx : EV row L h st with
      | nil => rfl
      | cons y r =>
        obtain ⟨x, e, _, _, _, c, hc, e', hE, _⟩ := best y (by rw [hx]; exact List.mem_cons_self)
        rw [b c hc] at hE
        cases hE
    rw [a, Option.bind_some, letF_eq, rgO_of (by omega) (by omega), Option.bind_some, every_ok R hL hL2 hr h8 (by omega) z, Option.bind_some, eq_nil1, hev, Option.bind_some]
    show (neA (A.d (eB true)) (A.d (eB true))).bind _ = _
    rw [ne_bls, Option.bind_some]
    show (p_leg_end row L (rt st) false).bind _ = _
    rw [es, b st hstm]
    rfl
  · obtain ⟨Vc, hcs⟩ := cs_valid hr h8 z h0 h1 hc
    obtain ⟨el, _, F, zc⟩ := en_ok (a := false) R Vc hL hL2
    rw [hE] at F el
    have ze := zc e hE
    have F : First (spd false row) c (L : Rat) e := F
    have hne : EV row L h st ≠ [] := by
      rcases cs_mem hc with rfl | ⟨k, rfl, k1, k2⟩ | rfl
      · have e6 := tf_sixth (q := q)
        rw [← hst] at e6
        exact ev_in (k := 2 * q) (by omega) (by omega) (by rw [e6]; exact Rat.le_refl) (by rw [e6]; exact hE)
      · have := floor_nn h0
        exact ev_in (k := 12 * k) (by omega) (by omega) (by rw [tf_whole]; exact hcs) (by rw [tf_whole]; exact hE)
      · obtain ⟨k1, k2, k3, k4⟩ := F
        rw [spd_len] at k2
        have : e = (h : Rat) := by grind
        rw [this] at k3
        grind
    have hemp : (EV row L h st).isEmpty = false := by
      cases hx : EV row L h st with
      | nil => exact absurd hx hne
      | cons y r => rfl
    rw [a, Option.bind_some, letF_eq, rgO_of (by omega) (by omega), Option.bind_some, every_ok R hL hL2 hr h8 (by omega) z, Option.bind_some, eq_nil1, hemp, Option.bind_some]
    show (neA (A.d (eB false)) (A.d (eB false))).bind _ = _
    rw [ne_bls, Option.bind_some]
    -- no end of the law is earlier
    obtain ⟨b1, m1, n1⟩ := any_none (f := fun (x29 : ((Option (Int × Int)) × (Int × Int))) => (x29.1).bind fun (v30 : (Int × Int)) => (some (rt e)).bind fun (v31 : (Int × Int)) => p__law_less v30 v31) (xs := EV row L h st) (fun y hy => by
      obtain ⟨x, e1, rfl, zx, z1, c', hc', e', hE', hd⟩ := best y hy
      show p__law_less (rt e1) (rt e) = _
      rw [lless_ok z1 ze (by omega), decide_eq_false]
      intro hlt
      have := b c' hc' e' hE'
      grind) hevl
    obtain ⟨b2, m2, n2⟩ := any_none (f := fun (x35 : ((Option (Int × Int)) × (Int × Int))) => (eqA (A.d ((eO (eT2 eI eI)) x35.1)) (A.d ((eO (eT2 eI eI)) (some (rt e))))).bind fun (v36 : Bool) => cond v36 (p__law_less x35.2 (rt c)) (some false)) (xs := EV row L h st) (fun y hy => by
      obtain ⟨x, e1, rfl, zx, z1, c', hc', e', hE', hd⟩ := best y hy
      show (eqA (A.d ((eO (eT2 eI eI)) (some (rt e1)))) (A.d ((eO (eT2 eI eI)) (some (rt e))))).bind (fun v36 => cond v36 (p__law_less (rt x) (rt c)) (some false)) = _
      rw [eq_opts, Option.bind_some, rt_eq]
      by_cases he : e1 = e
      · rw [decide_eq_true he, cond_true, lless_ok zx Vc.sz (by omega), decide_eq_false]
        intro hlt
        have := b c' hc' e' hE'
        grind
      · rw [decide_eq_false he]
        rfl) hevl
    have three : (cond (b2.any id) (some true) ((p__law_less (rt c) (rt st)).bind fun (v40 : Bool) => cond v40 (some true) ((neA (A.d ((eT2 eI eI) (rt c))) (A.d ((eT2 eI eI) (rt st)))).bind fun (v41 : Bool) => some (v41 && (!decide ((rt c).2 = (1 : Int))))))) = some false := by
      rw [n2, cond_false, lless_ok Vc.sz Vst.sz (by omega), decide_eq_false (by grind), Option.bind_some, cond_false, ne_pairs, Option.bind_some, rt_eq]
      rcases cs_mem hc with rfl | ⟨k, rfl, k1, k2⟩ | rfl
      · rw [decide_eq_true rfl]
        rfl
      · rw [rt_int]
        simp
      · rw [rt_int]
        simp
    have four : ∃ e4, p_leg_end row L (rt st) true = some (some (rt e4)) ∧ e4 ≤ e ∧ Rz 863 e4 := by
      obtain ⟨_, e2, G, zg⟩ := en_ok (a := true) R Vst hL hL2
      obtain ⟨k1, k2, k3, k4⟩ := F
      have hd := PP_dom (row := row) k1
      have hm := PP_mono (S := spd true row) (a := st) (b := c) spd_nn hcs
      obtain ⟨e4, he, hle, _⟩ := reach G (show st ≤ e by grind) (by rw [spd_len] at *; exact k2) (by grind)
      rw [he] at e2
      exact ⟨e4, e2, hle, zg e4 he⟩
    obtain ⟨e4, x4, l4, z4⟩ := four
    have five : (cond ((En (spd false row) st L).map rt).isSome (cond (some (some (rt e), rt c)).isNone (some true) ((((En (spd false row) st L).map rt)).bind fun (v50 : (Int × Int)) => p_less v50 (rt e))) (some false)) = some false := by
      cases hx : En (spd false row) st L with
      | none => rfl
      | some e5 =>
        show p_less (rt e5) (rt e) = _
        rw [less_ok (zs e5 hx) ze (by omega), decide_eq_false]
        have := b st hstm e5 hx
        grind
    show ((p__law_end row L (rt c) false).bind _).bind _ = _
    rw [el, Option.bind_some]
    show ((sameO ((eO (eT2 eI eI)) (some (rt e))) ((eO (eT2 eI eI)) (some (rt e)))).bind _).bind _ = _
    rw [same_opt, Option.bind_some]
    show (((mapO _ (EV row L h st)).bind _).bind _).bind _ = _
    rw [m1, Option.bind_some, n1, Option.bind_some, cond_false]
    show ((mapO _ (EV row L h st)).bind _).bind _ = _
    rw [m2, Option.bind_some]
    show ((cond (b2.any id) (some true) ((p__law_less (rt c) (rt st)).bind fun (v40 : Bool) => cond v40 (some true) ((neA (A.d ((eT2 eI eI) (rt c))) (A.d ((eT2 eI eI) (rt st)))).bind fun (v41 : Bool) => some (v41 && (!decide ((rt c).2 = (1 : Int))))))).bind _).bind _ = _
    rw [three, Option.bind_some, cond_false]
    show ((p_leg_end row L (rt st) true).bind _).bind _ = _
    rw [x4, Option.bind_some]
    show ((p_less (rt e) (rt e4)).bind _).bind _ = _
    rw [less_ok ze z4 (by omega), decide_eq_false (by grind), Option.bind_some, cond_false]
    show (p_leg_end row L (rt st) false).bind _ = _
    rw [es, Option.bind_some]
    show ((cond ((En (spd false row) st L).map rt).isSome (cond (some (some (rt e), rt c)).isNone (some true) ((((En (spd false row) st L).map rt)).bind fun (v50 : (Int × Int)) => p_less v50 (rt e))) (some false))).bind _ = _
    rw [five]
    rfl
end
end MM
namespace MM
open PySem PySem.Spec PyProof.Rows L2

/-! ### the law: starts to try, turning starts, with an anchor -/
section
variable {row : List Int} {L h : Int}
theorem partB {st : Rat} (z : Rz 7 st) (h0 : 0 ≤ st) (h1 : st < (h : Rat)) (h8 : h ≤ 8) {Q : Option (Lp Bool Bx)} :
    ((rgO h).bind fun (v56 : Unit) => (compO (fun (x57 : Int) => p__law_less (rt st) (x57, (1 : Int))) (fun (x57 : Int) => some (x57, (1 : Int))) (rangeT 0 h.toNat)).bind fun (v59 : (List (Int × Int))) => (catO ([rt st] : (List (Int × Int))) v59).bind fun (v60 : (List (Int × Int))) => (p__law_less (rt st) (h, (1 : Int))).bind fun (v61 : Bool) => (catO v60 (cond v61 ([(h, (1 : Int))] : (List (Int × Int))) ([] : (List (Int × Int))))).bind fun (v62 : (List (Int × Int))) => (p_drift_starts row (rt st) (h, (1 : Int))).bind fun (v63 : (List (Int × Int))) => (sameLO (v63.map (eT2 eI eI)) (v62.map (eT2 eI eI))).bind fun (v64 : Bool) => cond (!v64) (some (Lp.out false)) Q) = Q := by
  have hf := floor_nn h0
  have hfh := floor_lt_int.mp h1
  have zh : Rz 7 (h : Rat) := hour_sz (by omega) (by omega)
  have e1 := drift_ok (row := row) z h0 h1 h8
  rw [rgO_of (by omega) (by omega), Option.bind_some, lstarts_ok z h0 h1 h8, Option.bind_some, catO_some (by simp [rangeT_len]; omega), Option.bind_some, ← rt_int, lless_ok z zh (by omega), decide_eq_true h1, Option.bind_some, cond_true, catO_some (by simp [rangeT_len]; omega), Option.bind_some, e1, Option.bind_some]
  have e2 : [rt st] ++ List.map rt (List.map ratI (rangeT (st.floor + 1) (h - (st.floor + 1)).toNat)) ++ [rt (h : Rat)] = (CS st h).map rt := by simp [CS]
  rw [e2, same_pairs (by simp [CS, rangeT_len]; omega)]
  rfl
theorem ts_len (h0 : 0 ≤ h) (h8 : h ≤ 8) : (TS row L h).length ≤ 100 := by
  unfold TS
  rw [List.length_append, List.length_map, rangeT_len]
  have := List.length_filterMap_le (Ls row L) (rangeT 1 h.toNat)
  rw [rangeT_len] at this
  omega
theorem partC (R : RowOk row) (hL : 0 < L) (hL2 : L ≤ 64) (hr : ((row.length : Nat) : Int) = h) (h8 : h ≤ 8) {Q : List (Int × Int) → Option (Lp Bool Bx)} :
    ((rgO h).bind fun (v65 : Unit) => (mapP (fun (x66 : Int) => (x66, (1 : Int))) (rangeT 0 h.toNat)).bind fun (v67 : (List (Int × Int))) => (rgO (1 : Int)).bind fun (v68 : Unit) => (rgO (h + (1 : Int))).bind fun (v69 : Unit) => (forO (fun (k70 : Int) (s71 : (List (Int × Int))) => (p_latest_start row L (k70, (1 : Int))).bind fun (v72 : (Option (Int × Int))) => cond v72.isSome ((v72).bind fun (v73 : (Int × Int)) => (pushO s71 v73).bind fun (v74 : (List (Int × Int))) => some v74) (some s71)) (rangeT (1 : Int) ((h + (1 : Int)) - (1 : Int)).toNat) v67).bind fun (st75 : (List (Int × Int))) => (p_turning_starts row L).bind fun (v76 : (List (Int × Int))) => (sameLO (v76.map (eT2 eI eI)) (st75.map (eT2 eI eI))).bind fun (v77 : Bool) => cond (!v77) (some (Lp.out false)) (Q st75)) = Q ((TS row L h).map rt) := by
  have e : (rangeT 0 h.toNat).map (fun (x66 : Int) => (x66, (1 : Int))) = ((rangeT 0 h.toNat).map ratI).map rt := by
    rw [List.map_map]
    refine List.map_congr_left fun k _ => ?_
    exact (rt_ratI (k := k)).symm
  rw [rgO_of (by omega) (by omega), Option.bind_some, mapP_some (by rw [rangeT_len]; omega), Option.bind_some, e, rgO_of (by omega) (by omega), Option.bind_some, rgO_of (by omega) (by omega), Option.bind_some, gather_ls R hL hL2 hr h8 (by omega) (fun k s => by rw [rt_int]), Option.bind_some, turn_ok R hL hL2 hr h8, Option.bind_some, same_pairs (by have := ts_len (row := row) (L := L) (h := h) (by omega) h8; simp; omega)]
  rfl
noncomputable def spG (row : List Int) (L : Int) (x : Rat) : Option ((Int × Int) × (Int × Int)) := (En (spd true row) x L).map fun e => (rt (e - x), rt x)
theorem spans_ok (R : RowOk row) (hL : 0 < L) (hL2 : L ≤ 64) {xs : List Rat} (V : ∀ x ∈ xs, Vd row x) (hz : xs.length ≤ 1000) : forO (fun (here85 : (Int × Int)) (s86 : (List ((Int × Int) × (Int × Int)))) => (p__law_end row L here85 true).bind fun (v87 : (Option (Int × Int))) => cond v87.isSome ((v87).bind fun (v88 : (Int × Int)) => (p__law_plus v88 ((-here85.1), here85.2)).bind fun (v89 : (Int × Int)) => (pushO s86 (v89, here85)).bind fun (v90 : (List ((Int × Int) × (Int × Int)))) => some v90) (some s86)) (xs.map rt) ([] : (List ((Int × Int) × (Int × Int)))) = some (xs.filterMap (spG row L)) := by
  rw [forO_map, forO_gather (g := spG row L) (fun x hx s hs => ?_) (by simp; omega)]
  · rfl
  · obtain ⟨e1, _, _, zz⟩ := en_ok (a := true) R (V x hx) hL hL2
    rw [e1, Option.bind_some]
    unfold spG
    cases hE : En (spd true row) x L with
    | none => rfl
    | some e =>
      have ze := zz e hE
      show (p__law_plus (rt e) (-(rt x).1, (rt x).2)).bind _ = _
      rw [neg_rt, lplus_ok ze (rz_neg (V x hx).sz) (by omega), Option.bind_some, pushO_some hs]
      have : e + -x = e - x := by grind
      rw [this]
      rfl
theorem partD (R : RowOk row) (hL : 0 < L) (hL2 : L ≤ 64) (hr : ((row.length : Nat) : Int) = h) (h8 : h ≤ 8) (h0 : 0 ≤ h) {b : Bx} :
    ((p_quickest_start row L).bind fun (v78 : (Option ((Int × Int) × (Int × Int)))) => letF ([] : (List ((Int × Int) × (Int × Int)))) fun (spans79 : (List ((Int × Int) × (Int × Int)))) => (rgO ((12 : Int) * h)).bind fun (v80 : Unit) => (mapO (fun (x81 : Int) => p__law_ratio x81 (12 : Int)) (rangeT 0 ((12 : Int) * h).toNat)).bind fun (v83 : (List (Int × Int))) => (catO ((TS row L h).map rt) v83).bind fun (v84 : (List (Int × Int))) => (forO (fun (here85 : (Int × Int)) (s86 : (List ((Int × Int) × (Int × Int)))) => (p__law_end row L here85 true).bind fun (v87 : (Option (Int × Int))) => cond v87.isSome ((v87).bind fun (v88 : (Int × Int)) => (p__law_plus v88 ((-here85.1), here85.2)).bind fun (v89 : (Int × Int)) => (pushO s86 (v89, here85)).bind fun (v90 : (List ((Int × Int) × (Int × Int)))) => some v90) (some s86)) v84 spans79).bind fun (st91 : (List ((Int × Int) × (Int × Int)))) => (eqA (A.ls (st91.map (eT2 (eT2 eI eI) (eT2 eI eI)))) (A.ls (([] : (List Unit)).map eN))).bind fun (v92 : Bool) => (neA (A.d (eB v78.isNone)) (A.d (eB v92))).bind fun (v93 : Bool) => cond v93 (some (Lp.out false)) (cond v78.isSome ((v78).bind fun (v94 : ((Int × Int) × (Int × Int))) => (mapO (fun (x95 : ((Int × Int) × (Int × Int))) => (p__law_less x95.1 v94.1).bind fun (v96 : Bool) => cond v96 (some true) ((eqA (A.d ((eT2 eI eI) x95.1)) (A.d ((eT2 eI eI) v94.1))).bind fun (v97 : Bool) => cond v97 (p__law_less x95.2 v94.2) (some false))) st91).bind fun (v101 : (List Bool)) => cond (v101.any id) (some (Lp.out false)) ((p__law_end row L v94.2 true).bind fun (v102 : (Option (Int × Int))) => (v102).bind fun (v103 : (Int × Int)) => (p__law_plus v103 ((-v94.2.1), v94.2.2)).bind fun (v104 : (Int × Int)) => (neA (A.d ((eT2 eI eI) v104)) (A.d ((eT2 eI eI) v94.1))).bind fun (v105 : Bool) => (cond v105 (some true) (cond (!decide (v94.2.2 = (1 : Int))) ((v102).bind fun (v106 : (Int × Int)) => some (!decide (v106.2 = (1 : Int)))) (some false))).bind fun (v108 : Bool) => cond v108 (some (Lp.out false)) (some (Lp.go b)))) (some (Lp.go b)))) = some (Lp.go b : Lp Bool Bx) := by
  have hlt := ts_len (row := row) (L := L) h0 h8
  have etw : (rangeT 0 (12 * h).toNat).map (fun k => rt (tf k)) = ((rangeT 0 (12 * h).toNat).map tf).map rt := by rw [List.map_map]; rfl
  have hV : ∀ x ∈ TS row L h ++ (rangeT 0 (12 * h).toNat).map tf, Vd row x := fun x hx => by
    rcases List.mem_append.mp hx with hx | hx
    · exact ts_valid R hL hL2 hr h8 hx
    · obtain ⟨k, hk, rfl⟩ := List.mem_map.mp hx
      have hk := rangeT_mem.mp hk
      exact (tf_ok hr h8 (k := k) (by omega) (by omega)).2.1
  have hlen : (TS row L h ++ (rangeT 0 (12 * h).toNat).map tf).length ≤ 1000 := by
    rw [List.length_append, List.length_map, rangeT_len]
    omega
  generalize hal : TS row L h ++ (rangeT 0 (12 * h).toNat).map tf = al at *
  have hmap : (TS row L h).map rt ++ ((rangeT 0 (12 * h).toNat).map tf).map rt = al.map rt := by rw [← hal, List.map_append]
  have best : ∀ x ∈ al, ∀ e, En (spd true row) x L = some e → ∃ c ∈ TS row L h, ∃ e', En (spd true row) c L = some e' ∧ Lx (e' - c) c (e - x) x := by
    intro x hx e hE
    obtain ⟨_, _, F, _⟩ := en_ok (a := true) R (hV x hx) hL hL2
    rw [hE] at F
    exact span_best R hL hL2 hr h8 (hV x hx).z0 F
  have hsp : (al.filterMap (spG row L)).length ≤ 16777216 := Nat.le_trans (List.length_filterMap_le _ _) (by omega)
  have htf : ∀ k ∈ rangeT 0 (12 * h).toNat, p__law_ratio k 12 = some (rt (tf k)) := fun k hk => by
    have hk := rangeT_mem.mp hk
    exact (tf_ok (row := row) hr h8 (k := k) (by omega) (by omega)).1
  have hmem : ∀ c ∈ TS row L h, c ∈ al := fun c hc => by rw [← hal]; exact List.mem_append_left _ hc
  rcases quick_ok R hL hL2 hr h8 with ⟨a, hb⟩ | ⟨c, e, a, hc, hE, hb⟩
  · rw [a, Option.bind_some, letF_eq, rgO_of (by omega) (by omega), Option.bind_some, mapO_some (g := fun k => rt (tf k)) (fun k hk => htf k hk) (by rw [rangeT_len]; omega), Option.bind_some, etw, catO_some (by simp [rangeT_len]; omega), Option.bind_some, hmap, spans_ok R hL hL2 hV hlen, Option.bind_some]
    have hsn : al.filterMap (spG row L) = [] := by
      rw [List.filterMap_eq_nil_iff]
      intro x hx
      unfold spG
      cases hE : En (spd true row) x L with
      | none => rfl
      | some e =>
        obtain ⟨c, hc, e', hE', _⟩ := best x hx e hE
        rw [hb c hc] at hE'
        cases hE'
    rw [hsn, eq_nil2, Option.bind_some]
    show (neA (A.d (eB true)) (A.d (eB true))).bind _ = _
    rw [ne_bls]
    rfl
  · rw [a, Option.bind_some, letF_eq, rgO_of (by omega) (by omega), Option.bind_some, mapO_some (g := fun k => rt (tf k)) (fun k hk => htf k hk) (by rw [rangeT_len]; omega), Option.bind_some, etw, catO_some (by simp [rangeT_len]; omega), Option.bind_some, hmap, spans_ok R hL hL2 hV hlen, Option.bind_some]
    have Vc := ts_valid R hL hL2 hr h8 hc
    obtain ⟨el, _, F, zc⟩ := en_ok (a := true) R Vc hL hL2
    rw [hE] at F el
    have ze := zc e hE
    have F : First (spd true row) c (L : Rat) e := F
    have zd := rz_sub ze Vc.sz
    have hsn : (al.filterMap (spG row L)).isEmpty = false := by
      have : (rt (e - c), rt c) ∈ al.filterMap (spG row L) := List.mem_filterMap.mpr ⟨c, hmem c hc, by unfold spG; rw [hE]; rfl⟩
      cases hx : al.filterMap (spG row L) with
      | nil => rw [hx] at this; cases this
      | cons y r => rfl
    obtain ⟨b1, m1, n1⟩ := any_none (f := fun (x95 : ((Int × Int) × (Int × Int))) => (p__law_less x95.1 (rt (e - c))).bind fun (v96 : Bool) => cond v96 (some true) ((eqA (A.d ((eT2 eI eI) x95.1)) (A.d ((eT2 eI eI) (rt (e - c))))).bind fun (v97 : Bool) => cond v97 (p__law_less x95.2 (rt c)) (some false))) (xs := al.filterMap (spG row L)) (fun y hy => by
      obtain ⟨x, hx, ey⟩ := List.mem_filterMap.mp hy
      unfold spG at ey
      cases hEx : En (spd true row) x L with
      | none => rw [hEx] at ey; cases ey
      | some e1 =>
        rw [hEx] at ey
        cases ey
        obtain ⟨_, _, _, zx⟩ := en_ok (a := true) R (hV x hx) hL hL2
        have z1 := zx e1 hEx
        have zsp := rz_sub z1 (hV x hx).sz
        obtain ⟨c', hc', e', hE', hl⟩ := best x hx e1 hEx
        have hl2 := (hb c' hc' e' hE').trans hl
        unfold Lx at hl2
        simp only
        rw [lless_ok zsp zd (by omega), decide_eq_false (by grind), Option.bind_some, cond_false, eq_pairs, Option.bind_some, rt_eq]
        by_cases he : e1 - x = e - c
        · rw [decide_eq_true he, cond_true, lless_ok (hV x hx).sz Vc.sz (by omega), decide_eq_false (by grind)]
        · rw [decide_eq_false he]
          rfl) hsp
    rw [eq_nil2, Option.bind_some, hsn]
    show (neA (A.d (eB false)) (A.d (eB false))).bind _ = _
    rw [ne_bls, Option.bind_some]
    show (mapO _ (al.filterMap (spG row L))).bind _ = _
    rw [m1, Option.bind_some, n1, cond_false]
    show (p__law_end row L (rt c) true).bind _ = _
    rw [el, Option.bind_some]
    show (p__law_plus (rt e) (-(rt c).1, (rt c).2)).bind _ = _
    rw [neg_rt, lplus_ok ze (rz_neg Vc.sz) (by omega), Option.bind_some]
    have e9 : e + -c = e - c := by grind
    rw [e9]
    show (neA (A.d ((eT2 eI eI) (rt (e - c)))) (A.d ((eT2 eI eI) (rt (e - c))))).bind _ = _
    rw [ne_pairs, decide_eq_true rfl, Option.bind_some, Bool.not_true, cond_false]
    show (cond (!decide ((rt c).2 = 1)) (some (!decide ((rt e).2 = 1))) (some false)).bind _ = _
    rcases turn_whole R hL hL2 hr h8 hc F with ⟨k, rfl⟩ | ⟨k, rfl⟩
    · rw [rt_int]
      rfl
    · rw [rt_int (i := k)]
      cases decide ((rt c).2 = 1) <;> rfl
end
theorem law_k67 (ns : List Int) (hl : ns.length ≤ 63) : p_law ns = some true := by
  obtain ⟨b0, e0, B0⟩ := boxO_ok hl
  unfold p_law
  rw [e0, Option.bind_some, rgO_of (by omega) (by omega), Option.bind_some]
  refine bind_forX Bx.Ok B0 (fun turn _ s B => ?_) fun st B => rfl
  obtain ⟨h0, b1, e1, l1, u1, B1⟩ := drawO_ok B (m := 8) (by omega) (by omega)
  rw [e1, Option.bind_some, letF_eq]
  obtain ⟨row, b2, e2, B2, hlen, hrow⟩ := row_ok66 (h := 1 + h0) B1 (by omega) (by omega)
  simp only at e2 ⊢
  rw [e2, Option.bind_some]
  obtain ⟨l0, b3, e3, l3, u3, B3⟩ := drawO_ok B2 (m := 9) (by omega) (by omega)
  simp only
  rw [e3, Option.bind_some, letF_eq]
  obtain ⟨q, b4, e4, l4, u4, B4⟩ := drawO_ok B3 (m := 6 * (1 + h0)) (by omega) (by omega)
  simp only
  rw [e4, Option.bind_some]
  have hl8 : row.length ≤ 8 := by omega
  have hh : ((row.length : Nat) : Int) = 1 + h0 := by omega
  have R := rowOk_of hrow hl8
  obtain ⟨x, ex, hx0, hx1, zx⟩ := start_ok (q := q) (k := row.length) l4 (by omega) hl8
  have hx : x = Rat.divInt q 6 := by
    have z6 : Sz 7 (6 : Int) := sz7 (by omega)
    have zq : Sz 7 q := sz7 (by omega)
    have := lratio_ok (n := 7) (p := q) (q := 6) (by omega) z6 zq (by omega)
    rw [this] at ex
    exact (rt_inj (Option.some.inj ex)).symm
  have hx2 : x < ((1 + h0 : Int) : Rat) := by
    rw [hx, Rat.divInt_eq_div]
    have a : (q : Rat) < ((6 * (1 + h0) : Int) : Rat) := Rat.intCast_lt_intCast.mpr u4
    have b : ((6 : Int) : Rat) = 6 := rfl
    have c : ((6 * (1 + h0) : Int) : Rat) = 6 * ((1 + h0 : Int) : Rat) := Rat.intCast_mul _ _
    grind
  simp only
  rw [ex, Option.bind_some]
  refine ⟨b4, ?_, B4⟩
  rw [partA R (L := 1 + l0) (by omega) (by omega) hh (by omega) l4 u4 hx zx hx0 hx2, partB zx hx0 hx2 (by omega), partC R (L := 1 + l0) (by omega) (by omega) hh (by omega)]
  exact partD R (L := 1 + l0) (by omega) (by omega) hh (by omega) (by omega)
theorem law_true (ns : List Int) (hl : ns.length ≤ 63) : F_law [.d (.scr ns)] = some (.d (.bl true)) := pf_law (law_k67 ns hl)
end MM
namespace MM
open PySem PySem.Spec PyProof.Rows L2
theorem all_mk {l : PySem.W.OpenLaw} {w : World} {K : PySem.W.Frag} {h : Heap} {mg : Str → Option Value} {fa : Addr} (X : K.In h) (G : h.Ns mainGlobals mg) (hfa : mg "law" = some (.ref fa))
    {f0 : Addr} {od0 an0 : Option Addr} {sl0 : Array (Option Value)} {oc0 kV0 dc0 pm0 cd0 ct0 : Value}
    {f1 : Addr} {od1 an1 : Option Addr} {sl1 : Array (Option Value)} {oc1 kV1 dc1 pm1 cd1 ct1 : Value}
    {f2 : Addr} {od2 an2 : Option Addr} {sl2 : Array (Option Value)} {oc2 kV2 dc2 pm2 cd2 ct2 : Value}
    {f3 : Addr} {od3 an3 : Option Addr} {sl3 : Array (Option Value)} {oc3 kV3 dc3 pm3 cd3 ct3 : Value}
    {f4 : Addr} {od4 an4 : Option Addr} {sl4 : Array (Option Value)} {oc4 kV4 dc4 pm4 cd4 ct4 : Value}
    {f5 : Addr} {od5 an5 : Option Addr} {sl5 : Array (Option Value)} {oc5 kV5 dc5 pm5 cd5 ct5 : Value}
    {f6 : Addr} {od6 an6 : Option Addr} {sl6 : Array (Option Value)} {oc6 kV6 dc6 pm6 cd6 ct6 : Value}
    {f7 : Addr} {od7 an7 : Option Addr} {sl7 : Array (Option Value)} {oc7 kV7 dc7 pm7 cd7 ct7 : Value}
    {f8 : Addr} {od8 an8 : Option Addr} {sl8 : Array (Option Value)} {oc8 kV8 dc8 pm8 cd8 ct8 : Value}
    {f9 : Addr} {od9 an9 : Option Addr} {sl9 : Array (Option Value)} {oc9 kV9 dc9 pm9 cd9 ct9 : Value}
    {f10 : Addr} {od10 an10 : Option Addr} {sl10 : Array (Option Value)} {oc10 kV10 dc10 pm10 cd10 ct10 : Value}
    {f11 : Addr} {od11 an11 : Option Addr} {sl11 : Array (Option Value)} {oc11 kV11 dc11 pm11 cd11 ct11 : Value}
    {f12 : Addr} {od12 an12 : Option Addr} {sl12 : Array (Option Value)} {oc12 kV12 dc12 pm12 cd12 ct12 : Value}
    {f13 : Addr} {od13 an13 : Option Addr} {sl13 : Array (Option Value)} {oc13 kV13 dc13 pm13 cd13 ct13 : Value}
    {f14 : Addr} {od14 an14 : Option Addr} {sl14 : Array (Option Value)} {oc14 kV14 dc14 pm14 cd14 ct14 : Value}
    {f15 : Addr} {od15 an15 : Option Addr} {sl15 : Array (Option Value)} {oc15 kV15 dc15 pm15 cd15 ct15 : Value}
    {f16 : Addr} {od16 an16 : Option Addr} {sl16 : Array (Option Value)} {oc16 kV16 dc16 pm16 cd16 ct16 : Value}
    {f17 : Addr} {od17 an17 : Option Addr} {sl17 : Array (Option Value)} {oc17 kV17 dc17 pm17 cd17 ct17 : Value}
    {f18 : Addr} {od18 an18 : Option Addr} {sl18 : Array (Option Value)} {oc18 kV18 dc18 pm18 cd18 ct18 : Value}
    {f19 : Addr} {od19 an19 : Option Addr} {sl19 : Array (Option Value)} {oc19 kV19 dc19 pm19 cd19 ct19 : Value}
    {f20 : Addr} {od20 an20 : Option Addr} {sl20 : Array (Option Value)} {oc20 kV20 dc20 pm20 cd20 ct20 : Value}
    {f21 : Addr} {od21 an21 : Option Addr} {sl21 : Array (Option Value)} {oc21 kV21 dc21 pm21 cd21 ct21 : Value}
    {f22 : Addr} {od22 an22 : Option Addr} {sl22 : Array (Option Value)} {oc22 kV22 dc22 pm22 cd22 ct22 : Value}
    {f23 : Addr} {od23 an23 : Option Addr} {sl23 : Array (Option Value)} {oc23 kV23 dc23 pm23 cd23 ct23 : Value}
    {f24 : Addr} {od24 an24 : Option Addr} {sl24 : Array (Option Value)} {oc24 kV24 dc24 pm24 cd24 ct24 : Value}
    {f25 : Addr} {od25 an25 : Option Addr} {sl25 : Array (Option Value)} {oc25 kV25 dc25 pm25 cd25 ct25 : Value}
    (a0 : PySem.W.nsIn K mainGlobals "divisor_of" = some (some (.ref f0))) (l0 : K.lookup f0 = some ⟨oc0, od0, .func (PySem.W.fnOf "divisor_of" "divisor_of" (defArgs st_divisor_of) (defBody st_divisor_of) (defScope st_divisor_of) .none kV0 dc0 pm0 an0 cd0 ct0), sl0⟩) (c0 : PySem.W.codeIn K cd0 "divisor_of" = true) (k0 : PySem.W.keepIn K (.ref f0) = true)
    (a1 : PySem.W.nsIn K mainGlobals "ratio" = some (some (.ref f1))) (l1 : K.lookup f1 = some ⟨oc1, od1, .func (PySem.W.fnOf "ratio" "ratio" (defArgs st_ratio) (defBody st_ratio) (defScope st_ratio) .none kV1 dc1 pm1 an1 cd1 ct1), sl1⟩) (c1 : PySem.W.codeIn K cd1 "ratio" = true) (k1 : PySem.W.keepIn K (.ref f1) = true)
    (a2 : PySem.W.nsIn K mainGlobals "whole" = some (some (.ref f2))) (l2 : K.lookup f2 = some ⟨oc2, od2, .func (PySem.W.fnOf "whole" "whole" (defArgs st_whole) (defBody st_whole) (defScope st_whole) .none kV2 dc2 pm2 an2 cd2 ct2), sl2⟩) (c2 : PySem.W.codeIn K cd2 "whole" = true) (k2 : PySem.W.keepIn K (.ref f2) = true)
    (a3 : PySem.W.nsIn K mainGlobals "plus" = some (some (.ref f3))) (l3 : K.lookup f3 = some ⟨oc3, od3, .func (PySem.W.fnOf "plus" "plus" (defArgs st_plus) (defBody st_plus) (defScope st_plus) .none kV3 dc3 pm3 an3 cd3 ct3), sl3⟩) (c3 : PySem.W.codeIn K cd3 "plus" = true) (k3 : PySem.W.keepIn K (.ref f3) = true)
    (a4 : PySem.W.nsIn K mainGlobals "minus" = some (some (.ref f4))) (l4 : K.lookup f4 = some ⟨oc4, od4, .func (PySem.W.fnOf "minus" "minus" (defArgs st_minus) (defBody st_minus) (defScope st_minus) .none kV4 dc4 pm4 an4 cd4 ct4), sl4⟩) (c4 : PySem.W.codeIn K cd4 "minus" = true) (k4 : PySem.W.keepIn K (.ref f4) = true)
    (a5 : PySem.W.nsIn K mainGlobals "times" = some (some (.ref f5))) (l5 : K.lookup f5 = some ⟨oc5, od5, .func (PySem.W.fnOf "times" "times" (defArgs st_times) (defBody st_times) (defScope st_times) .none kV5 dc5 pm5 an5 cd5 ct5), sl5⟩) (c5 : PySem.W.codeIn K cd5 "times" = true) (k5 : PySem.W.keepIn K (.ref f5) = true)
    (a6 : PySem.W.nsIn K mainGlobals "over" = some (some (.ref f6))) (l6 : K.lookup f6 = some ⟨oc6, od6, .func (PySem.W.fnOf "over" "over" (defArgs st_over) (defBody st_over) (defScope st_over) .none kV6 dc6 pm6 an6 cd6 ct6), sl6⟩) (c6 : PySem.W.codeIn K cd6 "over" = true) (k6 : PySem.W.keepIn K (.ref f6) = true)
    (a7 : PySem.W.nsIn K mainGlobals "less" = some (some (.ref f7))) (l7 : K.lookup f7 = some ⟨oc7, od7, .func (PySem.W.fnOf "less" "less" (defArgs st_less) (defBody st_less) (defScope st_less) .none kV7 dc7 pm7 an7 cd7 ct7), sl7⟩) (c7 : PySem.W.codeIn K cd7 "less" = true) (k7 : PySem.W.keepIn K (.ref f7) = true)
    (a8 : PySem.W.nsIn K mainGlobals "whole_hour" = some (some (.ref f8))) (l8 : K.lookup f8 = some ⟨oc8, od8, .func (PySem.W.fnOf "whole_hour" "whole_hour" (defArgs st_whole_hour) (defBody st_whole_hour) (defScope st_whole_hour) .none kV8 dc8 pm8 an8 cd8 ct8), sl8⟩) (c8 : PySem.W.codeIn K cd8 "whole_hour" = true) (k8 : PySem.W.keepIn K (.ref f8) = true)
    (a9 : PySem.W.nsIn K mainGlobals "leg_end" = some (some (.ref f9))) (l9 : K.lookup f9 = some ⟨oc9, od9, .func (PySem.W.fnOf "leg_end" "leg_end" (defArgs st_leg_end) (defBody st_leg_end) (defScope st_leg_end) .none kV9 dc9 pm9 an9 cd9 ct9), sl9⟩) (c9 : PySem.W.codeIn K cd9 "leg_end" = true) (k9 : PySem.W.keepIn K (.ref f9) = true)
    (a10 : PySem.W.nsIn K mainGlobals "latest_start" = some (some (.ref f10))) (l10 : K.lookup f10 = some ⟨oc10, od10, .func (PySem.W.fnOf "latest_start" "latest_start" (defArgs st_latest_start) (defBody st_latest_start) (defScope st_latest_start) .none kV10 dc10 pm10 an10 cd10 ct10), sl10⟩) (c10 : PySem.W.codeIn K cd10 "latest_start" = true) (k10 : PySem.W.keepIn K (.ref f10) = true)
    (a11 : PySem.W.nsIn K mainGlobals "drift_starts" = some (some (.ref f11))) (l11 : K.lookup f11 = some ⟨oc11, od11, .func (PySem.W.fnOf "drift_starts" "drift_starts" (defArgs st_drift_starts) (defBody st_drift_starts) (defScope st_drift_starts) .none kV11 dc11 pm11 an11 cd11 ct11), sl11⟩) (c11 : PySem.W.codeIn K cd11 "drift_starts" = true) (k11 : PySem.W.keepIn K (.ref f11) = true)
    (a12 : PySem.W.nsIn K mainGlobals "best_drift" = some (some (.ref f12))) (l12 : K.lookup f12 = some ⟨oc12, od12, .func (PySem.W.fnOf "best_drift" "best_drift" (defArgs st_best_drift) (defBody st_best_drift) (defScope st_best_drift) .none kV12 dc12 pm12 an12 cd12 ct12), sl12⟩) (c12 : PySem.W.codeIn K cd12 "best_drift" = true) (k12 : PySem.W.keepIn K (.ref f12) = true)
    (a13 : PySem.W.nsIn K mainGlobals "turning_starts" = some (some (.ref f13))) (l13 : K.lookup f13 = some ⟨oc13, od13, .func (PySem.W.fnOf "turning_starts" "turning_starts" (defArgs st_turning_starts) (defBody st_turning_starts) (defScope st_turning_starts) .none kV13 dc13 pm13 an13 cd13 ct13), sl13⟩) (c13 : PySem.W.codeIn K cd13 "turning_starts" = true) (k13 : PySem.W.keepIn K (.ref f13) = true)
    (a14 : PySem.W.nsIn K mainGlobals "quickest_start" = some (some (.ref f14))) (l14 : K.lookup f14 = some ⟨oc14, od14, .func (PySem.W.fnOf "quickest_start" "quickest_start" (defArgs st_quickest_start) (defBody st_quickest_start) (defScope st_quickest_start) .none kV14 dc14 pm14 an14 cd14 ct14), sl14⟩) (c14 : PySem.W.codeIn K cd14 "quickest_start" = true) (k14 : PySem.W.keepIn K (.ref f14) = true)
    (a15 : PySem.W.nsIn K mainGlobals "_law_box" = some (some (.ref f15))) (l15 : K.lookup f15 = some ⟨oc15, od15, .func (PySem.W.fnOf "_law_box" "_law_box" (defArgs st__law_box) (defBody st__law_box) (defScope st__law_box) .none kV15 dc15 pm15 an15 cd15 ct15), sl15⟩) (c15 : PySem.W.codeIn K cd15 "_law_box" = true) (k15 : PySem.W.keepIn K (.ref f15) = true)
    (a16 : PySem.W.nsIn K mainGlobals "_law_load" = some (some (.ref f16))) (l16 : K.lookup f16 = some ⟨oc16, od16, .func (PySem.W.fnOf "_law_load" "_law_load" (defArgs st__law_load) (defBody st__law_load) (defScope st__law_load) .none kV16 dc16 pm16 an16 cd16 ct16), sl16⟩) (c16 : PySem.W.codeIn K cd16 "_law_load" = true) (k16 : PySem.W.keepIn K (.ref f16) = true)
    (a17 : PySem.W.nsIn K mainGlobals "_law_draw" = some (some (.ref f17))) (l17 : K.lookup f17 = some ⟨oc17, od17, .func (PySem.W.fnOf "_law_draw" "_law_draw" (defArgs st__law_draw) (defBody st__law_draw) (defScope st__law_draw) .none kV17 dc17 pm17 an17 cd17 ct17), sl17⟩) (c17 : PySem.W.codeIn K cd17 "_law_draw" = true) (k17 : PySem.W.keepIn K (.ref f17) = true)
    (a18 : PySem.W.nsIn K mainGlobals "_law_same" = some (some (.ref f18))) (l18 : K.lookup f18 = some ⟨oc18, od18, .func (PySem.W.fnOf "_law_same" "_law_same" (defArgs st__law_same) (defBody st__law_same) (defScope st__law_same) .none kV18 dc18 pm18 an18 cd18 ct18), sl18⟩) (c18 : PySem.W.codeIn K cd18 "_law_same" = true) (k18 : PySem.W.keepIn K (.ref f18) = true)
    (a19 : PySem.W.nsIn K mainGlobals "_law_ratio" = some (some (.ref f19))) (l19 : K.lookup f19 = some ⟨oc19, od19, .func (PySem.W.fnOf "_law_ratio" "_law_ratio" (defArgs st__law_ratio) (defBody st__law_ratio) (defScope st__law_ratio) .none kV19 dc19 pm19 an19 cd19 ct19), sl19⟩) (c19 : PySem.W.codeIn K cd19 "_law_ratio" = true) (k19 : PySem.W.keepIn K (.ref f19) = true)
    (a20 : PySem.W.nsIn K mainGlobals "_law_plus" = some (some (.ref f20))) (l20 : K.lookup f20 = some ⟨oc20, od20, .func (PySem.W.fnOf "_law_plus" "_law_plus" (defArgs st__law_plus) (defBody st__law_plus) (defScope st__law_plus) .none kV20 dc20 pm20 an20 cd20 ct20), sl20⟩) (c20 : PySem.W.codeIn K cd20 "_law_plus" = true) (k20 : PySem.W.keepIn K (.ref f20) = true)
    (a21 : PySem.W.nsIn K mainGlobals "_law_less" = some (some (.ref f21))) (l21 : K.lookup f21 = some ⟨oc21, od21, .func (PySem.W.fnOf "_law_less" "_law_less" (defArgs st__law_less) (defBody st__law_less) (defScope st__law_less) .none kV21 dc21 pm21 an21 cd21 ct21), sl21⟩) (c21 : PySem.W.codeIn K cd21 "_law_less" = true) (k21 : PySem.W.keepIn K (.ref f21) = true)
    (a22 : PySem.W.nsIn K mainGlobals "_law_row" = some (some (.ref f22))) (l22 : K.lookup f22 = some ⟨oc22, od22, .func (PySem.W.fnOf "_law_row" "_law_row" (defArgs st__law_row) (defBody st__law_row) (defScope st__law_row) .none kV22 dc22 pm22 an22 cd22 ct22), sl22⟩) (c22 : PySem.W.codeIn K cd22 "_law_row" = true) (k22 : PySem.W.keepIn K (.ref f22) = true)
    (a23 : PySem.W.nsIn K mainGlobals "_law_made" = some (some (.ref f23))) (l23 : K.lookup f23 = some ⟨oc23, od23, .func (PySem.W.fnOf "_law_made" "_law_made" (defArgs st__law_made) (defBody st__law_made) (defScope st__law_made) .none kV23 dc23 pm23 an23 cd23 ct23), sl23⟩) (c23 : PySem.W.codeIn K cd23 "_law_made" = true) (k23 : PySem.W.keepIn K (.ref f23) = true)
    (a24 : PySem.W.nsIn K mainGlobals "_law_end" = some (some (.ref f24))) (l24 : K.lookup f24 = some ⟨oc24, od24, .func (PySem.W.fnOf "_law_end" "_law_end" (defArgs st__law_end) (defBody st__law_end) (defScope st__law_end) .none kV24 dc24 pm24 an24 cd24 ct24), sl24⟩) (c24 : PySem.W.codeIn K cd24 "_law_end" = true) (k24 : PySem.W.keepIn K (.ref f24) = true)
    (a25 : PySem.W.nsIn K mainGlobals "law" = some (some (.ref f25))) (l25 : K.lookup f25 = some ⟨oc25, od25, .func (PySem.W.fnOf "law" "law" (defArgs st_law) (defBody st_law) (defScope st_law) .none kV25 dc25 pm25 an25 cd25 ct25), sl25⟩) (c25 : PySem.W.codeIn K cd25 "law" = true) (k25 : PySem.W.keepIn K (.ref f25) = true)
    (z0 : PySem.W.nsIn K mainGlobals "abs" = some none)
    (z1 : PySem.W.nsIn K mainGlobals "all" = some none)
    (z2 : PySem.W.nsIn K mainGlobals "any" = some none)
    (z3 : PySem.W.nsIn K mainGlobals "bool" = some none)
    (z4 : PySem.W.nsIn K mainGlobals "int" = some none)
    (z5 : PySem.W.nsIn K mainGlobals "isinstance" = some none)
    (z6 : PySem.W.nsIn K mainGlobals "len" = some none)
    (z7 : PySem.W.nsIn K mainGlobals "list" = some none)
    (z8 : PySem.W.nsIn K mainGlobals "max" = some none)
    (z9 : PySem.W.nsIn K mainGlobals "range" = some none)
    (z10 : PySem.W.nsIn K mainGlobals "str" = some none)
    (z11 : PySem.W.nsIn K mainGlobals "tuple" = some none) :
    ∃ fd : FuncData, (∀ (s : Shared) (v : Value), BindsTo s fd ⟨[v], []⟩ [("script", v)]) ∧ ∀ base : Heap, K.In base → base.Ns mainGlobals mg → FnOk l.prog w K mg base CX0 72 fa fd ["script"] (spF K 1 F_law) := by
  have e := hfa.symm.trans (PySem.W.mg_of X G a25)
  cases e
  have F0 := fun_mk (st := st_divisor_of) l0 c0 k0
  have b0 := F0.binds (ps := ["a", "b"]) fun _ _ _ _ _ _ us hl => match us, hl with | [_, _], _ => rfl
  have F1 := fun_mk (st := st_ratio) l1 c1 k1
  have b1 := F1.binds (ps := ["p", "q"]) fun _ _ _ _ _ _ us hl => match us, hl with | [_, _], _ => rfl
  have F2 := fun_mk (st := st_whole) l2 c2 k2
  have b2 := F2.binds (ps := ["n"]) fun _ _ _ _ _ _ us hl => match us, hl with | [_], _ => rfl
  have F3 := fun_mk (st := st_plus) l3 c3 k3
  have b3 := F3.binds (ps := ["one", "other"]) fun _ _ _ _ _ _ us hl => match us, hl with | [_, _], _ => rfl
  have F4 := fun_mk (st := st_minus) l4 c4 k4
  have b4 := F4.binds (ps := ["one", "other"]) fun _ _ _ _ _ _ us hl => match us, hl with | [_, _], _ => rfl
  have F5 := fun_mk (st := st_times) l5 c5 k5
  have b5 := F5.binds (ps := ["one", "other"]) fun _ _ _ _ _ _ us hl => match us, hl with | [_, _], _ => rfl
  have F6 := fun_mk (st := st_over) l6 c6 k6
  have b6 := F6.binds (ps := ["one", "other"]) fun _ _ _ _ _ _ us hl => match us, hl with | [_, _], _ => rfl
  have F7 := fun_mk (st := st_less) l7 c7 k7
  have b7 := F7.binds (ps := ["one", "other"]) fun _ _ _ _ _ _ us hl => match us, hl with | [_, _], _ => rfl
  have F8 := fun_mk (st := st_whole_hour) l8 c8 k8
  have b8 := F8.binds (ps := ["when"]) fun _ _ _ _ _ _ us hl => match us, hl with | [_], _ => rfl
  have F9 := fun_mk (st := st_leg_end) l9 c9 k9
  have b9 := F9.binds (ps := ["row", "length", "start", "anchored"]) fun _ _ _ _ _ _ us hl => match us, hl with | [_, _, _, _], _ => rfl
  have F10 := fun_mk (st := st_latest_start) l10 c10 k10
  have b10 := F10.binds (ps := ["row", "length", "end"]) fun _ _ _ _ _ _ us hl => match us, hl with | [_, _, _], _ => rfl
  have F11 := fun_mk (st := st_drift_starts) l11 c11 k11
  have b11 := F11.binds (ps := ["row", "start", "last"]) fun _ _ _ _ _ _ us hl => match us, hl with | [_, _, _], _ => rfl
  have F12 := fun_mk (st := st_best_drift) l12 c12 k12
  have b12 := F12.binds (ps := ["row", "length", "start"]) fun _ _ _ _ _ _ us hl => match us, hl with | [_, _, _], _ => rfl
  have F13 := fun_mk (st := st_turning_starts) l13 c13 k13
  have b13 := F13.binds (ps := ["row", "length"]) fun _ _ _ _ _ _ us hl => match us, hl with | [_, _], _ => rfl
  have F14 := fun_mk (st := st_quickest_start) l14 c14 k14
  have b14 := F14.binds (ps := ["row", "length"]) fun _ _ _ _ _ _ us hl => match us, hl with | [_, _], _ => rfl
  have F15 := fun_mk (st := st__law_box) l15 c15 k15
  have b15 := F15.binds (ps := ["script"]) fun _ _ _ _ _ _ us hl => match us, hl with | [_], _ => rfl
  have F16 := fun_mk (st := st__law_load) l16 c16 k16
  have b16 := F16.binds (ps := ["box"]) fun _ _ _ _ _ _ us hl => match us, hl with | [_], _ => rfl
  have F17 := fun_mk (st := st__law_draw) l17 c17 k17
  have b17 := F17.binds (ps := ["box", "many"]) fun _ _ _ _ _ _ us hl => match us, hl with | [_, _], _ => rfl
  have F18 := fun_mk (st := st__law_same) l18 c18 k18
  have b18 := F18.binds (ps := ["a", "b"]) fun _ _ _ _ _ _ us hl => match us, hl with | [_, _], _ => rfl
  have F19 := fun_mk (st := st__law_ratio) l19 c19 k19
  have b19 := F19.binds (ps := ["p", "q"]) fun _ _ _ _ _ _ us hl => match us, hl with | [_, _], _ => rfl
  have F20 := fun_mk (st := st__law_plus) l20 c20 k20
  have b20 := F20.binds (ps := ["one", "other"]) fun _ _ _ _ _ _ us hl => match us, hl with | [_, _], _ => rfl
  have F21 := fun_mk (st := st__law_less) l21 c21 k21
  have b21 := F21.binds (ps := ["one", "other"]) fun _ _ _ _ _ _ us hl => match us, hl with | [_, _], _ => rfl
  have F22 := fun_mk (st := st__law_row) l22 c22 k22
  have b22 := F22.binds (ps := ["box", "hours"]) fun _ _ _ _ _ _ us hl => match us, hl with | [_, _], _ => rfl
  have F23 := fun_mk (st := st__law_made) l23 c23 k23
  have b23 := F23.binds (ps := ["row", "start", "end", "anchored"]) fun _ _ _ _ _ _ us hl => match us, hl with | [_, _, _, _], _ => rfl
  have F24 := fun_mk (st := st__law_end) l24 c24 k24
  have b24 := F24.binds (ps := ["row", "length", "start", "anchored"]) fun _ _ _ _ _ _ us hl => match us, hl with | [_, _, _, _], _ => rfl
  have F25 := fun_mk (st := st_law) l25 c25 k25
  have b25 := F25.binds (ps := ["script"]) fun _ _ _ _ _ _ us hl => match us, hl with | [_], _ => rfl
  exact ⟨_, fun s v => .of_eq rfl, fun base _ _ => ok_law (⟨PySem.W.mg_none_of X G z0, PySem.W.mg_none_of X G z1, PySem.W.mg_none_of X G z2, PySem.W.mg_none_of X G z3, PySem.W.mg_none_of X G z4, PySem.W.mg_none_of X G z5, PySem.W.mg_none_of X G z6, PySem.W.mg_none_of X G z7, PySem.W.mg_none_of X G z8, PySem.W.mg_none_of X G z9, PySem.W.mg_none_of X G z10, PySem.W.mg_none_of X G z11, _, _, F0, PySem.W.mg_of X G a0, b0, _, _, F1, PySem.W.mg_of X G a1, b1, _, _, F2, PySem.W.mg_of X G a2, b2, _, _, F3, PySem.W.mg_of X G a3, b3, _, _, F4, PySem.W.mg_of X G a4, b4, _, _, F5, PySem.W.mg_of X G a5, b5, _, _, F6, PySem.W.mg_of X G a6, b6, _, _, F7, PySem.W.mg_of X G a7, b7, _, _, F8, PySem.W.mg_of X G a8, b8, _, _, F9, PySem.W.mg_of X G a9, b9, _, _, F10, PySem.W.mg_of X G a10, b10, _, _, F11, PySem.W.mg_of X G a11, b11, _, _, F12, PySem.W.mg_of X G a12, b12, _, _, F13, PySem.W.mg_of X G a13, b13, _, _, F14, PySem.W.mg_of X G a14, b14, _, _, F15, PySem.W.mg_of X G a15, b15, _, _, F16, PySem.W.mg_of X G a16, b16, _, _, F17, PySem.W.mg_of X G a17, b17, _, _, F18, PySem.W.mg_of X G a18, b18, _, _, F19, PySem.W.mg_of X G a19, b19, _, _, F20, PySem.W.mg_of X G a20, b20, _, _, F21, PySem.W.mg_of X G a21, b21, _, _, F22, PySem.W.mg_of X G a22, b22, _, _, F23, PySem.W.mg_of X G a23, b23, _, _, F24, PySem.W.mg_of X G a24, b24, _, _, F25, PySem.W.mg_of X G a25, b25⟩ : Tx K mg) base⟩
theorem sp_law {K : PySem.W.Frag} {H : Hp} {a : Addr} {ns : List Int} (hl : ns.length ≤ 63) (hO : Only H) (hS : SqL K H a (ns.map V.int)) : spF K 1 F_law [.ref a] H (fun v _ => v = .bl true) fun _ _ _ => False := by
  have hs : ScrAt K H a ns := by
    rcases hS with (h | h) | h
    · rcases hO a with z | ⟨o, xs, z⟩
      · rw [h] at z; cases z
      · rw [h] at z; cases z
    · exact .inl h
    · exact .inr (.inr h)
  refine ⟨[.d (.scr ns)], [], .d (.bl true), rfl, Reps.one (rep_d ?_), law_true ns hl, fun v H' o' _ r => ?_⟩
  · unfold RepD
    exact ⟨a, rfl, hs⟩
  · have := repD_d r
    unfold RepD at this
    exact this
end MM
open PySem PySem.W PyProof.Rows
set_option maxHeartbeats 0 in
theorem PySem.Challenge.cw_marksrounded_k67_whole_waiting_that_help_holds : PySem.Challenge.rw_marksrounded_k67_whole_waiting_that_help.Holds := by
  w_on; o_law; k_head; (case hw => w_witness2)
  k_fill
  refine L2.walk_of (l := PySem.Challenge.rw_marksrounded_k67_whole_waiting_that_help) (n := 63) (k := 72) (x := "script") (CX := fun _ => L2.CX0) (sp := fun w => MM.spF _ 1 MM.F_law) rfl (by decide) rfl ⟨rfl, by decide, by decide⟩ (fun w h Y => PySem.W.kIn_of Y) ?F (fun _ _ a ns hl hO hS => MM.sp_law hl hO hS) (fun _ _ _ _ _ h => h)
  case F =>
    intro w mg fa h KX G hmg
    refine' MM.all_mk KX G hmg ?a0 ?l0 ?c0 ?k0 ?a1 ?l1 ?c1 ?k1 ?a2 ?l2 ?c2 ?k2 ?a3 ?l3 ?c3 ?k3 ?a4 ?l4 ?c4 ?k4 ?a5 ?l5 ?c5 ?k5 ?a6 ?l6 ?c6 ?k6 ?a7 ?l7 ?c7 ?k7 ?a8 ?l8 ?c8 ?k8 ?a9 ?l9 ?c9 ?k9 ?a10 ?l10 ?c10 ?k10 ?a11 ?l11 ?c11 ?k11 ?a12 ?l12 ?c12 ?k12 ?a13 ?l13 ?c13 ?k13 ?a14 ?l14 ?c14 ?k14 ?a15 ?l15 ?c15 ?k15 ?a16 ?l16 ?c16 ?k16 ?a17 ?l17 ?c17 ?k17 ?a18 ?l18 ?c18 ?k18 ?a19 ?l19 ?c19 ?k19 ?a20 ?l20 ?c20 ?k20 ?a21 ?l21 ?c21 ?k21 ?a22 ?l22 ?c22 ?k22 ?a23 ?l23 ?c23 ?k23 ?a24 ?l24 ?c24 ?k24 ?a25 ?l25 ?c25 ?k25 ?z0 ?z1 ?z2 ?z3 ?z4 ?z5 ?z6 ?z7 ?z8 ?z9 ?z10 ?z11
    (case a0 => k_is); (case l0 => k_is); (case c0 => k_is); (case k0 => k_is); (case a1 => k_is); (case l1 => k_is); (case c1 => k_is); (case k1 => k_is); (case a2 => k_is); (case l2 => k_is); (case c2 => k_is); (case k2 => k_is); (case a3 => k_is); (case l3 => k_is); (case c3 => k_is); (case k3 => k_is); (case a4 => k_is); (case l4 => k_is); (case c4 => k_is); (case k4 => k_is); (case a5 => k_is); (case l5 => k_is); (case c5 => k_is); (case k5 => k_is); (case a6 => k_is); (case l6 => k_is); (case c6 => k_is); (case k6 => k_is); (case a7 => k_is); (case l7 => k_is); (case c7 => k_is); (case k7 => k_is); (case a8 => k_is); (case l8 => k_is); (case c8 => k_is); (case k8 => k_is); (case a9 => k_is); (case l9 => k_is); (case c9 => k_is); (case k9 => k_is); (case a10 => k_is); (case l10 => k_is); (case c10 => k_is); (case k10 => k_is); (case a11 => k_is); (case l11 => k_is); (case c11 => k_is); (case k11 => k_is); (case a12 => k_is); (case l12 => k_is); (case c12 => k_is); (case k12 => k_is); (case a13 => k_is); (case l13 => k_is); (case c13 => k_is); (case k13 => k_is); (case a14 => k_is); (case l14 => k_is); (case c14 => k_is); (case k14 => k_is); (case a15 => k_is); (case l15 => k_is); (case c15 => k_is); (case k15 => k_is); (case a16 => k_is); (case l16 => k_is); (case c16 => k_is); (case k16 => k_is); (case a17 => k_is); (case l17 => k_is); (case c17 => k_is); (case k17 => k_is); (case a18 => k_is); (case l18 => k_is); (case c18 => k_is); (case k18 => k_is); (case a19 => k_is); (case l19 => k_is); (case c19 => k_is); (case k19 => k_is); (case a20 => k_is); (case l20 => k_is); (case c20 => k_is); (case k20 => k_is); (case a21 => k_is); (case l21 => k_is); (case c21 => k_is); (case k21 => k_is); (case a22 => k_is); (case l22 => k_is); (case c22 => k_is); (case k22 => k_is); (case a23 => k_is); (case l23 => k_is); (case c23 => k_is); (case k23 => k_is); (case a24 => k_is); (case l24 => k_is); (case c24 => k_is); (case k24 => k_is); (case a25 => k_is); (case l25 => k_is); (case c25 => k_is); (case k25 => k_is); (case z0 => k_is); (case z1 => k_is); (case z2 => k_is); (case z3 => k_is); (case z4 => k_is); (case z5 => k_is); (case z6 => k_is); (case z7 => k_is); (case z8 => k_is); (case z9 => k_is); (case z10 => k_is); (case z11 => k_is)
