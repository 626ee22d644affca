import PyProof.Rows.All
import HandS.ForMost
import HandS.Exc
import HandS.TryOnly
import HandS.TryMany
import HandS.ExcOwn
import HandS.ExcIs
import HandS.WordsExc
import HandS.Flow
import HandS.Deep
import HandS.TupAny
import HandS.TupMul
import HandS.Wide
import HandS.IsInst
import HandS.Text
import KE.DataMinMax
import HandS.Style
import HandS.Head0
import HandS.Head1
import HandS.Head2
import HandS.HeadEnd
import HandS.HeadHook1
import HandS.EndBits
import KE.GoesEnum
import HandS.Zip
import HandS.StrMore
import HandS.Replace
import HandS.RaiseMore
import HandS.Conv
import PyProof.CollectIter
import PyProof.EnumMake
import PyProof.JoinWalk
import PySem.Challenge.RW_patchwright_k15_whole_rows_of_patches
set_option Elab.async false
set_option linter.all false
set_option maxRecDepth 100000
set_option maxHeartbeats 4000000
set_option autoImplicit false
/-! Px: a layer over HandS: expressions and statements as functions over plain data. -/
namespace Px
open PySem PySem.Spec PyProof.Rows L2

/-- plain data -/
inductive D where
  | non
  | bl (b : Bool)
  | int (i : Int)
  | str (s : Str)
  | tup (xs : List D)
  | lst (xs : List D)
  | dic (ks vs : List D)
  | set (xs : List D)
  | exc (c : Str)
  | oth

/-- the outcome of an expression -/
inductive Res (α : Type) where
  | ok (a : α)
  | exc (c : Str)
  | err
namespace Res
def bind {α β : Type} : Res α → (α → Res β) → Res β
  | .ok a, k => k a
  | .exc c, _ => .exc c
  | .err, _ => .err
instance : Monad Res where
  pure := .ok
  bind := Res.bind
@[simp] theorem bind_ok {α β : Type} (a : α) (k : α → Res β) : (Res.ok a >>= k) = k a := id rfl
@[simp] theorem bind_exc {α β : Type} (c : Str) (k : α → Res β) : ((Res.exc c : Res α) >>= k) = .exc c := id rfl
@[simp] theorem bind_err {α β : Type} (k : α → Res β) : ((Res.err : Res α) >>= k) = .err := id rfl
@[simp] theorem pure_ok {α : Type} (a : α) : (pure a : Res α) = .ok a := id rfl
end Res

abbrev Env := List (Option D)
abbrev EF := Env → Res D
inductive Flow where
  | next (ρ : Env) | brk (ρ : Env) | cont (ρ : Env) | ret (d : D) | exc (c : Str) (ρ : Env) | err
abbrev SF := Env → Flow
abbrev AS := Addr → Prop

/-! ### data in the heap -/
/-- a list of the written part -/
def KL (K : PySem.W.Frag) (a : Addr) (xs : List V) : Prop :=
  ∃ (o : Obj) (its : Array Value) (n : Nat), K.lookup a = some o ∧ o.cls = .type "list" ∧ o.dict = none ∧ o.data = .seq its n ∧ its.size ≤ sizeLine ∧ Vals xs its.toList
def LsX (K : PySem.W.Frag) (ex : AS) (H : Hp) (a : Addr) (xs : List V) : Prop := (Rd H a (.lst xs) ∧ ¬ ex a) ∨ KL K a xs
theorem LsX.sq {K : PySem.W.Frag} {ex : AS} {H : Hp} {a : Addr} {xs : List V} (h : LsX K ex H a xs) : SqL K H a xs := by
  rcases h with ⟨h, _⟩ | h
  · exact .inl h
  · exact .inr h
theorem LsX.of {K : PySem.W.Frag} {ex : AS} {H : Hp} {a : Addr} {xs : List V} (h : SqL K H a xs) (n : ¬ ex a) : LsX K ex H a xs := by
  rcases h with h | h
  · exact .inl ⟨h, n⟩
  · exact .inr h

section
variable (K : PySem.W.Frag) (ex : AS) (H : Hp)
mutual
def R : D → V → Prop
  | .non, v => v = .non
  | .bl b, v => v = .bl b
  | .int i, v => v = .int i
  | .str s, v => v = .str s
  | .tup ds, v => ∃ a xs, v = .ref a ∧ (SqT K H a xs ∧ xs.length ≤ sizeLine) ∧ RL ds xs
  | .lst ds, v => ∃ a xs, v = .ref a ∧ (LsX K ex H a xs ∧ xs.length ≤ sizeLine) ∧ RL ds xs
  | .dic _ _, _ => False
  | .set _, _ => False
  | .exc _, _ => False
  | .oth, _ => False
def RL : List D → List V → Prop
  | [], vs => vs = []
  | d :: ds, vs => ∃ v r, vs = v :: r ∧ R d v ∧ RL ds r
end
end
section
variable {K : PySem.W.Frag} {ex ex' : AS} {H H' : Hp}
theorem RL.pair : ∀ {ds : List D} {vs : List V}, RL K ex H ds vs → Paired (R K ex H) ds vs
  | [], vs, h => by
    rw [RL] at h
    subst h
    exact .nil
  | d :: ds, vs, h => by
    rw [RL] at h
    obtain ⟨v, r, rfl, h1, h2⟩ := h
    exact .cons h1 (RL.pair h2)
theorem RL.of : ∀ {ds : List D} {vs : List V}, Paired (R K ex H) ds vs → RL K ex H ds vs
  | _, _, .nil => by rw [RL]
  | _, _, .cons h t => by
    rw [RL]
    exact ⟨_, _, rfl, h, RL.of t⟩
theorem RL.length {ds : List D} {vs : List V} (h : RL K ex H ds vs) : ds.length = vs.length := (RL.pair h).length
theorem Same.seqT {a : Addr} {xs : List V} (e : Same H H') (h : SqT K H a xs) : SqT K H' a xs := by
  rcases h with (h | ⟨o, h⟩) | h
  · exact .inl (.inl (e _ _ h))
  · exact .inl (.inr ⟨o, e _ _ h⟩)
  · exact .inr h
theorem Same.rd {a : Addr} {u : HO} (e : Same H H') (h : Rd H a u) : Rd H' a u := by
  rcases h with h | ⟨o, h⟩
  · exact .inl (e _ _ h)
  · exact .inr ⟨o, e _ _ h⟩
/-- what is not owned stays: sequences at addresses out of ex -/
structure Keep (ex : AS) (H H' : Hp) : Prop where
  tup : ∀ a xs, Rd H a (.tup xs) → Rd H' a (.tup xs)
  lst : ∀ a xs, ¬ ex a → Rd H a (.lst xs) → Rd H' a (.lst xs)
theorem Keep.same (e : Same H H') : Keep ex H H' := ⟨fun _ _ h => Same.rd e h, fun _ _ _ h => Same.rd e h⟩
theorem Keep.lsX (k : Keep ex H H') (m : ∀ a, ex' a → ex a ∨ H a = none) {a : Addr} {xs : List V} (h : LsX K ex H a xs) : LsX K ex' H' a xs := by
  rcases h with ⟨h, n⟩ | h
  · refine .inl ⟨k.lst _ _ n h, fun q => ?_⟩
    rcases m a q with q | q
    · exact n q
    · rcases h with h | ⟨o, h⟩
      · rw [q] at h
        cases h
      · rw [q] at h
        cases h
  · exact .inr h
theorem Keep.sqT (k : Keep ex H H') {a : Addr} {xs : List V} (h : SqT K H a xs) : SqT K H' a xs := by
  rcases h with h | h
  · exact .inl (k.tup _ _ h)
  · exact .inr h
mutual
theorem R.keep (k : Keep ex H H') (m : ∀ a, ex' a → ex a ∨ H a = none) : ∀ (d : D) {v : V}, R K ex H d v → R K ex' H' d v
  | .non, _, h => by
    rw [R] at h ⊢
    exact h
  | .bl _, _, h => by
    rw [R] at h ⊢
    exact h
  | .int _, _, h => by
    rw [R] at h ⊢
    exact h
  | .str _, _, h => by
    rw [R] at h ⊢
    exact h
  | .tup ds, _, h => by
    rw [R] at h ⊢
    obtain ⟨a, xs, e, h1, h2⟩ := h
    exact ⟨a, xs, e, ⟨k.sqT h1.1, h1.2⟩, RL.keep k m ds h2⟩
  | .lst ds, _, h => by
    rw [R] at h ⊢
    obtain ⟨a, xs, e, h1, h2⟩ := h
    exact ⟨a, xs, e, ⟨k.lsX m h1.1, h1.2⟩, RL.keep k m ds h2⟩
  | .dic _ _, _, h => by
    rw [R] at h
    exact h.elim
  | .set _, _, h => by
    rw [R] at h
    exact h.elim
  | .exc _, _, h => by
    rw [R] at h
    exact h.elim
  | .oth, _, h => by
    rw [R] at h
    exact h.elim
theorem RL.keep (k : Keep ex H H') (m : ∀ a, ex' a → ex a ∨ H a = none) : ∀ (ds : List D) {vs : List V}, RL K ex H ds vs → RL K ex' H' ds vs
  | [], _, h => by
    rw [RL] at h ⊢
    exact h
  | d :: ds, _, h => by
    rw [RL] at h ⊢
    obtain ⟨v, r, e, h1, h2⟩ := h
    exact ⟨v, r, e, R.keep k m d h1, RL.keep k m ds h2⟩
end
theorem R.same (e : Same H H') {d : D} {v : V} (h : R K ex H d v) : R K ex H' d v := R.keep (Keep.same e) (fun _ q => .inl q) d h
theorem R.less (m : ∀ a, ex' a → ex a ∨ H a = none) {d : D} {v : V} (h : R K ex H d v) : R K ex' H d v := R.keep (Keep.same (Same.refl H)) m d h

/-! ### borrowed: the topmost n levels may be owned by someone -/
def RB (K : PySem.W.Frag) (ex : AS) (H : Hp) : Nat → D → V → Prop
  | 0, d, v => R K ex H d v
  | n + 1, .lst ds, v => ∃ a xs, v = .ref a ∧ (SqL K H a xs ∧ xs.length ≤ sizeLine) ∧ Paired (RB K ex H n) ds xs
  | _ + 1, d, v => R K ex H d v
theorem RB.of : ∀ {n : Nat} {d : D} {v : V}, R K ex H d v → RB K ex H n d v
  | 0, _, _, h => h
  | n + 1, d, v, h => by
    cases d with
    | lst ds =>
      rw [R] at h
      obtain ⟨a, xs, e, h1, h2⟩ := h
      rw [RB]
      exact ⟨a, xs, e, ⟨h1.1.sq, h1.2⟩, (RL.pair h2).mono fun _ _ q => RB.of q⟩
    | _ =>
      rw [RB] <;> first | exact h | (intro _ q; cases q)
theorem RB.same (e : Same H H') : ∀ {n : Nat} {d : D} {v : V}, RB K ex H n d v → RB K ex H' n d v
  | 0, _, _, h => R.same e h
  | n + 1, d, v, h => by
    cases d with
    | lst ds =>
      rw [RB] at h ⊢
      obtain ⟨a, xs, q, h1, h2⟩ := h
      exact ⟨a, xs, q, ⟨e.seq h1.1, h1.2⟩, h2.mono fun _ _ q => RB.same e q⟩
    | _ =>
      rw [RB] at h ⊢ <;> first | exact R.same e h | (intro _ q; cases q)
theorem RB.up : ∀ {n : Nat} {d : D} {v : V}, RB K ex H n d v → RB K ex H (n + 1) d v
  | 0, _, _, h => RB.of h
  | n + 1, d, v, h => by
    cases d with
    | lst ds =>
      rw [RB] at h ⊢
      obtain ⟨a, xs, q, h1, h2⟩ := h
      exact ⟨a, xs, q, h1, h2.mono fun _ _ q => RB.up q⟩
    | _ =>
      rw [RB] at h ⊢ <;> first | exact h | (intro _ q; cases q)

/-! ### owned: the topmost k levels stand at addresses of their own -/
inductive P3 {α β γ : Type} (F : α → β → γ → Prop) : List α → List β → List γ → Prop
  | nil : P3 F [] [] []
  | cons {a : α} {b : β} {c : γ} {as : List α} {bs : List β} {cs : List γ} : F a b c → P3 F as bs cs → P3 F (a :: as) (b :: bs) (c :: cs)
theorem P3.mono {α β γ : Type} {F G : α → β → γ → Prop} (h : ∀ a b c, F a b c → G a b c) : ∀ {as : List α} {bs : List β} {cs : List γ}, P3 F as bs cs → P3 G as bs cs
  | _, _, _, .nil => .nil
  | _, _, _, .cons x t => .cons (h _ _ _ x) (P3.mono h t)
def RO (K : PySem.W.Frag) (ex : AS) (H : Hp) : Nat → D → V → List Addr → Prop
  | 0, d, v, fp => fp = [] ∧ R K ex H d v
  | k + 1, .lst ds, v, fp => ∃ a xs fps, v = .ref a ∧ (H a = some (.lst xs) ∧ xs.length ≤ sizeLine) ∧ fp = a :: fps.flatten ∧ P3 (RO K ex H k) ds xs fps
  | _ + 1, d, v, fp => fp = [] ∧ R K ex H d v
theorem RO.keep : ∀ {k : Nat} {d : D} {v : V} {fp : List Addr}, Keep ex H H' → (∀ a, ex' a → ex a ∨ H a = none) → (∀ a ∈ fp, ∀ o, H a = some o → H' a = some o) → RO K ex H k d v fp → RO K ex' H' k d v fp
  | 0, d, _, _, kp, m, _, h => by
    rw [RO] at h ⊢
    exact ⟨h.1, R.keep kp m d h.2⟩
  | k + 1, d, v, fp, kp, m, kf, h => by
    cases d with
    | lst ds =>
      rw [RO] at h ⊢
      obtain ⟨a, xs, fps, e, h1, e2, h2⟩ := h
      subst e2
      refine ⟨a, xs, fps, e, ⟨kf a List.mem_cons_self _ h1.1, h1.2⟩, rfl, ?_⟩
      have kf2 : ∀ a ∈ fps.flatten, ∀ o, H a = some o → H' a = some o := fun b hb => kf b (List.mem_cons_of_mem _ hb)
      clear h1 e kf
      induction h2 with
      | nil => exact .nil
      | cons x t ih =>
        rw [List.flatten_cons] at kf2
        exact .cons (RO.keep kp m (fun b hb => kf2 b (List.mem_append_left _ hb)) x) (ih fun b hb => kf2 b (List.mem_append_right _ hb))
    | _ =>
      rw [RO] at h ⊢ <;> first | exact ⟨h.1, R.keep kp m _ h.2⟩ | (intro _ q; cases q)
theorem RO.same (e : Same H H') {k : Nat} {d : D} {v : V} {fp : List Addr} (h : RO K ex H k d v fp) : RO K ex H' k d v fp :=
  RO.keep (Keep.same e) (fun _ q => .inl q) (fun a _ o q => e a o q) h
theorem RO.less (m : ∀ a, ex' a → ex a ∨ H a = none) {k : Nat} {d : D} {v : V} {fp : List Addr} (h : RO K ex H k d v fp) : RO K ex' H k d v fp :=
  RO.keep (Keep.same (Same.refl H)) m (fun _ _ _ q => q) h
/-- given up: nothing of it is among the owned any more -/
theorem RO.shared : ∀ {k : Nat} {d : D} {v : V} {fp : List Addr}, RO K ex H k d v fp → (∀ a, ex' a → ex a) → (∀ a ∈ fp, ¬ ex' a) → R K ex' H d v
  | 0, d, _, _, h, m, _ => by
    rw [RO] at h
    exact R.less (fun a q => .inl (m a q)) h.2
  | k + 1, d, v, fp, h, m, n => by
    cases d with
    | lst ds =>
      rw [RO] at h
      obtain ⟨a, xs, fps, e, h1, e2, h2⟩ := h
      subst e2
      rw [R]
      refine ⟨a, xs, e, ⟨.inl ⟨.inl h1.1, n a List.mem_cons_self⟩, h1.2⟩, RL.of ?_⟩
      have n2 : ∀ a ∈ fps.flatten, ¬ ex' a := fun b hb => n b (List.mem_cons_of_mem _ hb)
      clear h1 e n
      induction h2 with
      | nil => exact .nil
      | cons x t ih =>
        rw [List.flatten_cons] at n2
        exact .cons (RO.shared x m fun b hb => n2 b (List.mem_append_left _ hb)) (ih fun b hb => n2 b (List.mem_append_right _ hb))
    | _ =>
      rw [RO] at h <;> first | exact R.less (fun a q => .inl (m a q)) h.2 | (intro _ q; cases q)
theorem RO.borrow : ∀ {k : Nat} {d : D} {v : V} {fp : List Addr}, RO K ex H k d v fp → RB K ex H k d v
  | 0, _, _, _, h => by
    rw [RO] at h
    exact h.2
  | k + 1, d, v, fp, h => by
    cases d with
    | lst ds =>
      rw [RO] at h
      obtain ⟨a, xs, fps, e, h1, e2, h2⟩ := h
      rw [RB]
      refine ⟨a, xs, e, ⟨.inl (.inl h1.1), h1.2⟩, ?_⟩
      clear e2 h1 e
      induction h2 with
      | nil => exact .nil
      | cons x t ih => exact .cons (RO.borrow x) ih
    | _ =>
      rw [RO] at h <;> first | (rw [RB] <;> first | exact h.2 | (intro _ q; cases q)) | (intro _ q; cases q)
/-- what is shared anyway is owned to any depth where no list is at its top -/
theorem RO.zero {d : D} {v : V} (h : R K ex H d v) : RO K ex H 0 d v [] := ⟨rfl, h⟩
theorem RO.there : ∀ {k : Nat} {d : D} {v : V} {fp : List Addr}, RO K ex H k d v fp → ∀ a ∈ fp, H a ≠ none
  | 0, _, _, _, h, a, ha => by
    rw [RO] at h
    rw [h.1] at ha
    cases ha
  | k + 1, d, v, fp, h, a, ha => by
    cases d with
    | lst ds =>
      rw [RO] at h
      obtain ⟨b, xs, fps, e, h1, e2, h2⟩ := h
      subst e2
      rcases List.mem_cons.mp ha with rfl | ha
      · rw [h1.1]
        exact fun q => nomatch q
      · clear h1 e
        induction h2 with
        | nil => cases ha
        | cons x t ih =>
          rw [List.flatten_cons] at ha
          rcases List.mem_append.mp ha with ha | ha
          · exact RO.there x a ha
          · exact ih (List.mem_cons_of_mem _ ha) ha
    | _ =>
      rw [RO] at h <;> first | (rw [h.1] at ha; cases ha) | (intro _ q; cases q)
end
end Px

namespace Px
open PySem PySem.Spec PyProof.Rows L2

/-! ### the names' values -/
structure SI (K : PySem.W.Frag) (ex : AS) (L : List Nat) (ρ : Env) (σ : L2.St) (H : Hp) (fp : Nat → List Addr) : Prop where
  len : ρ.length = σ.length
  val : ∀ i d, ρ[i]? = some (some d) → ∃ v, σ[i]? = some (some v) ∧ RO K ex H (L.getD i 0) d v (fp i)
  nod : ∀ i, (fp i).Nodup
  dis : ∀ i j a, a ∈ fp i → a ∈ fp j → i = j
  sub : ∀ i a, a ∈ fp i → ex a
  ext : ∀ a, ex a → H a ≠ none
/-- .. in a def's body: H0 the heap at its entry, ex0 what callers own, G what loops around walk over -/
structure SS (K : PySem.W.Frag) (H0 : Hp) (ex0 : AS) (G : List (D × V)) (L : List Nat) (ρ : Env) (σ : L2.St) (H : Hp) (fp : Nat → List Addr) : Prop where
  si : SI K (fun a => (∃ i, a ∈ fp i) ∨ ex0 a) L ρ σ H fp
  own : ∀ i a, a ∈ fp i → H0 a = none
  old : ∀ a, ex0 a → H0 a ≠ none
  same : Same H0 H
  held : ∀ g ∈ G, R K (fun a => (∃ i, a ∈ fp i) ∨ ex0 a) H g.1 g.2
section
variable {K : PySem.W.Frag} {ex ex' : AS} {H H' : Hp} {L : List Nat} {ρ : Env} {σ : L2.St} {fp : Nat → List Addr}
theorem SI.same (I : SI K ex L ρ σ H fp) (e : Same H H') : SI K ex L ρ σ H' fp where
  len := I.len
  val := fun i d h => by
    obtain ⟨v, h1, h2⟩ := I.val i d h
    exact ⟨v, h1, h2.same e⟩
  nod := I.nod
  dis := I.dis
  sub := I.sub
  ext := fun a h q => by
    cases z : H a with
    | none => exact I.ext a h z
    | some o =>
      rw [e a o z] at q
      cases q
theorem new_not_ex (I : SI K ex L ρ σ H fp) {p : Addr} (h : H p = none) : ¬ ex p := fun q => I.ext p q h

/-! ### outcomes -/
/-- an outcome is met: the value's wish, or what is wanted of the exception (the class c of the module's) -/
def Out {α : Type} (X : Cx) (W : WX) (σ : L2.St) (H : Hp) (r : Res α) (P : α → Prop) : Prop :=
  match r with
  | .ok a => P a
  | .exc c => ∀ C, X.mg c = some (.ref C) → ∀ H', Same H H' → W (.ref C) none σ H'
  | .err => False
theorem Out.bind {α β : Type} {X : Cx} {W : WX} {r : Res α} {k : α → Res β} {P : β → Prop} (h : Out X W σ H (r >>= k) P) : Out X W σ H r (fun a => Out X W σ H (k a) P) := by
  cases r with
  | ok a => exact h
  | exc c => exact h
  | err => exact h
theorem Out.mono {α : Type} {X : Cx} {W : WX} {r : Res α} {P Q : α → Prop} (h : Out X W σ H r P) (m : ∀ a, P a → Q a) : Out X W σ H r Q := by
  cases r with
  | ok a => exact m a h
  | exc c => exact h
  | err => exact h
theorem Out.later {α : Type} {X : Cx} {W : WX} {r : Res α} {P : α → Prop} (h : Out X W σ H r P) (e : Same H H') : Out X W σ H' r P := by
  cases r with
  | ok a => exact h
  | exc c => exact fun C m H2 e2 => h C m H2 (e.trans e2)
  | err => exact h
/-- the value is known to be of a form -/
theorem Out.ok_iff {α : Type} {X : Cx} {W : WX} {a : α} {P : α → Prop} (h : Out X W σ H (.ok a) P) : P a := h
end

/-! ### the judgements -/
section
variable (X : Cx) (W : WX) (L : List Nat)
/-- borrowed to the depth n -/
def tB (n : Nat) (f : EF) : TE := fun σ H Q => ∃ ex ρ fp, SI X.K ex L ρ σ H fp ∧ Out X W σ H (f ρ) fun d => ∀ v H', Same H H' → RB X.K ex H' n d v → Q v H'
/-- owned to the depth k -/
def tO (k : Nat) (f : EF) : TE := fun σ H Q => ∃ ex ρ fp, SI X.K ex L ρ σ H fp ∧ Out X W σ H (f ρ) fun d => ∀ v H' fq, Same H H' → RO X.K (fun a => a ∈ fq ∨ ex a) H' k d v fq → fq.Nodup → (∀ a ∈ fq, H a = none) → Q v H'
/-- arguments, each borrowed to the depth n -/
def tAB (n m : Nat) (f : Env → Res (List D)) : TA := fun σ H Q => ∃ ex ρ fp, SI X.K ex L ρ σ H fp ∧ Out X W σ H (f ρ) fun ds => ∀ vs H', Same H H' → Paired (RB X.K ex H' n) ds vs → vs.length = m → Q vs H'
def tT (f : Env → Res Bool) : TT := fun σ H Q => ∃ ex ρ fp, SI X.K ex L ρ σ H fp ∧ Out X W σ H (f ρ) fun b => ∀ H', Same H H' → Q b H'
end
abbrev EB (X : Cx) (W : WX) (L : List Nat) (n : Nat) (e : Expr) (f : EF) : Prop := PE X e (tB X W L n f)
abbrev EO (X : Cx) (W : WX) (L : List Nat) (k : Nat) (e : Expr) (f : EF) : Prop := PE X e (tO X W L k f)
abbrev EA (X : Cx) (W : WX) (L : List Nat) (n m : Nat) (es : List Expr) (f : Env → Res (List D)) : Prop := PA X es (tAB X W L n m f)
abbrev ET (X : Cx) (W : WX) (L : List Nat) (e : Expr) (f : Env → Res Bool) : Prop := PT X e (tT X W L f)

theorem PE.imp {X : Cx} {e : Expr} {t t' : TE} (h : PE X e t) (m : ∀ σ H Q, t' σ H Q → t σ H Q) : PE X e t' := ⟨fun pins s σ H Q I q => h.run pins s σ H Q I (m σ H Q q)⟩
theorem PT.imp {X : Cx} {e : Expr} {t t' : TT} (h : PT X e t) (m : ∀ σ H Q, t' σ H Q → t σ H Q) : PT X e t' := ⟨fun pins s σ H Q I q => h.run pins s σ H Q I (m σ H Q q)⟩
theorem PW.imp {X : Cx} {e : Expr} {t t' : TT} (h : PW X e t) (m : ∀ σ H Q, t' σ H Q → t σ H Q) : PW X e t' := ⟨fun w pins s σ H Q I q => h.run w pins s σ H Q I (m σ H Q q)⟩
theorem PA.imp {X : Cx} {es : List Expr} {t t' : TA} (h : PA X es t) (m : ∀ σ H Q, t' σ H Q → t σ H Q) : PA X es t' := ⟨fun p pins s σ H Q I q => h.run p pins s σ H Q I (m σ H Q q)⟩
theorem PS.imp {X : Cx} {e : Stmt} {t t' : TS} (h : PS X e t) (m : ∀ D σ H, t' D σ H → t D σ H) : PS X e t' := ⟨fun pins s σ H D I q => h.run pins s σ H D I (m D σ H q)⟩
theorem PSs.imp {X : Cx} {e : List Stmt} {t t' : TS} (h : PSs X e t) (m : ∀ D σ H, t' D σ H → t D σ H) : PSs X e t' := ⟨fun pins s σ H D I q => h.run pins s σ H D I (m D σ H q)⟩

/-! ### changing the mode -/
section
variable {X : Cx} {W : WX} {L : List Nat} {e : Expr} {f g : EF} {n k : Nat}
theorem EO.b (h : EO X W L k e f) : EB X W L 0 e f := PE.imp h fun σ H Q ⟨ex, ρ, fp, I, o⟩ => ⟨ex, ρ, fp, I, o.mono fun d q v H' fq e r nd nw =>
  q v H' e (show R X.K ex H' d v from r.shared (fun a z => .inr z) fun a z => new_not_ex I (nw a z))⟩
theorem EB.up (h : EB X W L 0 e f) : EB X W L n e f := by
  refine PE.imp h fun σ H Q ⟨ex, ρ, fp, I, o⟩ => ⟨ex, ρ, fp, I, o.mono fun d q v H' e r => q v H' e (RB.of r)⟩
theorem EO.up (h : EO X W L k e f) : EB X W L n e f := EB.up (EO.b h)
theorem EB.o (h : EB X W L 0 e f) : EO X W L 0 e f := PE.imp h fun σ H Q ⟨ex, ρ, fp, I, o⟩ => ⟨ex, ρ, fp, I, o.mono fun d q v H' e r =>
  q v H' [] e ⟨rfl, R.less (fun a z => .inl (by
    rcases z with z | z
    · cases z
    · exact z)) r⟩ List.nodup_nil fun a z => nomatch z⟩
theorem EB.cg (h : EB X W L n e f) (m : ∀ ρ, g ρ = f ρ) : EB X W L n e g := by
  have e : g = f := funext m
  rw [e]
  exact h
end
end Px

namespace Px
open PySem PySem.Spec PyProof.Rows L2

/-! ### small facts -/
section
variable {K : PySem.W.Frag} {ex : AS} {H : Hp} {n k : Nat}
def notList : D → Bool
  | .lst _ => false
  | _ => true
theorem RO.flat {d : D} {v : V} (h : R K ex H d v) (f : notList d = true) : RO K ex H k d v [] := by
  cases k with
  | zero => exact ⟨rfl, h⟩
  | succ k =>
    cases d with
    | lst ds => cases f
    | _ => exact ⟨rfl, h⟩
theorem RB.flat {d : D} {v : V} (h : RB K ex H n d v) (f : notList d = true) : R K ex H d v := by
  cases n with
  | zero => exact h
  | succ n =>
    cases d with
    | lst ds => cases f
    | _ => exact h
theorem RB.int {i : Int} {v : V} (h : RB K ex H n (.int i) v) : v = .int i := by
  have h := RB.flat h rfl
  rw [R] at h
  exact h
theorem RB.bl {b : Bool} {v : V} (h : RB K ex H n (.bl b) v) : v = .bl b := by
  have h := RB.flat h rfl
  rw [R] at h
  exact h
theorem RB.str {b : Str} {v : V} (h : RB K ex H n (.str b) v) : v = .str b := by
  have h := RB.flat h rfl
  rw [R] at h
  exact h
theorem RB.non {v : V} (h : RB K ex H n .non v) : v = .non := by
  have h := RB.flat h rfl
  rw [R] at h
  exact h
theorem RB.tup {ds : List D} {v : V} (h : RB K ex H n (.tup ds) v) : ∃ a xs, v = .ref a ∧ SqT K H a xs ∧ xs.length ≤ sizeLine ∧ Paired (R K ex H) ds xs := by
  have h := RB.flat h rfl
  rw [R] at h
  obtain ⟨a, xs, e, h1, h2⟩ := h
  exact ⟨a, xs, e, h1.1, h1.2, RL.pair h2⟩
theorem RB.lst {ds : List D} {v : V} (h : RB K ex H (n + 1) (.lst ds) v) : ∃ a xs, v = .ref a ∧ SqL K H a xs ∧ xs.length ≤ sizeLine ∧ Paired (RB K ex H n) ds xs := by
  rw [RB] at h
  obtain ⟨a, xs, e, h1, h2⟩ := h
  exact ⟨a, xs, e, h1.1, h1.2, h2⟩
theorem R.no {v : V} : ∀ {d : D}, (match d with | .dic _ _ => True | .set _ => True | .exc _ => True | .oth => True | _ => False) → ¬ R K ex H d v
  | .dic _ _, _, h => by
    rw [R] at h
    exact h
  | .set _, _, h => by
    rw [R] at h
    exact h
  | .exc _, _, h => by
    rw [R] at h
    exact h
  | .oth, _, h => by
    rw [R] at h
    exact h
theorem Paired.get {α β : Type} {F : α → β → Prop} : ∀ {as : List α} {bs : List β} {i : Nat} {a : α}, Paired F as bs → as[i]? = some a → ∃ b, bs[i]? = some b ∧ F a b
  | _, _, _, _, .nil, e => by simp at e
  | _, _, 0, _, .cons r _, e => by simp at e; subst e; exact ⟨_, rfl, r⟩
  | _, _, i + 1, x, .cons _ t, e => by
    obtain ⟨u, h1, h2⟩ := Paired.get (i := i) (a := x) t (by simpa using e)
    exact ⟨u, by simpa using h1, h2⟩
theorem Paired.app {α β : Type} {F : α → β → Prop} : ∀ {as cs : List α} {bs ds : List β}, Paired F as bs → Paired F cs ds → Paired F (as ++ cs) (bs ++ ds)
  | _, _, _, _, .nil, s => s
  | _, _, _, _, .cons r t, s => .cons r (Paired.app t s)
theorem Paired.takeP {α β : Type} {F : α → β → Prop} : ∀ {as : List α} {bs : List β} (n : Nat), Paired F as bs → Paired F (as.take n) (bs.take n)
  | _, _, 0, _ => .nil
  | _, _, _ + 1, .nil => .nil
  | _, _, n + 1, .cons r t => .cons r (Paired.takeP n t)
theorem Paired.dropP {α β : Type} {F : α → β → Prop} : ∀ {as : List α} {bs : List β} (n : Nat), Paired F as bs → Paired F (as.drop n) (bs.drop n)
  | _, _, 0, r => r
  | _, _, _ + 1, .nil => .nil
  | _, _, n + 1, .cons _ t => Paired.dropP n t
theorem Paired.setP {α β : Type} {F : α → β → Prop} {a : α} {b : β} (r : F a b) : ∀ {as : List α} {bs : List β} (i : Nat), Paired F as bs → Paired F (as.set i a) (bs.set i b)
  | _, _, _, .nil => .nil
  | _, _, 0, .cons _ t => .cons r t
  | _, _, i + 1, .cons q t => .cons q (Paired.setP r i t)
theorem Paired.revP {α β : Type} {F : α → β → Prop} : ∀ {as : List α} {bs : List β}, Paired F as bs → Paired F as.reverse bs.reverse
  | _, _, .nil => .nil
  | _, _, .cons r t => by
    rw [List.reverse_cons, List.reverse_cons]
    exact Paired.app (Paired.revP t) (.cons r .nil)
theorem Paired.flattenP {α β : Type} {F : α → β → Prop} {as : List α} {bs : List β} (h : Paired F as bs) : ∀ m : Nat, Paired F (List.replicate m as).flatten (List.replicate m bs).flatten
  | 0 => .nil
  | m + 1 => by
    rw [List.replicate_succ, List.replicate_succ, List.flatten_cons, List.flatten_cons]
    exact Paired.app h (Paired.flattenP h m)
theorem same_upd {p : Addr} {o : HO} (h : H p = none) : Same H (upd H p o) := fun b x e => by
  rw [upd_ne (ne_of_none e h)]
  exact e
theorem P3.ofP {α β γ : Type} {F : α → β → Prop} {G : α → β → List γ → Prop} (m : ∀ a b, F a b → G a b []) : ∀ {as : List α} {bs : List β}, Paired F as bs → ∃ fps, P3 G as bs fps ∧ fps.flatten = []
  | _, _, .nil => ⟨[], .nil, rfl⟩
  | _, _, .cons r t => by
    obtain ⟨fps, h, e⟩ := P3.ofP m t
    exact ⟨[] :: fps, .cons (m _ _ r) h, by rw [List.flatten_cons, e]; rfl⟩
theorem new_less {p : Addr} (hp : H p = none) : ∀ a, (a ∈ [p] ∨ ex a) → ex a ∨ H a = none := fun a h => by
  rcases h with h | h
  · rw [List.mem_singleton.mp h]
    exact .inr hp
  · exact .inl h
/-- a new list of shared things is owned -/
theorem RO.newList {ds : List D} {xs : List V} {p : Addr} (r : Paired (R K ex H) ds xs) (hp : H p = none) (hl : xs.length ≤ sizeLine) :
    RO K (fun a => a ∈ [p] ∨ ex a) (upd H p (.lst xs)) 1 (.lst ds) (.ref p) [p] := by
  rw [RO]
  obtain ⟨fps, h, e⟩ := P3.ofP (G := RO K (fun a => a ∈ [p] ∨ ex a) (upd H p (.lst xs)) 0) (fun a b q => ⟨rfl, R.keep (Keep.same (same_upd (o := .lst xs) hp)) (new_less hp) a q⟩) r
  exact ⟨p, xs, fps, rfl, ⟨upd_same, hl⟩, by rw [e], h⟩
theorem R.newTup {ds : List D} {xs : List V} {p : Addr} (r : Paired (R K ex H) ds xs) (hp : H p = none) (hl : xs.length ≤ sizeLine) : R K ex (upd H p (.tup xs)) (.tup ds) (.ref p) := by
  rw [R]
  exact ⟨p, xs, rfl, ⟨.inl (.inl upd_same), hl⟩, RL.of (r.mono fun _ _ q => R.same (same_upd hp) q)⟩
theorem ex_nil {d : D} {v : V} (h : R K ex H d v) (f : notList d = true) : RO K (fun a => a ∈ ([] : List Addr) ∨ ex a) H k d v [] :=
  RO.flat (R.less (fun a q => .inl (by
    rcases q with q | q
    · cases q
    · exact q)) h) f
end

/-! ### expressions -/
/-- the wish for a new value, owned to the depth k -/
abbrev QO (K : PySem.W.Frag) (ex : AS) (H : Hp) (k : Nat) (Q : VK) (d : D) : Prop := ∀ v H' fq, Same H H' → RO K (fun a => a ∈ fq ∨ ex a) H' k d v fq → fq.Nodup → (∀ a ∈ fq, H a = none) → Q v H'
section
variable {K : PySem.W.Frag} {ex : AS} {H : Hp} {k : Nat} {Q : VK}
theorem QO.flat {d : D} (q : QO K ex H k Q d) {v : V} (h : R K ex H d v) (f : notList d = true) : Q v H := q v H [] (Same.refl H) (ex_nil h f) List.nodup_nil fun a z => nomatch z
theorem QO.int {i : Int} (q : QO K ex H k Q (.int i)) : Q (.int i) H := q.flat (by rw [R]) rfl
theorem QO.bl {i : Bool} (q : QO K ex H k Q (.bl i)) : Q (.bl i) H := q.flat (by rw [R]) rfl
theorem QO.str {i : Str} (q : QO K ex H k Q (.str i)) : Q (.str i) H := q.flat (by rw [R]) rfl
theorem QO.non (q : QO K ex H k Q .non) : Q .non H := q.flat (by rw [R]) rfl
theorem QO.lst {ds : List D} {xs : List V} {p : Addr} (q : QO K ex H 1 Q (.lst ds)) (r : Paired (R K ex H) ds xs) (hp : H p = none) (hl : xs.length ≤ sizeLine) : Q (.ref p) (upd H p (.lst xs)) :=
  q (.ref p) _ [p] (same_upd hp) (RO.newList r hp hl) (List.nodup_cons.mpr ⟨List.not_mem_nil, List.nodup_nil⟩) fun a z => by
    rw [List.mem_singleton.mp z]
    exact hp
theorem QO.tup {ds : List D} {xs : List V} {p : Addr} (q : QO K ex H k Q (.tup ds)) (r : Paired (R K ex H) ds xs) (hp : H p = none) (hl : xs.length ≤ sizeLine) : Q (.ref p) (upd H p (.tup xs)) :=
  q (.ref p) _ [] (same_upd hp) (ex_nil (R.newTup r hp hl) rfl) List.nodup_nil fun a z => nomatch z
end

def eVar (i : Nat) : EF := fun ρ => match ρ.getD i none with
  | some d => .ok d
  | none => .err
def eC (d : D) : EF := fun _ => .ok d
section
variable {X : Cx} {W : WX} {L : List Nat} {n k : Nat} {pos : Pos}
theorem getD_some {ρ : Env} {i : Nat} {d : D} (h : ρ.getD i none = some d) : ρ[i]? = some (some d) := by
  rw [List.getD_eq_getElem?_getD] at h
  cases e : ρ[i]? with
  | none => rw [e] at h; cases h
  | some z => rw [e] at h; exact congrArg some h
theorem RB.le {K : PySem.W.Frag} {ex : AS} {H : Hp} {j : Nat} {d : D} {v : V} (h : RB K ex H j d v) : ∀ {n : Nat}, j ≤ n → RB K ex H n d v := by
  intro n hn
  induction n with
  | zero =>
    have e : j = 0 := by omega
    rw [← e]
    exact h
  | succ n ih =>
    by_cases e : j = n + 1
    · rw [← e]
      exact h
    · exact (ih (by omega)).up
theorem eb_var {i : Nat} {x : Str} (hN : X.N[i]? = some x) (hv : Vis X.env.scope x) (hl : L.getD i 0 ≤ n) (hd : (x == ("__debug__" : Str)) = false := by decide) (hcd : (x == ("__classdict__" : Str)) = false := by decide) :
    EB X W L n (.Name x pos) (eVar i) := PE.imp (pe_var hN hv hd hcd) fun σ H Q ⟨ex, ρ, fp, I, o⟩ => by
  unfold eVar at o
  cases e : ρ.getD i none with
  | none => rw [e] at o; exact o.elim
  | some d =>
    rw [e] at o
    obtain ⟨v, h1, h2⟩ := I.val i d (getD_some e)
    exact ⟨v, h1, o v H (Same.refl H) (h2.borrow.le hl)⟩
theorem eo_int {i : Int} {j : Nat} : EO X W L k (.Constant (.int i) j pos) (eC (.int i)) := PE.imp pe_int fun σ H Q ⟨ex, ρ, fp, I, o⟩ => QO.int o
theorem eo_bl {i : Bool} {j : Nat} : EO X W L k (.Constant (.bool i) j pos) (eC (.bl i)) := PE.imp pe_bl fun σ H Q ⟨ex, ρ, fp, I, o⟩ => QO.bl o
theorem eo_str {i : Str} {j : Nat} : EO X W L k (.Constant (.str i) j pos) (eC (.str i)) := PE.imp pe_str fun σ H Q ⟨ex, ρ, fp, I, o⟩ => QO.str o
theorem eo_non {j : Nat} : EO X W L k (.Constant .none j pos) (eC .non) := PE.imp pe_non fun σ H Q ⟨ex, ρ, fp, I, o⟩ => QO.non o

/-! arguments -/
def aNil : Env → Res (List D) := fun _ => .ok []
def aCons (f : EF) (g : Env → Res (List D)) : Env → Res (List D) := fun ρ => f ρ >>= fun d => g ρ >>= fun ds => .ok (d :: ds)
variable {e : Expr} {es : List Expr} {f g : EF} {fs : Env → Res (List D)} {m : Nat}
theorem ea_nil : EA X W L n 0 [] aNil := PA.imp pa_nil fun σ H Q ⟨ex, ρ, fp, I, o⟩ => o [] H (Same.refl H) .nil rfl
theorem ea_cons (h : EB X W L n e f) (t : EA X W L n m es fs) (hs : starEach (e :: es) X.env = (false, eval e X.env) :: starEach es X.env := by rfl) : EA X W L n (m + 1) (e :: es) (aCons f fs) :=
  PA.imp (pa_cons h t hs) fun σ H Q ⟨ex, ρ, fp, I, o⟩ => by
    refine ⟨ex, ρ, fp, I, o.bind.mono fun d q v H1 e1 r1 => ⟨ex, ρ, fp, I.same e1, (q.bind.later e1).mono fun ds q2 vs H2 e2 r2 hm => ?_⟩⟩
    exact q2 (v :: vs) H2 (e1.trans e2) (.cons (r1.same e2) r2) (by rw [List.length_cons, hm])

/-! tuples, lists -/
def eTup (fs : Env → Res (List D)) : EF := fun ρ => fs ρ >>= fun ds => .ok (.tup ds)
def eLst (fs : Env → Res (List D)) : EF := fun ρ => fs ρ >>= fun ds => .ok (.lst ds)
theorem eo_tup {j : Nat} (h : EA X W L 0 m es fs) (hm : m ≤ sizeLine := by decide) : EO X W L k (.Tuple es j pos) (eTup fs) := PE.imp (pe_tup h) fun σ H Q ⟨ex, ρ, fp, I, o⟩ =>
  ⟨ex, ρ, fp, I, o.bind.mono fun ds q vs H1 e1 r1 hl => ⟨by omega, fun p hp => by
    refine QO.tup (K := X.K) (ex := ex) (k := k) (fun v H2 fq e2 ro nd nw => q v H2 fq (e1.trans e2) ro nd fun a ha => e1.free (nw a ha)) (r1 : Paired (R X.K ex H1) ds vs) hp (by omega)⟩⟩
theorem eo_lst (h : EA X W L 0 m es fs) (hm : m ≤ sizeLine := by decide) : EO X W L 1 (.List es pos) (eLst fs) := PE.imp (pe_lst h) fun σ H Q ⟨ex, ρ, fp, I, o⟩ =>
  ⟨ex, ρ, fp, I, o.bind.mono fun ds q vs H1 e1 r1 hl => ⟨by omega, fun p hp => by
    refine QO.lst (K := X.K) (ex := ex) (fun v H2 fq e2 ro nd nw => q v H2 fq (e1.trans e2) ro nd fun a ha => e1.free (nw a ha)) (r1 : Paired (R X.K ex H1) ds vs) hp (by omega)⟩⟩
theorem eo_nil : EO X W L (k + 1) (.List [] pos) (eC (.lst [])) := PE.imp (pe_lst pa_nil) fun σ H Q ⟨ex, ρ, fp, I, o⟩ => ⟨Nat.zero_le _, fun p hp =>
  o (.ref p) _ [p] (same_upd hp) ⟨p, [], [], rfl, ⟨upd_same, Nat.zero_le _⟩, rfl, .nil⟩ (List.nodup_cons.mpr ⟨List.not_mem_nil, List.nodup_nil⟩) fun a z => by
    rw [List.mem_singleton.mp z]
    exact hp⟩

/-! operators -/
/-- a binary operation does what a function over data does -/
def Op2 (X : Cx) (n m k : Nat) (f : Value → Value → Sem Value) (g : D → D → Res D) : Prop :=
  OpR X f fun x y H Q => ∃ ex d1 d2 d, (∀ a, ex a → H a ≠ none) ∧ RB X.K ex H n d1 x ∧ RB X.K ex H m d2 y ∧ g d1 d2 = .ok d ∧ QO X.K ex H k Q d
def eOp (o : D → D → Res D) (f g : EF) : EF := fun ρ => f ρ >>= fun a => g ρ >>= fun b => o a b
variable {a b c : Expr} {o o' : D → D → Res D} {n1 n2 : Nat}
theorem no_exc {α : Type} {r : Res α} {σ : L2.St} {H : Hp} {P : α → Prop} (h : Out X W σ H r P) (ne : ∀ c, r ≠ .exc c) : ∃ d, r = .ok d ∧ P d := by
  cases r with
  | ok d => exact ⟨d, rfl, h⟩
  | exc c => exact absurd rfl (ne c)
  | err => exact h.elim
/-- an operation over data that raises nothing -/
def NoX2 (o : D → D → Res D) : Prop := ∀ a b c, o a b ≠ .exc c
theorem eo_op {op : Operator} (ho : Op2 X n1 n2 k (binaryOp op) o) (nx : NoX2 o) (ha : EB X W L n1 a f) (hb : EB X W L n2 b g) : EO X W L k (.BinOp a op b pos) (eOp o f g) :=
  PE.imp (pe_op ho ha hb) fun σ H Q ⟨ex, ρ, fp, I, q⟩ => by
    refine ⟨ex, ρ, fp, I, q.bind.mono fun d1 q1 v1 H1 e1 r1 => ⟨ex, ρ, fp, I.same e1, (q1.bind.later e1).mono fun d2 q2 v2 H2 e2 r2 => ?_⟩⟩
    obtain ⟨d, ed, qd⟩ := no_exc q2 (nx d1 d2)
    exact ⟨ex, d1, d2, d, ((I.same e1).same e2).ext, r1.same e2, r2, ed, fun v H3 fq e3 ro nd nw => qd v H3 fq ((e1.trans e2).trans e3) ro nd fun a ha => (e1.trans e2).free (nw a ha)⟩
theorem eo_cmp {op : CmpOp} (ho : Op2 X n1 n2 k (compareOp op) o) (nx : NoX2 o) (ha : EB X W L n1 a f) (hb : EB X W L n2 b g) (hm : behindInMarks op b = false) : EO X W L k (.Compare a [op] [b] pos) (eOp o f g) :=
  PE.imp (pe_cmpR ho ha hb hm) fun σ H Q ⟨ex, ρ, fp, I, q⟩ => by
    refine ⟨ex, ρ, fp, I, q.bind.mono fun d1 q1 v1 H1 e1 r1 => ⟨ex, ρ, fp, I.same e1, (q1.bind.later e1).mono fun d2 q2 v2 H2 e2 r2 => ?_⟩⟩
    obtain ⟨d, ed, qd⟩ := no_exc q2 (nx d1 d2)
    exact ⟨ex, d1, d2, d, ((I.same e1).same e2).ext, r1.same e2, r2, ed, fun v H3 fq e3 ro nd nw => qd v H3 fq ((e1.trans e2).trans e3) ro nd fun a ha => (e1.trans e2).free (nw a ha)⟩
end
end Px

namespace Px
open PySem PySem.Spec PyProof.Rows L2

/-! ### data that is compared -/
mutual
def toP : D → PyData
  | .non => .none
  | .bl b => .bool b
  | .int i => .int i
  | .str s => .str s
  | .tup xs => .tuple (toPL xs)
  | .lst xs => .list (toPL xs)
  | .dic _ _ => .none
  | .set _ => .none
  | .exc _ => .none
  | .oth => .none
def toPL : List D → List PyData
  | [] => []
  | x :: xs => toP x :: toPL xs
end
mutual
/-- plain data to the depth n -/
def okN : Nat → D → Bool
  | _, .non => true
  | _, .bl _ => true
  | _, .int _ => true
  | _, .str s => PyData.strOk s
  | 0, .tup _ => false
  | n + 1, .tup xs => okL n xs
  | 0, .lst _ => false
  | n + 1, .lst xs => okL n xs
  | _, .dic _ _ => false
  | _, .set _ => false
  | _, .exc _ => false
  | _, .oth => false
def okL : Nat → List D → Bool
  | _, [] => true
  | n, x :: xs => okN n x && okL n xs
end
mutual
def eqD : D → D → Bool
  | .non, .non => true
  | .bl a, .bl b => a == b
  | .bl a, .int j => (if a then 1 else 0) == j
  | .int i, .bl b => i == (if b then 1 else 0)
  | .int i, .int j => i == j
  | .str x, .str y => x == y
  | .lst xs, .lst ys => eqDL xs ys
  | .tup xs, .tup ys => eqDL xs ys
  | _, _ => false
def eqDL : List D → List D → Bool
  | [], [] => true
  | x :: xs, y :: ys => eqD x y && eqDL xs ys
  | _, _ => false
end
theorem okL_all (n : Nat) : ∀ xs : List D, okL n xs = xs.all (okN n)
  | [] => by rw [okL, List.all_nil]
  | x :: xs => by rw [okL, List.all_cons, okL_all n xs]
mutual
theorem ok_lay : ∀ (n : Nat) (d : D), okN n d = true → (toP d).canLay0 = true ∧ (toP d).depth ≤ n
  | n, .non, _ => by simp [toP, PyData.canLay0, PyData.depth]
  | n, .bl _, _ => by simp [toP, PyData.canLay0, PyData.depth]
  | n, .int _, _ => by simp [toP, PyData.canLay0, PyData.depth]
  | n, .str _, h => by
    rw [okN] at h
    simp [toP, PyData.canLay0, PyData.depth, h]
  | 0, .tup _, h => by simp [okN] at h
  | n + 1, .tup xs, h => by
    rw [okN] at h
    obtain ⟨a, b⟩ := ok_layL n xs h
    simp only [toP, PyData.canLay0, PyData.depth]
    exact ⟨a, by omega⟩
  | 0, .lst _, h => by simp [okN] at h
  | n + 1, .lst xs, h => by
    rw [okN] at h
    obtain ⟨a, b⟩ := ok_layL n xs h
    simp only [toP, PyData.canLay0, PyData.depth]
    exact ⟨a, by omega⟩
  | n, .dic _ _, h => by simp [okN] at h
  | n, .set _, h => by simp [okN] at h
  | n, .exc _, h => by simp [okN] at h
  | n, .oth, h => by simp [okN] at h
theorem ok_layL : ∀ (n : Nat) (ds : List D), okL n ds = true → PyData.canLayAll0 (toPL ds) = true ∧ PyData.depthAll (toPL ds) ≤ n
  | n, [], _ => by simp [toPL, PyData.canLayAll0, PyData.depthAll]
  | n, d :: ds, h => by
    rw [okL, Bool.and_eq_true] at h
    obtain ⟨a, b⟩ := ok_lay n d h.1
    obtain ⟨a2, b2⟩ := ok_layL n ds h.2
    simp only [toPL, PyData.canLayAll0, PyData.depthAll, a, a2, Bool.and_self, true_and]
    omega
end
theorem ok_shaped {d : D} (h : okN 60 d = true) : SeqAt.shaped (toP d) = true := by
  obtain ⟨a, b⟩ := ok_lay 60 d h
  unfold SeqAt.shaped
  rw [a, Bool.true_and, decide_eq_true_eq]
  omega
mutual
theorem eqD_eqv : ∀ (n m : Nat) (a b : D), okN n a = true → okN m b = true → PyData.eqv (toP a) (toP b) = eqD a b
  | _, _, .non, b, _, h => by cases b <;> simp_all [toP, PyData.eqv, eqD, okN]
  | _, _, .bl _, b, _, h => by cases b <;> simp_all [toP, PyData.eqv, eqD, okN]
  | _, _, .int _, b, _, h => by cases b <;> simp_all [toP, PyData.eqv, eqD, okN]
  | _, _, .str _, b, _, h => by cases b <;> simp_all [toP, PyData.eqv, eqD, okN]
  | n, m, .tup xs, b, h1, h => by
    cases n with
    | zero => simp [okN] at h1
    | succ n =>
      cases b with
      | tup ys =>
        cases m with
        | zero => simp [okN] at h
        | succ m =>
          rw [okN] at h1 h
          rw [toP, toP, PyData.eqv, eqD]
          exact eqD_eqvL n m xs ys h1 h
      | _ => simp_all [toP, PyData.eqv, eqD, okN]
  | n, m, .lst xs, b, h1, h => by
    cases n with
    | zero => simp [okN] at h1
    | succ n =>
      cases b with
      | lst ys =>
        cases m with
        | zero => simp [okN] at h
        | succ m =>
          rw [okN] at h1 h
          rw [toP, toP, PyData.eqv, eqD]
          exact eqD_eqvL n m xs ys h1 h
      | _ => simp_all [toP, PyData.eqv, eqD, okN]
  | _, _, .dic _ _, _, h, _ => by simp [okN] at h
  | _, _, .set _, _, h, _ => by simp [okN] at h
  | _, _, .exc _, _, h, _ => by simp [okN] at h
  | _, _, .oth, _, h, _ => by simp [okN] at h
theorem eqD_eqvL : ∀ (n m : Nat) (a b : List D), okL n a = true → okL m b = true → PyData.eqvAll (toPL a) (toPL b) = eqDL a b
  | _, _, [], [], _, _ => by simp [toPL, PyData.eqvAll, eqDL]
  | _, _, [], _ :: _, _, _ => by simp [toPL, PyData.eqvAll, eqDL]
  | _, _, _ :: _, [], _, _ => by simp [toPL, PyData.eqvAll, eqDL]
  | n, m, x :: xs, y :: ys, h1, h2 => by
    rw [okL, Bool.and_eq_true] at h1 h2
    rw [toPL, toPL, PyData.eqvAll, eqDL, eqD_eqv n m x y h1.1 h2.1, eqD_eqvL n m xs ys h1.2 h2.2]
end
section
variable {K : PySem.W.Frag} {ex : AS} {H : Hp}
mutual
theorem R.dp : ∀ (d : D) {v : V}, R K ex H d v → Dp K H v (toP d)
  | .non, v, h => by
    rw [R] at h
    subst h
    rw [toP]
    exact .non
  | .bl _, v, h => by
    rw [R] at h
    subst h
    rw [toP]
    exact .bl _
  | .int _, v, h => by
    rw [R] at h
    subst h
    rw [toP]
    exact .int _
  | .str _, v, h => by
    rw [R] at h
    subst h
    rw [toP]
    exact .str _
  | .tup ds, v, h => by
    rw [R] at h
    obtain ⟨a, xs, rfl, h1, h2⟩ := h
    rw [toP]
    exact .tup h1.1 (RL.dp ds h2)
  | .lst ds, v, h => by
    rw [R] at h
    obtain ⟨a, xs, rfl, h1, h2⟩ := h
    rw [toP]
    exact .lst h1.1.sq (RL.dp ds h2)
  | .dic _ _, _, h => by
    rw [R] at h
    exact h.elim
  | .set _, _, h => by
    rw [R] at h
    exact h.elim
  | .exc _, _, h => by
    rw [R] at h
    exact h.elim
  | .oth, _, h => by
    rw [R] at h
    exact h.elim
theorem RL.dp : ∀ (ds : List D) {vs : List V}, RL K ex H ds vs → DpAll K H vs (toPL ds)
  | [], _, h => by
    rw [RL] at h
    subst h
    rw [toPL]
    exact .nil
  | d :: ds, _, h => by
    rw [RL] at h
    obtain ⟨v, r, rfl, h1, h2⟩ := h
    rw [toPL]
    exact .cons (R.dp d h1) (RL.dp ds h2)
end
theorem RB.dp : ∀ {n : Nat} {d : D} {v : V}, RB K ex H n d v → Dp K H v (toP d)
  | 0, d, _, h => R.dp d h
  | n + 1, d, v, h => by
    cases d with
    | lst ds =>
      obtain ⟨a, xs, rfl, h1, hz, h2⟩ := RB.lst h
      rw [toP]
      refine .lst h1 ?_
      clear h h1 hz
      induction h2 with
      | nil =>
        rw [toPL]
        exact .nil
      | cons x t ih =>
        rw [toPL]
        exact .cons (RB.dp x) ih
    | _ => exact R.dp _ (RB.flat h rfl)
end

/-! ### comparisons -/
def dEq (a b : D) : Res D := if okN 60 a && okN 60 b then .ok (.bl (eqD a b)) else .err
def dNe (a b : D) : Res D := if okN 60 a && okN 60 b then .ok (.bl (!eqD a b)) else .err
def dCmpI (p : Int → Int → Bool) : D → D → Res D
  | .int i, .int j => .ok (.bl (p i j))
  | _, _ => .err
def isNon : D → Bool
  | .non => true
  | _ => false
def dIs : D → D → Res D
  | a, .non => .ok (.bl (isNon a))
  | _, _ => .err
def dIsNot : D → D → Res D
  | a, .non => .ok (.bl (!isNon a))
  | _, _ => .err
def dIn : D → D → Res D
  | a, .lst xs => if okN 60 a && okN 60 (.lst xs) then .ok (.bl (xs.any fun z => eqD z a)) else .err
  | a, .tup xs => if okN 60 a && okN 60 (.tup xs) then .ok (.bl (xs.any fun z => eqD z a)) else .err
  | .str a, .str s => if a.cps.size = 1 then .ok (.bl (decide (a.cps.getD 0 0 ∈ s.cps.toList))) else .err
  | _, _ => .err
def dNotIn (a b : D) : Res D := match dIn a b with
  | .ok (.bl x) => .ok (.bl (!x))
  | _ => .err
section
variable {X : Cx} {n m k : Nat}
theorem dEq_nx : NoX2 dEq := fun a b c h => by
  unfold dEq at h
  split at h <;> cases h
theorem dNe_nx : NoX2 dNe := fun a b c h => by
  unfold dNe at h
  split at h <;> cases h
theorem dCmpI_nx {p : Int → Int → Bool} : NoX2 (dCmpI p) := fun a b c h => by
  unfold dCmpI at h
  split at h <;> cases h
theorem dIs_nx : NoX2 dIs := fun a b c h => by
  unfold dIs at h
  split at h <;> cases h
theorem dIsNot_nx : NoX2 dIsNot := fun a b c h => by
  unfold dIsNot at h
  split at h <;> cases h
theorem dNotIn_nx : NoX2 dNotIn := fun a b c h => by
  unfold dNotIn at h
  split at h <;> cases h
theorem dIn_nx : NoX2 dIn := fun a b c h => by
  unfold dIn at h
  split at h <;> first | cases h | (split at h <;> cases h)
theorem o_eq (hu : X.A.units + 64 < cLine) : Op2 X n m k (compareOp .Eq) dEq := fun pins s σ H x y v u Q I rx ry h => by
  obtain ⟨ex, d1, d2, d, ext, r1, r2, e, q⟩ := h
  unfold dEq at e
  split at e
  · rename_i ok
    rw [Bool.and_eq_true] at ok
    cases e
    exact op_eqD hu pins s σ H x y v u Q I rx ry ⟨toP d1, toP d2, r1.dp, r2.dp, ok_shaped ok.1, ok_shaped ok.2, by rw [eqD_eqv 60 60 d1 d2 ok.1 ok.2]; exact q.bl⟩
  · cases e
theorem o_ne (hu : X.A.units + 64 < cLine) : Op2 X n m k (compareOp .NotEq) dNe := fun pins s σ H x y v u Q I rx ry h => by
  obtain ⟨ex, d1, d2, d, ext, r1, r2, e, q⟩ := h
  unfold dNe at e
  split at e
  · rename_i ok
    rw [Bool.and_eq_true] at ok
    cases e
    exact op_neD hu pins s σ H x y v u Q I rx ry ⟨toP d1, toP d2, r1.dp, r2.dp, ok_shaped ok.1, ok_shaped ok.2, by rw [eqD_eqv 60 60 d1 d2 ok.1 ok.2]; exact q.bl⟩
  · cases e
theorem o_cmpI {f : Value → Value → Sem Value} {p : Int → Int → Bool} (h0 : OpR X f (rI0 fun i j => .bl (p i j))) : Op2 X n m k f (dCmpI p) := fun pins s σ H x y v u Q I rx ry h => by
  obtain ⟨ex, d1, d2, d, ext, r1, r2, e, q⟩ := h
  unfold dCmpI at e
  split at e
  · cases e
    exact h0 pins s σ H x y v u Q I rx ry ⟨_, _, r1.int, r2.int, q.bl⟩
  · cases e
abbrev iLt : Int → Int → Bool := fun i j => decide (i < j)
abbrev iLe : Int → Int → Bool := fun i j => decide (i ≤ j)
abbrev iGt : Int → Int → Bool := fun i j => decide (j < i)
abbrev iGe : Int → Int → Bool := fun i j => decide (j ≤ i)
theorem o_lt : Op2 X n m k (compareOp .Lt) (dCmpI iLt) := o_cmpI op_lt
theorem o_le : Op2 X n m k (compareOp .LtE) (dCmpI iLe) := o_cmpI op_le
theorem o_gt : Op2 X n m k (compareOp .Gt) (dCmpI iGt) := o_cmpI op_gt
theorem o_ge : Op2 X n m k (compareOp .GtE) (dCmpI iGe) := o_cmpI op_ge
theorem RB.isNon {K : PySem.W.Frag} {ex : AS} {H : Hp} {d : D} {v : V} (h : RB K ex H n d v) : decide (v = V.non) = Px.isNon d := by
  cases d with
  | non =>
    rw [h.non]
    rfl
  | bl b =>
    rw [h.bl]
    rfl
  | int b =>
    rw [h.int]
    rfl
  | str b =>
    rw [h.str]
    exact decide_eq_false fun q => nomatch q
  | tup xs =>
    obtain ⟨a, ys, rfl, _⟩ := h.tup
    exact decide_eq_false fun q => nomatch q
  | lst xs =>
    obtain ⟨a, ys, rfl, _⟩ := (h.up).lst
    exact decide_eq_false fun q => nomatch q
  | _ => exact absurd (RB.flat h rfl) (R.no (by trivial))
theorem o_is : Op2 X n m k (compareOp .Is) dIs := fun pins s σ H x y v u Q I rx ry h => by
  obtain ⟨ex, d1, d2, d, ext, r1, r2, e, q⟩ := h
  unfold dIs at e
  split at e
  · cases e
    exact op_isN pins s σ H x y v u Q I rx ry ⟨r2.non, by rw [RB.isNon r1]; exact q.bl⟩
  · cases e
theorem o_isNot : Op2 X n m k (compareOp .IsNot) dIsNot := fun pins s σ H x y v u Q I rx ry h => by
  obtain ⟨ex, d1, d2, d, ext, r1, r2, e, q⟩ := h
  unfold dIsNot at e
  split at e
  · cases e
    exact op_notN pins s σ H x y v u Q I rx ry ⟨r2.non, by rw [RB.isNon r1]; exact q.bl⟩
  · cases e
theorem any_toP (a : D) (ha : okN 60 a = true) (n : Nat) : ∀ xs : List D, okL n xs = true → ((toPL xs).any fun z => PyData.eqv z (toP a)) = xs.any fun z => eqD z a
  | [], _ => by rw [toPL]; rfl
  | x :: xs, h => by
    rw [okL, Bool.and_eq_true] at h
    rw [toPL, List.any_cons, List.any_cons, any_toP a ha n xs h.2, eqD_eqv n 60 x a h.1 ha]
theorem one_sign {a : Str} (h : a.cps.size = 1) : a = ⟨#[a.cps.getD 0 0]⟩ := by
  obtain ⟨cps⟩ := a
  obtain ⟨l⟩ := cps
  cases l with
  | nil => cases h
  | cons c r =>
    cases r with
    | nil => rfl
    | cons _ _ => simp at h
theorem o_in_aux (hu : X.A.units + 65 < cLine) (neg : Bool) (op : CmpOp) (hop : op = if neg then .NotIn else .In)
    {pins : List (Addr × Obj)} {s : Shared} {σ : L2.St} {H : Hp} {x y : V} {v u : Value} {Q : VK} (I : Inv X pins σ H s) (rx : RelV x v) (ry : RelV y u) {ex : AS} {d1 d2 : D} {b : Bool} (r1 : RB X.K ex H n d1 x) (r2 : RB X.K ex H m d2 y) (e : dIn d1 d2 = .ok (.bl b))
    (q : Q (.bl (if neg then !b else b)) H) : wpAny (model X.prog X.w) X.A (compareOp op v u) (EP X pins σ Q) X.xe s := by
  unfold dIn at e
  split at e
  · rename_i xs
    split at e
    · rename_i ok
      rw [Bool.and_eq_true] at ok
      have e2 : (xs.any fun z => eqD z d1) = b := by cases e; rfl
      have hl : okL 59 xs = true := by have := ok.2; rw [okN] at this; exact this
      have hr := RB.dp r2
      rw [toP] at hr
      have hs : SeqAt.shaped (.list (toPL xs)) = true := by have := ok_shaped ok.2; rw [toP] at this; exact this
      cases neg with
      | false =>
        subst hop
        exact op_inD hu pins s σ H x y v u Q I rx ry ⟨toP d1, toPL xs, r1.dp, hr, ok_shaped ok.1, hs, by rw [any_toP d1 ok.1 59 xs hl, e2]; exact q⟩
      | true =>
        subst hop
        exact op_notInD hu pins s σ H x y v u Q I rx ry ⟨toP d1, toPL xs, r1.dp, hr, ok_shaped ok.1, hs, by rw [any_toP d1 ok.1 59 xs hl, e2]; exact q⟩
    · cases e
  · rename_i xs
    split at e
    · rename_i ok
      rw [Bool.and_eq_true] at ok
      have e2 : (xs.any fun z => eqD z d1) = b := by cases e; rfl
      have hl : okL 59 xs = true := by have := ok.2; rw [okN] at this; exact this
      have hr := RB.dp r2
      rw [toP] at hr
      have hs : SeqAt.shaped (.tuple (toPL xs)) = true := by have := ok_shaped ok.2; rw [toP] at this; exact this
      obtain ⟨as, q1⟩ := Dp.reads I (toP d1) x v r1.dp rx
      obtain ⟨bs, q2⟩ := Dp.reads I (.tuple (toPL xs)) y u hr ry
      cases neg with
      | false =>
        subst hop
        exact SeqAt.in_tuple_reads q2 q1 (SeqAt.canLay_of_shaped hs) (SeqAt.canLay_of_shaped (ok_shaped ok.1)) (room_in_shaped (ok_shaped ok.1) hu) ⟨.bl _, H, I, rfl, by rw [any_toP d1 ok.1 59 xs hl, e2]; exact q⟩
      | true =>
        subst hop
        exact SeqAt.notIn_tuple_reads q2 q1 (SeqAt.canLay_of_shaped hs) (SeqAt.canLay_of_shaped (ok_shaped ok.1)) (room_in_shaped (ok_shaped ok.1) hu) ⟨.bl _, H, I, rfl, by rw [any_toP d1 ok.1 59 xs hl, e2]; exact q⟩
    · cases e
  · rename_i a z
    split at e
    · rename_i h1
      have e2 : decide (a.cps.getD 0 0 ∈ z.cps.toList) = b := by cases e; rfl
      have ex1 := r1.str
      rw [one_sign h1] at ex1
      cases neg with
      | false =>
        subst hop
        exact op_in_sign pins s σ H x y v u Q I rx ry ⟨a.cps.getD 0 0, z, ex1, r2.str, by rw [e2]; exact q⟩
      | true =>
        subst hop
        exact op_notIn_sign pins s σ H x y v u Q I rx ry ⟨a.cps.getD 0 0, z, ex1, r2.str, by rw [e2]; exact q⟩
    · cases e
  · cases e
theorem dIn_bl {a b d : D} (h : dIn a b = .ok d) : ∃ x, d = .bl x := by
  unfold dIn at h
  split at h <;> first | cases h | (split at h <;> first | (cases h; done) | (cases h; exact ⟨_, rfl⟩))
theorem o_in (hu : X.A.units + 65 < cLine) : Op2 X n m k (compareOp .In) dIn := fun pins s σ H x y v u Q I rx ry h => by
  obtain ⟨ex, d1, d2, d, ext, r1, r2, e, q⟩ := h
  obtain ⟨b, rfl⟩ := dIn_bl e
  exact o_in_aux hu false .In rfl I rx ry r1 r2 e q.bl
theorem o_notIn (hu : X.A.units + 65 < cLine) : Op2 X n m k (compareOp .NotIn) dNotIn := fun pins s σ H x y v u Q I rx ry h => by
  obtain ⟨ex, d1, d2, d, ext, r1, r2, e, q⟩ := h
  unfold dNotIn at e
  split at e
  · rename_i b e2
    cases e
    exact o_in_aux hu true .NotIn rfl I rx ry r1 r2 e2 q.bl
  · cases e

/-! ### arithmetic -/
/-- what a product's factors may be: one within 64 bits, or both together below a million bits -/
def mulOk (i j : Int) : Bool := decide ((-(2 ^ 64) < i ∧ i < 2 ^ 64) ∨ (-(2 ^ 64) < j ∧ j < 2 ^ 64))
def dAdd : D → D → Res D
  | .int i, .int j => .ok (.int (i + j))
  | .str a, .str b => if a.length + b.length ≤ sizeLine then .ok (.str (a ++ b)) else .err
  | .lst a, .lst b => if a.length + b.length ≤ sizeLine then .ok (.lst (a ++ b)) else .err
  | .tup a, .tup b => if a.length + b.length ≤ sizeLine then .ok (.tup (a ++ b)) else .err
  | _, _ => .err
def dSub : D → D → Res D
  | .int i, .int j => .ok (.int (i - j))
  | _, _ => .err
def dMul : D → D → Res D
  | .int i, .int j => if mulOk i j then .ok (.int (i * j)) else .err
  | _, _ => .err
/-- a floor division by a divisor above nought, below 2 ^ 30 -/
def dDiv : D → D → Res D
  | .int i, .int j => if 0 < j ∧ j < 1073741824 then .ok (.int (i / j)) else .err
  | _, _ => .err
def dMod : D → D → Res D
  | .int i, .int j => if 0 < j then .ok (.int (i % j)) else .err
  | _, _ => .err
def dPow : D → D → Res D
  | .int i, .int j => if 0 ≤ j ∧ j ≤ 1000000 ∧ i.natAbs < 2 ^ 64 then .ok (.int (i ^ j.toNat)) else .err
  | _, _ => .err
theorem dAdd_nx : NoX2 dAdd := fun a b c h => by
  unfold dAdd at h
  split at h <;> first | cases h | (split at h <;> cases h)
theorem dSub_nx : NoX2 dSub := fun a b c h => by
  unfold dSub at h
  split at h <;> first | cases h | (split at h <;> cases h)
theorem dMul_nx : NoX2 dMul := fun a b c h => by
  unfold dMul at h
  split at h <;> first | cases h | (split at h <;> cases h)
theorem dDiv_nx : NoX2 dDiv := fun a b c h => by
  unfold dDiv at h
  split at h <;> first | cases h | (split at h <;> cases h)
theorem dMod_nx : NoX2 dMod := fun a b c h => by
  unfold dMod at h
  split at h <;> first | cases h | (split at h <;> cases h)
theorem dPow_nx : NoX2 dPow := fun a b c h => by
  unfold dPow at h
  split at h <;> first | cases h | (split at h <;> cases h)
theorem o_sub : Op2 X n m k (binaryOp .Sub) dSub := fun pins s σ H x y v u Q I rx ry h => by
  obtain ⟨ex, d1, d2, d, ext, r1, r2, e, q⟩ := h
  unfold dSub at e
  split at e
  · cases e
    exact op_sub pins s σ H x y v u Q I rx ry ⟨_, _, r1.int, r2.int, q.int⟩
  · cases e
theorem o_div : Op2 X n m k (binaryOp .FloorDiv) dDiv := fun pins s σ H x y v u Q I rx ry h => by
  obtain ⟨ex, d1, d2, d, ext, r1, r2, e, q⟩ := h
  unfold dDiv at e
  split at e
  · split at e
    · rename_i hc
      cases e
      exact op_fdiv pins s σ H x y v u Q I rx ry ⟨_, _, r1.int, r2.int, hc, q.int⟩
    · cases e
  · cases e
theorem o_mod : Op2 X n m k (binaryOp .Mod) dMod := fun pins s σ H x y v u Q I rx ry h => by
  obtain ⟨ex, d1, d2, d, ext, r1, r2, e, q⟩ := h
  unfold dMod at e
  split at e
  · split at e
    · rename_i hc
      cases e
      exact op_mod pins s σ H x y v u Q I rx ry ⟨_, _, r1.int, r2.int, hc, q.int⟩
    · cases e
  · cases e
theorem o_pow : Op2 X n m k (binaryOp .Pow) dPow := fun pins s σ H x y v u Q I rx ry h => by
  obtain ⟨ex, d1, d2, d, ext, r1, r2, e, q⟩ := h
  unfold dPow at e
  split at e
  · split at e
    · rename_i hc
      cases e
      exact op_pow pins s σ H x y v u Q I rx ry ⟨_, _, r1.int, r2.int, hc, q.int⟩
    · cases e
  · cases e
theorem op_catL {pins : List (Addr × Obj)} {s : Shared} {σ : L2.St} {H : Hp} {l b : Addr} {xs ys : List V} {v u : Value} {Q : VK} (I : Inv X pins σ H s) (h1 : SqL X.K H l xs) (h2 : SqL X.K H b ys) (rx : RelV (.ref l) v) (ry : RelV (.ref b) u)
    (hl : xs.length + ys.length ≤ sizeLine) (q : Q (.ref s.heap.objs.size) (upd H s.heap.objs.size (.lst (xs ++ ys)))) : wpAny (model X.prog X.w) X.A (binaryOp .Add v u) (EP X pins σ Q) X.xe s := by
  cases rx
  cases ry
  obtain ⟨its, rv, pl, _⟩ := I.list h1
  obtain ⟨its2, rv2, pl2, _⟩ := I.list h2
  obtain ⟨⟨cls, dd, data, sl⟩, ho, hc, n, hd⟩ := id pl.isList
  obtain ⟨⟨cls2, dd2, data2, sl2⟩, ho2, hc2, n2, hd2⟩ := id pl2.isList
  simp only at hc hd hc2 hd2
  subst hc hd hc2 hd2
  have e : its.toArray ++ its2.toArray = (its ++ its2).toArray := by simp
  have el := rv.length
  have el2 := rv2.length
  refine concat_meets ⟨_, ho, rfl⟩ ⟨_, ho2, rfl⟩ noFill_list_add seq_list_add PySem.F.slot_list_add PySem.F.entry_list_add (PySem.F.args_list_add_2 _ _) (list_addW l b its.toArray its2.toArray n n2 dd dd2 sl sl2 (by rw [List.size_toArray, List.size_toArray]; omega)) ⟨ho, ho2, ?_⟩
  rw [e]
  exact ⟨.ref _, _, I.lnew (t' := s.toks) (rv.append rv2) (by rw [List.length_append]; exact hl), rfl, q⟩
/-- data with lists at its top owned to the depth one, of anything new -/
theorem o_add : Op2 X 1 1 1 (binaryOp .Add) dAdd := fun pins s σ H x y v u Q I rx ry h => by
  obtain ⟨ex, d1, d2, d, ext, r1, r2, e, q⟩ := h
  unfold dAdd at e
  split at e
  · cases e
    exact op_add pins s σ H x y v u Q I rx ry ⟨_, _, r1.int, r2.int, q.int⟩
  · split at e
    · rename_i hc
      cases e
      exact op_add_str pins s σ H x y v u Q I rx ry ⟨_, _, r1.str, r2.str, hc, q.str⟩
    · cases e
  · split at e
    · rename_i hc
      cases e
      obtain ⟨l, xs, rfl, h1, z1, p1⟩ := r1.lst
      obtain ⟨b, ys, rfl, h2, z2, p2⟩ := r2.lst
      have p : Paired (R X.K ex H) _ (xs ++ ys) := Paired.app p1 p2
      have hl : xs.length + ys.length ≤ sizeLine := by rw [← p1.length, ← p2.length]; exact hc
      exact op_catL I h1 h2 rx ry hl (q.lst p I.fresh (by rw [List.length_append]; exact hl))
    · cases e
  · split at e
    · rename_i hc
      cases e
      obtain ⟨l, xs, rfl, h1, z1, p1⟩ := r1.tup
      obtain ⟨b, ys, rfl, h2, z2, p2⟩ := r2.tup
      have hl : xs.length + ys.length ≤ sizeLine := by rw [← p1.length, ← p2.length]; exact hc
      refine op_catA pins s σ H _ _ v u Q I rx ry ⟨l, b, xs, ys, rfl, rfl, h1, h2, hl, fun e => ?_, fun _ e => ?_, fun _ _ p hp => q.tup (Paired.app p1 p2) hp (by rw [List.length_append]; exact hl)⟩
      · subst e
        cases p1
        exact q.flat (by rw [R]; exact ⟨b, ys, rfl, ⟨h2, z2⟩, RL.of p2⟩) rfl
      · subst e
        cases p2
        rw [List.append_nil] at q
        exact q.flat (by rw [R]; exact ⟨l, xs, rfl, ⟨h1, z1⟩, RL.of p1⟩) rfl
    · cases e
  · cases e
end
end Px

namespace Px
open PySem PySem.Spec PyProof.Rows L2

/-! ### one operand -/
def Op1 (X : Cx) (n k : Nat) (f : Value → Sem Value) (g : D → Res D) : Prop :=
  UnR X f fun x H Q => ∃ ex d1 d, (∀ a, ex a → H a ≠ none) ∧ RB X.K ex H n d1 x ∧ g d1 = .ok d ∧ QO X.K ex H k Q d
def NoX1 {α : Type} (o : D → Res α) : Prop := ∀ a c, o a ≠ .exc c
def eUn {α : Type} (o : D → Res α) (f : EF) : Env → Res α := fun ρ => f ρ >>= o
def dNeg : D → Res D
  | .int i => .ok (.int (-i))
  | _ => .err
theorem dNeg_nx : NoX1 dNeg := fun a c h => by
  unfold dNeg at h
  split at h <;> cases h
section
variable {X : Cx} {W : WX} {L : List Nat} {n n1 n2 k m : Nat} {pos : Pos} {e a b c : Expr} {es rest : List Expr} {f g : EF} {fs : Env → Res (List D)} {ft gt : Env → Res Bool}
theorem o_neg : Op1 X n k (unaryOp .USub) dNeg := fun pins s σ H x v Q I rx h => by
  obtain ⟨ex, d1, d, ext, r1, e, q⟩ := h
  unfold dNeg at e
  split at e
  · cases e
    exact un_neg pins s σ H x v Q I rx ⟨_, r1.int, q.int⟩
  · cases e
theorem eo_un {op : UnaryOp} {o : D → Res D} (ho : Op1 X n k (unaryOp op) o) (nx : NoX1 o) (ha : EB X W L n a f) : EO X W L k (.UnaryOp op a pos) (eUn o f) :=
  PE.imp (pe_un ho ha) fun σ H Q ⟨ex, ρ, fp, I, q⟩ => by
    refine ⟨ex, ρ, fp, I, q.bind.mono fun d1 q1 v1 H1 e1 r1 => ?_⟩
    obtain ⟨d, ed, qd⟩ := no_exc q1 (nx d1)
    exact ⟨ex, d1, d, (I.same e1).ext, r1, ed, fun v H3 fq e3 ro nd nw => qd v H3 fq (e1.trans e3) ro nd fun a ha => e1.free (nw a ha)⟩

/-! ### truth -/
def dTru : D → Res Bool
  | .non => .ok false
  | .bl b => .ok b
  | .int i => .ok (i != 0)
  | .str s => if s.length ≤ sizeLine then .ok ((s.length : Int) != 0) else .err
  | .tup xs => .ok (!xs.isEmpty)
  | .lst xs => .ok (!xs.isEmpty)
  | _ => .err
theorem dTru_nx : NoX1 dTru := fun a c h => by
  unfold dTru at h
  split at h <;> first | cases h | (split at h <;> cases h)
theorem Paired.isEmpty {α β : Type} {F : α → β → Prop} {as : List α} {bs : List β} (h : Paired F as bs) : bs.isEmpty = as.isEmpty := by
  cases h <;> rfl
theorem dTru_v {K : PySem.W.Frag} {ex : AS} {H : Hp} {d : D} {x : V} {t : Bool} (r : RB K ex H n d x) (e : dTru d = .ok t) : TruV K x H t := by
  unfold dTru at e
  split at e
  · cases e
    rw [r.non]
    rfl
  · cases e
    rw [r.bl]
    rfl
  · cases e
    rw [r.int]
    rfl
  · split at e
    · rename_i hs
      cases e
      rw [r.str]
      exact ⟨hs, rfl⟩
    · cases e
  · cases e
    obtain ⟨a, xs, rfl, h1, h2, h3⟩ := r.tup
    exact .inr (.inl ⟨xs, h1, by rw [Paired.isEmpty h3]⟩)
  · cases e
    obtain ⟨a, xs, rfl, h1, h2, h3⟩ := r.up.lst
    exact .inl ⟨xs, h1, by rw [Paired.isEmpty h3]⟩
  · cases e
theorem et_val (ha : EB X W L n a f) (he : ∀ whole, isTrue a X.env whole = (do let v ← whole; standAt a.pos; holding [v] (truthy v)) := by intro _; rfl) : ET X W L a (eUn dTru f) :=
  PT.imp (pt_truth ha he) fun σ H Q ⟨ex, ρ, fp, I, q⟩ => ⟨ex, ρ, fp, I, q.bind.mono fun d q1 v H1 e1 r1 => by
    obtain ⟨t, et, qt⟩ := no_exc q1 (dTru_nx d)
    exact ⟨t, dTru_v r1 et, qt H1 e1⟩⟩
/-- a chain of and, or in a test -/
abbrev EW (X : Cx) (W : WX) (L : List Nat) (e : Expr) (f : Env → Res Bool) : Prop := PW X e (tT X W L f)
def bAnd (f g : Env → Res Bool) : Env → Res Bool := fun ρ => f ρ >>= fun b => if b = true then g ρ else .ok false
def bOr (f g : Env → Res Bool) : Env → Res Bool := fun ρ => f ρ >>= fun b => if b = true then .ok true else g ρ
def bNot (f : Env → Res Bool) : Env → Res Bool := fun ρ => f ρ >>= fun b => .ok (!b)
theorem ew_and1 (ha : ET X W L a ft) : EW X W L (.BoolOp .And [a] pos) ft := pw_and1 ha
theorem ew_or1 (ha : ET X W L a ft) : EW X W L (.BoolOp .Or [a] pos) ft := pw_or1 ha
theorem ew_and (ha : ET X W L a ft) (hb : EW X W L (.BoolOp .And (b :: rest) pos) gt) : EW X W L (.BoolOp .And (a :: b :: rest) pos) (bAnd ft gt) :=
  PW.imp (pw_and ha hb) fun σ H Q ⟨ex, ρ, fp, I, q⟩ => ⟨ex, ρ, fp, I, q.bind.mono fun t q1 H1 e1 => by
    cases t with
    | true =>
      rw [if_pos rfl]
      exact ⟨ex, ρ, fp, I.same e1, (Out.later (show Out X W σ H (gt ρ) _ from q1) e1).mono fun t2 q2 H2 e2 => q2 H2 (e1.trans e2)⟩
    | false => exact q1 H1 e1⟩
theorem ew_or (ha : ET X W L a ft) (hb : EW X W L (.BoolOp .Or (b :: rest) pos) gt) : EW X W L (.BoolOp .Or (a :: b :: rest) pos) (bOr ft gt) :=
  PW.imp (pw_or ha hb) fun σ H Q ⟨ex, ρ, fp, I, q⟩ => ⟨ex, ρ, fp, I, q.bind.mono fun t q1 H1 e1 => by
    cases t with
    | false =>
      rw [if_neg Bool.false_ne_true]
      exact ⟨ex, ρ, fp, I.same e1, (Out.later (show Out X W σ H (gt ρ) _ from q1) e1).mono fun t2 q2 H2 e2 => q2 H2 (e1.trans e2)⟩
    | true => exact q1 H1 e1⟩
theorem et_w (h : EW X W L e ft) : ET X W L e ft := PW.pt h
theorem et_not (ha : ET X W L a ft) : ET X W L (.UnaryOp .Not a pos) (bNot ft) :=
  PT.imp (pt_not ha) fun σ H Q ⟨ex, ρ, fp, I, q⟩ => ⟨ex, ρ, fp, I, q.bind.mono fun t q1 H1 e1 => q1 H1 e1⟩
/-- not a as a value -/
def eNot (f : EF) : EF := fun ρ => f ρ >>= fun d => dTru d >>= fun b => .ok (.bl (!b))
theorem eo_not (ha : EB X W L n a f) : EO X W L k (.UnaryOp .Not a pos) (eNot f) :=
  PE.imp (pe_notT ha) fun σ H Q ⟨ex, ρ, fp, I, q⟩ => ⟨ex, ρ, fp, I, q.bind.mono fun d q1 v H1 e1 r1 => by
    have q2 := q1.bind
    obtain ⟨t, et, qt⟩ := no_exc q2 (dTru_nx d)
    exact ⟨t, dTru_v r1 et, QO.bl (K := X.K) (ex := ex) (k := k) fun v H2 fq e2 ro nd nw => qt v H2 fq (e1.trans e2) ro nd fun a ha => e1.free (nw a ha)⟩⟩
/-- and, or as values -/
def eAnd (f g : EF) : EF := fun ρ => f ρ >>= fun d => dTru d >>= fun b => if b = true then g ρ else .ok d
def eOr (f g : EF) : EF := fun ρ => f ρ >>= fun d => dTru d >>= fun b => if b = true then .ok d else g ρ
theorem eb_one {op : BoolOp} (h : EB X W L n a f) : EB X W L n (.BoolOp op [a] pos) f := pe_one h
theorem eb_and (ha : EB X W L n a f) (hb : EB X W L n (.BoolOp .And (b :: rest) pos) g) : EB X W L n (.BoolOp .And (a :: b :: rest) pos) (eAnd f g) :=
  PE.imp (pe_andT ha hb) fun σ H Q ⟨ex, ρ, fp, I, q⟩ => ⟨ex, ρ, fp, I, q.bind.mono fun d q1 v H1 e1 r1 => by
    have q2 := q1.bind
    obtain ⟨t, et, qt⟩ := no_exc q2 (dTru_nx d)
    refine ⟨t, dTru_v r1 et, ?_⟩
    cases t with
    | true =>
      rw [if_pos rfl]
      exact ⟨ex, ρ, fp, I.same e1, (Out.later (show Out X W σ H (g ρ) _ from qt) e1).mono fun t2 q2 v2 H2 e2 r2 => q2 v2 H2 (e1.trans e2) r2⟩
    | false =>
      rw [if_neg Bool.false_ne_true]
      exact qt v H1 e1 r1⟩
theorem eb_or (ha : EB X W L n a f) (hb : EB X W L n (.BoolOp .Or (b :: rest) pos) g) : EB X W L n (.BoolOp .Or (a :: b :: rest) pos) (eOr f g) :=
  PE.imp (pe_orT ha hb) fun σ H Q ⟨ex, ρ, fp, I, q⟩ => ⟨ex, ρ, fp, I, q.bind.mono fun d q1 v H1 e1 r1 => by
    have q2 := q1.bind
    obtain ⟨t, et, qt⟩ := no_exc q2 (dTru_nx d)
    refine ⟨t, dTru_v r1 et, ?_⟩
    cases t with
    | false =>
      rw [if_neg Bool.false_ne_true]
      exact ⟨ex, ρ, fp, I.same e1, (Out.later (show Out X W σ H (g ρ) _ from qt) e1).mono fun t2 q2 v2 H2 e2 r2 => q2 v2 H2 (e1.trans e2) r2⟩
    | true =>
      rw [if_pos rfl]
      exact qt v H1 e1 r1⟩
def eIf (t : Env → Res Bool) (f g : EF) : EF := fun ρ => t ρ >>= fun b => if b = true then f ρ else g ρ
theorem eb_if (hc : ET X W L c ft) (ha : EB X W L n a f) (hb : EB X W L n b g) : EB X W L n (.IfExp c a b pos) (eIf ft f g) :=
  PE.imp (pe_ifExp hc ha hb) fun σ H Q ⟨ex, ρ, fp, I, q⟩ => ⟨ex, ρ, fp, I, q.bind.mono fun t q1 H1 e1 => by
    cases t with
    | true =>
      rw [if_pos rfl]
      exact ⟨ex, ρ, fp, I.same e1, (Out.later (show Out X W σ H (f ρ) _ from q1) e1).mono fun t2 q2 v2 H2 e2 r2 => q2 v2 H2 (e1.trans e2) r2⟩
    | false =>
      rw [if_neg Bool.false_ne_true]
      exact ⟨ex, ρ, fp, I.same e1, (Out.later (show Out X W σ H (g ρ) _ from q1) e1).mono fun t2 q2 v2 H2 e2 r2 => q2 v2 H2 (e1.trans e2) r2⟩⟩
theorem eo_if (hc : ET X W L c ft) (ha : EO X W L k a f) (hb : EO X W L k b g) : EO X W L k (.IfExp c a b pos) (eIf ft f g) :=
  PE.imp (pe_ifExp hc ha hb) fun σ H Q ⟨ex, ρ, fp, I, q⟩ => ⟨ex, ρ, fp, I, q.bind.mono fun t q1 H1 e1 => by
    cases t with
    | true =>
      rw [if_pos rfl]
      exact ⟨ex, ρ, fp, I.same e1, (Out.later (show Out X W σ H (f ρ) _ from q1) e1).mono fun t2 q2 v2 H2 fq e2 r2 nd nw => q2 v2 H2 fq (e1.trans e2) r2 nd fun a ha => e1.free (nw a ha)⟩
    | false =>
      rw [if_neg Bool.false_ne_true]
      exact ⟨ex, ρ, fp, I.same e1, (Out.later (show Out X W σ H (g ρ) _ from q1) e1).mono fun t2 q2 v2 H2 fq e2 r2 nd nw => q2 v2 H2 fq (e1.trans e2) r2 nd fun a ha => e1.free (nw a ha)⟩⟩
/-- a op b op' c -/
def eChain (o o' : D → D → Res D) (f g h : EF) : EF := fun ρ => f ρ >>= fun a => g ρ >>= fun b => o a b >>= fun r => match r with
  | .bl true => h ρ >>= fun c => o' b c
  | .bl false => .ok (.bl false)
  | _ => .err
theorem eo_chain {op op' : CmpOp} {o o' : D → D → Res D} {h : EF} (ho : Op2 X 0 0 0 (compareOp op) o) (nx : NoX2 o) (ho' : Op2 X 0 0 k (compareOp op') o') (nx' : NoX2 o') (ha : EB X W L 0 a f) (hb : EB X W L 0 b g) (hc : EB X W L 0 c h)
    (hm : lastMarks [op, op'] [b, c] = false := by with_unfolding_all rfl) : EO X W L k (.Compare a [op, op'] [b, c] pos) (eChain o o' f g h) :=
  PE.imp (pe_chain ho ho' ha hb hc hm) fun σ H Q ⟨ex, ρ, fp, I, q⟩ => by
    refine ⟨ex, ρ, fp, I, q.bind.mono fun d1 q1 v1 H1 e1 r1 => ⟨ex, ρ, fp, I.same e1, (q1.bind.later e1).mono fun d2 q2 v2 H2 e2 r2 => ?_⟩⟩
    obtain ⟨d, ed, qd⟩ := no_exc q2.bind (nx d1 d2)
    refine ⟨ex, d1, d2, d, ((I.same e1).same e2).ext, r1.same e2, r2, ed, fun v H3 fq e3 ro nd nw => ?_⟩
    have r3 : RB X.K (fun a => a ∈ fq ∨ ex a) H3 0 d v := ro.borrow
    cases d with
    | bl t =>
      cases t with
      | true =>
        refine ⟨true, r3.bl, ?_⟩
        rw [if_pos rfl]
        refine ⟨ex, ρ, fp, ((I.same e1).same e2).same e3, ((Out.bind qd).later ((e1.trans e2).trans e3)).mono fun d3 q3 v4 H4 e4 r4 => ?_⟩
        obtain ⟨z, ez, qz⟩ := no_exc q3 (nx' d2 d3)
        exact ⟨ex, d2, d3, z, ((((I.same e1).same e2).same e3).same e4).ext, (r2.same e3).same e4, r4, ez, fun v H5 fq e5 ro nd nw => qz v H5 fq ((((e1.trans e2).trans e3).trans e4).trans e5) ro nd fun a ha => ((((e1.trans e2).trans e3).trans e4)).free (nw a ha)⟩
      | false =>
        refine ⟨false, r3.bl, ?_⟩
        rw [if_neg Bool.false_ne_true]
        exact QO.bl (K := X.K) (ex := ex) (k := k) fun v H5 fq e5 ro nd nw => qd v H5 fq (((e1.trans e2).trans e3).trans e5) ro nd fun a ha => ((e1.trans e2).trans e3).free (nw a ha)
    | _ => exact qd.elim

/-! ### items -/
def dIx : D → D → Res D
  | .lst xs, .int i => match atI xs i with
    | some d => .ok d
    | none => .err
  | .tup xs, .int i => match atI xs i with
    | some d => .ok d
    | none => .err
  | .str s, .int i => if s.length ≤ sizeLine then (match atI s.cps.toList i with
    | some c => .ok (.str ⟨#[c]⟩)
    | none => .err) else .err
  | _, _ => .err
theorem dIx_nx : NoX2 dIx := fun a b c h => by
  unfold dIx at h
  split at h
  · split at h <;> cases h
  · split at h <;> cases h
  · split at h <;> first | cases h | (split at h <;> cases h)
  · cases h
theorem Paired.atI {α β : Type} {F : α → β → Prop} {as : List α} {bs : List β} {i : Int} {x : α} (h : Paired F as bs) (e : atI as i = some x) : ∃ y, L2.atI bs i = some y ∧ F x y := by
  unfold L2.atI at e ⊢
  rw [← h.length]
  cases q : ixN as.length i with
  | none => rw [q] at e; cases e
  | some j =>
    rw [q] at e
    exact Paired.get h e
theorem eb_ix (ha : EB X W L (n + 1) a f) (hb : EB X W L n2 b g) (hs : PlainIx b := by intro _ _; rfl) : EB X W L n (.Subscript a b pos) (eOp dIx f g) :=
  PE.imp (pe_ix ix_seq ha hb hs) fun σ H Q ⟨ex, ρ, fp, I, q⟩ => by
    refine ⟨ex, ρ, fp, I, q.bind.mono fun d1 q1 v1 H1 e1 r1 => ⟨ex, ρ, fp, I.same e1, (q1.bind.later e1).mono fun d2 q2 v2 H2 e2 r2 => ?_⟩⟩
    obtain ⟨d, ed, qd⟩ := no_exc q2 (dIx_nx d1 d2)
    have r1 := r1.same e2
    unfold dIx at ed
    split at ed
    · split at ed
      · rename_i hx
        cases ed
        obtain ⟨p, xs, rfl, h1, h2, h3⟩ := r1.lst
        obtain ⟨y, hy, ry⟩ := Paired.atI h3 hx
        exact .inl ⟨p, xs, _, y, rfl, r2.int, h1, hy, qd y H2 (e1.trans e2) ry⟩
      · cases ed
    · split at ed
      · rename_i hx
        cases ed
        obtain ⟨p, xs, rfl, h1, h2, h3⟩ := r1.tup
        obtain ⟨y, hy, ry⟩ := Paired.atI h3 hx
        exact .inr (.inl ⟨p, xs, _, y, rfl, r2.int, h1, hy, qd y H2 (e1.trans e2) (RB.of ry)⟩)
      · cases ed
    · split at ed
      · rename_i hl
        split at ed
        · rename_i hx
          cases ed
          exact .inr (.inr ⟨_, _, _, r1.str, r2.int, hl, hx, qd _ H2 (e1.trans e2) (RB.of (by rw [R]))⟩)
        · cases ed
      · cases ed
    · cases ed

/-! ### calls of what is built in -/
def CallD (X : Cx) (n k : Nat) (f : Value) (g : List D → Res D) : Prop :=
  CallR X f fun xs H Q => ∃ ex ds d, (∀ a, ex a → H a ≠ none) ∧ Paired (RB X.K ex H n) ds xs ∧ g ds = .ok d ∧ QO X.K ex H k Q d
def NoXL (g : List D → Res D) : Prop := ∀ ds c, g ds ≠ .exc c
def eCall (o : List D → Res D) (f : Env → Res (List D)) : EF := fun ρ => f ρ >>= o
variable {x : Str} {p : Pos} {id T : String} {o : List D → Res D}
theorem eo_callB (hc : CallD X n k (.builtin id) o) (nx : NoXL o) (hg : Gl X x) (hm : X.mg x = none) (hv : bootBuiltins x = some (.builtin id)) (ha : EA X W L n m (e :: es) fs) (hn : x ≠ "__name__" := by decide) (hdb : (x == ("__debug__" : Str)) = false := by decide)
    (he : starEach (e :: es) X.env = (false, eval e X.env) :: starEach es X.env := by rfl) (hpl : (backTo pos (starEach es X.env)).any (·.1) = false := by rfl) : EO X W L k (.Call (.Name x p) (e :: es) [] pos) (eCall o fs) :=
  PE.imp (pe_callB hc hg hm hv ha hn hdb he hpl) fun σ H Q ⟨ex, ρ, fp, I, q⟩ => ⟨ex, ρ, fp, I, q.bind.mono fun ds q1 vs H1 e1 r1 _ => by
    obtain ⟨d, ed, qd⟩ := no_exc q1 (nx ds)
    exact ⟨ex, ds, d, (I.same e1).ext, r1, ed, fun v H3 fq e3 ro nd nw => qd v H3 fq (e1.trans e3) ro nd fun a ha => e1.free (nw a ha)⟩⟩
theorem eo_callTy (hc : CallD X n k (.type T) o) (nx : NoXL o) (hg : Gl X x) (hm : X.mg x = none) (hv : bootBuiltins x = some (.type T)) (ha : EA X W L n m (e :: es) fs) (hn : x ≠ "__name__" := by decide) (hdb : (x == ("__debug__" : Str)) = false := by decide)
    (he : starEach (e :: es) X.env = (false, eval e X.env) :: starEach es X.env := by rfl) (hpl : (backTo pos (starEach es X.env)).any (·.1) = false := by rfl) : EO X W L k (.Call (.Name x p) (e :: es) [] pos) (eCall o fs) :=
  PE.imp (pe_callTy hc hg hm hv ha hn hdb he hpl) fun σ H Q ⟨ex, ρ, fp, I, q⟩ => ⟨ex, ρ, fp, I, q.bind.mono fun ds q1 vs H1 e1 r1 _ => by
    obtain ⟨d, ed, qd⟩ := no_exc q1 (nx ds)
    exact ⟨ex, ds, d, (I.same e1).ext, r1, ed, fun v H3 fq e3 ro nd nw => qd v H3 fq (e1.trans e3) ro nd fun a ha => e1.free (nw a ha)⟩⟩
def fLen : List D → Res D
  | [.str s] => if s.length ≤ sizeLine then .ok (.int s.length) else .err
  | [.tup xs] => .ok (.int xs.length)
  | [.lst xs] => .ok (.int xs.length)
  | _ => .err
theorem fLen_nx : NoXL fLen := fun ds c h => by
  unfold fLen at h
  split at h <;> first | cases h | (split at h <;> cases h)
theorem c_len : CallD X 1 k (.builtin "len") fLen := fun pins s σ H xs us Q I r h => by
  obtain ⟨ex, ds, d, ext, rs, e, q⟩ := h
  unfold fLen at e
  split at e
  · split at e
    · rename_i hl
      cases e
      cases rs with
      | cons r1 t =>
        cases t
        rw [RB.str r1] at *
        exact call_len pins s σ H _ us Q I r ⟨_, _, rfl, ⟨hl, rfl⟩, q.int⟩
    · cases e
  · cases e
    cases rs with
    | cons r1 t =>
      cases t
      obtain ⟨a, ys, rfl, h1, _, h3⟩ := RB.tup r1
      exact call_len pins s σ H _ us Q I r ⟨_, ys.length, rfl, .inr ⟨ys, h1, rfl⟩, by rw [← h3.length]; exact q.int⟩
  · cases e
    cases rs with
    | cons r1 t =>
      cases t
      obtain ⟨a, ys, rfl, h1, _, h3⟩ := RB.lst r1
      exact call_len pins s σ H _ us Q I r ⟨_, ys.length, rfl, .inl ⟨ys, h1, rfl⟩, by rw [← h3.length]; exact q.int⟩
  · cases e
def fAbs : List D → Res D
  | [.int i] => .ok (.int (if i < 0 then -i else i))
  | _ => .err
theorem fAbs_nx : NoXL fAbs := fun ds c h => by
  unfold fAbs at h
  split at h <;> cases h
theorem c_abs : CallD X n k (.builtin "abs") fAbs := fun pins s σ H xs us Q I r h => by
  obtain ⟨ex, ds, d, ext, rs, e, q⟩ := h
  unfold fAbs at e
  split at e
  · cases e
    cases rs with
    | cons r1 t =>
      cases t
      rw [RB.int r1] at *
      exact call_abs pins s σ H _ us Q I r ⟨_, rfl, q.int⟩
  · cases e
def fInt : List D → Res D
  | [.int i] => .ok (.int i)
  | [.bl b] => .ok (.int (if b then 1 else 0))
  | _ => .err
theorem fInt_nx : NoXL fInt := fun ds c h => by
  unfold fInt at h
  split at h <;> cases h
theorem c_int : CallD X n k (.type "int") fInt := fun pins s σ H xs us Q I r h => by
  obtain ⟨ex, ds, d, ext, rs, e, q⟩ := h
  unfold fInt at e
  split at e
  · cases e
    cases rs with
    | cons r1 t =>
      cases t
      rw [RB.int r1] at *
      exact call_int1 pins s σ H _ us Q I r (.inl ⟨_, rfl, q.int⟩)
  · cases e
    cases rs with
    | cons r1 t =>
      cases t
      rw [RB.bl r1] at *
      exact call_int1 pins s σ H _ us Q I r (.inr ⟨_, rfl, q.int⟩)
  · cases e
/-- tuple(x), list(x) of a list or a tuple -/
def fTuple : List D → Res D
  | [.tup xs] => .ok (.tup xs)
  | [.lst xs] => .ok (.tup xs)
  | _ => .err
def fList : List D → Res D
  | [.tup xs] => .ok (.lst xs)
  | [.lst xs] => .ok (.lst xs)
  | _ => .err
theorem fTuple_nx : NoXL fTuple := fun ds c h => by
  unfold fTuple at h
  split at h <;> cases h
theorem fList_nx : NoXL fList := fun ds c h => by
  unfold fList at h
  split at h <;> cases h
theorem c_tuple : CallD X 1 k (.type "tuple") fTuple := fun pins s σ H xs us Q I r h => by
  obtain ⟨ex, ds, d, ext, rs, e, q⟩ := h
  unfold fTuple at e
  split at e
  · cases e
    cases rs with
    | cons r1 t =>
      cases t
      obtain ⟨a, ys, rfl, h1, h2, h3⟩ := RB.tup r1
      exact call_tuple_of pins s σ H _ us Q I r ⟨a, ys, rfl, .inr ⟨h1, q.flat (by rw [R]; exact ⟨a, ys, rfl, ⟨h1, h2⟩, RL.of h3⟩) rfl⟩⟩
  · cases e
    cases rs with
    | cons r1 t =>
      cases t
      obtain ⟨a, ys, rfl, h1, h2, h3⟩ := RB.lst r1
      exact call_tuple_of pins s σ H _ us Q I r ⟨a, ys, rfl, .inl ⟨h1, fun l hl => q.tup h3 hl h2⟩⟩
  · cases e
theorem c_list : CallD X 1 1 (.type "list") fList := fun pins s σ H xs us Q I r h => by
  obtain ⟨ex, ds, d, ext, rs, e, q⟩ := h
  unfold fList at e
  split at e
  · cases e
    cases rs with
    | cons r1 t =>
      cases t
      obtain ⟨a, ys, rfl, h1, h2, h3⟩ := RB.tup r1
      exact call_list_of pins s σ H _ us Q I r ⟨a, ys, rfl, .inr h1, fun l hl => q.lst h3 hl h2⟩
  · cases e
    cases rs with
    | cons r1 t =>
      cases t
      obtain ⟨a, ys, rfl, h1, h2, h3⟩ := RB.lst r1
      exact call_list_of pins s σ H _ us Q I r ⟨a, ys, rfl, .inl h1, fun l hl => q.lst h3 hl h2⟩
  · cases e
/-- truth values alone -/
def bools : List D → Option (List Bool)
  | [] => some []
  | .bl b :: r => (bools r).map (b :: ·)
  | _ :: _ => none
def nums : List D → Option (List Int)
  | [] => some []
  | .int b :: r => (nums r).map (b :: ·)
  | _ :: _ => none
theorem bools_vals {K : PySem.W.Frag} {ex : AS} {H : Hp} : ∀ {ds : List D} {vs : List V} {bs : List Bool}, Paired (RB K ex H n) ds vs → bools ds = some bs → vs = bs.map V.bl
  | [], _, _, .nil, h => by cases h; rfl
  | d :: ds, _, _, .cons r t, h => by
    cases d with
    | bl b =>
      rw [bools] at h
      cases q : bools ds with
      | none => rw [q] at h; cases h
      | some bs =>
        rw [q] at h
        cases h
        rw [RB.bl r, bools_vals t q]
        rfl
    | _ => cases h
theorem nums_vals {K : PySem.W.Frag} {ex : AS} {H : Hp} : ∀ {ds : List D} {vs : List V} {bs : List Int}, Paired (RB K ex H n) ds vs → nums ds = some bs → vs = bs.map V.int
  | [], _, _, .nil, h => by cases h; rfl
  | d :: ds, _, _, .cons r t, h => by
    cases d with
    | int b =>
      rw [nums] at h
      cases q : nums ds with
      | none => rw [q] at h; cases h
      | some bs =>
        rw [q] at h
        cases h
        rw [RB.int r, nums_vals t q]
        rfl
    | _ => cases h
@[simp] theorem bools_map (bs : List Bool) : bools (bs.map D.bl) = some bs := by
  induction bs with
  | nil => rfl
  | cons b r ih => rw [List.map_cons, bools, ih]; rfl
@[simp] theorem nums_map (bs : List Int) : nums (bs.map D.int) = some bs := by
  induction bs with
  | nil => rfl
  | cons b r ih => rw [List.map_cons, nums, ih]; rfl
def fAll : List D → Res D
  | [.lst xs] => match bools xs with
    | some bs => .ok (.bl (bs.all fun z => z))
    | none => .err
  | _ => .err
def fAny : List D → Res D
  | [.lst xs] => match bools xs with
    | some bs => .ok (.bl (bs.any fun z => z))
    | none => .err
  | _ => .err
def fSum : List D → Res D
  | [.lst xs] => match nums xs with
    | some bs => .ok (.int bs.sum)
    | none => .err
  | _ => .err
theorem fAll_nx : NoXL fAll := fun ds c h => by
  unfold fAll at h
  split at h <;> first | cases h | (split at h <;> cases h)
theorem fAny_nx : NoXL fAny := fun ds c h => by
  unfold fAny at h
  split at h <;> first | cases h | (split at h <;> cases h)
theorem fSum_nx : NoXL fSum := fun ds c h => by
  unfold fSum at h
  split at h <;> first | cases h | (split at h <;> cases h)
theorem c_all (hc : X.calm = true) : CallD X 1 k (.builtin "all") fAll := fun pins s σ H xs us Q I r h => by
  obtain ⟨ex, ds, d, ext, rs, e, q⟩ := h
  unfold fAll at e
  split at e
  · split at e
    · rename_i bs hb
      cases e
      cases rs with
      | cons r1 t =>
        cases t
        obtain ⟨a, ys, rfl, h1, _, h3⟩ := RB.lst r1
        rw [bools_vals h3 hb] at h1
        exact cr_all hc pins s σ H _ us Q I r ⟨a, bs, rfl, h1, q.bl⟩
    · cases e
  · cases e
theorem c_any (hc : X.calm = true) : CallD X 1 k (.builtin "any") fAny := fun pins s σ H xs us Q I r h => by
  obtain ⟨ex, ds, d, ext, rs, e, q⟩ := h
  unfold fAny at e
  split at e
  · split at e
    · rename_i bs hb
      cases e
      cases rs with
      | cons r1 t =>
        cases t
        obtain ⟨a, ys, rfl, h1, _, h3⟩ := RB.lst r1
        rw [bools_vals h3 hb] at h1
        exact cr_any hc pins s σ H _ us Q I r ⟨a, bs, rfl, h1, q.bl⟩
    · cases e
  · cases e
theorem c_sum (hc : X.calm = true) : CallD X 1 k (.builtin "sum") fSum := fun pins s σ H xs us Q I r h => by
  obtain ⟨ex, ds, d, ext, rs, e, q⟩ := h
  unfold fSum at e
  split at e
  · split at e
    · rename_i bs hb
      cases e
      cases rs with
      | cons r1 t =>
        cases t
        obtain ⟨a, ys, rfl, h1, _, h3⟩ := RB.lst r1
        rw [nums_vals h3 hb] at h1
        exact cr_sum hc pins s σ H _ us Q I r ⟨a, bs, rfl, h1, q.int⟩
    · cases e
  · cases e
/-- min, max: of two ints, of a list or a tuple of ints -/
def fMin : List D → Res D
  | [.int i, .int j] => .ok (.int (if j < i then j else i))
  | [.lst xs] => match nums xs with
    | some (b :: bs) => .ok (.int (bs.foldl min b))
    | _ => .err
  | [.tup xs] => match nums xs with
    | some (b :: bs) => .ok (.int (bs.foldl min b))
    | _ => .err
  | _ => .err
def fMax : List D → Res D
  | [.int i, .int j] => .ok (.int (if j > i then j else i))
  | [.lst xs] => match nums xs with
    | some (b :: bs) => .ok (.int (bs.foldl max b))
    | _ => .err
  | [.tup xs] => match nums xs with
    | some (b :: bs) => .ok (.int (bs.foldl max b))
    | _ => .err
  | _ => .err
theorem fMin_nx : NoXL fMin := fun ds c h => by
  unfold fMin at h
  split at h <;> first | cases h | (split at h <;> cases h)
theorem fMax_nx : NoXL fMax := fun ds c h => by
  unfold fMax at h
  split at h <;> first | cases h | (split at h <;> cases h)
theorem ints_reads {h : Heap} : ∀ {us : List Value} {ns : List Int}, Vals (ns.map V.int) us → ∃ as, ReadsAll h us (ns.map PyData.int) as
  | [], [], _ => ⟨[], .nil⟩
  | _, [], h => by cases h; exact ⟨[], .nil⟩
  | [], _ :: _, h => by cases h
  | u :: us, n :: ns, h => by
    rw [List.map_cons] at h
    cases h with
    | cons r t =>
      obtain ⟨k, rfl⟩ := r
      obtain ⟨as, q⟩ := ints_reads t
      rw [List.map_cons]
      exact ⟨_, .cons (.int n k) q⟩
theorem ints_alike (ns : List Int) : PySem.W.AlikeAll (ns.map PyData.int) := by
  constructor
  · intro x hx y hy
    obtain ⟨i, _, rfl⟩ := List.mem_map.mp hx
    obtain ⟨j, _, rfl⟩ := List.mem_map.mp hy
    rfl
  · intro x hx
    obtain ⟨i, _, rfl⟩ := List.mem_map.mp hx
    exact fun q => nomatch q
theorem ints_depth : ∀ ns : List Int, PyData.depthAll (ns.map PyData.int) = 0
  | [] => by simp [PyData.depthAll]
  | n :: ns => by
    rw [List.map_cons, PyData.depthAll, ints_depth ns, PyData.depth]
    rfl
theorem reads_int {h : Heap} {v : Value} {i : Int} {bs : List Addr} (r : Reads h v (.int i) bs) : ∃ t, v = .int i t := by
  cases r
  exact ⟨_, rfl⟩
theorem min_data_ok (hd : X.A.handled = none) (hu : X.A.units + 64 < cLine) {pins : List (Addr × Obj)} {s : Shared} {σ : L2.St} {H : Hp} {a : Addr} {b : Int} {bs : List Int} {Q : VK} (I : Inv X pins σ H s) (h : SqL X.K H a ((b :: bs).map V.int) ∨ SqT X.K H a ((b :: bs).map V.int)) (q : Q (.int (bs.foldl min b)) H) :
    wpAny (model X.prog X.w) X.A (call (.builtin "min") [.ref a]) (EP X pins σ Q) X.xe s := by
  have fin : ∀ (v : Value) (h' : Heap) (tk : Nat) (cs : List Addr), Reads h' v (PySem.W.minD (.int b) (bs.map PyData.int)) cs → (∀ b o, s.heap.get? b = some o → h'.get? b = some o) → EP X pins σ Q v { s with heap := h', toks := tk } := fun v h' tk cs r k => by
    rw [PySem.W.minD_ints] at r
    obtain ⟨t, rfl⟩ := reads_int r
    exact ⟨.int _, H, I.kept (t' := tk) k, ⟨t, rfl⟩, q⟩
  have hz : X.A.units + 1 + PyData.depthAll (.int b :: bs.map PyData.int) < cLine := by
    have := ints_depth (b :: bs)
    rw [List.map_cons] at this
    rw [this]
    omega
  rcases h with h | h
  · obtain ⟨its, rv, pl, _⟩ := I.list h
    obtain ⟨as, ra⟩ := ints_reads (h := s.heap) rv
    exact PySem.W.min_list_data hd pl.isList ra (ints_alike (b :: bs)) hz fun i v h' tk cs hv r k => fin v h' tk cs r k
  · obtain ⟨its, rv, pl, _⟩ := I.tuple h
    obtain ⟨as, ra⟩ := ints_reads (h := s.heap) rv
    exact PySem.W.min_tuple_data hd (show s.heap.IsTuple a its.toArray from pl) ra (ints_alike (b :: bs)) hz fun i v h' tk cs hv r k => fin v h' tk cs r k
theorem max_data_ok (hd : X.A.handled = none) (hu : X.A.units + 64 < cLine) {pins : List (Addr × Obj)} {s : Shared} {σ : L2.St} {H : Hp} {a : Addr} {b : Int} {bs : List Int} {Q : VK} (I : Inv X pins σ H s) (h : SqL X.K H a ((b :: bs).map V.int) ∨ SqT X.K H a ((b :: bs).map V.int)) (q : Q (.int (bs.foldl max b)) H) :
    wpAny (model X.prog X.w) X.A (call (.builtin "max") [.ref a]) (EP X pins σ Q) X.xe s := by
  have fin : ∀ (v : Value) (h' : Heap) (tk : Nat) (cs : List Addr), Reads h' v (PySem.W.maxD (.int b) (bs.map PyData.int)) cs → (∀ b o, s.heap.get? b = some o → h'.get? b = some o) → EP X pins σ Q v { s with heap := h', toks := tk } := fun v h' tk cs r k => by
    rw [PySem.W.maxD_ints] at r
    obtain ⟨t, rfl⟩ := reads_int r
    exact ⟨.int _, H, I.kept (t' := tk) k, ⟨t, rfl⟩, q⟩
  have hz : X.A.units + 1 + PyData.depthAll (.int b :: bs.map PyData.int) < cLine := by
    have := ints_depth (b :: bs)
    rw [List.map_cons] at this
    rw [this]
    omega
  rcases h with h | h
  · obtain ⟨its, rv, pl, _⟩ := I.list h
    obtain ⟨as, ra⟩ := ints_reads (h := s.heap) rv
    exact PySem.W.max_list_data hd pl.isList ra (ints_alike (b :: bs)) hz fun i v h' tk cs hv r k => fin v h' tk cs r k
  · obtain ⟨its, rv, pl, _⟩ := I.tuple h
    obtain ⟨as, ra⟩ := ints_reads (h := s.heap) rv
    exact PySem.W.max_tuple_data hd (show s.heap.IsTuple a its.toArray from pl) ra (ints_alike (b :: bs)) hz fun i v h' tk cs hv r k => fin v h' tk cs r k
theorem c_min (hc : X.calm = true) (hd : X.A.handled = none) (hu : X.A.units + 64 < cLine) : CallD X 1 k (.builtin "min") fMin := fun pins s σ H xs us Q I r h => by
  obtain ⟨ex, ds, d, ext, rs, e, q⟩ := h
  unfold fMin at e
  split at e
  · cases e
    cases rs with
    | cons r1 t =>
      cases t with
      | cons r2 t =>
        cases t
        rw [RB.int r1, RB.int r2] at *
        exact call_min2 hc pins s σ H _ us Q I r ⟨_, _, rfl, q.int⟩
  · split at e
    · rename_i b bs hb
      cases e
      cases rs with
      | cons r1 t =>
        cases t
        obtain ⟨a, ys, rfl, h1, _, h3⟩ := RB.lst r1
        rw [nums_vals h3 hb] at h1
        rw [Vals.ref1 r]
        exact min_data_ok hd hu I (.inl h1) q.int
    · cases e
  · split at e
    · rename_i b bs hb
      cases e
      cases rs with
      | cons r1 t =>
        cases t
        obtain ⟨a, ys, rfl, h1, _, h3⟩ := RB.tup r1
        rw [nums_vals (n := 0) h3 hb] at h1
        rw [Vals.ref1 r]
        exact min_data_ok hd hu I (.inr h1) q.int
    · cases e
  · cases e
theorem c_max (hc : X.calm = true) (hd : X.A.handled = none) (hu : X.A.units + 64 < cLine) : CallD X 1 k (.builtin "max") fMax := fun pins s σ H xs us Q I r h => by
  obtain ⟨ex, ds, d, ext, rs, e, q⟩ := h
  unfold fMax at e
  split at e
  · cases e
    cases rs with
    | cons r1 t =>
      cases t with
      | cons r2 t =>
        cases t
        rw [RB.int r1, RB.int r2] at *
        exact call_max2 hc pins s σ H _ us Q I r ⟨_, _, rfl, q.int⟩
  · split at e
    · rename_i b bs hb
      cases e
      cases rs with
      | cons r1 t =>
        cases t
        obtain ⟨a, ys, rfl, h1, _, h3⟩ := RB.lst r1
        rw [nums_vals h3 hb] at h1
        rw [Vals.ref1 r]
        exact max_data_ok hd hu I (.inl h1) q.int
    · cases e
  · split at e
    · rename_i b bs hb
      cases e
      cases rs with
      | cons r1 t =>
        cases t
        obtain ⟨a, ys, rfl, h1, _, h3⟩ := RB.tup r1
        rw [nums_vals (n := 0) h3 hb] at h1
        rw [Vals.ref1 r]
        exact max_data_ok hd hu I (.inr h1) q.int
    · cases e
  · cases e
end
end Px

namespace Px
open PySem PySem.Spec PyProof.Rows L2

/-! ### slices -/
abbrev TOf (X : Cx) (W : WX) (L : List Nat) (f : Env → Res (Option Int)) : TO := fun σ H Q => ∃ ex ρ fp, SI X.K ex L ρ σ H fp ∧ Out X W σ H (f ρ) fun o => ∀ H', Same H H' → Q o H'
abbrev EP (X : Cx) (W : WX) (L : List Nat) (e : Option Expr) (f : Env → Res (Option Int)) : Prop := PO X e (TOf X W L f)
def oNone : Env → Res (Option Int) := fun _ => .ok none
def oSome (f : EF) : Env → Res (Option Int) := fun ρ => f ρ >>= fun d => match d with
  | .int i => .ok (some i)
  | _ => .err
theorem PO.imp {X : Cx} {e : Option Expr} {t t' : TO} (h : PO X e t) (m : ∀ σ H Q, t' σ H Q → t σ H Q) : PO X e t' := ⟨fun pins s σ H Q I q => h.run pins s σ H Q I (m σ H Q q)⟩
/-- the places lo .. hi of a list -/
def cut {α : Type} (xs : List α) (lo hi : Option Int) : List α := (xs.drop (HT.sIx xs.length 0 lo)).take (HT.sIx xs.length xs.length hi - HT.sIx xs.length 0 lo)
theorem cut_length {α : Type} (xs : List α) (lo hi : Option Int) : (cut xs lo hi).length ≤ xs.length := by
  unfold cut
  rw [List.length_take, List.length_drop]
  omega
def dSl : D → Option Int → Option Int → Res D
  | .lst xs, lo, hi => .ok (.lst (cut xs lo hi))
  | .tup xs, lo, hi => .ok (.tup (cut xs lo hi))
  | .str s, lo, hi => if s.length ≤ sizeLine then .ok (.str ⟨(cut s.cps.toList lo hi).toArray⟩) else .err
  | _, _, _ => .err
def eSl (f : EF) (lo hi : Env → Res (Option Int)) : EF := fun ρ => f ρ >>= fun d => lo ρ >>= fun a => hi ρ >>= fun b => dSl d a b
def dRev : D → Res D
  | .lst xs => .ok (.lst xs.reverse)
  | .tup xs => .ok (.tup xs.reverse)
  | .str s => if s.length ≤ sizeLine then .ok (.str ⟨s.cps.toList.reverse.toArray⟩) else .err
  | _ => .err
theorem dRev_nx : NoX1 dRev := fun a c h => by
  unfold dRev at h
  split at h <;> first | cases h | (split at h <;> cases h)
theorem slice_rev (n : Nat) : Builtin.Str.strSliceIndices none none (-1) n = (List.range n).reverse := by
  have h1 : ¬ ((-1 : Int) > 0) := by omega
  simp only [Builtin.Str.strSliceIndices, sliceRange, h1, if_false]
  have e : (if (n : Int) - 1 > -1 then ((n : Int) - 1 - -1 - -1 - 1) / (- -1) else 0).toNat = n := by
    split
    · rw [Int.neg_neg, Int.ediv_one]; omega
    · simp; omega
  rw [e]
  apply List.ext_getElem
  · simp
  · intro i h2 h3
    simp at h2
    simp
    omega
theorem pick_revS (z : Str) : ((List.range z.length).reverse.filterMap (z.cps[·]?)).toArray = z.cps.toList.reverse.toArray := by
  congr 1
  rw [List.filterMap_reverse]
  congr 1
  obtain ⟨⟨l⟩⟩ := z
  show (List.range l.length).filterMap (fun i => (l.toArray)[i]?) = l
  have key : ∀ k, k ≤ l.length → (List.range k).filterMap (fun i => (l.toArray)[i]?) = l.take k := fun k => by
    induction k with
    | zero => intro _; simp
    | succ k ih =>
      intro hk
      rw [List.range_succ, List.filterMap_append, ih (by omega), List.take_add_one]
      congr 1
      simp [List.getElem?_eq_getElem (show k < l.length by omega)]
  have := key l.length (Nat.le_refl _)
  rw [List.take_length] at this
  exact this
section
variable {prog : Program} {w : World} {A : Around} {E : Value → Shared → Prop} {s : Shared}
theorem sliceApplied_rev {sl : Addr} {vl vu : Value} {t : Tok} {n : Nat} {Q : Int × Int × Nat → Shared → Prop} (hs : s.heap.IsSliceOf sl vl vu (.int (-1) t)) (pl : IsPart vl none) (pu : IsPart vu none) (h : Q ((n : Int) - 1, -1, n) s) :
    wpAny (model prog w) A (Builtin.Slice.sliceApplied (.ref sl) (pure (n : Int))) Q E s := by
  obtain ⟨os, hos, hcs, hds⟩ := id hs
  unfold Builtin.Slice.sliceApplied Builtin.Slice.sliceFields
  refine wpAny_bind (wpAny_bind (wpAny_field hos hds (x := vl) rfl (wpAny_bind (wpAny_field hos hds (x := vu) rfl (wpAny_bind (wpAny_field hos hds (x := .int (-1) t) rfl (wpAny_pure ?_)))))))
  refine wpAny_bind (slicePart_int ?_)
  show wpAny _ _ (if ((-1 : Int) == 0) = true then _ else _) _ _ s
  rw [if_neg (by decide)]
  refine wpAny_bind (HT.slicePart_ pl (wpAny_bind (HT.slicePart_ pu (wpAny_bind (wpAny_pure ?_)))))
  have e : Builtin.Slice.slicePlaces ((n : Int) - 1) (-1) (-1) = n := by
    unfold Builtin.Slice.slicePlaces
    have h1 : ¬ ((-1 : Int) > 0) := by omega
    simp only [h1, if_false, Int.neg_neg, Int.ediv_one]
    split <;> omega
  show wpAny _ _ (pure ((n : Int) - 1, (-1 : Int), Builtin.Slice.slicePlaces ((n : Int) - 1) (-1) (-1))) _ _ s
  rw [e]
  exact wpAny_pure h
theorem pick_rev (xs : Array Value) : ((List.range xs.size).filterMap fun (m : Nat) => xs[(((xs.size : Nat) : Int) - 1 + (m : Int) * (-1)).toNat]?).toArray = xs.toList.reverse.toArray := by
  congr 1
  obtain ⟨l⟩ := xs
  have key : ∀ (k : Nat), k ≤ l.length → ((List.range k).filterMap fun (m : Nat) => l[((l.length : Int) - 1 + (m : Int) * (-1)).toNat]?) = l.reverse.take k := by
    intro k
    induction k with
    | zero => intro _; simp
    | succ k ih =>
      intro hk
      rw [List.range_succ, List.filterMap_append, ih (by omega), List.take_add_one]
      congr 1
      have e1 : ((l.length : Int) - 1 + (k : Int) * (-1)).toNat = l.length - 1 - k := by omega
      have e2 : l.reverse[k]? = l[l.length - 1 - k]? := by rw [List.getElem?_reverse (by omega)]
      simp only [List.filterMap_cons, List.filterMap_nil, e1, e2]
      cases q : l[l.length - 1 - k]? <;> simp
  have := key l.length (Nat.le_refl _)
  rw [List.take_of_length_le (by rw [List.length_reverse]; exact Nat.le_refl _)] at this
  simpa using this
theorem getItem_tuple_rev {t sl : Addr} {items : Array Value} {vl vu : Value} {k : Tok} {Q : Value → Shared → Prop} (ht : IsTup s.heap t items) (hs : s.heap.IsSliceOf sl vl vu (.int (-1) k)) (pl : IsPart vl none) (pu : IsPart vu none)
    (h : Q (.ref s.heap.objs.size) { s with heap := s.heap.push { cls := .type "tuple", data := .seq items.toList.reverse.toArray } })
    (hsz : items.size ≤ sizeLine) : wpAny (model prog w) A (getItem (.ref t) (.ref sl)) Q E s := by
  have htake : sizeOk (.seq items.toList.reverse.toArray) := by
    show items.toList.reverse.toArray.size ≤ sizeLine
    rw [List.size_toArray, List.length_reverse, Array.length_toList]
    exact hsz
  obtain ⟨os, hos, hcs, hds⟩ := id hs
  have hTs : s.TypeIs (.ref sl) "slice" := ⟨os, hos, hcs⟩
  unfold getItem
  try with_reducible refine wpAny_holding ?_
  first | refine wpAny_bind (wpAny_pure ?_) | skip
  refine wpAny_bind (wpAny_sequenceKey ht.typeIs (by decide) ?_)
  refine wpAny_bind (wpAny_callSpecial?_slot (name := Str.ofString "__getitem__") ht.typeIs PyProof.Rows.slot_tuple_getitem
    (wpAny_call_entry PyProof.Rows.slot_tuple_getitem ht.typeIs entry_tuple_getitem ?_ (args_tuple_getitem _ _)))
  show wpAny _ _ (Builtin.Tuple.tupleItemsOf (.ref t) >>= _) _ _ s
  refine wpAny_bind (tupleItemsOf_ ht ?_)
  refine wpAny_bind (wpAny_typeOf hTs ?_)
  rw [if_pos (by decide)]
  refine wpAny_bind (sliceApplied_rev hs pl pu ?_)
  have hno : ¬ (((((items.size : Nat) : Int) - 1 == 0 && (-1 : Int) == 1) && items.size == items.size) = true) := by
    intro q
    rw [Bool.and_eq_true, Bool.and_eq_true] at q
    exact absurd q.1.2 (by decide)
  show wpAny _ _ (if (((((items.size : Nat) : Int) - 1 == 0 && (-1 : Int) == 1) && items.size == items.size) = true) then _ else _) _ _ s
  rw [if_neg hno, pick_rev]
  first
    | exact wpAny_bind (m := Builtin.Tuple.tupleExact _) (wpAny_newObj_type (wpAny_pure ⟨_, rfl, wpAny_pure h⟩) htake)
    | exact wpAny_bind (m := Builtin.Tuple.tupleExact _) (wpAny_newObj_type (wpAny_bind (wpAny_pure (wpAny_pure ⟨_, rfl, wpAny_pure h⟩))) htake)
    | exact wpAny_bind (wpAny_bind (m := Builtin.Tuple.tupleExact _) (wpAny_newObj_type (wpAny_pure (wpAny_pure ⟨_, rfl, wpAny_pure h⟩)) htake))
    | exact wpAny_bind (wpAny_bind (m := Builtin.Tuple.tupleExact _) (wpAny_newObj_type (wpAny_pure ⟨_, rfl, wpAny_pure h⟩) htake))
end
section
variable {X : Cx} {W : WX} {L : List Nat} {n k : Nat} {pos p2 : Pos} {e : Expr} {lo hi : Option Expr} {f : EF} {fl fh : Env → Res (Option Int)}
theorem ep_none : EP X W L none oNone := PO.imp po_none fun σ H Q ⟨ex, ρ, fp, I, o⟩ => o H (Same.refl H)
theorem ep_some (h : EB X W L n e f) : EP X W L (some e) (oSome f) := PO.imp (po_some h) fun σ H Q ⟨ex, ρ, fp, I, o⟩ => ⟨ex, ρ, fp, I, o.bind.mono fun d q v H1 e1 r1 => by
  cases d with
  | int i => exact ⟨i, r1.int, q H1 e1⟩
  | _ => exact q.elim⟩
theorem eo_sl (he : EB X W L 1 e f) (hl : EP X W L lo fl) (hu : EP X W L hi fh) : EO X W L 1 (.Subscript e (.Slice lo hi none p2) pos) (eSl f fl fh) :=
  PE.imp (pe_slice (SlR.or sl_list (SlR.or sl_tupA sl_str)) he hl hu) fun σ H Q ⟨ex, ρ, fp, I, o⟩ => by
    refine ⟨ex, ρ, fp, I, o.bind.mono fun d q1 v H1 e1 r1 => ⟨ex, ρ, fp, I.same e1, (q1.bind.later e1).mono fun a q2 H2 e2 => ⟨ex, ρ, fp, (I.same e1).same e2, ((q2.bind.later (e1.trans e2))).mono fun b q3 H3 e3 => ?_⟩⟩⟩
    have r3 := (r1.same e2).same e3
    have e4 := (e1.trans e2).trans e3
    cases d with
    | lst xs =>
      obtain ⟨p, ys, rfl, h1, h2, h3⟩ := r3.lst
      have hc : Paired (R X.K ex H3) (cut xs a b) (cutV ys a b) := by
        unfold cut cutV
        rw [← h3.length]
        exact Paired.takeP _ (Paired.dropP _ h3)
      exact .inl ⟨p, ys, rfl, h1, fun l hl => QO.lst (K := X.K) (ex := ex) (fun v H5 fq e5 ro nd nw => q3 v H5 fq (e4.trans e5) ro nd fun a ha => e4.free (nw a ha)) hc hl (Nat.le_trans (cutV_length ys a b) h2)⟩
    | tup xs =>
      obtain ⟨p, ys, rfl, h1, h2, h3⟩ := r3.tup
      have hc : Paired (R X.K ex H3) (cut xs a b) (cutV ys a b) := by
        unfold cut cutV
        rw [← h3.length]
        exact Paired.takeP _ (Paired.dropP _ h3)
      have q4 : QO X.K ex H3 1 Q (.tup (cut xs a b)) := fun v H5 fq e5 ro nd nw => q3 v H5 fq (e4.trans e5) ro nd fun a ha => e4.free (nw a ha)
      refine .inr (.inl ⟨p, ys, rfl, h1, fun hw => q4.flat ?_ rfl, fun _ l hl => q4.tup hc hl (Nat.le_trans (cutV_length ys a b) h2)⟩)
      have ew : cut xs a b = xs := by
        unfold cut
        rw [h3.length, hw.1, hw.2, List.drop_zero, Nat.sub_zero, ← h3.length, List.take_length]
      rw [ew, R]
      exact ⟨p, ys, rfl, ⟨h1, h2⟩, RL.of h3⟩
    | str z =>
      by_cases hz : z.length ≤ sizeLine
      · have e5 : dSl (.str z) a b = .ok (.str ⟨(cut z.cps.toList a b).toArray⟩) := if_pos hz
        rw [e5] at q3
        have q4 : QO X.K ex H3 1 Q _ := fun v H5 fq e5 ro nd nw => q3 v H5 fq (e4.trans e5) ro nd fun a ha => e4.free (nw a ha)
        refine .inr (.inr ⟨z, r3.str, hz, ?_⟩)
        have := q4.str
        unfold cutS
        unfold cut at this
        rw [Array.length_toList] at this
        exact this
      · have e5 : dSl (.str z) a b = .err := if_neg hz
        rw [e5] at q3
        exact q3.elim
    | _ => exact q3.elim
theorem eo_rev {kk : Nat} {p1 p3 : Pos} (he : EB X W L 1 e f) : EO X W L 1 (.Subscript e (.Slice none none (some (.UnaryOp .USub (.Constant (.int 1) kk p1) p2)) p3) pos) (eUn dRev f) := by
  refine ⟨fun pins s σ H Q I ⟨ex, ρ, fp, S, o⟩ => ?_⟩
  refine Subscript_ (thn (he.run pins s σ H (fun x H1 => ∃ d, Same H H1 ∧ RB X.K ex H1 1 d x ∧ Out X W σ H (dRev d) fun d => QO X.K ex H1 1 Q d) I
    ⟨ex, ρ, fp, S, o.bind.mono fun d q v H1 e1 r1 => ⟨d, e1, r1, q.mono fun z q2 v H5 fq e5 ro nd nw => q2 v H5 fq (e1.trans e5) ro nd fun a ha => e1.free (nw a ha)⟩⟩) fun v s1 ⟨x, H1, I1, r1, d, e1, rb, q1⟩ => ?_)
  have hst : PO X (some (.UnaryOp .USub (.Constant (.int 1) kk p1) p2)) (tPart (tUn (rU fun i => .int (-i)) (tC (.int 1)))) := po_some (pe_un un_neg pe_int)
  refine wpAny_Slice (thn (po_none.run pins s1 σ H1 (fun o H2 => o = none ∧ H2 = H1) I1 ⟨rfl, rfl⟩) fun vl s2 ⟨l, H2, I2, pl, el, e2⟩ => ?_)
  subst el e2
  refine thn (po_none.run pins s2 σ H2 (fun o H3 => o = none ∧ H3 = H2) I2 ⟨rfl, rfl⟩) fun vu s3 ⟨u, H3, I3, pu, eu, e3⟩ => ?_
  subst eu e3
  refine thn (hst.run pins s3 σ H3 (fun o H4 => o = some (-1) ∧ H4 = H3) I3 ⟨1, rfl, -1, rfl, rfl, rfl⟩) fun vs s4 ⟨o, H4, I4, ps, eo, e4⟩ => ?_
  subst eo e4
  have I5 : Inv X pins σ H4 { s4 with heap := s4.heap.push { cls := .type "slice", data := .fields #[vl, vu, vs] } } := I4.kept (t' := s4.toks) fun b ob q => Heap.get?_push_of_some _ q
  show wpAny (model X.prog X.w) X.A (subscriptTail e (.Slice none none (some (.UnaryOp .USub (.Constant (.int 1) kk p1) p2)) p3) v (.ref s4.heap.objs.size)) (L2.EP X pins σ Q) X.xe { s4 with heap := s4.heap.push { cls := .type "slice", data := .fields #[vl, vu, vs] } }
  obtain ⟨z, ez, qz⟩ := no_exc q1 (dRev_nx d)
  cases d with
  | lst xs =>
    cases ez
    obtain ⟨a, ys, rfl, hx, hl, h3⟩ := rb.lst
    cases r1
    obtain ⟨its, r, ht, hz⟩ := I5.list hx
    have hlen := r.length
    refine tail_any (ops := [.ref a, .ref s4.heap.objs.size]) ht.isList.typeIs (PySem.slot_list_getitem.lookup) ?_ (by with_unfolding_all rfl)
    refine wpAny_getItem_list_slice ht.isList (Heap.IsSliceOf.new _ vl vu vs) pl pu ps (by decide) ?_ (by rw [List.size_toArray]; omega)
    rw [PySem.W.krv_pick]
    refine ⟨.ref _, _, I5.laid (t' := s4.toks) (o := .lst ys.reverse) (fun b ob q => Heap.get?_push_of_some _ q) (Nat.le_refl _) ?_, rfl, qz.lst (Paired.revP h3) (I5.hok.fresh (Nat.le_refl _)) (by rw [List.length_reverse]; exact hl)⟩
    exact ⟨by rw [List.length_reverse]; exact hz, _, 0, r.reverse, Heap.get?_push_size _ rfl⟩
  | tup xs =>
    cases ez
    obtain ⟨a, ys, rfl, hx, hl, h3⟩ := rb.tup
    cases r1
    obtain ⟨its, r, ht, hz⟩ := I5.tuple hx
    have hlen := r.length
    refine tail_any (ops := [.ref a, .ref s4.heap.objs.size]) ht.typeIs (PyProof.Rows.slot_tuple_getitem.lookup) ?_ (by with_unfolding_all rfl)
    cases ps with
    | int i t =>
      refine getItem_tuple_rev ht (Heap.IsSliceOf.new _ vl vu (.int (-1) t)) pl pu ?_ (by rw [List.size_toArray]; omega)
      refine ⟨.ref _, _, I5.laid (t' := s4.toks) (o := .tup ys.reverse) (fun b ob q => Heap.get?_push_of_some _ q) (Nat.le_refl _) ?_, rfl, qz.tup (Paired.revP h3) (I5.hok.fresh (Nat.le_refl _)) (by rw [List.length_reverse]; exact hl)⟩
      exact ⟨by rw [List.length_reverse]; exact hz, its.reverse, r.reverse, IsTup.new _ _⟩
  | str z =>
    by_cases hz : z.length ≤ sizeLine
    · have e5 : dRev (.str z) = .ok (.str ⟨z.cps.toList.reverse.toArray⟩) := if_pos hz
      rw [e5] at ez
      have ez := Res.ok.inj ez
      subst ez
      have hx := rb.str
      subst hx
      obtain ⟨tk, rfl⟩ := r1
      cases pl with
      | none =>
        cases pu with
        | none =>
          cases ps with
          | int i t =>
            refine tail_any (ops := [.str z tk, .ref s4.heap.objs.size]) (PySem.typeIs_str _ z tk) PySem.F.slot_str_getitem.lookup ?_ (by with_unfolding_all rfl)
            refine wpAny_getItem_str_slice (l := none) (u := none) (st := some (-1, t)) (Heap.IsSliceOf.new _ .none .none (.int (-1) t)) rfl ?_
            show Made.post (if ((-1 : Int) == 1 && (Builtin.Str.strSliceIndices none none (-1) z.length).length == z.length) = true then Made.val (.str z tk)
              else Made.str ⟨((Builtin.Str.strSliceIndices none none (-1) z.length).filterMap (z.cps[·]?)).toArray⟩) _ _
            rw [if_neg (by simp), slice_rev, pick_revS]
            refine ⟨?_, .str _, H4, I5.tok _, ⟨_, rfl⟩, qz.str⟩
            show z.cps.toList.reverse.toArray.size ≤ sizeLine
            rw [List.size_toArray, List.length_reverse, Array.length_toList]
            exact hz
    · have e5 : dRev (.str z) = .err := if_neg hz
      rw [e5] at ez
      cases ez
  | _ => cases ez
end
end Px

namespace Px
open PySem PySem.Spec PyProof.Rows L2

/-! ### walks -/
/-- what a walk leans on: two things that stand -/
def HR (K : PySem.W.Frag) (ex : AS) (H : Hp) (n : Nat) (g : (D × V) × (D × V)) : Prop := RB K ex H n g.1.1 g.1.2 ∧ RB K ex H n g.2.1 g.2.2
theorem HR.one {K : PySem.W.Frag} {ex : AS} {H : Hp} {n : Nat} {d : D} {v : V} (h : RB K ex H n d v) : HR K ex H n ((d, v), (.non, .non)) := ⟨h, RB.of (by rw [R])⟩
theorem HR.nil {K : PySem.W.Frag} {ex : AS} {H : Hp} {n : Nat} : HR K ex H n ((.non, .non), (.non, .non)) := ⟨RB.of (by rw [R]), RB.of (by rw [R])⟩
/-- an iterator that yields ds one by one, while g is held -/
structure Itn (K : PySem.W.Frag) (n : Nat) (J : It) (g : (D × V) × (D × V)) (ds : List D) : Prop where
  len : ds.length ≤ sizeLine
  go : ∀ ex H i, HR K ex H n g → i < ds.length → J.go i H
  stop : ∀ ex H, HR K ex H n g → J.stop ds.length H
  item : ∀ ex H i d x H', HR K ex H n g → ds[i]? = some d → J.yld i H x H' → Same H H' ∧ RB K ex H' (n - 1) d x
def tI (X : Cx) (W : WX) (L : List Nat) (n : Nat) (f : Env → Res (List D)) : TI := fun σ H R => ∃ ex ρ fp, SI X.K ex L ρ σ H fp ∧ Out X W σ H (f ρ) fun ds => ∀ J H' g, Same H H' → HR X.K ex H' n g → Itn X.K n J g ds → R J H'
abbrev EI (X : Cx) (W : WX) (L : List Nat) (n : Nat) (tg e : Expr) (f : Env → Res (List D)) : Prop := PI X tg e (tI X W L n f)
theorem PI.imp {X : Cx} {tg e : Expr} {t t' : TI} (h : PI X tg e t) (m : ∀ σ H Q, t' σ H Q → t σ H Q) : PI X tg e t' := ⟨fun pins s σ H R I q => h.run pins s σ H R I (m σ H R q)⟩
def signs (s : Str) : List D := s.cps.toList.map fun c => .str ⟨#[c]⟩
def dItems : D → Res (List D)
  | .lst xs => .ok xs
  | .tup xs => .ok xs
  | .str s => if s.length ≤ sizeLine then .ok (signs s) else .err
  | _ => .err
theorem dItems_nx : NoX1 dItems := fun a c h => by
  unfold dItems at h
  split at h <;> first | cases h | (split at h <;> cases h)
theorem itn_list {K : PySem.W.Frag} {n : Nat} {ds : List D} {a : Addr} (hl : ds.length ≤ sizeLine) : Itn K n (Itl K a) ((.lst ds, .ref a), (.non, .non)) ds := by
  have ob : ∀ ex H, RB K ex H n (.lst ds) (.ref a) → ∃ xs, SqL K H a xs ∧ Paired (RB K ex H (n - 1)) ds xs := fun ex H h => by
    cases n with
    | zero =>
      rw [RB, R] at h
      obtain ⟨b, xs, e, h1, h2⟩ := h
      cases e
      exact ⟨xs, h1.1.sq, RL.pair h2⟩
    | succ n =>
      obtain ⟨b, xs, e, h1, h2, h3⟩ := RB.lst h
      cases e
      exact ⟨xs, h1, h3⟩
  refine ⟨hl, fun ex H i h hi => ?_, fun ex H h => ?_, fun ex H i d x H' h hd hy => ?_⟩
  · obtain ⟨xs, h1, h2⟩ := ob ex H h.1
    obtain ⟨x, hx, _⟩ := Paired.get h2 (List.getElem?_eq_getElem hi)
    exact ⟨xs, x, h1, hx⟩
  · obtain ⟨xs, h1, h2⟩ := ob ex H h.1
    exact ⟨xs, h1, by rw [h2.length]; exact Nat.le_refl _⟩
  · obtain ⟨xs, h1, h2⟩ := ob ex H h.1
    obtain ⟨y, hy1, ry⟩ := Paired.get h2 hd
    obtain ⟨rfl, hy2⟩ := hy
    have := hy2 xs h1
    rw [hy1] at this
    cases this
    exact ⟨Same.refl _, ry⟩
theorem itn_tup {K : PySem.W.Frag} {n : Nat} {ds : List D} {a : Addr} (hl : ds.length ≤ sizeLine) : Itn K n (Itt K a) ((.tup ds, .ref a), (.non, .non)) ds := by
  have ob : ∀ ex H, RB K ex H n (.tup ds) (.ref a) → ∃ xs, SqT K H a xs ∧ Paired (R K ex H) ds xs := fun ex H h => by
    obtain ⟨b, xs, e, h1, h2, h3⟩ := RB.tup h
    cases e
    exact ⟨xs, h1, h3⟩
  refine ⟨hl, fun ex H i h hi => ?_, fun ex H h => ?_, fun ex H i d x H' h hd hy => ?_⟩
  · obtain ⟨xs, h1, h2⟩ := ob ex H h.1
    obtain ⟨x, hx, _⟩ := Paired.get h2 (List.getElem?_eq_getElem hi)
    exact ⟨xs, x, h1, hx⟩
  · obtain ⟨xs, h1, h2⟩ := ob ex H h.1
    exact ⟨xs, h1, by rw [h2.length]; exact Nat.le_refl _⟩
  · obtain ⟨xs, h1, h2⟩ := ob ex H h.1
    obtain ⟨y, hy1, ry⟩ := Paired.get h2 hd
    obtain ⟨rfl, hy2⟩ := hy
    have := hy2 xs h1
    rw [hy1] at this
    cases this
    exact ⟨Same.refl _, RB.of ry⟩
theorem itn_str {K : PySem.W.Frag} {n : Nat} {x : Str} (hl : x.length ≤ sizeLine) : Itn K n (Its x) ((.non, .non), (.non, .non)) (signs x) := by
  have el : (signs x).length = x.cps.size := by
    unfold signs
    rw [List.length_map, Array.length_toList]
  refine ⟨by rw [el]; exact hl, fun ex H i h hi => ?_, fun ex H h => ?_, fun ex H i d v H' h hd hy => ?_⟩
  · show i < x.cps.size
    rw [← el]
    exact hi
  · show x.cps.size ≤ (signs x).length
    rw [el]
    exact Nat.le_refl _
  · obtain ⟨rfl, c, hc, rfl⟩ := hy
    unfold signs at hd
    rw [List.getElem?_map, Array.getElem?_toList, hc] at hd
    cases hd
    exact ⟨Same.refl _, RB.of (by rw [R])⟩
def rng (lo : Int) (n : Nat) : List D := (List.range n).map fun i => .int (lo + (i : Nat))
def rngC (lo c : Int) (n : Nat) : List D := (List.range n).map fun i => .int (lo + (i : Nat) * c)
theorem itn_rng {K : PySem.W.Frag} {n k : Nat} {lo : Int} (hl : k ≤ sizeLine) : Itn K n (Itr lo k) ((.non, .non), (.non, .non)) (rng lo k) := by
  have el : (rng lo k).length = k := by
    unfold rng
    rw [List.length_map, List.length_range]
  refine ⟨by rw [el]; exact hl, fun ex H i h hi => ?_, fun ex H h => ?_, fun ex H i d v H' h hd hy => ?_⟩
  · show i < k
    rw [← el]
    exact hi
  · show k ≤ _
    rw [el]
    exact Nat.le_refl _
  · obtain ⟨rfl, rfl⟩ := hy
    have hi : i < k := by
      obtain ⟨h1, _⟩ := List.getElem?_eq_some_iff.mp hd
      rw [el] at h1
      exact h1
    unfold rng at hd
    rw [List.getElem?_map, List.getElem?_range hi] at hd
    cases hd
    exact ⟨Same.refl _, RB.of (by rw [R])⟩
theorem itn_rngC {K : PySem.W.Frag} {n k : Nat} {lo c : Int} (hl : k ≤ sizeLine) : Itn K n (Itc lo c k) ((.non, .non), (.non, .non)) (rngC lo c k) := by
  have el : (rngC lo c k).length = k := by
    unfold rngC
    rw [List.length_map, List.length_range]
  refine ⟨by rw [el]; exact hl, fun ex H i h hi => ?_, fun ex H h => ?_, fun ex H i d v H' h hd hy => ?_⟩
  · show i < k
    rw [← el]
    exact hi
  · show k ≤ _
    rw [el]
    exact Nat.le_refl _
  · obtain ⟨rfl, rfl⟩ := hy
    have hi : i < k := by
      obtain ⟨h1, _⟩ := List.getElem?_eq_some_iff.mp hd
      rw [el] at h1
      exact h1
    unfold rngC at hd
    rw [List.getElem?_map, List.getElem?_range hi] at hd
    cases hd
    exact ⟨Same.refl _, RB.of (by rw [R])⟩
def iSeq (f : EF) : Env → Res (List D) := eUn dItems f
def dRng1 : List D → Res (List D)
  | [.int j] => if j ≤ 16777216 ∧ -(2 ^ 62) ≤ j then .ok (rng 0 j.toNat) else .err
  | _ => .err
def dRng2 : List D → Res (List D)
  | [.int i, .int j] => if j - i ≤ 16777216 ∧ -(2 ^ 62) ≤ i ∧ i < 2 ^ 62 ∧ -(2 ^ 62) ≤ j ∧ j < 2 ^ 62 then .ok (rng i (j - i).toNat) else .err
  | _ => .err
def dRng3 : List D → Res (List D)
  | [.int i, .int j, .int c] => if c = -1 ∧ i - j ≤ 16777216 ∧ -(2 ^ 62) ≤ i ∧ i < 2 ^ 62 ∧ -(2 ^ 62) ≤ j ∧ j < 2 ^ 62 then .ok (rngC i (-1) (i - j).toNat) else .err
  | _ => .err
def iCall (o : List D → Res (List D)) (fs : Env → Res (List D)) : Env → Res (List D) := fun ρ => fs ρ >>= o
section
variable {X : Cx} {W : WX} {L : List Nat} {n k m n2 : Nat} {pos p : Pos} {e tg a b c : Expr} {f : EF} {fs : Env → Res (List D)}
theorem line_eq : (sizeLine : Nat) = 16777216 := by decide
theorem ei_seq (he : EB X W L n e f) : EI X W L n tg e (iSeq f) := by
  refine ⟨fun pins s σ H Rr I ⟨ex, ρ, fp, S, o⟩ => ?_⟩
  refine thn (he.run pins s σ H (fun x H1 => ∃ d, Same H H1 ∧ RB X.K ex H1 n d x ∧ Out X W σ H (dItems d) fun ds => ∀ J H' g, Same H H' → HR X.K ex H' n g → Itn X.K n J g ds → Rr J H') I
    ⟨ex, ρ, fp, S, o.bind.mono fun d q v H1 e1 r1 => ⟨d, e1, r1, q⟩⟩) fun v s1 ⟨x, H1, I1, r1, d, e1, rb, q⟩ => ?_
  obtain ⟨ds, ed, qd⟩ := no_exc q (dItems_nx d)
  cases d with
  | lst xs =>
    cases ed
    obtain ⟨a, ys, rfl, h1, h2, h3⟩ := rb.up.lst
    cases r1
    obtain ⟨its, rv, p, hz⟩ := I1.list h1
    refine wpAny_pyIter_list p.isList (pi_one (tk := s1.toks) I1 _ (turn_list a _) ⟨_, Heap.get?_push_size _ rfl, rfl, rfl⟩ (qd _ H1 ((_, .ref a), (.non, .non)) e1 (HR.one rb) (itn_list (by rw [h3.length]; exact h2))))
  | tup xs =>
    cases ed
    obtain ⟨a, ys, rfl, h1, h2, h3⟩ := rb.tup
    cases r1
    obtain ⟨its, rv, p, hz⟩ := I1.tuple h1
    refine wpAny_pyIter_tuple (show s1.heap.IsTuple a its.toArray from p) (pi_one (tk := s1.toks) I1 _ (turn_tuple a _) ⟨_, Heap.get?_push_size _ rfl, rfl, rfl⟩ (qd _ H1 ((_, .ref a), (.non, .non)) e1 (HR.one rb) (itn_tup (by rw [h3.length]; exact h2))))
  | str z =>
    have eq : dItems (.str z) = if z.length ≤ sizeLine then .ok (signs z) else .err := rfl
    rw [eq] at ed
    split at ed
    · rename_i hz
      cases ed
      rw [rb.str] at r1
      obtain ⟨t, rfl⟩ := r1
      cases ha : z.cps.all (· < 128)
      · exact wpAny_pyIter_wide ha (pi_one (tk := s1.toks) I1 _ (turn_str _ z t "str_iterator" (.inr rfl)) ⟨_, Heap.get?_push_size _ rfl, rfl, rfl⟩ (qd _ H1 ((.non, .non), (.non, .non)) e1 HR.nil (itn_str hz)))
      · exact wpAny_pyIter_ascii ha (pi_one (tk := s1.toks) I1 _ (turn_str _ z t "str_ascii_iterator" (.inl rfl)) ⟨_, Heap.get?_push_size _ rfl, rfl, rfl⟩ (qd _ H1 ((.non, .non), (.non, .non)) e1 HR.nil (itn_str hz)))
    · cases ed
  | _ => cases ed
theorem ei_range1 (hg : Gl X "range") (hm : X.mg "range" = none) (ha : EA X W L n2 m [a] fs) (hs : starEach [a] X.env = [(false, eval a X.env)] := by rfl) : EI X W L n tg (.Call (.Name "range" p) [a] [] pos) (iCall dRng1 fs) :=
  PI.imp (pi_range1 hg hm ha hs) fun σ H Q ⟨ex, ρ, fp, I, o⟩ => ⟨ex, ρ, fp, I, o.bind.mono fun ds q vs H1 e1 r1 _ => by
    unfold dRng1 at q
    split at q
    · split at q
      · rename_i j hj
        cases r1 with
        | cons r t =>
          cases t
          rw [RB.int r]
          have hj' := hj
          exact ⟨j, rfl, hj.2, by omega, q (Itr 0 j.toNat) H1 ((.non, .non), (.non, .non)) e1 HR.nil (itn_rng (by rw [line_eq]; omega))⟩
      · exact q.elim
    · exact q.elim⟩
theorem ei_range2 (hg : Gl X "range") (hm : X.mg "range" = none) (ha : EA X W L n2 m [a, b] fs) (hs : starEach [a, b] X.env = [(false, eval a X.env), (false, eval b X.env)] := by rfl) (hs2 : starEach [b] X.env = [(false, eval b X.env)] := by rfl) :
    EI X W L n tg (.Call (.Name "range" p) [a, b] [] pos) (iCall dRng2 fs) :=
  PI.imp (pi_range2 hg hm ha hs hs2) fun σ H Q ⟨ex, ρ, fp, I, o⟩ => ⟨ex, ρ, fp, I, o.bind.mono fun ds q vs H1 e1 r1 _ => by
    unfold dRng2 at q
    split at q
    · split at q
      · rename_i i j hj
        cases r1 with
        | cons r t =>
          cases t with
          | cons r2 t =>
            cases t
            rw [RB.int r, RB.int r2]
            exact ⟨i, j, rfl, hj.2, q (Itr i (j - i).toNat) H1 ((.non, .non), (.non, .non)) e1 HR.nil (itn_rng (by rw [line_eq]; omega))⟩
      · exact q.elim
    · exact q.elim⟩
theorem ei_range3 (hg : Gl X "range") (hm : X.mg "range" = none) (ha : EA X W L n2 m [a, b, c] fs) (hs : starEach [a, b, c] X.env = (false, eval a X.env) :: starEach [b, c] X.env := by rfl) (hpl : (backTo pos (starEach [b, c] X.env)).any (·.1) = false := by rfl) :
    EI X W L n tg (.Call (.Name "range" p) [a, b, c] [] pos) (iCall dRng3 fs) :=
  PI.imp (pi_range3 hg hm ha hs hpl) fun σ H Q ⟨ex, ρ, fp, I, o⟩ => ⟨ex, ρ, fp, I, o.bind.mono fun ds q vs H1 e1 r1 _ => by
    unfold dRng3 at q
    split at q
    · split at q
      · rename_i i j c hj
        obtain ⟨hc, hj⟩ := hj
        subst hc
        cases r1 with
        | cons r t =>
          cases t with
          | cons r2 t =>
            cases t with
            | cons r3 t =>
              cases t
              rw [RB.int r, RB.int r2, RB.int r3]
              exact ⟨i, j, -1, (i - j).toNat, rfl, RgC.neg hj.2.1 hj.2.2.1 hj.2.2.2.1 hj.2.2.2.2, q (Itc i (-1) (i - j).toNat) H1 ((.non, .non), (.non, .non)) e1 HR.nil (itn_rngC (by rw [line_eq]; omega))⟩
      · exact q.elim
    · exact q.elim⟩
end

/-! ### targets -/
abbrev Sets := List (Nat × D × V)
def setE (ρ : Env) (l : Sets) : Env := l.foldl (fun ρ t => ρ.set t.1 (some t.2.1)) ρ
def setS (σ : L2.St) (l : Sets) : L2.St := l.foldl (fun σ t => σ.set t.1 (some t.2.2)) σ
/-- a target does what a function over data does; it sets the slots is -/
def GSem (K : PySem.W.Frag) (g : TG) (gf : Env → D → Res Env) (is : List Nat) : Prop :=
  ∀ ex v σ H Q d ρ ρ', R K ex H d v → gf ρ d = .ok ρ' → (∀ l : Sets, (∀ t ∈ l, R K ex H t.2.1 t.2.2 ∧ t.1 ∈ is) → ρ' = setE ρ l → Q (setS σ l) H) → g v σ H Q
def gfName (i : Nat) : Env → D → Res Env := fun ρ d => .ok (ρ.set i (some d))
theorem gs_name {K : PySem.W.Frag} (i : Nat) : GSem K (gName i) (gfName i) [i] := fun ex v σ H Q d ρ ρ' r e h => by
  cases e
  exact h [(i, d, v)] (fun t ht => by
    rw [List.mem_singleton.mp ht]
    exact ⟨r, List.mem_singleton.mpr rfl⟩) rfl
def setL (ρ : Env) : List Nat → List D → Env
  | i :: is, d :: ds => setL (ρ.set i (some d)) is ds
  | _, _ => ρ
def gfTup (is : List Nat) : Env → D → Res Env := fun ρ d => match d with
  | .tup ds => if ds.length = is.length then .ok (setL ρ is ds) else .err
  | _ => .err
def gNames : List Nat → TGs
  | [] => gNil
  | i :: is => gCons (gName i) (gNames is)
theorem gNames_ok {K : PySem.W.Frag} {ex : AS} {H : Hp} {Q : L2.St → Hp → Prop} : ∀ (is : List Nat) (ds : List D) (vs : List V) (σ : L2.St) (ρ : Env), ds.length = is.length → Paired (R K ex H) ds vs →
    (∀ l : Sets, (∀ t ∈ l, R K ex H t.2.1 t.2.2 ∧ t.1 ∈ is) → setL ρ is ds = setE ρ l → Q (setS σ l) H) → gNames is vs σ H Q
  | [], [], _, σ, ρ, _, .nil, h => ⟨rfl, h [] (fun t ht => nomatch ht) rfl⟩
  | [], _ :: _, _, _, _, e, _, _ => by simp at e
  | _ :: _, [], _, _, _, e, _, _ => by simp at e
  | i :: is, d :: ds, _, σ, ρ, e, .cons (b := v) r t, h => by
    refine ⟨v, _, rfl, ?_⟩
    refine gNames_ok is ds _ (σ.set i (some v)) (ρ.set i (some d)) (by simpa using e) t fun l hl e2 => ?_
    exact h ((i, d, v) :: l) (fun t ht => by
      rcases List.mem_cons.mp ht with rfl | ht
      · exact ⟨r, List.mem_cons_self⟩
      · exact ⟨(hl t ht).1, List.mem_cons_of_mem _ (hl t ht).2⟩) e2
theorem gs_tup {K : PySem.W.Frag} (is : List Nat) : GSem K (gTup K is.length (gNames is)) (gfTup is) is := fun ex v σ H Q d ρ ρ' r e h => by
  unfold gfTup at e
  split at e
  · split at e
    · rename_i ds hl
      cases e
      rw [R] at r
      obtain ⟨a, xs, rfl, h1, h2⟩ := r
      exact ⟨a, xs, rfl, h1.1, by rw [← RL.length h2]; exact hl, gNames_ok is ds xs σ ρ hl (RL.pair h2) h⟩
    · cases e
  · cases e
def wipeE (ρ : Env) : List Nat → Env
  | [] => ρ
  | v :: vs => (wipeE ρ vs).set v none
theorem wipeE_length (ρ : Env) : ∀ vs : List Nat, (wipeE ρ vs).length = ρ.length
  | [] => rfl
  | v :: vs => by rw [wipeE, List.length_set, wipeE_length ρ vs]
theorem wipeE_some {ρ : Env} {i : Nat} {d : D} : ∀ {vs : List Nat}, (wipeE ρ vs)[i]? = some (some d) → ρ[i]? = some (some d) ∧ i ∉ vs
  | [], h => ⟨h, fun q => nomatch q⟩
  | v :: vs, h => by
    rw [wipeE] at h
    by_cases e : v = i
    · subst e
      by_cases hl : v < (wipeE ρ vs).length
      · rw [List.getElem?_set_self hl] at h
        cases h
      · rw [List.getElem?_eq_none (by rw [List.length_set]; omega)] at h
        cases h
    · rw [List.getElem?_set_ne e] at h
      obtain ⟨h1, h2⟩ := wipeE_some h
      exact ⟨h1, fun q => by
        rcases List.mem_cons.mp q with q | q
        · exact e q.symm
        · exact h2 q⟩
section
variable {K : PySem.W.Frag} {ex ex' : AS} {H H' : Hp} {L : List Nat} {ρ : Env} {σ : L2.St} {fp : Nat → List Addr}
theorem SI.wipe (I : SI K ex L ρ σ H fp) (vs : List Nat) : SI K ex L (wipeE ρ vs) (L2.wipe σ vs) H fp where
  len := by rw [wipeE_length, L2.wipe_length]; exact I.len
  val := fun i d h => by
    obtain ⟨h1, h2⟩ := wipeE_some h
    obtain ⟨v, h3, h4⟩ := I.val i d h1
    exact ⟨v, by rw [L2.wipe_out h2]; exact h3, h4⟩
  nod := I.nod
  dis := I.dis
  sub := I.sub
  ext := I.ext
/-- a slot that is shared is stored -/
theorem SI.set (I : SI K ex L ρ σ H fp) {i : Nat} {d : D} {v : V} (r : R K ex H d v) (hL : L.getD i 0 = 0) : ∃ fp', SI K ex L (ρ.set i (some d)) (σ.set i (some v)) H fp' ∧ (∀ j a, a ∈ fp' j → a ∈ fp j) := by
  refine ⟨fun j => if j = i then [] else fp j, ⟨?_, fun j d' h => ?_, fun j => ?_, fun j k a h1 h2 => ?_, fun j a h => ?_, I.ext⟩, fun j a h => ?_⟩
  · rw [List.length_set, List.length_set]
    exact I.len
  · by_cases e : i = j
    · subst e
      by_cases hl : i < ρ.length
      · rw [List.getElem?_set_self hl] at h
        cases h
        refine ⟨v, List.getElem?_set_self (by rw [← I.len]; exact hl), ?_⟩
        rw [hL, if_pos rfl]
        exact ⟨rfl, r⟩
      · rw [List.getElem?_eq_none (by rw [List.length_set]; omega)] at h
        cases h
    · rw [List.getElem?_set_ne e] at h
      obtain ⟨u, h1, h2⟩ := I.val j d' h
      refine ⟨u, by rw [List.getElem?_set_ne e]; exact h1, ?_⟩
      show RO K ex H _ d' u (if j = i then [] else fp j)
      rw [if_neg (fun q => e q.symm)]
      exact h2
  · show (if j = i then [] else fp j).Nodup
    split
    · exact List.nodup_nil
    · exact I.nod j
  · have h1 : a ∈ (if j = i then [] else fp j) := h1
    have h2 : a ∈ (if k = i then [] else fp k) := h2
    split at h1
    · cases h1
    · split at h2
      · cases h2
      · exact I.dis j k a h1 h2
  · have h : a ∈ (if j = i then [] else fp j) := h
    split at h
    · cases h
    · exact I.sub j a h
  · have h : a ∈ (if j = i then [] else fp j) := h
    split at h
    · cases h
    · exact h
theorem SI.sets : ∀ (l : Sets) {ρ : Env} {σ : L2.St} {fp : Nat → List Addr}, SI K ex L ρ σ H fp → (∀ t ∈ l, R K ex H t.2.1 t.2.2 ∧ L.getD t.1 0 = 0) → ∃ fp', SI K ex L (setE ρ l) (setS σ l) H fp' ∧ (∀ j a, a ∈ fp' j → a ∈ fp j)
  | [], _, _, fp, I, _ => ⟨fp, I, fun _ _ h => h⟩
  | t :: l, _, _, _, I, h => by
    obtain ⟨fp1, I1, m1⟩ := I.set (h t List.mem_cons_self).1 (h t List.mem_cons_self).2
    obtain ⟨fp2, I2, m2⟩ := SI.sets l I1 fun u hu => h u (List.mem_cons_of_mem _ hu)
    exact ⟨fp2, I2, fun j a q => m1 j a (m2 j a q)⟩
/-- more is owned (by others), all of it new to H -/
theorem SI.more (I : SI K ex L ρ σ H fp) (e : Same H H') (h1 : ∀ a, ex' a → ex a ∨ H a = none) (h2 : ∀ a, ex a → ex' a) (h3 : ∀ a, ex' a → H' a ≠ none) : SI K ex' L ρ σ H' fp where
  len := I.len
  val := fun i d h => by
    obtain ⟨v, q1, q2⟩ := I.val i d h
    exact ⟨v, q1, RO.keep (Keep.same e) h1 (fun a _ o q => e a o q) q2⟩
  nod := I.nod
  dis := I.dis
  sub := fun i a h => h2 a (I.sub i a h)
  ext := h3
end
end Px

namespace Px
open PySem PySem.Spec PyProof.Rows L2

/-! ### list comprehensions -/
def noX {α : Type} : Res α → Res α
  | .ok a => .ok a
  | _ => .err
theorem noX_ok {α : Type} {r : Res α} {a : α} (h : noX r = .ok a) : r = .ok a := by
  cases r with
  | ok b => exact h
  | exc c => cases h
  | err => cases h
@[simp] theorem noX_is {α : Type} (a : α) : noX (.ok a) = .ok a := id rfl
def lcE (gf : Env → D → Res Env) (tt : Env → Res Bool) (f : EF) (ρ : Env) : List D → Res (List D)
  | [] => .ok []
  | d :: ds => noX (gf ρ d) >>= fun ρ1 => noX (tt ρ1) >>= fun b => if b = true then noX (f ρ1) >>= fun y => lcE gf tt f ρ ds >>= fun ys => .ok (y :: ys) else lcE gf tt f ρ ds
theorem lcE_nx {gf : Env → D → Res Env} {tt : Env → Res Bool} {f : EF} {ρ : Env} : ∀ (ds : List D) (c : Str), lcE gf tt f ρ ds ≠ .exc c
  | [], c, h => by cases h
  | d :: ds, c, h => by
    rw [lcE] at h
    cases h1 : noX (gf ρ d) with
    | ok ρ1 =>
      rw [h1, Res.bind_ok] at h
      cases h2 : noX (tt ρ1) with
      | ok b =>
        rw [h2, Res.bind_ok] at h
        split at h
        · cases h3 : noX (f ρ1) with
          | ok y =>
            rw [h3, Res.bind_ok] at h
            cases h4 : lcE gf tt f ρ ds with
            | ok ys =>
              rw [h4] at h
              cases h
            | exc c2 => exact lcE_nx ds c2 h4
            | err =>
              rw [h4] at h
              cases h
          | exc c2 =>
            cases q : f ρ1 <;> rw [q] at h3 <;> cases h3
          | err =>
            rw [h3] at h
            cases h
        · exact lcE_nx ds c h
      | exc c2 =>
        cases q : tt ρ1 <;> rw [q] at h2 <;> cases h2
      | err =>
        rw [h2] at h
        cases h
    | exc c2 =>
      cases q : gf ρ d <;> rw [q] at h1 <;> cases h1
    | err =>
      rw [h1] at h
      cases h
def eLc (fI : Env → Res (List D)) (own : List Nat) (gf : Env → D → Res Env) (tt : Env → Res Bool) (f : EF) : EF := fun ρ => fI ρ >>= fun ds => lcE gf tt f (wipeE ρ own) ds >>= fun ys => .ok (.lst ys)
abbrev W0 : WX := fun _ _ _ _ => False
theorem P3.app {α β γ : Type} {F : α → β → γ → Prop} : ∀ {as as2 : List α} {bs bs2 : List β} {cs cs2 : List γ}, P3 F as bs cs → P3 F as2 bs2 cs2 → P3 F (as ++ as2) (bs ++ bs2) (cs ++ cs2)
  | _, _, _, _, _, _, .nil, h => h
  | _, _, _, _, _, _, .cons x t, h => .cons x (P3.app t h)
theorem P3.length {α β γ : Type} {F : α → β → γ → Prop} : ∀ {as : List α} {bs : List β} {cs : List γ}, P3 F as bs cs → as.length = bs.length
  | _, _, _, .nil => rfl
  | _, _, _, .cons x t => by rw [List.length_cons, List.length_cons, P3.length t]
theorem wipe_set {σ : L2.St} : ∀ {vs : List Nat} {i : Nat} {x : Option V}, i ∈ vs → wipe (σ.set i x) vs = wipe σ vs
  | v :: vs, i, x, h => by
    rw [wipe, wipe]
    by_cases hi : i ∈ vs
    · rw [wipe_set hi]
    · have e : v = i := by
        rcases List.mem_cons.mp h with q | q
        · exact q.symm
        · exact absurd q hi
      subst e
      have : ∀ {vs : List Nat}, v ∉ vs → wipe (σ.set v x) vs = (wipe σ vs).set v x := by
        intro vs
        induction vs with
        | nil => intro _; rfl
        | cons u us ih =>
          intro h
          have h1 : v ≠ u := fun q => h (by rw [q]; exact List.mem_cons_self)
          rw [wipe, wipe, ih (fun q => h (List.mem_cons_of_mem _ q)), List.set_comm _ _ h1]
      rw [this hi, List.set_set]
theorem wipe_idem {σ : L2.St} : ∀ vs : List Nat, wipe (wipe σ vs) vs = wipe σ vs := by
  have key : ∀ (us vs : List Nat), (∀ u ∈ us, u ∈ vs) → ∀ σ : L2.St, wipe (wipe σ us) vs = wipe σ vs := by
    intro us
    induction us with
    | nil => intro vs _ σ; rfl
    | cons u us ih =>
      intro vs h σ
      rw [wipe, wipe_set (h u List.mem_cons_self), ih vs fun x hx => h x (List.mem_cons_of_mem _ hx)]
  exact fun vs => key vs vs (fun _ h => h) σ
theorem wipe_sets {vs : List Nat} : ∀ (l : Sets) {σ : L2.St}, (∀ t ∈ l, t.1 ∈ vs) → wipe (setS σ l) vs = wipe σ vs
  | [], _, _ => rfl
  | t :: l, σ, h => by
    have : setS σ (t :: l) = setS (σ.set t.1 (some t.2.2)) l := rfl
    rw [this, wipe_sets l fun u hu => h u (List.mem_cons_of_mem _ hu), wipe_set (h t List.mem_cons_self)]
section
variable {K : PySem.W.Frag} {ex ex' : AS} {H H' : Hp}
theorem RB.more (e : Same H H') (m : ∀ a, ex' a → ex a ∨ H a = none) : ∀ {n : Nat} {d : Px.D} {v : V}, RB K ex H n d v → RB K ex' H' n d v
  | 0, d, _, h => R.keep (Keep.same e) m d h
  | n + 1, d, v, h => by
    cases d with
    | lst ds =>
      rw [RB] at h ⊢
      obtain ⟨a, xs, q, h1, h2⟩ := h
      exact ⟨a, xs, q, ⟨e.seq h1.1, h1.2⟩, h2.mono fun _ _ q => RB.more e m q⟩
    | _ =>
      rw [RB] at h ⊢ <;> first | exact R.keep (Keep.same e) m _ h | (intro _ q; cases q)
theorem P3.there {k : Nat} {a : Addr} : ∀ {ys : List Px.D} {vs : List V} {gps : List (List Addr)}, P3 (RO K ex H k) ys vs gps → a ∈ gps.flatten → H a ≠ none
  | _, _, _, .nil, h => by simp at h
  | _, _, _, .cons r t, h => by
    rw [List.flatten_cons] at h
    rcases List.mem_append.mp h with h | h
    · exact RO.there r a h
    · exact P3.there t h
theorem P3.keep {k : Nat} (kp : Keep ex H H') (m : ∀ a, ex' a → ex a ∨ H a = none) : ∀ {ys : List Px.D} {vs : List V} {gps : List (List Addr)}, (∀ a ∈ gps.flatten, ∀ o, H a = some o → H' a = some o) → P3 (RO K ex H k) ys vs gps → P3 (RO K ex' H' k) ys vs gps
  | _, _, _, _, .nil => .nil
  | _, _, _, h, .cons r t => by
    rw [List.flatten_cons] at h
    exact .cons (RO.keep kp m (fun a ha => h a (List.mem_append_left _ ha)) r) (P3.keep kp m (fun a ha => h a (List.mem_append_right _ ha)) t)
end
section
variable {X : Cx} {W : WX} {L : List Nat} {k : Nat} {fI : Env → Res (List D)} {own : List Nat} {gf : Env → D → Res Env} {ft : Env → Res Bool} {f : EF} {g : TG} {is : List Nat}
theorem HR.more {K : PySem.W.Frag} {ex ex' : AS} {H H' : Hp} (e : Same H H') (m : ∀ a, ex' a → ex a ∨ H a = none) {n : Nat} {g : (Px.D × V) × (Px.D × V)} (h : HR K ex H n g) : HR K ex' H' n g := ⟨RB.more e m h.1, RB.more e m h.2⟩
/-- what a list comprehension asks follows from its meaning -/
theorem lc_imp (gs : GSem X.K g gf is) (hs : ∀ i ∈ is, i ∈ own) (hL : ∀ i ∈ is, L.getD i 0 = 0) {σ : L2.St} {H : Hp} {Q : VK} (h : tO X W L (k + 1) (eLc fI own gf ft f) σ H Q) : tLc (tI X W L 1 fI) g (tT X W0 L ft) (tO X W0 L k f) own σ H Q := by
  obtain ⟨ex, ρ, fp, I, o⟩ := h
  refine ⟨ex, ρ, fp, I, o.bind.mono fun ds q J H1 gh e1 rg itn D hD => ?_⟩
  obtain ⟨all, hall, q⟩ := no_exc q.bind (lcE_nx ds)
  have hDH : H D = none := e1.free hD
  refine ⟨fun i m Hi => i + m = ds.length ∧ Same H1 Hi ∧ ∃ (vs : List V) (fps : List (List Addr)) (ys rest : List Px.D), Hi D = some (.lst vs) ∧ P3 (RO X.K (fun a => a ∈ fps.flatten ∨ a = D ∨ ex a) Hi k) ys vs fps ∧ fps.flatten.Nodup ∧
    (∀ a ∈ fps.flatten, H1 a = none ∧ a ≠ D) ∧ ys.length ≤ i ∧ all = ys ++ rest ∧ lcE gf ft f (wipeE ρ own) (ds.drop i) = .ok rest, ⟨ds.length, by omega, same_upd hD, [], [], [], all, upd_same, .nil, List.nodup_nil, ⟨fun a ha => (by simp at ha), Nat.zero_le _, rfl, hall⟩⟩, fun i m Hi hW => ?_⟩
  obtain ⟨em, e2, vs, fps, ys, rest, hDi, hP, nod, fr, hlen, eall, erest⟩ := hW
  by_cases hi : i < ds.length
  · refine .inr ⟨itn.go ex Hi i ⟨rg.1.same e2, rg.2.same e2⟩ hi, fun H' => ∃ m', m' < m ∧ (i + 1 + m' = ds.length ∧ Same H1 H' ∧ ∃ (vs : List V) (fps : List (List Addr)) (ys rest : List Px.D), H' D = some (.lst vs) ∧ P3 (RO X.K (fun a => a ∈ fps.flatten ∨ a = D ∨ ex a) H' k) ys vs fps ∧ fps.flatten.Nodup ∧
      (∀ a ∈ fps.flatten, H1 a = none ∧ a ≠ D) ∧ ys.length ≤ i + 1 ∧ all = ys ++ rest ∧ lcE gf ft f (wipeE ρ own) (ds.drop (i + 1)) = .ok rest), fun H' h => h, fun x H' hy => ?_⟩
    obtain ⟨d, hd⟩ : ∃ d, ds[i]? = some d := ⟨_, List.getElem?_eq_getElem hi⟩
    obtain ⟨e3, rx⟩ := itn.item (fun a => a ∈ fps.flatten ∨ a = D ∨ ex a) Hi i d x H' (HR.more e2 (fun a h => by
      rcases h with h | h | h
      · exact .inr (fr a h).1
      · rw [h]
        exact .inr hD
      · exact .inl h) rg) hd hy
    have ed : ds.drop i = d :: ds.drop (i + 1) := by
      rw [List.drop_eq_getElem_cons hi]
      congr 1
      rw [List.getElem?_eq_getElem hi] at hd
      exact Option.some.inj hd
    rw [ed, lcE] at erest
    cases hg : noX (gf (wipeE ρ own) d) with
    | exc c => rw [hg] at erest; cases erest
    | err => rw [hg] at erest; cases erest
    | ok ρ1 =>
      rw [hg, Res.bind_ok] at erest
      have esame : Same H H' := (e1.trans e2).trans e3
      -- what is owned while the element is reckoned
      have hDex : ∀ a, (a ∈ fps.flatten ∨ a = D ∨ ex a) → ex a ∨ H a = none := fun a h => by
        rcases h with h | h | h
        · exact .inr (e1.free (fr a h).1)
        · rw [h]
          exact .inr hDH
        · exact .inl h
      have hthere : ∀ a, (a ∈ fps.flatten ∨ a = D ∨ ex a) → H' a ≠ none := fun a h q => by
        rcases h with h | h | h
        · exact P3.there hP h (e3.free q)
        · rw [h] at q
          have := e3 D _ hDi
          rw [q] at this
          cases this
        · exact I.ext a h (esame.free q)
      have I' : SI X.K (fun a => a ∈ fps.flatten ∨ a = D ∨ ex a) L (wipeE ρ own) (wipe σ own) H' fp := (I.wipe own).more esame hDex (fun a h => .inr (.inr h)) hthere
      refine gs (fun a => a ∈ fps.flatten ∨ a = D ∨ ex a) x (wipe σ own) H' _ d (wipeE ρ own) ρ1 rx (noX_ok hg) fun l hl e4 => ?_
      obtain ⟨fp1, I1, _⟩ := SI.sets l I' fun t ht => ⟨(hl t ht).1, hL _ (hl t ht).2⟩
      rw [← e4] at I1
      refine ⟨by rw [wipe_sets l fun t ht => hs _ (hl t ht).2, wipe_idem], ?_⟩
      cases ht : noX (ft ρ1) with
      | exc c => rw [ht] at erest; cases erest
      | err => rw [ht] at erest; cases erest
      | ok b =>
        rw [ht, Res.bind_ok] at erest
        refine ⟨_, ρ1, fp1, I1, ?_⟩
        rw [noX_ok ht]
        intro H3 e5
        cases b with
        | false =>
          rw [if_neg Bool.false_ne_true] at erest ⊢
          refine ⟨m - 1, by omega, by omega, (e2.trans e3).trans e5, vs, fps, ys, rest, e5 _ _ (e3 _ _ hDi), ?_, nod, fr, by omega, eall, erest⟩
          exact P3.keep (Keep.same (e3.trans e5)) (fun a h => .inl h) (fun a _ o q => (e3.trans e5) a o q) hP
        | true =>
          rw [if_pos rfl] at erest ⊢
          cases hf : noX (f ρ1) with
          | exc c => rw [hf] at erest; cases erest
          | err => rw [hf] at erest; cases erest
          | ok y =>
            rw [hf, Res.bind_ok] at erest
            refine ⟨_, ρ1, fp1, I1.same e5, ?_⟩
            rw [noX_ok hf]
            intro v H4 fq e6 ro nd nw
            have hD4 : H4 D = some (.lst vs) := e6 _ _ (e5 _ _ (e3 _ _ hDi))
            have hvl : ys.length = vs.length := P3.length hP
            have hsz : vs.length < sizeLine := by
              have := itn.len
              omega
            refine ⟨vs, hD4, hsz, ?_⟩
            cases hr : lcE gf ft f (wipeE ρ own) (ds.drop (i + 1)) with
            | exc c => rw [hr] at erest; cases erest
            | err => rw [hr] at erest; cases erest
            | ok rest' =>
              rw [hr, Res.bind_ok] at erest
              have er : rest = y :: rest' := by cases erest; rfl
              have e36 : Same Hi H4 := (e3.trans e5).trans e6
              have fqD : ∀ a ∈ fq, a ≠ D := fun a ha q => by
                have h1 := nw a ha
                rw [q] at h1
                have h2 := e5 _ _ (e3 _ _ hDi)
                rw [h1] at h2
                cases h2
              have fqI : ∀ a ∈ fq, Hi a = none := fun a ha => (e3.trans e5).free (nw a ha)
              have kp : Keep (fun a => a ∈ fps.flatten ∨ a = D ∨ ex a) Hi (upd H4 D (.lst (vs ++ [v]))) := by
                refine ⟨fun a xs h => ?_, fun a xs hn h => ?_⟩
                · have ha : a ≠ D := fun q => by
                    rw [q] at h
                    rcases h with h | ⟨o, h⟩ <;> rw [hDi] at h <;> cases h
                  have h2 := Same.rd e36 h
                  rcases h2 with h2 | ⟨o, h2⟩
                  · exact .inl (by rw [upd_ne ha]; exact h2)
                  · exact .inr ⟨o, by rw [upd_ne ha]; exact h2⟩
                · have ha : a ≠ D := fun q => hn (.inr (.inl q))
                  have h2 := Same.rd e36 h
                  rcases h2 with h2 | ⟨o, h2⟩
                  · exact .inl (by rw [upd_ne ha]; exact h2)
                  · exact .inr ⟨o, by rw [upd_ne ha]; exact h2⟩
              have kp2 : Keep (fun a => a ∈ fq ∨ (a ∈ fps.flatten ∨ a = D ∨ ex a)) H4 (upd H4 D (.lst (vs ++ [v]))) := by
                refine ⟨fun a xs h => ?_, fun a xs hn h => ?_⟩
                · have ha : a ≠ D := fun q => by
                    rw [q] at h
                    rcases h with h | ⟨o, h⟩ <;> rw [hD4] at h <;> cases h
                  rcases h with h2 | ⟨o, h2⟩
                  · exact .inl (by rw [upd_ne ha]; exact h2)
                  · exact .inr ⟨o, by rw [upd_ne ha]; exact h2⟩
                · have ha : a ≠ D := fun q => hn (.inr (.inr (.inl q)))
                  rcases h with h2 | ⟨o, h2⟩
                  · exact .inl (by rw [upd_ne ha]; exact h2)
                  · exact .inr ⟨o, by rw [upd_ne ha]; exact h2⟩
              have mem : ∀ a, a ∈ (fps ++ [fq]).flatten ↔ a ∈ fps.flatten ∨ a ∈ fq := fun a => by
                rw [List.flatten_append, List.mem_append]
                simp
              refine ⟨m - 1, by omega, by omega, fun b o h => ?_, vs ++ [v], fps ++ [fq], ys ++ [y], rest', upd_same, P3.app ?_ (.cons ?_ .nil), ?_, fun a ha => ?_, by rw [List.length_append]; simp; omega, by rw [eall, er, List.append_assoc]; rfl, rfl⟩
              · have hb : b ≠ D := fun q => by
                  rw [q, hD] at h
                  cases h
                rw [upd_ne hb]
                exact e36 _ _ (e2 _ _ h)
              · refine P3.keep kp (fun a h => ?_) (fun a ha o q => ?_) hP
                · rcases h with h | h
                  · rcases (mem a).mp h with h | h
                    · exact .inl (.inl h)
                    · exact .inr (fqI a h)
                  · exact .inl (.inr h)
                · rw [upd_ne (fr a ha).2]
                  exact e36 _ _ q
              · refine RO.keep kp2 (fun a h => ?_) (fun a ha o q => ?_) ro
                · rcases h with h | h
                  · rcases (mem a).mp h with h | h
                    · exact .inl (.inr (.inl h))
                    · exact .inl (.inl h)
                  · exact .inl (.inr (.inr h))
                · rw [upd_ne (fqD a ha)]
                  exact q
              · rw [List.flatten_append]
                refine List.nodup_append.mpr ⟨nod, by simpa using nd, fun a ha b hb q => ?_⟩
                have hb : b ∈ fq := by simpa using hb
                rw [← q] at hb
                exact P3.there hP ha (fqI a hb)
              · rcases (mem a).mp ha with ha | ha
                · exact fr a ha
                · exact ⟨e2.free (fqI a ha), fqD a ha⟩
  · have ei : i = ds.length := by omega
    rw [ei, List.drop_length, lcE] at erest
    have er : rest = [] := by cases erest; rfl
    rw [er, List.append_nil] at eall
    have hm : m = 0 := by omega
    refine .inl ⟨by rw [ei]; exact itn.stop ex Hi ⟨rg.1.same e2, rg.2.same e2⟩, ?_⟩
    have hvl : ys.length = vs.length := P3.length hP
    have hln := itn.len
    refine q (.ref D) Hi (D :: fps.flatten) (e1.trans e2) ?_ (List.nodup_cons.mpr ⟨fun h => (fr D h).2 rfl, nod⟩) fun a ha => ?_
    · rw [eall, RO]
      refine ⟨D, vs, fps, rfl, ⟨hDi, by omega⟩, rfl, P3.keep (Keep.same (Same.refl Hi)) (fun a h => .inl ?_) (fun _ _ _ h => h) hP⟩
      rcases h with h | h
      · rcases List.mem_cons.mp h with h | h
        · exact .inr (.inl h)
        · exact .inl h
      · exact .inr (.inr h)
    · rcases List.mem_cons.mp ha with h | h
      · rw [h]
        exact hDH
      · exact e1.free (fr a h).1
end
end Px

namespace Px
open PySem PySem.Spec PyProof.Rows L2

section
variable {X : Cx} {W : WX} {L : List Nat} {k : Nat} {fI : Env → Res (List D)} {gf : Env → D → Res Env} {ft : Env → Res Bool} {f : EF} {g : TG} {is : List Nat} {elt tg iter c : Expr} {ifs : List Expr} {scope : Scope} {own : List (Str × Nat)} {pos : Pos}
abbrev ETs (X : Cx) (W : WX) (L : List Nat) (ifs : List Expr) (f : Env → Res Bool) : Prop := PTs X ifs (tT X W L f)
def bYes : Env → Res Bool := fun _ => .ok true
theorem PTs.imp {X : Cx} {ifs : List Expr} {t t' : TT} (h : PTs X ifs t) (m : ∀ σ H Q, t' σ H Q → t σ H Q) : PTs X ifs t' := ⟨fun pins s σ H Q I q => h.run pins s σ H Q I (m σ H Q q)⟩
theorem ets_nil : ETs X W L [] bYes := PTs.imp pts_nil fun σ H Q ⟨ex, ρ, fp, I, o⟩ => o H (Same.refl H)
theorem ets_one (h : ET X W L c ft) : ETs X W L [c] ft := pts_one h
theorem eo_lc (hc : X.calm = true) (hN : X.N.Nodup) (hi : EI X W L 1 tg iter fI) (ok : BlkOk X.N X.env.scope scope own)
    (hg : ∀ (s : Shared) (H : Hp) (C : Addr) (cl : List (Str × Addr)) (fp : List Addr), PG (X.blk s H scope (compEnvC scope cl C X.env) fp) tg g)
    (ht : ∀ (s : Shared) (H : Hp) (C : Addr) (cl : List (Str × Addr)) (fp : List Addr), ETs (X.blk s H scope (compEnvC scope cl C X.env) fp) W0 L ifs ft)
    (he : ∀ (s : Shared) (H : Hp) (C : Addr) (cl : List (Str × Addr)) (fp : List Addr), EO (X.blk s H scope (compEnvC scope cl C X.env) fp) W0 L k elt f)
    (gs : GSem X.K g gf is) (hs : ∀ i ∈ is, i ∈ own.map (·.2)) (hL : ∀ i ∈ is, L.getD i 0 = 0) (hfs : ∀ x, foldedSetIterable iter X.env x = pure x := by intro _; rfl) :
    EO X W L (k + 1) (.ListComp elt [⟨tg, iter, ifs, 0⟩] scope pos) (eLc fI (own.map (·.2)) gf ft f) :=
  PE.imp (pe_lc hc hN hi ok hg ht he hfs) fun σ H Q h => lc_imp gs hs hL h
end

/-! ### a def's names -/
section
variable {K : PySem.W.Frag} {H0 H H1 : Hp} {ex0 : AS} {G : List (D × V)} {L : List Nat} {ρ : Env} {σ : L2.St} {fp : Nat → List Addr}
abbrev exOf (fp : Nat → List Addr) (ex0 : AS) : AS := fun a => (∃ i, a ∈ fp i) ∨ ex0 a
theorem SS.up (S : SS K H0 ex0 G L ρ σ H fp) (e : Same H H1) : SS K H0 ex0 G L ρ σ H1 fp := ⟨S.si.same e, S.own, S.old, S.same.trans e, fun g hg => (S.held g hg).same e⟩
theorem SS.tail {g : D × V} (S : SS K H0 ex0 (g :: G) L ρ σ H fp) : SS K H0 ex0 G L ρ σ H fp := ⟨S.si, S.own, S.old, S.same, fun g hg => S.held g (List.mem_cons_of_mem _ hg)⟩
theorem SS.hold {g : D × V} (S : SS K H0 ex0 G L ρ σ H fp) (r : R K (exOf fp ex0) H g.1 g.2) : SS K H0 ex0 (g :: G) L ρ σ H fp := ⟨S.si, S.own, S.old, S.same, fun h hg => by
  rcases List.mem_cons.mp hg with rfl | hg
  · exact r
  · exact S.held h hg⟩
theorem SS.ex_ne (S : SS K H0 ex0 G L ρ σ H fp) {i : Nat} {a : Addr} (h : a ∈ fp i) : ¬ ex0 a := fun q => S.old a q (S.own i a h)
/-- another division of what is owned; nothing in the heap changes -/
theorem SS.re (S : SS K H0 ex0 G L ρ σ H fp) {L' : List Nat} {ρ' : Env} {σ' : L2.St} {fp' : Nat → List Addr} (e : Same H H1) (len : ρ'.length = σ'.length)
    (val : ∀ i d, ρ'[i]? = some (some d) → ∃ v, σ'[i]? = some (some v) ∧ RO K (exOf fp' ex0) H1 (L'.getD i 0) d v (fp' i)) (nod : ∀ i, (fp' i).Nodup) (dis : ∀ i j a, a ∈ fp' i → a ∈ fp' j → i = j)
    (new : ∀ i a, a ∈ fp' i → a ∈ fp i ∨ H a = none) (there : ∀ i a, a ∈ fp' i → H1 a ≠ none) : SS K H0 ex0 G L' ρ' σ' H1 fp' where
  si := ⟨len, val, nod, dis, fun i a h => .inl ⟨i, h⟩, fun a h q => by
    rcases h with ⟨i, h⟩ | h
    · exact there i a h q
    · exact S.si.ext a (.inr h) (e.free q)⟩
  own := fun i a h => by
    rcases new i a h with q | q
    · exact S.own i a q
    · exact S.same.free q
  old := S.old
  same := S.same.trans e
  held := fun g hg => R.keep (Keep.same e) (fun a h => by
    rcases h with ⟨i, h⟩ | h
    · rcases new i a h with q | q
      · exact .inl (.inl ⟨i, q⟩)
      · exact .inr q
    · exact .inl (.inr h)) _ (S.held g hg)
theorem getD_set_eq {L : List Nat} {i k : Nat} (h : i < L.length) : (L.set i k).getD i 0 = k := by
  rw [List.getD_eq_getElem?_getD, List.getElem?_set_self h]
  rfl
theorem getD_set_ne {L : List Nat} {i j k : Nat} (h : i ≠ j) : (L.set i k).getD j 0 = L.getD j 0 := by
  rw [List.getD_eq_getElem?_getD, List.getElem?_set_ne h, List.getD_eq_getElem?_getD]
/-- a value, new or shared, is stored -/
theorem SS.put (S : SS K H0 ex0 G L ρ σ H fp) (e : Same H H1) {i k : Nat} {d : D} {v : V} {fq : List Addr} (r : RO K (fun a => a ∈ fq ∨ exOf fp ex0 a) H1 k d v fq) (nd : fq.Nodup) (nw : ∀ a ∈ fq, H a = none) (hi : i < L.length) :
    ∃ fp', SS K H0 ex0 G (L.set i k) (ρ.set i (some d)) (σ.set i (some v)) H1 fp' := by
  have nd2 : ∀ j a, a ∈ fq → a ∈ fp j → False := fun j a h1 h2 => S.si.ext a (.inl ⟨j, h2⟩) (nw a h1)
  refine ⟨fun j => if j = i then fq else fp j, S.re e ?_ (fun j d' h => ?_) (fun j => ?_) (fun j l a h1 h2 => ?_) (fun j a h => ?_) (fun j a h => ?_)⟩
  · rw [List.length_set, List.length_set]
    exact S.si.len
  · by_cases ej : i = j
    · subst ej
      by_cases hl : i < ρ.length
      · rw [List.getElem?_set_self hl] at h
        cases h
        refine ⟨v, List.getElem?_set_self (by rw [← S.si.len]; exact hl), ?_⟩
        rw [getD_set_eq hi, if_pos rfl]
        refine r.less fun a h => .inl ?_
        rcases h with ⟨l, h⟩ | h
        · have h : a ∈ (if l = i then fq else fp l) := h
          split at h
          · exact .inl h
          · exact .inr (.inl ⟨l, h⟩)
        · exact .inr (.inr h)
      · rw [List.getElem?_eq_none (by rw [List.length_set]; omega)] at h
        cases h
    · rw [List.getElem?_set_ne ej] at h
      obtain ⟨u, h1, h2⟩ := S.si.val j d' h
      refine ⟨u, by rw [List.getElem?_set_ne ej]; exact h1, ?_⟩
      rw [getD_set_ne ej]
      show RO K _ H1 _ d' u (if j = i then fq else fp j)
      rw [if_neg (fun q => ej q.symm)]
      refine RO.keep (Keep.same e) (fun a h => ?_) (fun a _ o q => e a o q) h2
      rcases h with ⟨l, h⟩ | h
      · have h : a ∈ (if l = i then fq else fp l) := h
        split at h
        · exact .inr (nw a h)
        · exact .inl (.inl ⟨l, h⟩)
      · exact .inl (.inr h)
  · show (if j = i then fq else fp j).Nodup
    split
    · exact nd
    · exact S.si.nod j
  · have h1 : a ∈ (if j = i then fq else fp j) := h1
    have h2 : a ∈ (if l = i then fq else fp l) := h2
    split at h1
    · split at h2
      · rename_i a1 a2
        rw [a1, a2]
      · exact (nd2 _ _ h1 h2).elim
    · split at h2
      · exact (nd2 _ _ h2 h1).elim
      · exact S.si.dis j l a h1 h2
  · have h : a ∈ (if j = i then fq else fp j) := h
    split at h
    · exact .inr (nw a h)
    · exact .inl h
  · have h : a ∈ (if j = i then fq else fp j) := h
    split at h
    · exact r.there a h
    · exact fun q => S.si.ext a (.inl ⟨j, h⟩) (e.free q)
/-- what a slot owns is given up: others may know it from now on -/
theorem SS.drop (S : SS K H0 ex0 G L ρ σ H fp) (i : Nat) : ∃ fp', SS K H0 ex0 G (L.set i 0) ρ σ H fp' := by
  refine ⟨fun j => if j = i then [] else fp j, S.re (Same.refl H) S.si.len (fun j d' h => ?_) (fun j => ?_) (fun j l a h1 h2 => ?_) (fun j a h => ?_) (fun j a h => ?_)⟩
  · obtain ⟨u, h1, h2⟩ := S.si.val j d' h
    refine ⟨u, h1, ?_⟩
    have le : ∀ a, exOf (fun j => if j = i then [] else fp j) ex0 a → exOf fp ex0 a := fun a h => by
      rcases h with ⟨l, h⟩ | h
      · have h : a ∈ (if l = i then [] else fp l) := h
        split at h
        · cases h
        · exact .inl ⟨l, h⟩
      · exact .inr h
    by_cases ej : i = j
    · subst ej
      have e0 : (L.set i 0).getD i 0 = 0 := by
        by_cases hl : i < L.length
        · exact getD_set_eq hl
        · rw [List.getD_eq_getElem?_getD, List.getElem?_eq_none (by rw [List.length_set]; omega)]
          rfl
      rw [e0, if_pos rfl]
      refine ⟨rfl, h2.shared le fun a ha q => ?_⟩
      rcases q with ⟨l, q⟩ | q
      · have q : a ∈ (if l = i then [] else fp l) := q
        split at q
        · cases q
        · rename_i hl
          exact hl (S.si.dis l i a q ha)
      · exact S.ex_ne ha q
    · rw [getD_set_ne ej]
      show RO K _ H _ d' u (if j = i then [] else fp j)
      rw [if_neg (fun q => ej q.symm)]
      exact h2.less fun a h => .inl (le a h)
  · show (if j = i then [] else fp j).Nodup
    split
    · exact List.nodup_nil
    · exact S.si.nod j
  · have h1 : a ∈ (if j = i then [] else fp j) := h1
    have h2 : a ∈ (if l = i then [] else fp l) := h2
    split at h1
    · cases h1
    · split at h2
      · cases h2
      · exact S.si.dis j l a h1 h2
  · have h : a ∈ (if j = i then [] else fp j) := h
    split at h
    · cases h
    · exact .inl h
  · have h : a ∈ (if j = i then [] else fp j) := h
    split at h
    · cases h
    · exact S.si.ext a (.inl ⟨j, h⟩)
/-- all is given up -/
theorem SS.dropAll (S : SS K H0 ex0 G L ρ σ H fp) : SS K H0 ex0 G [] ρ σ H fun _ => [] := by
  refine S.re (Same.refl H) S.si.len (fun j d' h => ?_) (fun j => List.nodup_nil) (fun j l a h1 h2 => nomatch h1) (fun j a h => nomatch h) (fun j a h => nomatch h)
  obtain ⟨u, h1, h2⟩ := S.si.val j d' h
  refine ⟨u, h1, rfl, h2.shared (fun a h => ?_) fun a ha q => ?_⟩
  · rcases h with ⟨l, h⟩ | h
    · cases h
    · exact .inr h
  · rcases q with ⟨l, q⟩ | q
    · cases q
    · exact S.ex_ne ha q
theorem SS.kill (S : SS K H0 ex0 G L ρ σ H fp) (is : List Nat) : SS K H0 ex0 G L (wipeE ρ is) σ H fp :=
  ⟨⟨by rw [wipeE_length]; exact S.si.len, fun i d h => S.si.val i d (wipeE_some h).1, S.si.nod, S.si.dis, S.si.sub, S.si.ext⟩, S.own, S.old, S.same, S.held⟩
/-- shared values are stored in shared slots -/
theorem SS.sets (S : SS K H0 ex0 G L ρ σ H fp) (l : Sets) (h : ∀ t ∈ l, R K (exOf fp ex0) H t.2.1 t.2.2 ∧ L.getD t.1 0 = 0) : ∃ fp', SS K H0 ex0 G L (setE ρ l) (setS σ l) H fp' := by
  obtain ⟨fp', I', m⟩ := SI.sets l S.si h
  refine ⟨fp', S.re (Same.refl H) I'.len (fun i d hd => ?_) I'.nod I'.dis (fun i a h => .inl (m i a h)) (fun i a h => I'.ext a (I'.sub i a h))⟩
  obtain ⟨v, h1, h2⟩ := I'.val i d hd
  refine ⟨v, h1, h2.less fun a q => .inl ?_⟩
  rcases q with ⟨j, q⟩ | q
  · exact .inl ⟨j, m j a q⟩
  · exact .inr q
/-- the list at a, owned by the slot i, is changed -/
theorem SS.upd (S : SS K H0 ex0 G L ρ σ H fp) (e : Same H H1) {i : Nat} {a : Addr} {vs vs' : List V} {dN : D} {fqN : List Addr} (hσ : σ[i]? = some (some (.ref a))) (ha : a ∈ fp i) (hH : H a = some (.lst vs))
    (r : RO K (exOf (fun j => if j = i then fqN else fp j) ex0) (L2.upd H1 a (.lst vs')) (L.getD i 0) dN (.ref a) fqN) (nd : fqN.Nodup) (nw : ∀ b ∈ fqN, b ∈ fp i ∨ H b = none) :
    SS K H0 ex0 G L (ρ.set i (some dN)) σ (L2.upd H1 a (.lst vs')) fun j => if j = i then fqN else fp j := by
  have hH1 : H1 a = some (.lst vs) := e _ _ hH
  have kp : Keep (exOf fp ex0) H (L2.upd H1 a (.lst vs')) := by
    refine ⟨fun b xs h => ?_, fun b xs hn h => ?_⟩
    · have hb : b ≠ a := fun q => by
        rw [q] at h
        rcases h with h | ⟨o, h⟩ <;> rw [hH] at h <;> cases h
      rcases Same.rd e h with h2 | ⟨o, h2⟩
      · exact .inl (by rw [upd_ne hb]; exact h2)
      · exact .inr ⟨o, by rw [upd_ne hb]; exact h2⟩
    · have hb : b ≠ a := fun q => hn (.inl ⟨i, by rw [q]; exact ha⟩)
      rcases Same.rd e h with h2 | ⟨o, h2⟩
      · exact .inl (by rw [upd_ne hb]; exact h2)
      · exact .inr ⟨o, by rw [upd_ne hb]; exact h2⟩
  have le : ∀ b, exOf (fun j => if j = i then fqN else fp j) ex0 b → exOf fp ex0 b ∨ H b = none := fun b h => by
    rcases h with ⟨l, h⟩ | h
    · have h : b ∈ (if l = i then fqN else fp l) := h
      split at h
      · rcases nw b h with q | q
        · exact .inl (.inl ⟨i, q⟩)
        · exact .inr q
      · exact .inl (.inl ⟨l, h⟩)
    · exact .inl (.inr h)
  have nd2 : ∀ j b, j ≠ i → b ∈ fqN → b ∈ fp j → False := fun j b hj h1 h2 => by
    rcases nw b h1 with q | q
    · exact hj (S.si.dis j i b h2 q)
    · exact S.si.ext b (.inl ⟨j, h2⟩) q
  have free : ∀ b, L2.upd H1 a (.lst vs') b = none → H b = none := fun b q => by
    by_cases hb : b = a
    · rw [hb, upd_same] at q
      cases q
    · rw [upd_ne hb] at q
      exact e.free q
  refine ⟨⟨by rw [List.length_set]; exact S.si.len, fun j d' h => ?_, fun j => ?_, fun j l b h1 h2 => ?_, fun j b h => .inl ⟨j, h⟩, fun b h q => ?_⟩, fun j b h => ?_, S.old, fun b o h => ?_, fun g hg => R.keep kp le _ (S.held g hg)⟩
  · by_cases ej : i = j
    · subst ej
      by_cases hl : i < ρ.length
      · rw [List.getElem?_set_self hl] at h
        cases h
        refine ⟨_, hσ, ?_⟩
        rw [if_pos rfl]
        exact r
      · rw [List.getElem?_eq_none (by rw [List.length_set]; omega)] at h
        cases h
    · rw [List.getElem?_set_ne ej] at h
      obtain ⟨u, h1, h2⟩ := S.si.val j d' h
      refine ⟨u, h1, ?_⟩
      show RO K _ _ _ d' u (if j = i then fqN else fp j)
      rw [if_neg (fun q => ej q.symm)]
      refine RO.keep kp le (fun b hb o q => ?_) h2
      have hba : b ≠ a := fun q => ej (S.si.dis i j a ha (by rw [← q]; exact hb))
      rw [upd_ne hba]
      exact e _ _ q
  · show (if j = i then fqN else fp j).Nodup
    split
    · exact nd
    · exact S.si.nod j
  · have h1 : b ∈ (if j = i then fqN else fp j) := h1
    have h2 : b ∈ (if l = i then fqN else fp l) := h2
    split at h1
    · split at h2
      · rename_i a1 a2
        rw [a1, a2]
      · rename_i hl
        exact (nd2 _ _ hl h1 h2).elim
    · split at h2
      · rename_i hj _
        exact (nd2 _ _ hj h2 h1).elim
      · exact S.si.dis j l b h1 h2
  · rcases h with ⟨l, h⟩ | h
    · have h : b ∈ (if l = i then fqN else fp l) := h
      split at h
      · exact r.there b h q
      · exact S.si.ext b (.inl ⟨l, h⟩) (free b q)
    · exact S.si.ext b (.inr h) (free b q)
  · have h : b ∈ (if j = i then fqN else fp j) := h
    split at h
    · rcases nw b h with q | q
      · exact S.own i b q
      · exact S.same.free q
    · exact S.own j b h
  · have hb : b ≠ a := fun q => by
      have := S.own i a ha
      rw [q, this] at h
      cases h
    rw [upd_ne hb]
    exact e _ _ (S.same _ _ h)
end
end Px

namespace Px
open PySem PySem.Spec PyProof.Rows L2

/-! ### statements -/
/-- an outcome's wish -/
def FOut (X : Cx) (W : WX) (kr : Nat) (Lb L' : List Nat) (ex0 : AS) (G : List (D × V)) (Dn : Ends) (r : Flow) : Prop := match r with
  | .next ρ' => ∀ σ' H' fp', SS X.K X.H_0 ex0 G L' ρ' σ' H' fp' → Dn.nx σ' H'
  | .brk ρ' => ∀ σ' H' fp', SS X.K X.H_0 ex0 G Lb ρ' σ' H' fp' → Dn.bk σ' H'
  | .cont ρ' => ∀ σ' H' fp', SS X.K X.H_0 ex0 G Lb ρ' σ' H' fp' → Dn.ct σ' H'
  | .ret d => ∀ v H' fq, Same X.H_0 H' → RO X.K (fun a => a ∈ fq ∨ ex0 a) H' kr d v fq → fq.Nodup → (∀ a ∈ fq, X.H_0 a = none) → Dn.rt v H'
  | .exc c ρ' => ∀ C, X.mg c = some (.ref C) → ∀ σ' H' fp', SS X.K X.H_0 ex0 G [] ρ' σ' H' fp' → W (.ref C) none σ' H'
  | .err => False
def tS (X : Cx) (W : WX) (kr : Nat) (Lb L L' : List Nat) (F : SF) : TS := fun Dn σ H => ∃ ex0 G ρ fp, SS X.K X.H_0 ex0 G L ρ σ H fp ∧ FOut X W kr Lb L' ex0 G Dn (F ρ)
abbrev SJ (X : Cx) (W : WX) (kr : Nat) (Lb L L' : List Nat) (st : Stmt) (F : SF) : Prop := PS X st (tS X W kr Lb L L' F)
abbrev SJs (X : Cx) (W : WX) (kr : Nat) (Lb L L' : List Nat) (st : List Stmt) (F : SF) : Prop := PSs X st (tS X W kr Lb L L' F)
def sNext : SF := fun ρ => .next ρ
def sSeq (F G : SF) : SF := fun ρ => match F ρ with
  | .next ρ' => G ρ'
  | r => r
/-- an expression's outcome, then a statement's -/
def Res.flow {α : Type} (r : Res α) (ρ : Env) (k : α → Flow) : Flow := match r with
  | .ok a => k a
  | .exc c => .exc c ρ
  | .err => .err
@[simp] theorem flow_ok {α : Type} (a : α) (ρ : Env) (k : α → Flow) : (Res.ok a).flow ρ k = k a := id rfl
@[simp] theorem flow_exc {α : Type} (c : Str) (ρ : Env) (k : α → Flow) : (Res.exc c : Res α).flow ρ k = .exc c ρ := id rfl
@[simp] theorem flow_err {α : Type} (ρ : Env) (k : α → Flow) : (Res.err : Res α).flow ρ k = .err := id rfl
section
variable {X : Cx} {W : WX} {kr n m k : Nat} {Lb L L1 Lc : List Nat} {st : Stmt} {sts a b : List Stmt} {F G : SF} {e c : Expr} {f : EF} {ft : Env → Res Bool} {pos : Pos}
theorem FOut.nx {L' : List Nat} {ex0 : AS} {Gs : List (D × V)} {Dn : Ends} {nx : L2.St → Hp → Prop} {r : Flow} (h : FOut X W kr Lb L' ex0 Gs Dn r) (hn : ∀ ρ', r ≠ .next ρ') : FOut X W kr Lb L1 ex0 Gs { Dn with nx := nx } r := by
  cases r with
  | next ρ' => exact absurd rfl (hn ρ')
  | _ => exact h
/-- an expression ahead of the rest of a statement -/
theorem flow_out {α : Type} {r : Res α} {ρ : Env} {σ : L2.St} {H : Hp} {fp : Nat → List Addr} {L' : List Nat} {ex0 : AS} {Gs : List (D × V)} {Dn : Ends} {kk : α → Flow} (S : SS X.K X.H_0 ex0 Gs L ρ σ H fp) (h : FOut X W kr Lb L' ex0 Gs Dn (r.flow ρ kk)) :
    Out X W σ H r fun a => FOut X W kr Lb L' ex0 Gs Dn (kk a) := by
  cases r with
  | ok a => exact h
  | exc c => exact fun C hC H' e => h C hC σ H' _ (S.dropAll.up e)
  | err => exact h
theorem sjs_nil : SJs X W kr Lb L L [] sNext := PSs.imp pss_nil fun Dn σ H ⟨ex0, Gs, ρ, fp, S, o⟩ => o σ H fp S
theorem sjs_cons (h1 : SJ X W kr Lb L L1 st F) (h2 : SJs X W kr Lb L1 Lc sts G) : SJs X W kr Lb L Lc (st :: sts) (sSeq F G) := PSs.imp (pss_cons h1 h2) fun Dn σ H ⟨ex0, Gs, ρ, fp, S, o⟩ => by
  refine ⟨ex0, Gs, ρ, fp, S, ?_⟩
  unfold sSeq at o
  cases q : F ρ with
  | next ρ' =>
    rw [q] at o
    exact fun σ' H' fp' S' => ⟨ex0, Gs, ρ', fp', S', o⟩
  | _ =>
    rw [q] at o
    exact o
theorem sjs_one (h1 : SJ X W kr Lb L L1 st F) : SJs X W kr Lb L L1 [st] F := pss_one h1
/-- a slot's list is known to others from here on -/
theorem sjs_drop (i : Nat) (h : SJs X W kr Lb (L.set i 0) L1 sts F) : SJs X W kr Lb L L1 sts F := PSs.imp h fun Dn σ H ⟨ex0, Gs, ρ, fp, S, o⟩ => by
  obtain ⟨fp', S'⟩ := S.drop i
  exact ⟨ex0, Gs, ρ, fp', S', o⟩
/-- slots are forgotten -/
def sKill (is : List Nat) (F : SF) : SF := fun ρ => F (wipeE ρ is)
theorem sjs_kill (is : List Nat) (h : SJs X W kr Lb L L1 sts F) : SJs X W kr Lb L L1 sts (sKill is F) := PSs.imp h fun Dn σ H ⟨ex0, Gs, ρ, fp, S, o⟩ => ⟨ex0, Gs, _, fp, S.kill is, o⟩
theorem sj_pass : SJ X W kr Lb L L (.Pass pos) sNext := PS.imp ps_pass fun Dn σ H ⟨ex0, Gs, ρ, fp, S, o⟩ => o σ H fp S
def sBreak : SF := fun ρ => .brk ρ
def sCont : SF := fun ρ => .cont ρ
theorem sj_break : SJ X W kr L L L1 (.Break pos) sBreak := PS.imp ps_break fun Dn σ H ⟨ex0, Gs, ρ, fp, S, o⟩ => o σ H fp S
theorem sj_cont : SJ X W kr L L L1 (.Continue pos) sCont := PS.imp ps_continue fun Dn σ H ⟨ex0, Gs, ρ, fp, S, o⟩ => o σ H fp S
def sRet (f : EF) : SF := fun ρ => (f ρ).flow ρ fun d => .ret d
theorem sj_ret (h : EO X W L kr e f) : SJ X W kr Lb L L1 (.Return (some e) pos) (sRet f) := PS.imp (ps_ret h) fun Dn σ H ⟨ex0, Gs, ρ, fp, S, o⟩ =>
  ⟨_, ρ, fp, S.si, (flow_out S o).mono fun d q v H' fq e r nd nw => q v H' fq (S.same.trans e) (r.less fun a h => .inl (by
    rcases h with h | h
    · exact .inl h
    · exact .inr (.inr h))) nd fun a ha => S.same.free (nw a ha)⟩
def sRetN : SF := fun _ => .ret .non
theorem sj_retN : SJ X W kr Lb L L1 (.Return none pos) sRetN := PS.imp ps_retN fun Dn σ H ⟨ex0, Gs, ρ, fp, S, o⟩ =>
  o .non H [] S.same (RO.flat (by rw [R]) rfl) List.nodup_nil fun a h => nomatch h
def sDrop (f : EF) : SF := fun ρ => (f ρ).flow ρ fun _ => .next ρ
theorem sj_expr (h : EB X W L n e f) (hs : swapsWith e none pos.line X.env = pure false := by rfl) : SJ X W kr Lb L L (.Expr e pos) (sDrop f) := PS.imp (ps_expr h hs) fun Dn σ H ⟨ex0, Gs, ρ, fp, S, o⟩ =>
  ⟨_, ρ, fp, S.si, (flow_out S o).mono fun d q v H' e r => q σ H' fp (S.up e)⟩
def sIf (t : Env → Res Bool) (F G : SF) : SF := fun ρ => (t ρ).flow ρ fun b => if b = true then F ρ else G ρ
theorem sj_if (hc : ET X W L c ft) (ha : SJs X W kr Lb L L1 a F) (hb : SJs X W kr Lb L L1 b G) : SJ X W kr Lb L L1 (.If c a b pos) (sIf ft F G) := PS.imp (ps_if hc ha hb) fun Dn σ H ⟨ex0, Gs, ρ, fp, S, o⟩ =>
  ⟨_, ρ, fp, S.si, (flow_out S o).mono fun t q H' e => by
    cases t with
    | true => exact ⟨ex0, Gs, ρ, fp, S.up e, q⟩
    | false => exact ⟨ex0, Gs, ρ, fp, S.up e, q⟩⟩
/-- x = e -/
def sSet (i : Nat) (f : EF) : SF := fun ρ => (f ρ).flow ρ fun d => .next (ρ.set i (some d))
theorem asg_imp {i k : Nat} (hi : i < L.length) {Dn : Ends} {σ : L2.St} {H : Hp} (h : tS X W kr Lb L (L.set i k) (sSet i f) Dn σ H) : tAsg (tO X W L k f) (gName i) Dn σ H := by
  obtain ⟨ex0, Gs, ρ, fp, S, o⟩ := h
  refine ⟨_, ρ, fp, S.si, (flow_out S o).mono fun d q v H' fq e r nd nw => ?_⟩
  obtain ⟨fp', S'⟩ := S.put e r nd nw hi
  exact q _ _ _ S'
theorem sj_set {i k : Nat} {x : Str} {pos' : Pos} (hN : X.N.Nodup) (hx' : X.N[i]? = some x) (hx : Loc X.env.scope x) (he : EO X W L k e f) (hi : i < L.length) (hs : swapsWith e (some (.Name x pos')) pos.line X.env = pure false := by rfl)
    (hf : X.fn x = true ∨ X.env.scope.names.lookup x = some .local := by first | exact .inl rfl | exact .inr rfl | assumption) : SJ X W kr Lb L (L.set i k) (.Assign [.Name x pos'] e pos) (sSet i f) :=
  PS.imp (ps_set hN hx' hx he hs hf) fun Dn σ H h => asg_imp hi h
/-- x = [.. for ..] where the model stores within the comprehension -/
theorem sj_setLc {i k : Nat} {y : Str} {py spos : Pos} {elt tg iter : Expr} {ifs : List Expr} {scope : Scope} {own : List (Str × Nat)} {fI : Env → Res (List D)} {gf : Env → D → Res Env} {g : TG} {is : List Nat}
    (hc : X.calm = true) (hN : X.N.Nodup) (hy : X.N[i]? = some y) (hyl : X.env.scope.names.lookup y = some .local) (hi' : i < L.length)
    (hsw : swapsWith (.ListComp elt [⟨tg, iter, ifs, 0⟩] scope pos) (some (.Name y py)) spos.line X.env = pure true) (hi : EI X W L 1 tg iter fI) (ok : BlkOk X.N X.env.scope scope own)
    (hg : ∀ (s : Shared) (H : Hp) (C : Addr) (cl : List (Str × Addr)) (fp : List Addr), PG (X.blk s H scope (compEnvC scope cl C X.env) fp) tg g)
    (ht : ∀ (s : Shared) (H : Hp) (C : Addr) (cl : List (Str × Addr)) (fp : List Addr), ETs (X.blk s H scope (compEnvC scope cl C X.env) fp) W0 L ifs ft)
    (he : ∀ (s : Shared) (H : Hp) (C : Addr) (cl : List (Str × Addr)) (fp : List Addr), EO (X.blk s H scope (compEnvC scope cl C X.env) fp) W0 L k elt f)
    (gs : GSem X.K g gf is) (hs : ∀ i ∈ is, i ∈ own.map (·.2)) (hL : ∀ i ∈ is, L.getD i 0 = 0) (hfs : ∀ x, foldedSetIterable iter X.env x = pure x := by intro _; rfl) :
    SJ X W kr Lb L (L.set i (k + 1)) (.Assign [.Name y py] (.ListComp elt [⟨tg, iter, ifs, 0⟩] scope pos) spos) (sSet i (eLc fI (own.map (·.2)) gf ft f)) :=
  PS.imp (ps_setLc (te := tO X W0 L k f) (tt := tT X W0 L ft) hc hN hy hyl hsw hi ok hg ht he hfs) fun Dn σ H h => by
    have h2 := asg_imp hi' h
    exact lc_imp gs hs hL h2
/-- a target that unpacks: shared values to shared slots -/
def sUnp (gf : Env → D → Res Env) (f : EF) : SF := fun ρ => (f ρ).flow ρ fun d => (noX' (gf ρ d)) where
  noX' : Res Env → Flow
    | .ok ρ' => .next ρ'
    | _ => .err
theorem sj_unp {tg : Expr} {g : TG} {gf : Env → D → Res Env} {is : List Nat} (hg : PG X tg g) (gs : GSem X.K g gf is) (he : EB X W L 0 e f) (hL : ∀ i ∈ is, L.getD i 0 = 0) (hs : swapsWithSole [tg] e pos.line X.env = pure false := by rfl) (hw : swappedStores [tg] e X.env = pure none := by rfl)
    (h1 : (assignEach [tg] X.env).map (·.2) = [assign tg X.env] := by rfl) : SJ X W kr Lb L L (.Assign [tg] e pos) (sUnp gf f) :=
  PS.imp (ps_asg he hg hs hw h1) fun Dn σ H ⟨ex0, Gs, ρ, fp, S, o⟩ => ⟨_, ρ, fp, S.si, (flow_out S o).mono fun d q v H' e r => by
    cases hg : gf ρ d with
    | ok ρ' =>
      rw [hg] at q
      refine gs _ v σ H' _ d ρ ρ' r hg fun l hl e2 => ?_
      obtain ⟨fp', S'⟩ := (S.up e).sets l fun t ht => ⟨(hl t ht).1, hL _ (hl t ht).2⟩
      rw [← e2] at S'
      exact q _ _ _ S'
    | exc c =>
      rw [hg] at q
      exact q.elim
    | err =>
      rw [hg] at q
      exact q.elim⟩
/-- x += e, of ints and texts -/
def sAug (o : D → D → Res D) (i : Nat) (f : EF) : SF := fun ρ => (eVar i ρ).flow ρ fun a => (f ρ).flow ρ fun b => match o a b with
  | .ok d => .next (ρ.set i (some d))
  | _ => .err
theorem sj_aug {op : Operator} {o : D → D → Res D} {i : Nat} {x : Str} {pos' : Pos} (hN : X.N.Nodup) (hx' : X.N[i]? = some x) (hx : Loc X.env.scope x) (ho : Op2 X 0 0 0 (inplaceOp op) o) (he : EB X W L 0 e f) (hi : i < L.length) (hL : L.getD i 0 = 0)
    (hf : X.fn x = true ∨ X.env.scope.names.lookup x = some .local := by first | exact .inl rfl | exact .inr rfl | assumption) : SJ X W kr Lb L (L.set i 0) (.AugAssign (.Name x pos') op e pos) (sAug o i f) :=
  PS.imp (ps_aug hN hx' hx he ho hf) fun Dn σ H ⟨ex0, Gs, ρ, fp, S, q⟩ => by
    unfold sAug at q
    cases ev : eVar i ρ with
    | exc c =>
      unfold eVar at ev
      split at ev <;> cases ev
    | err =>
      rw [ev] at q
      exact q.elim
    | ok d0 =>
      rw [ev, flow_ok] at q
      have hρ : ρ.getD i none = some d0 := by
        unfold eVar at ev
        split at ev
        · rename_i d hd
          cases ev
          exact hd
        · cases ev
      obtain ⟨v0, h1, h2⟩ := S.si.val i d0 (getD_some hρ)
      rw [hL] at h2
      refine ⟨v0, h1, _, ρ, fp, S.si, (flow_out S q).mono fun d1 q1 v1 H1 e1 r1 => ?_⟩
      cases ed : o d0 d1 with
      | ok d =>
        rw [ed] at q1
        refine ⟨_, d0, d1, d, (S.si.same e1).ext, (show R X.K _ H1 d0 v0 from h2.2.same e1), r1, ed, fun v H2 fq e2 ro nd nw => ?_⟩
        obtain ⟨fp', S'⟩ := (S.up e1).put e2 ro nd nw hi
        exact q1 _ _ _ S'
      | exc c =>
        rw [ed] at q1
        exact q1.elim
      | err =>
        rw [ed] at q1
        exact q1.elim

/-! ### loops -/
/-- behind a turn of a loop -/
def loopK (r : Flow) (k : Env → Flow) : Flow := match r with
  | .next ρ => k ρ
  | .cont ρ => k ρ
  | .brk ρ => .next ρ
  | .ret d => .ret d
  | .exc c ρ => .exc c ρ
  | .err => .err
@[simp] theorem loopK_next (ρ : Env) (k : Env → Flow) : loopK (.next ρ) k = k ρ := id rfl
@[simp] theorem loopK_cont (ρ : Env) (k : Env → Flow) : loopK (.cont ρ) k = k ρ := id rfl
@[simp] theorem loopK_brk (ρ : Env) (k : Env → Flow) : loopK (.brk ρ) k = .next ρ := id rfl
@[simp] theorem loopK_ret (d : D) (k : Env → Flow) : loopK (.ret d) k = .ret d := id rfl
@[simp] theorem loopK_exc (c : Str) (ρ : Env) (k : Env → Flow) : loopK (.exc c ρ) k = .exc c ρ := id rfl
@[simp] theorem loopK_err (k : Env → Flow) : loopK .err k = .err := id rfl
/-- what may not raise -/
def Res.must {α : Type} (r : Res α) (k : α → Flow) : Flow := match r with
  | .ok a => k a
  | _ => .err
@[simp] theorem must_ok {α : Type} (a : α) (k : α → Flow) : (Res.ok a).must k = k a := id rfl
@[simp] theorem must_exc {α : Type} (c : Str) (k : α → Flow) : (Res.exc c : Res α).must k = .err := id rfl
@[simp] theorem must_err {α : Type} (k : α → Flow) : (Res.err : Res α).must k = .err := id rfl
def forE (gf : Env → D → Res Env) (F : SF) : List D → Env → Flow
  | [], ρ => .next ρ
  | d :: ds, ρ => (gf ρ d).must fun ρ1 => loopK (F ρ1) (forE gf F ds)
def sFor (fI : Env → Res (List D)) (gf : Env → D → Res Env) (F : SF) : SF := fun ρ => (fI ρ).flow ρ fun ds => forE gf F ds ρ
theorem sj_for {tg iter : Expr} {g : TG} {gf : Env → D → Res Env} {is : List Nat} {fI : Env → Res (List D)} {body : List Stmt} (hp : PassesOwn (model X.prog X.w) X.A X.env X.xe) (hc : X.calm = true) (hi : EI X W L 0 tg iter fI) (hg : PG X tg g) (gs : GSem X.K g gf is) (hL : ∀ i ∈ is, L.getD i 0 = 0)
    (hb : SJs X W kr L L L body F) (hs : ∀ x, foldedSetIterable iter X.env x = pure x := by intro _; rfl) : SJ X W kr Lb L L (.For tg iter body [] pos) (sFor fI gf F) :=
  PS.imp (ps_for hp hc hi hg hb hs) fun Dn σ H ⟨ex0, Gs, ρ, fp, S, o⟩ => by
    refine ⟨_, ρ, fp, S.si, (flow_out S o).mono fun ds q J H1 gh e1 rg itn => ?_⟩
    refine ⟨fun i m σi Hi => i + m = ds.length ∧ ∃ ρi fpi, SS X.K X.H_0 ex0 (gh.2 :: gh.1 :: Gs) L ρi σi Hi fpi ∧ FOut X W kr Lb L ex0 Gs Dn (forE gf F (ds.drop i) ρi), ⟨ds.length, by omega, ρ, fp, ((S.up e1).hold rg.1).hold rg.2, q⟩, fun i m σi Hi hW => ?_⟩
    obtain ⟨em, ρi, fpi, Si, qi⟩ := hW
    have hold : HR X.K (exOf fpi ex0) Hi 0 gh := ⟨Si.held gh.1 (List.mem_cons_of_mem _ List.mem_cons_self), Si.held gh.2 List.mem_cons_self⟩
    by_cases hi : i < ds.length
    · refine .inr ⟨itn.go _ Hi i hold hi, fun σ' H' => ∃ m', m' < m ∧ i + 1 + m' = ds.length ∧ ∃ ρi fpi, SS X.K X.H_0 ex0 (gh.2 :: gh.1 :: Gs) L ρi σ' H' fpi ∧ FOut X W kr Lb L ex0 Gs Dn (forE gf F (ds.drop (i + 1)) ρi), fun σ' H' h => h, fun x H' hy => ?_⟩
      obtain ⟨d, hd⟩ : ∃ d, ds[i]? = some d := ⟨_, List.getElem?_eq_getElem hi⟩
      obtain ⟨e3, rx⟩ := itn.item _ Hi i d x H' hold hd hy
      have ed : ds.drop i = d :: ds.drop (i + 1) := by
        rw [List.drop_eq_getElem_cons hi]
        congr 1
        rw [List.getElem?_eq_getElem hi] at hd
        exact Option.some.inj hd
      rw [ed, forE] at qi
      cases hgf : gf ρi d with
      | exc c => rw [hgf] at qi; exact qi.elim
      | err => rw [hgf] at qi; exact qi.elim
      | ok ρ1 =>
        rw [hgf, must_ok] at qi
        refine gs _ x σi H' _ d ρi ρ1 rx hgf fun l hl e4 => ?_
        obtain ⟨fp', S'⟩ := (Si.up e3).sets l fun t ht => ⟨(hl t ht).1, hL _ (hl t ht).2⟩
        rw [← e4] at S'
        refine ⟨ex0, gh.2 :: gh.1 :: Gs, ρ1, fp', S', ?_⟩
        cases hF : F ρ1 with
        | next ρ2 =>
          rw [hF] at qi
          exact fun σ2 H2 fp2 S2 => ⟨m - 1, by omega, by omega, ρ2, fp2, S2, qi⟩
        | cont ρ2 =>
          rw [hF] at qi
          exact fun σ2 H2 fp2 S2 => ⟨m - 1, by omega, by omega, ρ2, fp2, S2, qi⟩
        | brk ρ2 =>
          rw [hF] at qi
          exact fun σ2 H2 fp2 S2 => qi σ2 H2 fp2 S2.tail.tail
        | ret d =>
          rw [hF] at qi
          exact qi
        | exc c ρ2 =>
          rw [hF] at qi
          exact fun C hC σ2 H2 fp2 S2 => qi C hC σ2 H2 fp2 S2.tail.tail
        | err =>
          rw [hF] at qi
          exact qi.elim
    · have ei : i = ds.length := by omega
      rw [ei, List.drop_length, forE] at qi
      exact .inl ⟨by rw [ei]; exact itn.stop _ Hi hold, qi σi Hi fpi Si.tail.tail⟩
def whileE (t : Env → Res Bool) (F : SF) : Nat → Env → Flow
  | 0, _ => .err
  | n + 1, ρ => (t ρ).flow ρ fun b => if b = true then loopK (F ρ) (whileE t F n) else .next ρ
def sWhile (n : Nat) (t : Env → Res Bool) (F : SF) : SF := whileE t F n
theorem sj_while {body : List Stmt} (n : Nat) (hp : PassesOwn (model X.prog X.w) X.A X.env X.xe) (hc : ET X W L c ft) (hb : SJs X W kr L L L body F) : SJ X W kr Lb L L (.While c body [] pos) (sWhile n ft F) :=
  PS.imp (ps_while hp hc hb) fun Dn σ H ⟨ex0, Gs, ρ, fp, S, o⟩ => by
    refine ⟨fun m σi Hi => ∃ ρi fpi, SS X.K X.H_0 ex0 Gs L ρi σi Hi fpi ∧ FOut X W kr Lb L ex0 Gs Dn (whileE ft F m ρi), ⟨n, ρ, fp, S, o⟩, fun m σi Hi hW => ?_⟩
    obtain ⟨ρi, fpi, Si, qi⟩ := hW
    cases m with
    | zero => exact qi.elim
    | succ m =>
      rw [whileE] at qi
      refine ⟨_, ρi, fpi, Si.si, (flow_out Si qi).mono fun t q H' e => ?_⟩
      cases t with
      | false =>
        rw [if_neg Bool.false_ne_true] at q ⊢
        exact q σi H' fpi (Si.up e)
      | true =>
        rw [if_pos rfl] at q ⊢
        refine ⟨fun σ2 H2 => ∃ ρ2 fp2, SS X.K X.H_0 ex0 Gs L ρ2 σ2 H2 fp2 ∧ FOut X W kr Lb L ex0 Gs Dn (whileE ft F m ρ2), fun σ2 H2 h => ⟨m, Nat.lt_succ_self m, h⟩, ex0, Gs, ρi, fpi, Si.up e, ?_⟩
        cases hF : F ρi with
        | next ρ2 =>
          rw [hF] at q
          exact fun σ2 H2 fp2 S2 => ⟨ρ2, fp2, S2, q⟩
        | cont ρ2 =>
          rw [hF] at q
          exact fun σ2 H2 fp2 S2 => ⟨ρ2, fp2, S2, q⟩
        | brk ρ2 =>
          rw [hF] at q
          exact q
        | ret d =>
          rw [hF] at q
          exact q
        | exc c ρ2 =>
          rw [hF] at q
          exact q
        | err =>
          rw [hF] at q
          exact q.elim
end
end Px

namespace Px
open PySem PySem.Spec PyProof.Rows L2

/-! ### defs -/
/-- the promise of a def that does C -/
def Spec (K : PySem.W.Frag) (mg : Str → Option Value) (ar kr : Nat) (C : List D → Res D) : Sp := fun vs H Q E => vs.length = ar ∧ ∃ ex ds, (∀ a, ex a → H a ≠ none) ∧ Paired (R K ex H) ds vs ∧ match C ds with
  | .ok d => QO K ex H kr Q d
  | .exc c => ∀ Cl, mg c = some (.ref Cl) → ∀ H', Same H H' → E (.ref Cl) none H'
  | .err => False
def startE (n : Nat) (ds : List D) : Env := ds.map some ++ List.replicate (n - ds.length) none
/-- a body's meaning as a function of its arguments -/
def fnE (n : Nat) (F : SF) (ds : List D) : Res D := match F (startE n ds) with
  | .ret d => .ok d
  | .next _ => .ok .non
  | .exc c _ => .exc c
  | _ => .err
theorem start_val {K : PySem.W.Frag} {ex : AS} {H : Hp} {N : List Str} {ds : List D} {vs : List V} (h : Paired (R K ex H) ds vs) : ∀ (i : Nat) (d : D), (startE N.length ds)[i]? = some (some d) → ∃ v : V, (L2.start N vs)[i]? = some (some v) ∧ R K ex H d v := by
  intro i d e
  unfold startE at e
  unfold L2.start
  by_cases hi : i < ds.length
  · rw [List.getElem?_append_left (by rw [List.length_map]; exact hi), List.getElem?_map] at e
    cases q : ds[i]? with
    | none => rw [q] at e; cases e
    | some d' =>
      rw [q] at e
      cases e
      obtain ⟨v, h1, h2⟩ := Paired.get h q
      refine ⟨v, ?_, h2⟩
      rw [List.getElem?_append_left (by rw [List.length_map, ← h.length]; exact hi), List.getElem?_map, h1]
      rfl
  · rw [List.getElem?_append_right (by rw [List.length_map]; omega), List.getElem?_replicate] at e
    split at e <;> cases e
theorem getD_rep0 (n i : Nat) : (List.replicate n 0).getD i 0 = 0 := by
  rw [List.getD_eq_getElem?_getD, List.getElem?_replicate]
  split <;> rfl
section
variable {P : Program} {w : World} {K : PySem.W.Frag} {mg : Str → Option Value} {base : Heap}
theorem fn_ok {x qual : Str} {st : Stmt} {f : Addr} {fd : FuncData} {N ps : List Str} {k kr ar nN : Nat} {L L' : List Nat} {FF : SF} {C : List D → Res D} (F : Fun K x qual st f fd) (S : FnScope N ps (defScope st)) (hn : nN = N.length) (har : ar = ps.length) (hL0 : L = List.replicate nN 0) (hC : C = fnE nN FF)
    (h : ∀ (cdv : Value) (A : Around) (outer : List PySem.Env) (s : Shared) (H : Hp) (E : XK), Room k (A.deeper (envOfC qual (defScope st) s.heap.objs.size f cdv)) →
      SJs (cxOf (L2.CX P w) P w K mg base N qual (defScope st) f cdv A outer s H E) (fun cls d _ H => E cls d H) kr [] L L' (defBody st) FF) :
    FnOk P w K mg base (L2.CX P w) (k + 1) f fd ps (Spec K mg ar kr C) := by
  subst hn har hL0 hC
  refine F.okX S (fun vs H Q E h => h.1) (fun cdv A outer s H vs Q E hr hsp => ⟨_, h cdv A outer s H E hr, ?_⟩)
  obtain ⟨hl, ex, ds, ext, r, q⟩ := hsp
  have e0 : ∀ a, exOf (fun _ => []) ex a → ex a := fun a z => by
    rcases z with ⟨_, z⟩ | z
    · cases z
    · exact z
  have hlen := r.length
  have SSi : SS K H ex [] (List.replicate N.length 0) (startE N.length ds) (L2.start N vs) H fun _ => [] := by
    refine ⟨⟨?_, fun i d e => ?_, fun i => List.nodup_nil, fun i j a z => (nomatch z), fun i a z => (nomatch z), fun a z => ext a (e0 a z)⟩, fun i a z => (nomatch z), ext, Same.refl H, fun g z => (nomatch z)⟩
    · unfold startE L2.start
      simp [hlen]
    · obtain ⟨v, h1, h2⟩ := start_val r i d e
      exact ⟨v, h1, by rw [getD_rep0]; exact ⟨rfl, h2.less fun a z => .inl (e0 a z)⟩⟩
  refine ⟨ex, [], startE N.length ds, fun _ => [], SSi, ?_⟩
  unfold fnE at q
  unfold FOut
  cases hF : FF (startE N.length ds) with
  | next ρ' =>
    rw [hF] at q
    intro σ' H' fp' S'
    exact q .non H' [] S'.same (RO.flat (by rw [R]) rfl) List.nodup_nil fun a z => nomatch z
  | ret d =>
    rw [hF] at q
    exact q
  | exc c ρ' =>
    rw [hF] at q
    exact fun C hC σ' H' fp' S' => q C hC H' S'.same
  | brk ρ' =>
    rw [hF] at q
    exact q.elim
  | cont ρ' =>
    rw [hF] at q
    exact q.elim
  | err =>
    rw [hF] at q
    exact q.elim
end
section
variable {X : Cx} {W : WX} {L : List Nat} {n m k kr : Nat} {pos p : Pos} {e : Expr} {es : List Expr} {f : Addr} {fd : FuncData} {ps : List Str} {x : Str} {C : List D → Res D} {fs : Env → Res (List D)}
theorem eo_call (F : FnOk X.prog X.w X.K X.mg X.base (L2.CX X.prog X.w) k f fd ps (Spec X.K X.mg m kr C)) (hr : Room k X.A) (hg : Gl X x) (hm : X.mg x = some (.ref f)) (hk : PySem.W.keepIn X.K (.ref f) = true) (hb : Binds X.K fd ps []) (tk : Takes X W)
    (ha : EA X W L 0 m (e :: es) fs) (hdb : (x == ("__debug__" : Str)) = false := by decide) (he : starEach (e :: es) X.env = (false, eval e X.env) :: starEach es X.env := by rfl) (hpl : (backTo pos (starEach es X.env)).any (·.1) = false := by rfl) :
    EO X W L kr (.Call (.Name x p) (e :: es) [] pos) (eCall C fs) :=
  PE.imp (pe_callS F hr hg hm hk hb (fun σ => passAt tk σ) ha hdb he hpl) fun σ H Q ⟨ex, ρ, fp, I, o⟩ => ⟨ex, ρ, fp, I, o.bind.mono fun ds q vs H1 e1 r1 hl => by
    refine ⟨hl, ex, ds, (I.same e1).ext, r1, ?_⟩
    cases hC : C ds with
    | ok d =>
      rw [hC] at q
      exact fun v H2 fq e2 ro nd nw => q v H2 fq (e1.trans e2) ro nd fun a ha => e1.free (nw a ha)
    | exc c =>
      rw [hC] at q
      exact fun Cl hCl H' e2 => q Cl hCl H' (e1.trans e2)
    | err =>
      rw [hC] at q
      exact q.elim⟩
mutual
/-- no list within -/
def noL : D → Bool
  | .non => true
  | .bl _ => true
  | .int _ => true
  | .str _ => true
  | .tup xs => noLL xs
  | .lst _ => false
  | .dic _ _ => false
  | .set _ => false
  | .exc _ => false
  | .oth => false
def noLL : List D → Bool
  | [] => true
  | d :: ds => noL d && noLL ds
end
theorem noLL_all : ∀ xs : List D, noLL xs = xs.all noL
  | [] => by rw [noLL, List.all_nil]
  | x :: xs => by rw [noLL, List.all_cons, noLL_all xs]
mutual
theorem R.any {K : PySem.W.Frag} {ex ex' : AS} {H : Hp} : ∀ (d : D) {v : V}, noL d = true → R K ex H d v → R K ex' H d v
  | .non, _, _, h => by
    rw [R] at h ⊢
    exact h
  | .bl _, _, _, h => by
    rw [R] at h ⊢
    exact h
  | .int _, _, _, h => by
    rw [R] at h ⊢
    exact h
  | .str _, _, _, h => by
    rw [R] at h ⊢
    exact h
  | .tup ds, _, n, h => by
    rw [R] at h ⊢
    rw [noL] at n
    obtain ⟨a, xs, e, h1, h2⟩ := h
    exact ⟨a, xs, e, h1, RL.any ds n h2⟩
  | .lst _, _, n, _ => by
    rw [noL] at n
    cases n
  | .dic _ _, _, n, _ => by
    rw [noL] at n
    cases n
  | .set _, _, n, _ => by
    rw [noL] at n
    cases n
  | .exc _, _, n, _ => by
    rw [noL] at n
    cases n
  | .oth, _, n, _ => by
    rw [noL] at n
    cases n
theorem RL.any {K : PySem.W.Frag} {ex ex' : AS} {H : Hp} : ∀ (ds : List D) {vs : List V}, noLL ds = true → RL K ex H ds vs → RL K ex' H ds vs
  | [], _, _, h => by
    rw [RL] at h ⊢
    exact h
  | d :: ds, _, n, h => by
    rw [RL] at h ⊢
    rw [noLL, Bool.and_eq_true] at n
    obtain ⟨v, r, e, h1, h2⟩ := h
    exact ⟨v, r, e, R.any d n.1 h1, RL.any ds n.2 h2⟩
end
/-- borrowed for a look: nothing is owned by anyone -/
theorem RB.look {K : PySem.W.Frag} {ex : AS} {H : Hp} : ∀ {n : Nat} {d : D} {v : V}, RB K ex H n d v → R K (fun _ => False) H d v
  | 0, _, _, h => R.less (fun a q => q.elim) h
  | n + 1, d, v, h => by
    cases d with
    | lst ds =>
      rw [RB] at h
      obtain ⟨a, xs, e, h1, h2⟩ := h
      rw [R]
      exact ⟨a, xs, e, ⟨LsX.of h1.1 fun q => q, h1.2⟩, RL.of (h2.mono fun _ _ q => RB.look q)⟩
    | _ => exact R.less (fun a q => q.elim) (RB.flat h rfl)
/-- a call that only looks at lists that are owned here: what it hands back holds no list -/
def eCallP (C : List D → Res D) (fs : Env → Res (List D)) : EF := fun ρ => fs ρ >>= fun ds => C ds >>= fun d => if noL d = true then .ok d else .err
theorem eo_callP (F : FnOk X.prog X.w X.K X.mg X.base (L2.CX X.prog X.w) k f fd ps (Spec X.K X.mg m kr C)) (hr : Room k X.A) (hg : Gl X x) (hm : X.mg x = some (.ref f)) (hk : PySem.W.keepIn X.K (.ref f) = true) (hb : Binds X.K fd ps []) (tk : Takes X W)
    (ha : EA X W L n m (e :: es) fs) (hdb : (x == ("__debug__" : Str)) = false := by decide) (he : starEach (e :: es) X.env = (false, eval e X.env) :: starEach es X.env := by rfl) (hpl : (backTo pos (starEach es X.env)).any (·.1) = false := by rfl) :
    EB X W L 0 (.Call (.Name x p) (e :: es) [] pos) (eCallP C fs) :=
  PE.imp (pe_callS F hr hg hm hk hb (fun σ => passAt tk σ) ha hdb he hpl) fun σ H Q ⟨ex, ρ, fp, I, o⟩ => ⟨ex, ρ, fp, I, o.bind.mono fun ds q vs H1 e1 r1 hl => by
    refine ⟨hl, fun _ => False, ds, fun a z => z.elim, r1.mono fun _ _ z => RB.look z, ?_⟩
    cases hC : C ds with
    | ok d =>
      rw [hC, Res.bind_ok] at q
      split at q
      · rename_i hn
        intro v H2 fq e2 ro nd nw
        refine q v H2 (e1.trans e2) (show R X.K ex H2 d v from ?_)
        exact R.any d hn (ro.shared (ex' := fun _ => False) (fun a z => z.elim) fun a _ z => z.elim)
      · exact q.elim
    | exc c =>
      rw [hC] at q
      exact fun Cl hCl H' e2 => q Cl hCl H' (e1.trans e2)
    | err =>
      rw [hC] at q
      exact q.elim⟩
end

/-! ### kinds -/
def tyS : D → Option String
  | .non => some "NoneType"
  | .bl _ => some "bool"
  | .int _ => some "int"
  | .str _ => some "str"
  | .tup _ => some "tuple"
  | .lst _ => some "list"
  | _ => none
def isInt : D → Bool
  | .int _ => true
  | .bl _ => true
  | _ => false
def isBool : D → Bool
  | .bl _ => true
  | _ => false
def isStr : D → Bool
  | .str _ => true
  | _ => false
def isTup : D → Bool
  | .tup _ => true
  | _ => false
def isLst : D → Bool
  | .lst _ => true
  | _ => false
def Kind (T : String) (p : D → Bool) : Prop := ∀ d ty, tyS d = some ty → kitB ty T = some (p d)
theorem kind_int : Kind "int" isInt := fun d ty h => by
  cases d <;> cases h
  · exact (show kitB "NoneType" "int" = some false by decide +kernel)
  · exact (show kitB "bool" "int" = some true by decide +kernel)
  · exact (show kitB "int" "int" = some true by decide +kernel)
  · exact (show kitB "str" "int" = some false by decide +kernel)
  · exact (show kitB "tuple" "int" = some false by decide +kernel)
  · exact (show kitB "list" "int" = some false by decide +kernel)
theorem kind_bool : Kind "bool" isBool := fun d ty h => by
  cases d <;> cases h
  · exact (show kitB "NoneType" "bool" = some false by decide +kernel)
  · exact (show kitB "bool" "bool" = some true by decide +kernel)
  · exact (show kitB "int" "bool" = some false by decide +kernel)
  · exact (show kitB "str" "bool" = some false by decide +kernel)
  · exact (show kitB "tuple" "bool" = some false by decide +kernel)
  · exact (show kitB "list" "bool" = some false by decide +kernel)
theorem kind_str : Kind "str" isStr := fun d ty h => by
  cases d <;> cases h
  · exact (show kitB "NoneType" "str" = some false by decide +kernel)
  · exact (show kitB "bool" "str" = some false by decide +kernel)
  · exact (show kitB "int" "str" = some false by decide +kernel)
  · exact (show kitB "str" "str" = some true by decide +kernel)
  · exact (show kitB "tuple" "str" = some false by decide +kernel)
  · exact (show kitB "list" "str" = some false by decide +kernel)
theorem kind_tup : Kind "tuple" isTup := fun d ty h => by
  cases d <;> cases h
  · exact (show kitB "NoneType" "tuple" = some false by decide +kernel)
  · exact (show kitB "bool" "tuple" = some false by decide +kernel)
  · exact (show kitB "int" "tuple" = some false by decide +kernel)
  · exact (show kitB "str" "tuple" = some false by decide +kernel)
  · exact (show kitB "tuple" "tuple" = some true by decide +kernel)
  · exact (show kitB "list" "tuple" = some false by decide +kernel)
theorem kind_lst : Kind "list" isLst := fun d ty h => by
  cases d <;> cases h
  · exact (show kitB "NoneType" "list" = some false by decide +kernel)
  · exact (show kitB "bool" "list" = some false by decide +kernel)
  · exact (show kitB "int" "list" = some false by decide +kernel)
  · exact (show kitB "str" "list" = some false by decide +kernel)
  · exact (show kitB "tuple" "list" = some false by decide +kernel)
  · exact (show kitB "list" "list" = some true by decide +kernel)
theorem RB.ty {K : PySem.W.Frag} {ex : AS} {H : Hp} {n : Nat} {d : D} {v : V} {ty : String} (h : RB K ex H n d v) (e : tyS d = some ty) : TyX K H v (.type ty) := by
  cases d with
  | non =>
    cases e
    rw [h.non]
    exact .base .non
  | bl b =>
    cases e
    rw [h.bl]
    exact .base (.bl b)
  | int b =>
    cases e
    rw [h.int]
    exact .base (.int b)
  | str b =>
    cases e
    rw [h.str]
    exact .base (.str b)
  | tup xs =>
    cases e
    obtain ⟨a, ys, rfl, h1, _⟩ := h.tup
    rcases h1 with (h1 | ⟨o, h1⟩) | ⟨o, its, m, h1, h2, _⟩
    · exact .base (.tup h1)
    · exact .fTuple h1
    · exact .kTuple h1 h2
  | lst xs =>
    cases e
    obtain ⟨a, ys, rfl, h1, _⟩ := h.up.lst
    rcases h1 with (h1 | ⟨o, h1⟩) | ⟨o, its, m, h1, h2, _⟩
    · exact .base (.lst h1)
    · exact .base (.frz h1)
    · exact .kList h1 h2
  | _ => cases e
def dIsi (p : D → Bool) (d : D) : Res D := match tyS d with
  | some _ => .ok (.bl (p d))
  | none => .err
theorem dIsi_nx {p : D → Bool} : NoX1 (dIsi p) := fun a c h => by
  unfold dIsi at h
  split at h <;> cases h
section
variable {X : Cx} {W : WX} {L : List Nat} {n m k kr : Nat} {pos p p2 : Pos} {e : Expr} {f : EF}
theorem eo_isi {T : String} {pr : D → Bool} {t : Str} (hT : Kind T pr) (hg : Gl X "isinstance") (hm : X.mg "isinstance" = none) (hg2 : Gl X t) (hm2 : X.mg t = none) (hv2 : bootBuiltins t = some (.type T)) (he : EB X W L n e f)
    (hn2 : t ≠ "__name__" := by decide) (hdb2 : (t == ("__debug__" : Str)) = false := by decide)
    (hs1 : starEach [e, .Name t p2] X.env = (false, eval e X.env) :: starEach [.Name t p2] X.env := by rfl) (hs2 : starEach [.Name t p2] X.env = (false, eval (.Name t p2) X.env) :: starEach [] X.env := by rfl) (hpl : (backTo pos (starEach [.Name t p2] X.env)).any (·.1) = false := by rfl) :
    EO X W L k (.Call (.Name "isinstance" p) [e, .Name t p2] [] pos) (eUn (dIsi pr) f) :=
  PE.imp (pe_callB call_isi hg hm (by decide +kernel) (pa_cons he (pa_cons (pe_bltn (v := .ty T) hg2 hm2 hv2 rfl hn2 hdb2) pa_nil hs2) hs1) (by decide) (by decide) hs1 hpl) fun σ H Q ⟨ex, ρ, fp, I, o⟩ =>
    ⟨ex, ρ, fp, I, o.bind.mono fun d q v H1 e1 r1 => by
      obtain ⟨z, ez, qz⟩ := no_exc q (dIsi_nx d)
      unfold dIsi at ez
      split at ez
      · rename_i ty hty
        cases ez
        refine ⟨v, .ty T, .type ty, .type T, pr d, rfl, .ty T, r1.ty hty, kit_ty (hT d ty hty), ?_⟩
        exact QO.bl (K := X.K) (ex := ex) (k := k) fun v H2 fq e2 ro nd nw => qz v H2 fq (e1.trans e2) ro nd fun a ha => e1.free (nw a ha)
      · cases ez⟩
end

/-! ### lists that change -/
section
variable {X : Cx} {W : WX} {kr n k : Nat} {Lb L : List Nat} {e : Expr} {f g : EF} {pos apos cpos npos : Pos} {x : Str} {i : Nat}
theorem own_list {K : PySem.W.Frag} {H0 H : Hp} {ex0 : AS} {G : List (D × V)} {ρ : Env} {σ : L2.St} {fp : Nat → List Addr} (S : SS K H0 ex0 G L ρ σ H fp) {xs : List D} (hρ : ρ.getD i none = some (.lst xs)) (hL : L.getD i 0 = k + 1) :
    ∃ a vs fps, σ[i]? = some (some (.ref a)) ∧ H a = some (.lst vs) ∧ vs.length ≤ sizeLine ∧ fp i = a :: fps.flatten ∧ P3 (RO K (exOf fp ex0) H k) xs vs fps := by
  obtain ⟨v, h1, h2⟩ := S.si.val i _ (getD_some hρ)
  rw [hL, RO] at h2
  obtain ⟨a, vs, fps, rfl, h3, h4, h5⟩ := h2
  exact ⟨a, vs, fps, h1, h3.1, h3.2, h4, h5⟩
def sAppend (i : Nat) (f : EF) : SF := fun ρ => match ρ.getD i none with
  | some (.lst xs) => (f ρ).flow ρ fun d => if xs.length < sizeLine then .next (ρ.set i (some (.lst (xs ++ [d])))) else .err
  | _ => .err
theorem sj_append (hx' : X.N[i]? = some x) (hv : Vis X.env.scope x) (hL : L.getD i 0 = k + 1) (he : EO X W L k e f) (hd : (x == ("__debug__" : Str)) = false := by decide) (hcd : (x == ("__classdict__" : Str)) = false := by decide)
    (hbase : attributeBase (.Name x npos) "append" X.env (eval (.Name x npos) X.env) = eval (.Name x npos) X.env := by rfl)
    (hfew : ((backTo cpos (starEach [e] X.env)).all (fun x => !x.1) && (backToKw cpos (keywordEach [] X.env)).all (fun x => x.1.isSome)
      && decide ([e].length + ([] : List Keyword).length + (if ([] : List Keyword).isEmpty then 0 else 1) < 30)) = true := by rfl)
    (hline : (apos.endLine == cpos.line) = true := by rfl) (hs : starEach [e] X.env = (false, eval e X.env) :: starEach [] X.env := by rfl) (hplain : (backTo cpos (starEach [] X.env)).any (·.1) = false := by rfl)
    (hsw : swapsWith (.Call (.Attribute (.Name x npos) "append" apos) [e] [] cpos) none pos.line X.env = pure false := by rfl) :
    SJ X W kr Lb L L (.Expr (.Call (.Attribute (.Name x npos) "append" apos) [e] [] cpos) pos) (sAppend i f) :=
  PS.imp (ps_expr (pe_bm PySem.F.plainAttrs_list PySem.F.slot_list_append PySem.F.type_list_append mt_append (pe_var hx' hv hd hcd) (pa_cons he pa_nil hs) hbase hfew hline hs hplain) hsw) fun Dn σ H ⟨ex0, Gs, ρ, fp, S, o⟩ => by
    unfold sAppend at o
    cases hρ : ρ.getD i none with
    | none => rw [hρ] at o; exact o.elim
    | some d0 =>
      rw [hρ] at o
      cases d0 with
      | lst xs =>
        obtain ⟨a, vs, fps, h1, h2, h3, h4, h5⟩ := own_list S hρ hL
        refine ⟨.ref a, h1, .inl ⟨rfl, vs, .inl (.inl h2)⟩, _, ρ, fp, S.si, (flow_out S o).mono fun d q v H1 fq e1 ro nd nw => ?_⟩
        split at q
        · rename_i hz
          have hlv : xs.length = vs.length := P3.length h5
          have hH1 : H1 a = some (.lst vs) := e1 _ _ h2
          refine ⟨a, vs, v, rfl, rfl, hH1, by omega, ?_⟩
          have ha : a ∈ fp i := by rw [h4]; exact List.mem_cons_self
          have hafq : a ∉ fq := fun z => by
            have := nw a z
            rw [h2] at this
            cases this
          have hnod := S.si.nod i
          rw [h4] at hnod
          obtain ⟨ha2, hnod2⟩ := List.nodup_cons.mp hnod
          have hfq : ∀ b ∈ fps.flatten, b ∉ fq := fun b hb z => P3.there h5 hb (nw b z)
          have mem : ∀ b, b ∈ (fps ++ [fq]).flatten ↔ b ∈ fps.flatten ∨ b ∈ fq := fun b => by
            rw [List.flatten_append, List.mem_append]
            simp
          have kp : Keep (exOf fp ex0) H (L2.upd H1 a (.lst (vs ++ [v]))) := by
            refine ⟨fun b zs h => ?_, fun b zs hn h => ?_⟩
            · have hb : b ≠ a := fun q => by
                rw [q] at h
                rcases h with h | ⟨o, h⟩ <;> rw [h2] at h <;> cases h
              rcases Same.rd e1 h with h2 | ⟨o, h2⟩
              · exact .inl (by rw [upd_ne hb]; exact h2)
              · exact .inr ⟨o, by rw [upd_ne hb]; exact h2⟩
            · have hb : b ≠ a := fun q => hn (.inl ⟨i, by rw [q]; exact ha⟩)
              rcases Same.rd e1 h with h2 | ⟨o, h2⟩
              · exact .inl (by rw [upd_ne hb]; exact h2)
              · exact .inr ⟨o, by rw [upd_ne hb]; exact h2⟩
          have kp2 : Keep (fun b => b ∈ fq ∨ exOf fp ex0 b) H1 (L2.upd H1 a (.lst (vs ++ [v]))) := by
            refine ⟨fun b zs h => ?_, fun b zs hn h => ?_⟩
            · have hb : b ≠ a := fun q => by
                rw [q] at h
                rcases h with h | ⟨o, h⟩ <;> rw [hH1] at h <;> cases h
              rcases h with h2 | ⟨o, h2⟩
              · exact .inl (by rw [upd_ne hb]; exact h2)
              · exact .inr ⟨o, by rw [upd_ne hb]; exact h2⟩
            · have hb : b ≠ a := fun q => hn (.inr (.inl ⟨i, by rw [q]; exact ha⟩))
              rcases h with h2 | ⟨o, h2⟩
              · exact .inl (by rw [upd_ne hb]; exact h2)
              · exact .inr ⟨o, by rw [upd_ne hb]; exact h2⟩
          refine q _ _ _ (S.upd e1 (i := i) (a := a) (vs := vs) (vs' := vs ++ [v]) (dN := .lst (xs ++ [d])) (fqN := a :: (fps ++ [fq]).flatten) h1 ha h2 ?_ ?_ ?_)
          · have le1 : ∀ b, exOf (fun j => if j = i then a :: (fps ++ [fq]).flatten else fp j) ex0 b → b ∈ fq ∨ exOf fp ex0 b := fun b h => by
              rcases h with ⟨l, h⟩ | h
              · have h : b ∈ (if l = i then a :: (fps ++ [fq]).flatten else fp l) := h
                split at h
                · rcases List.mem_cons.mp h with h | h
                  · exact .inr (.inl ⟨i, by rw [h]; exact ha⟩)
                  · rcases (mem b).mp h with h | h
                    · exact .inr (.inl ⟨i, by rw [h4]; exact List.mem_cons_of_mem _ h⟩)
                    · exact .inl h
                · exact .inr (.inl ⟨l, h⟩)
              · exact .inr (.inr h)
            rw [hL, RO]
            refine ⟨a, vs ++ [v], fps ++ [fq], rfl, ⟨upd_same, by rw [List.length_append]; simp; omega⟩, rfl, P3.app ?_ (.cons ?_ .nil)⟩
            · refine P3.keep kp (fun b h => ?_) (fun b hb o q => ?_) h5
              · rcases le1 b h with h | h
                · exact .inr (nw b h)
                · exact .inl h
              · have hba : b ≠ a := fun z => ha2 (by rw [← z]; exact hb)
                rw [upd_ne hba]
                exact e1 _ _ q
            · refine RO.keep kp2 (fun b h => .inl (le1 b h)) (fun b hb o q => ?_) ro
              have hba : b ≠ a := fun z => hafq (by rw [← z]; exact hb)
              rw [upd_ne hba]
              exact q
          · refine List.nodup_cons.mpr ⟨fun z => ?_, ?_⟩
            · rcases (mem a).mp z with z | z
              · exact ha2 z
              · exact hafq z
            · rw [List.flatten_append]
              refine List.nodup_append.mpr ⟨hnod2, by simpa using nd, fun b hb c hc z => ?_⟩
              have hc : c ∈ fq := by simpa using hc
              exact hfq b hb (by rw [z]; exact hc)
          · intro b hb
            rcases List.mem_cons.mp hb with h | h
            · rw [h]
              exact .inl ha
            · rcases (mem b).mp h with h | h
              · exact .inl (by rw [h4]; exact List.mem_cons_of_mem _ h)
              · exact .inr (nw b h)
        · exact q.elim
      | _ => exact o.elim

/-! ### raise -/
def sRaise (c : Str) : SF := fun ρ => .exc c ρ
theorem sj_raise {L1 : List Nat} {y msg : Str} {j : Nat} {C : Addr} {p2 pos2 : Pos} {newId initId B : String} {bmB : List Value} (hc : X.calm = true) (tk : Takes X W) (F : ExcBaseFacts B newId initId bmB) (q : PySem.W.excIn X.K C bmB newId = true)
    (gC : X.mg y = some (.ref C)) (kC : PySem.W.keepIn X.K (.ref C) = true) (r : Raises X (.ref C)) (hg : Gl X y) (hdb : (y == ("__debug__" : Str)) = false := by decide) :
    SJ X W kr Lb L L1 (.Raise (some (.Call (.Name y npos) [.Constant (.str msg) j p2] [] pos)) none pos2) (sRaise y) :=
  PS.imp (ps_raise hc tk (pmk_own F q gC kC r hg hdb)) fun Dn σ H ⟨ex0, Gs, ρ, fp, S, o⟩ => o C gC σ H _ S.dropAll
end
end Px

namespace Px
open PySem PySem.Spec PyProof.Rows L2

/-! ### comparisons as tests -/
def asB : D → Res Bool
  | .bl b => .ok b
  | _ => .err
section
variable {X : Cx} {W : WX} {L : List Nat} {n n1 n2 m k kr : Nat} {pos p p2 : Pos} {a b c e : Expr} {f g h : EF} {o o' : D → D → Res D}
theorem PT.ofV {X : Cx} {e : Expr} {t : TE} {t' : TT} (h : PT X e (tTest t)) (m : ∀ σ H Q, t' σ H Q → tTest t σ H Q) : PT X e t' := PT.imp h m
theorem et_cmp {op : CmpOp} (ho : Op2 X n1 n2 0 (compareOp op) o) (nx : NoX2 o) (ha : EB X W L n1 a f) (hb : EB X W L n2 b g) (hm : behindInMarks op b = false) : ET X W L (.Compare a [op] [b] pos) (eUn asB (eOp o f g)) :=
  PT.imp (pt_cmpR ho ha hb hm) fun σ H Q ⟨ex, ρ, fp, I, q⟩ => by
    refine ⟨ex, ρ, fp, I, q.bind.bind.mono fun d1 q1 v1 H1 e1 r1 => ⟨ex, ρ, fp, I.same e1, (q1.bind.later e1).mono fun d2 q2 v2 H2 e2 r2 => ?_⟩⟩
    obtain ⟨d, ed, qd⟩ := no_exc q2 (nx d1 d2)
    refine ⟨ex, d1, d2, d, ((I.same e1).same e2).ext, r1.same e2, r2, ed, fun v H3 fq e3 ro nd nw => ?_⟩
    have r3 : RB X.K (fun a => a ∈ fq ∨ ex a) H3 0 d v := ro.borrow
    cases d with
    | bl t => exact ⟨t, r3.bl, qd H3 ((e1.trans e2).trans e3)⟩
    | _ => exact qd.elim
theorem et_chain {op op' : CmpOp} (ho : Op2 X 0 0 0 (compareOp op) o) (nx : NoX2 o) (ho' : Op2 X 0 0 0 (compareOp op') o') (nx' : NoX2 o') (ha : EB X W L 0 a f) (hb : EB X W L 0 b g) (hc : EB X W L 0 c h)
    (hm : lastMarks [op, op'] [b, c] = false := by with_unfolding_all rfl) : ET X W L (.Compare a [op, op'] [b, c] pos) (eUn asB (eChain o o' f g h)) :=
  PT.imp (pt_chain ho ho' ha hb hc hm) fun σ H Q ⟨ex, ρ, fp, I, q⟩ => by
    refine ⟨ex, ρ, fp, I, q.bind.bind.mono fun d1 q1 v1 H1 e1 r1 => ⟨ex, ρ, fp, I.same e1, (q1.bind.later e1).mono fun d2 q2 v2 H2 e2 r2 => ?_⟩⟩
    obtain ⟨d, ed, qd⟩ := no_exc q2.bind (nx d1 d2)
    refine ⟨ex, d1, d2, d, ((I.same e1).same e2).ext, r1.same e2, r2, ed, fun v H3 fq e3 ro nd nw => ?_⟩
    have r3 : RB X.K (fun a => a ∈ fq ∨ ex a) H3 0 d v := ro.borrow
    cases d with
    | bl t =>
      cases t with
      | true =>
        refine ⟨true, r3.bl, ?_⟩
        rw [if_pos rfl]
        refine ⟨ex, ρ, fp, ((I.same e1).same e2).same e3, ((Out.bind qd).later ((e1.trans e2).trans e3)).mono fun d3 q3 v4 H4 e4 r4 => ?_⟩
        obtain ⟨z, ez, qz⟩ := no_exc q3 (nx' d2 d3)
        refine ⟨ex, d2, d3, z, ((((I.same e1).same e2).same e3).same e4).ext, (r2.same e3).same e4, r4, ez, fun v H5 fq e5 ro nd nw => ?_⟩
        have r5 : RB X.K (fun a => a ∈ fq ∨ ex a) H5 0 z v := ro.borrow
        cases z with
        | bl t => exact ⟨t, r5.bl, qz H5 ((((e1.trans e2).trans e3).trans e4).trans e5)⟩
        | _ => exact qz.elim
      | false =>
        refine ⟨false, r3.bl, ?_⟩
        rw [if_neg Bool.false_ne_true]
        exact ⟨false, rfl, qd H3 ((e1.trans e2).trans e3)⟩
    | _ => exact qd.elim

/-! ### constants of the module -/
theorem eo_gint {x : Str} {i : Int} {t : Tok} (hg : Gl X x) (hm : X.mg x = some (.int i t)) (hd : (x == ("__debug__" : Str)) = false := by decide) : EO X W L k (.Name x pos) (eC (.int i)) :=
  PE.imp (pe_glob (v := .int i) hg hm ⟨t, rfl⟩ hd) fun σ H Q ⟨ex, ρ, fp, I, o⟩ => QO.int o
theorem eo_gstr {x i : Str} {t : Tok} (hg : Gl X x) (hm : X.mg x = some (.str i t)) (hd : (x == ("__debug__" : Str)) = false := by decide) : EO X W L k (.Name x pos) (eC (.str i)) :=
  PE.imp (pe_glob (v := .str i) hg hm ⟨t, rfl⟩ hd) fun σ H Q ⟨ex, ρ, fp, I, o⟩ => QO.str o

/-! ### {k: v, ..}[i] -/
def keyD : D → Option Key
  | .int i => some (.inl i)
  | .str s => some (.inr s)
  | _ => none
theorem keyD_v {K : PySem.W.Frag} {ex : AS} {H : Hp} {d : D} {v : V} {kk : Key} (r : RB K ex H n d v) (e : keyD d = some kk) : v = kV kk := by
  unfold keyD at e
  split at e
  · cases e
    exact r.int
  · cases e
    exact r.str
  · cases e
def evPairs : List (EF × EF) → Env → Res (List (Key × D))
  | [], _ => .ok []
  | p :: r, ρ => p.1 ρ >>= fun a => p.2 ρ >>= fun b => match keyD a with
    | some kk => evPairs r ρ >>= fun l => .ok ((kk, b) :: l)
    | none => .err
/-- the last one wins -/
def lookLast (l : List (Key × D)) (kk : Key) : Option D := (l.reverse.find? fun q => decide (q.1 = kk)).map (·.2)
def eDLit (ps : List (EF × EF)) (f : EF) : EF := fun ρ => evPairs ps ρ >>= fun l => f ρ >>= fun d => match keyD d with
  | some kk => (match lookLast l kk with
    | some r => .ok r
    | none => .err)
  | none => .err
abbrev trsOf (X : Cx) (W : WX) (L : List Nat) (ps : List (EF × EF)) : List (TE × TE) := ps.map fun q => (tB X W L 0 q.1, tB X W L 0 q.2)
abbrev EPs (X : Cx) (W : WX) (L : List Nat) (pos : Pos) (keys : List (Option Expr)) (values : List Expr) (ps : List (EF × EF)) : Prop := PPs X pos keys values (trsOf X W L ps)
theorem eps_nil : EPs X W L pos [] [] [] := pps_nil
theorem eps_cons {kx v : Expr} {ks : List (Option Expr)} {vs : List Expr} {ps : List (EF × EF)} (hk : EB X W L 0 kx f) (hv : EB X W L 0 v g) (hr : EPs X W L pos ks vs ps) : EPs X W L pos (some kx :: ks) (v :: vs) ((f, g) :: ps) := pps_cons hk hv hr
abbrev KR (K : PySem.W.Frag) (ex : AS) (H : Hp) (l : List (Key × D)) (kvs : List (Key × V)) : Prop := Paired (fun q z => q.1 = z.1 ∧ R K ex H q.2 z.2) l kvs
theorem pairs_imp {σ : L2.St} {ex : AS} {ρ : Env} {fp : Nat → List Addr} : ∀ (ps : List (EF × EF)) {H : Hp} {Q : List (V × V) → Hp → Prop}, SI X.K ex L ρ σ H fp →
    Out X W σ H (evPairs ps ρ) (fun l => ∀ kvs H', Same H H' → KR X.K ex H' l kvs → kvs.length = ps.length → Q (kvs.map fun kv => (kV kv.1, kv.2)) H') → tPairs (trsOf X W L ps) σ H Q
  | [], H, Q, I, o => o [] H (Same.refl H) .nil rfl
  | p :: r, H, Q, I, o => by
    refine ⟨ex, ρ, fp, I, o.bind.mono fun d1 q1 v1 H1 e1 r1 => ⟨ex, ρ, fp, I.same e1, (q1.bind.later e1).mono fun d2 q2 v2 H2 e2 r2 => ?_⟩⟩
    cases hk : keyD d1 with
    | none => rw [hk] at q2; exact q2.elim
    | some kk =>
      rw [hk] at q2
      refine pairs_imp r ((I.same e1).same e2) ((Out.later (Out.bind q2) (e1.trans e2)).mono fun l q3 kvs H3 e3 kr hl => ?_)
      have := q3 ((kk, v2) :: kvs) H3 ((e1.trans e2).trans e3) (.cons ⟨rfl, R.same e3 r2⟩ kr) (by rw [List.length_cons, List.length_cons, hl])
      rw [keyD_v r1 hk]
      exact this
theorem merge_val (kk : Key) : ∀ (kvs acc : List (Key × V)), valV (mergeK acc kvs) kk = match (kvs.reverse.find? fun q => decide (q.1 = kk)).map (·.2) with
    | some v => some v
    | none => valV acc kk
  | [], acc => rfl
  | p :: r, acc => by
    have e : mergeK acc (p :: r) = mergeK (putK acc p.1 p.2) r := rfl
    rw [e, merge_val kk r, List.reverse_cons, List.find?_append, valV_put]
    cases q : r.reverse.find? (fun q => decide (q.1 = kk)) with
    | some z => simp
    | none =>
      simp only [Option.map_none, Option.none_or, List.find?_cons, List.find?_nil]
      by_cases hp : p.1 = kk
      · simp [hp]
      · have : ¬ kk = p.1 := fun z => hp z.symm
        simp [hp, this]
theorem find_kr {K : PySem.W.Frag} {ex : AS} {H : Hp} {kk : Key} {d : D} : ∀ {l : List (Key × D)} {kvs : List (Key × V)}, KR K ex H l kvs → (l.find? fun q => decide (q.1 = kk)).map (·.2) = some d → ∃ v, (kvs.find? fun q => decide (q.1 = kk)).map (·.2) = some v ∧ R K ex H d v
  | _, _, .nil, h => by simp at h
  | a :: l, b :: kvs, .cons r t, h => by
    rw [List.find?_cons] at h ⊢
    by_cases hq : a.1 = kk
    · have hq2 : b.1 = kk := r.1 ▸ hq
      rw [decide_eq_true hq] at h
      rw [decide_eq_true hq2]
      have e : a.2 = d := by simpa using h
      rw [← e]
      exact ⟨b.2, rfl, r.2⟩
    · have hq2 : ¬ b.1 = kk := r.1 ▸ hq
      rw [decide_eq_false hq] at h
      rw [decide_eq_false hq2]
      exact find_kr t h
theorem eb_dlit {keys : List (Option Expr)} {values : List Expr} {ps : List (EF × EF)} {i : Expr} {dpos : Pos} (hu : X.A.units + 1 < cLine) (h : EPs X W L dpos keys values ps) (hi : EB X W L 0 i f) (hall : keys.all (·.isSome) = true := by rfl) (hl : keys.length = values.length := by rfl) (h0 : keys ≠ [] := by exact fun h => nomatch h) (h15 : keys.length ≤ 15 := by decide) (p15 : ps.length ≤ 15 := by decide)
    (hs : NoSl i := by intro _ _; rfl) : EB X W L 0 (.Subscript (.Dict keys values dpos) i pos) (eDLit ps f) :=
  PE.imp (pe_dget hu (pe_disp h hall hl h0 h15) hi hs) fun σ H Q ⟨ex, ρ, fp, I, o⟩ => fun pp hp => by
    have e0 : Same H (upd H pp (.dK [])) := same_upd hp
    refine pairs_imp ps (I.same e0) ((Out.later o.bind e0).mono fun l q kvs H2 e2 kr hkl => ?_)
    have hp2 : H2 pp = some (.dK []) := e2 _ _ upd_same
    refine ⟨hp2, kvs, rfl, by omega, ?_⟩
    have e3 : Same H (upd H2 pp (.dK (mergeK [] kvs))) := fun b o hb => by
      have hne : b ≠ pp := fun z => by
        rw [z, hp] at hb
        cases hb
      rw [upd_ne hne]
      exact e2 _ _ (by rw [upd_ne hne]; exact hb)
    have kp : Keep ex H2 (upd H2 pp (.dK (mergeK [] kvs))) := by
      refine ⟨fun b xs hb => ?_, fun b xs _ hb => ?_⟩
      · have hne : b ≠ pp := fun z => by
          rw [z] at hb
          rcases hb with hb | ⟨o, hb⟩ <;> rw [hp2] at hb <;> cases hb
        rcases hb with hb | ⟨o, hb⟩
        · exact .inl (by rw [upd_ne hne]; exact hb)
        · exact .inr ⟨o, by rw [upd_ne hne]; exact hb⟩
      · have hne : b ≠ pp := fun z => by
          rw [z] at hb
          rcases hb with hb | ⟨o, hb⟩ <;> rw [hp2] at hb <;> cases hb
        rcases hb with hb | ⟨o, hb⟩
        · exact .inl (by rw [upd_ne hne]; exact hb)
        · exact .inr ⟨o, by rw [upd_ne hne]; exact hb⟩
    refine ⟨ex, ρ, fp, I.same e3, ((Out.later (Out.bind q) e3)).mono fun d q2 y H4 e4 ry => ?_⟩
    cases hk : keyD d with
    | none => rw [hk] at q2; exact q2.elim
    | some kk =>
      rw [hk] at q2
      cases hf : lookLast l kk with
      | none =>
        simp only [hf] at q2
        exact q2.elim
      | some r =>
        simp only [hf] at q2
        obtain ⟨v, hv, rv⟩ := find_kr (Paired.revP kr) hf
        have hm : valV (mergeK [] kvs) kk = some v := by rw [merge_val, hv]
        refine ⟨pp, v, rfl, ?_, q2 v H4 (e3.trans e4) (R.same e4 (R.keep kp (fun _ z => .inl z) r rv))⟩
        rw [keyD_v ry hk, ← hm]
        exact DGet.k (e4 _ _ upd_same)
end
end Px

namespace Px
open PySem PySem.Spec PyProof.Rows L2

theorem gl_of {X : Cx} {x : Str} (h : X.env.scope.names.lookup x = some .globalImplicit) : Gl X x := h
theorem hu65 {k : Nat} {A : Around} (hr : Room k A) : A.units + 65 < cLine := by
  have := hr.un
  omega
section
variable {X : Cx} {W : WX} {L : List Nat} {n n1 n2 m k kr : Nat} {Lb : List Nat} {pos p : Pos} {a b e : Expr} {f g : EF}
theorem o_mul : Op2 X n m k (binaryOp .Mult) dMul := fun pins s σ H x y v u Q I rx ry h => by
  obtain ⟨ex, d1, d2, d, ext, r1, r2, e, q⟩ := h
  unfold dMul at e
  split at e
  · split at e
    · rename_i hm
      cases e
      exact L2.op_mul pins s σ H x y v u Q I rx ry ⟨_, _, r1.int, r2.int, by unfold mulOk at hm; rw [decide_eq_true_eq] at hm; exact hm, q.int⟩
    · cases e
  · cases e
/-- [..] * n of a new list -/
def dRep : D → D → Res D
  | .lst a, .int j => if a.length * j.toNat ≤ sizeLine ∧ j < 2 ^ 62 ∧ -(2 ^ 62) < j then .ok (.lst (List.replicate j.toNat a).flatten) else .err
  | _, _ => .err
theorem dRep_nx : NoX2 dRep := fun a b c h => by
  unfold dRep at h
  split at h <;> first | cases h | (split at h <;> cases h)
theorem shared_of1 {K : PySem.W.Frag} {ex : AS} {H : Hp} {ds : List D} {v : V} {fq : List Addr} (h : RO K ex H 1 (.lst ds) v fq) : ∃ a xs, v = .ref a ∧ H a = some (.lst xs) ∧ xs.length ≤ sizeLine ∧ fq = [a] ∧ Paired (R K ex H) ds xs := by
  rw [RO] at h
  obtain ⟨a, xs, fps, rfl, h1, rfl, h2⟩ := h
  refine ⟨a, xs, rfl, h1.1, h1.2, ?_, ?_⟩
  · congr 1
    clear h1
    induction h2 with
    | nil => rfl
    | cons x t ih =>
      have := x.1
      subst this
      rw [List.flatten_cons, ih]
      rfl
  · clear h1
    induction h2 with
    | nil => exact .nil
    | cons x t ih => exact .cons x.2 ih
theorem eo_rep (ha : EO X W L 1 a f) (hb : EB X W L 0 b g) : EO X W L 1 (.BinOp a .Mult b pos) (eOp dRep f g) :=
  PE.imp (pe_op op_rep ha hb) fun σ H Q ⟨ex, ρ, fp, I, q⟩ => by
    refine ⟨ex, ρ, fp, I, q.bind.mono fun d1 q1 v1 H1 fq e1 r1 nd nw => ?_⟩
    have e12 : ∀ {c : Addr}, (c ∈ fq ∨ ex c) → ex c ∨ H c = none := fun {c} h => h.elim (fun z => .inr (nw c z)) .inl
    have I' : SI X.K (fun c => c ∈ fq ∨ ex c) L ρ σ H1 fp := I.more e1 (fun c h => e12 h) (fun c h => .inr h) (fun c h => h.elim (fun z => r1.there c z) fun z q => I.ext c z (e1.free q))
    refine ⟨_, ρ, fp, I', (q1.bind.later e1).mono fun d2 q2 v2 H2 e2 r2 => ?_⟩
    obtain ⟨d, ed, qd⟩ := no_exc q2 (dRep_nx d1 d2)
    unfold dRep at ed
    split at ed
    · split at ed
      · rename_i xs j hc
        cases ed
        obtain ⟨c, ys, rfl, h1, h2, rfl, h3⟩ := shared_of1 (r1.same e2)
        have hl : xs.length = ys.length := h3.length
        refine ⟨c, j, ys, rfl, r2.int, h1, by omega, by omega, by rw [← hl]; exact hc.1, fun p hp => ?_⟩
        have h4 : Paired (R X.K ex H2) xs ys := h3.mono fun _ _ z => R.less (fun a h => .inl (.inr h)) z
        refine QO.lst (K := X.K) (ex := ex) (fun v H5 fr e5 ro nd nw => qd v H5 fr ((e1.trans e2).trans e5) ro nd fun a ha => (e1.trans e2).free (nw a ha)) (Paired.flattenP h4 j.toNat) hp ?_
        rw [PyProof.Rows.lm_len_rep_flat, Nat.mul_comm, ← hl]
        exact hc.1
      · cases ed
    · cases ed

/-! ### a, b = e1, e2 -/
def evL : List EF → Env → Res (List D)
  | [], _ => .ok []
  | f :: r, ρ => f ρ >>= fun d => evL r ρ >>= fun ds => .ok (d :: ds)
def sPar (is : List Nat) (fs : List EF) : SF := fun ρ => (evL fs ρ).flow ρ fun ds => .next (setL ρ is ds)
/-- values, each owned to a depth of its own -/
def AOs (K : PySem.W.Frag) (ex : AS) (H : Hp) : List Nat → List D → List V → List (List Addr) → Prop
  | [], [], [], [] => True
  | k :: ks, d :: ds, v :: vs, fq :: fqs => RO K ex H k d v fq ∧ AOs K ex H ks ds vs fqs
  | _, _, _, _ => False
def tAO (X : Cx) (W : WX) (L : List Nat) (ks : List Nat) (fs : List EF) : TA := fun σ H Q => ∃ ex ρ fp, SI X.K ex L ρ σ H fp ∧ Out X W σ H (evL fs ρ) fun ds => ∀ vs fqs H', Same H H' → AOs X.K (fun a => a ∈ fqs.flatten ∨ ex a) H' ks ds vs fqs → fqs.flatten.Nodup → (∀ a ∈ fqs.flatten, H a = none) → Q vs H'
abbrev EAO (X : Cx) (W : WX) (L : List Nat) (ks : List Nat) (es : List Expr) (fs : List EF) : Prop := PA X es (tAO X W L ks fs)
theorem AOs.keep {K : PySem.W.Frag} {ex ex' : AS} {H H' : Hp} (e : Same H H') (m : ∀ a, ex' a → ex a ∨ H a = none) : ∀ {ks : List Nat} {ds : List D} {vs : List V} {fqs : List (List Addr)}, AOs K ex H ks ds vs fqs → AOs K ex' H' ks ds vs fqs
  | [], [], [], [], _ => trivial
  | _ :: _, _ :: _, _ :: _, _ :: _, h => ⟨RO.keep (Keep.same e) m (fun a _ o q => e a o q) h.1, AOs.keep e m h.2⟩
variable {es : List Expr} {fs : List EF} {ks : List Nat}
theorem eas_nil : EAO X W L [] [] [] := PA.imp pa_nil fun σ H Q ⟨ex, ρ, fp, I, o⟩ => o [] [] H (Same.refl H) trivial List.nodup_nil fun a h => (by simp at h)
theorem eas_cons (h : EO X W L k e f) (t : EAO X W L ks es fs) (hs : starEach (e :: es) X.env = (false, eval e X.env) :: starEach es X.env := by rfl) : EAO X W L (k :: ks) (e :: es) (f :: fs) :=
  PA.imp (pa_cons h t hs) fun σ H Q ⟨ex, ρ, fp, I, o⟩ => ⟨ex, ρ, fp, I, (show Out X W σ H (f ρ >>= fun d => evL fs ρ >>= fun ds => .ok (d :: ds)) _ from o).bind.mono fun d1 q1 v1 H1 fq e1 r1 nd1 nw1 => by
    have I' : SI X.K (fun c => c ∈ fq ∨ ex c) L ρ σ H1 fp := I.more e1 (fun c h => h.elim (fun z => .inr (nw1 c z)) .inl) (fun c h => .inr h) (fun c h => h.elim (fun z => r1.there c z) fun z q => I.ext c z (e1.free q))
    refine ⟨_, ρ, fp, I', (q1.bind.later e1).mono fun ds q2 vs fqs H2 e2 r2 nd2 nw2 => ?_⟩
    refine q2 (v1 :: vs) (fq :: fqs) H2 (e1.trans e2) ⟨?_, r2.keep (Same.refl H2) fun a h => .inl ?_⟩ ?_ fun a ha => ?_
    · refine RO.keep (Keep.same e2) (fun a h => ?_) (fun a _ o q => e2 a o q) r1
      rw [List.flatten_cons, List.mem_append] at h
      rcases h with (h | h) | h
      · exact .inl (.inl h)
      · exact .inr (nw2 a h)
      · exact .inl (.inr h)
    · rw [List.flatten_cons, List.mem_append] at h
      rcases h with (h | h) | h
      · exact .inr (.inl h)
      · exact .inl h
      · exact .inr (.inr h)
    · rw [List.flatten_cons]
      refine List.nodup_append.mpr ⟨nd1, nd2, fun a ha b hb q => ?_⟩
      rw [← q] at hb
      exact r1.there a ha (nw2 a hb)
    · rw [List.flatten_cons, List.mem_append] at ha
      rcases ha with ha | ha
      · exact nw1 a ha
      · exact e1.free (nw2 a ha)⟩
/-- slots and what they own, over a fixed EX -/
structure VS (K : PySem.W.Frag) (EX : AS) (H : Hp) (L : List Nat) (ρ : Env) (σ : L2.St) (fp : Nat → List Addr) : Prop where
  len : ρ.length = σ.length
  val : ∀ i d, ρ[i]? = some (some d) → ∃ v, σ[i]? = some (some v) ∧ RO K EX H (L.getD i 0) d v (fp i)
  nod : ∀ i, (fp i).Nodup
  dis : ∀ i j a, a ∈ fp i → a ∈ fp j → i = j
def putF (fp : Nat → List Addr) (i : Nat) (fq : List Addr) : Nat → List Addr := fun j => if j = i then fq else fp j
theorem VS.put {K : PySem.W.Frag} {EX : AS} {H : Hp} {L : List Nat} {ρ : Env} {σ : L2.St} {fp : Nat → List Addr} (S : VS K EX H L ρ σ fp) {i k : Nat} {d : D} {v : V} {fq : List Addr} (r : RO K EX H k d v fq) (nd : fq.Nodup) (nw : ∀ a ∈ fq, ∀ j, a ∉ fp j) (hi : i < L.length) :
    VS K EX H (L.set i k) (ρ.set i (some d)) (σ.set i (some v)) (putF fp i fq) := by
  refine ⟨by rw [List.length_set, List.length_set]; exact S.len, fun j d' h => ?_, fun j => ?_, fun j l a h1 h2 => ?_⟩
  · unfold putF
    by_cases ej : i = j
    · subst ej
      by_cases hl : i < ρ.length
      · rw [List.getElem?_set_self hl] at h
        cases h
        exact ⟨v, List.getElem?_set_self (by rw [← S.len]; exact hl), by rw [getD_set_eq hi, if_pos rfl]; exact r⟩
      · rw [List.getElem?_eq_none (by rw [List.length_set]; omega)] at h
        cases h
    · rw [List.getElem?_set_ne ej] at h
      obtain ⟨u, h1, h2⟩ := S.val j d' h
      exact ⟨u, by rw [List.getElem?_set_ne ej]; exact h1, by rw [getD_set_ne ej, if_neg (fun q => ej q.symm)]; exact h2⟩
  · unfold putF
    split
    · exact nd
    · exact S.nod j
  · unfold putF at h1 h2
    split at h1
    · split at h2
      · rename_i a1 a2
        rw [a1, a2]
      · exact absurd h2 (nw a h1 l)
    · split at h2
      · exact absurd h1 (nw a h2 j)
      · exact S.dis j l a h1 h2
def setLv : List Nat → List Nat → List Nat → List Nat
  | L, i :: is, k :: ks => setLv (L.set i k) is ks
  | L, _, _ => L
def setV (σ : L2.St) : List Nat → List V → L2.St
  | i :: is, v :: vs => setV (σ.set i (some v)) is vs
  | _, _ => σ
theorem setLv_length : ∀ (L is ks : List Nat), (setLv L is ks).length = L.length
  | L, [], _ => by rw [setLv]; intro _ _ _ _ h; cases h
  | L, _ :: _, [] => by rw [setLv]; intro _ _ _ _ _ h; cases h
  | L, i :: is, k :: ks => by rw [setLv, setLv_length, List.length_set]
theorem VS.puts {K : PySem.W.Frag} {EX : AS} {H : Hp} : ∀ (is ks : List Nat) (ds : List D) (vs : List V) (fqs : List (List Addr)) {L : List Nat} {ρ : Env} {σ : L2.St} {fp : Nat → List Addr}, VS K EX H L ρ σ fp → AOs K EX H ks ds vs fqs → fqs.flatten.Nodup → (∀ a ∈ fqs.flatten, ∀ j, a ∉ fp j) →
    is.length = ks.length → (∀ i ∈ is, i < L.length) → ∃ fp', VS K EX H (setLv L is ks) (setL ρ is ds) (setV σ is vs) fp' ∧ ∀ j a, a ∈ fp' j → a ∈ fp j ∨ a ∈ fqs.flatten
  | [], ks, ds, vs, fqs, L, ρ, σ, fp, S, _, _, _, _, _ => ⟨fp, by
      have e1 : setLv L [] ks = L := by cases ks <;> rfl
      have e2 : setL ρ [] ds = ρ := by cases ds <;> rfl
      have e3 : setV σ [] vs = σ := by cases vs <;> rfl
      rw [e1, e2, e3]
      exact S, fun j a h => .inl h⟩
  | i :: is, [], _, _, _, _, _, _, _, _, _, _, _, hl, _ => by simp at hl
  | i :: is, k :: ks, [], _, _, _, _, _, _, _, h, _, _, _, _ => by simp [AOs] at h
  | i :: is, k :: ks, d :: ds, [], _, _, _, _, _, _, h, _, _, _, _ => by simp [AOs] at h
  | i :: is, k :: ks, d :: ds, v :: vs, [], _, _, _, _, _, h, _, _, _, _ => by simp [AOs] at h
  | i :: is, k :: ks, d :: ds, v :: vs, fq :: fqs, L, ρ, σ, fp, S, h, nd, nw, hl, hi => by
    rw [List.flatten_cons] at nd nw
    obtain ⟨n1, n2, n3⟩ := List.nodup_append.mp nd
    have S1 := S.put (i := i) h.1 n1 (fun a ha => nw a (List.mem_append_left _ ha)) (hi i List.mem_cons_self)
    obtain ⟨fp', S2, m⟩ := VS.puts is ks ds vs fqs S1 h.2 n2 (fun a ha j q => by
      unfold putF at q
      split at q
      · exact n3 a q a ha rfl
      · exact nw a (List.mem_append_right _ ha) j q) (by simpa using hl) (fun l hl => by
        rw [List.length_set]
        exact hi l (List.mem_cons_of_mem _ hl))
    refine ⟨fp', S2, fun j a q => ?_⟩
    rw [List.flatten_cons, List.mem_append]
    rcases m j a q with q | q
    · unfold putF at q
      split at q
      · exact .inr (.inl q)
      · exact .inl q
    · exact .inr (.inr q)
theorem AOs.there {K : PySem.W.Frag} {ex : AS} {H : Hp} {a : Addr} : ∀ {ks : List Nat} {ds : List D} {vs : List V} {fqs : List (List Addr)}, AOs K ex H ks ds vs fqs → a ∈ fqs.flatten → H a ≠ none
  | [], [], [], [], _, h => by simp at h
  | _ :: _, _ :: _, _ :: _, _ :: _, h, m => by
    rw [List.flatten_cons, List.mem_append] at m
    rcases m with m | m
    · exact h.1.there a m
    · exact AOs.there h.2 m
theorem SS.puts {K : PySem.W.Frag} {H0 H H1 : Hp} {ex0 : AS} {G : List (D × V)} {L : List Nat} {ρ : Env} {σ : L2.St} {fp : Nat → List Addr} (S : SS K H0 ex0 G L ρ σ H fp) (e : Same H H1) {is ks : List Nat} {ds : List D} {vs : List V} {fqs : List (List Addr)}
    (r : AOs K (fun a => a ∈ fqs.flatten ∨ exOf fp ex0 a) H1 ks ds vs fqs) (nd : fqs.flatten.Nodup) (nw : ∀ a ∈ fqs.flatten, H a = none) (hl : is.length = ks.length) (hi : ∀ i ∈ is, i < L.length) :
    ∃ fp', SS K H0 ex0 G (setLv L is ks) (setL ρ is ds) (setV σ is vs) H1 fp' := by
  have V0 : VS K (fun a => a ∈ fqs.flatten ∨ exOf fp ex0 a) H1 L ρ σ fp := ⟨S.si.len, fun i d h => by
    obtain ⟨v, h1, h2⟩ := S.si.val i d h
    refine ⟨v, h1, RO.keep (Keep.same e) (fun a q => ?_) (fun a _ o q => e a o q) h2⟩
    rcases q with q | q
    · exact .inr (nw a q)
    · exact .inl q, S.si.nod, S.si.dis⟩
  obtain ⟨fp', V1, m⟩ := VS.puts is ks ds vs fqs V0 r nd (fun a ha j q => S.si.ext a (.inl ⟨j, q⟩) (nw a ha)) hl hi
  refine ⟨fp', S.re e V1.len (fun i d h => ?_) V1.nod V1.dis (fun i a h => ?_) (fun i a h => ?_)⟩
  · obtain ⟨v, h1, h2⟩ := V1.val i d h
    refine ⟨v, h1, h2.less fun a q => .inl ?_⟩
    rcases q with ⟨j, q⟩ | q
    · rcases m j a q with q | q
      · exact .inr (.inl ⟨j, q⟩)
      · exact .inl q
    · exact .inr (.inr q)
  · rcases m i a h with q | q
    · exact .inl q
    · exact .inr (nw a q)
  · rcases m i a h with q | q
    · exact fun z => S.si.ext a (.inl ⟨i, q⟩) (e.free z)
    · exact r.there q
theorem AOs.lens {K : PySem.W.Frag} {ex : AS} {H : Hp} : ∀ {ks : List Nat} {ds : List D} {vs : List V} {fqs : List (List Addr)}, AOs K ex H ks ds vs fqs → vs.length = ks.length
  | [], [], [], [], _ => rfl
  | _ :: _, _ :: _, _ :: _, _ :: _, h => by rw [List.length_cons, List.length_cons, AOs.lens h.2]
theorem sj_par2 {i j k1 k2 : Nat} {x y : Str} {px py pt : Pos} {kt kt2 : Nat} {pt2 : Pos} (hc : X.calm = true) (hN : X.N.Nodup) (hi : X.N[i]? = some x) (hj : X.N[j]? = some y) (hij : i ≠ j) (hx : X.env.scope.names.lookup x = some .local) (hy : X.env.scope.names.lookup y = some .local)
    (h1 : EO X W L k1 a f) (h2 : EO X W L k2 b g) (li : i < L.length) (lj : j < L.length)
    (hw : swappedStores [.Tuple [.Name x px, .Name y py] kt pt] (.Tuple [a, b] kt2 pt2) X.env = pure (some [x, y])) (hs : swapsWithSole [.Tuple [.Name x px, .Name y py] kt pt] (.Tuple [a, b] kt2 pt2) pos.line X.env = pure false := by rfl)
    (hs1 : starEach [a, b] X.env = (false, eval a X.env) :: starEach [b] X.env := by rfl) (hs2 : starEach [b] X.env = (false, eval b X.env) :: starEach [] X.env := by rfl) :
    SJ X W kr Lb L (setLv L [i, j] [k1, k2]) (.Assign [.Tuple [.Name x px, .Name y py] kt pt] (.Tuple [a, b] kt2 pt2) pos) (sPar [i, j] [f, g]) :=
  PS.imp (ps_par hc hN hi hj hij hx hy (eas_cons h1 (eas_cons h2 eas_nil hs2) hs1) hw hs) fun Dn σ H ⟨ex0, Gs, ρ, fp, S, o⟩ => by
    refine ⟨_, ρ, fp, S.si, (flow_out S o).mono fun ds q vs fqs H1 e1 r nd nw => ?_⟩
    obtain ⟨fp', S'⟩ := S.puts (is := [i, j]) e1 r nd nw rfl (fun l hl => by
      rcases List.mem_cons.mp hl with rfl | hl
      · exact li
      · rw [List.mem_singleton.mp hl]
        exact lj)
    have hl := r.lens
    clear nd nw r
    match vs, hl with
    | [v1, v2], _ => exact ⟨v1, v2, rfl, q _ _ _ S'⟩
/-- .. where the model makes a tuple and unpacks it -/
theorem gNames_vs {Q : L2.St → Hp → Prop} {H : Hp} : ∀ (is : List Nat) (vs : List V) (σ : L2.St), is.length = vs.length → Q (setV σ is vs) H → gNames is vs σ H Q
  | [], [], _, _, h => ⟨rfl, h⟩
  | [], _ :: _, _, e, _ => by simp at e
  | _ :: _, [], _, e, _ => by simp at e
  | i :: is, v :: vs, σ, e, h => ⟨v, vs, rfl, gNames_vs is vs _ (by simpa using e) h⟩
theorem sj_parT {is : List Nat} {tg : Expr} {tn : Nat} {tpos : Pos} (hg : PG X tg (gTup X.K is.length (gNames is))) (ha : EAO X W L ks es fs) (hl : is.length = ks.length) (hi : ∀ i ∈ is, i < L.length) (hz : ks.length ≤ sizeLine := by decide) (hs : swapsWithSole [tg] (.Tuple es tn tpos) pos.line X.env = pure false := by rfl) (hw : swappedStores [tg] (.Tuple es tn tpos) X.env = pure none := by with_unfolding_all rfl)
    (h1 : (assignEach [tg] X.env).map (·.2) = [assign tg X.env] := by rfl) : SJ X W kr Lb L (setLv L is ks) (.Assign [tg] (.Tuple es tn tpos) pos) (sPar is fs) :=
  PS.imp (ps_asg (pe_tup ha) hg hs hw h1) fun Dn σ H ⟨ex0, Gs, ρ, fp, S, o⟩ => by
    refine ⟨_, ρ, fp, S.si, (flow_out S o).mono fun ds q vs fqs H1 e1 r nd nw => ⟨by rw [r.lens]; exact hz, fun p hp => ?_⟩⟩
    have e2 : Same H1 (L2.upd H1 p (.tup vs)) := same_upd hp
    obtain ⟨fp', S'⟩ := S.puts (is := is) (e1.trans e2) (r.keep e2 fun a h => .inl h) nd nw hl hi
    exact ⟨p, vs, rfl, .inl (.inl upd_same), by rw [r.lens, hl], gNames_vs is vs σ (by rw [r.lens, hl]) (q _ _ _ S')⟩
end
end Px

namespace Px
open PySem PySem.Spec PyProof.Rows L2
/-! ### the end -/
theorem rl_ints {K : PySem.W.Frag} {ex : AS} {H : Hp} : ∀ ns : List Int, RL K ex H (ns.map .int) (ns.map V.int)
  | [] => by rw [List.map_nil, List.map_nil, RL]
  | n :: ns => by
    rw [List.map_cons, List.map_cons, RL]
    exact ⟨_, _, rfl, by rw [R], rl_ints ns⟩
/-- a law's promise: handed a list of ints it answers True -/
theorem spec_law {K : PySem.W.Frag} {mg : Str → Option Value} {C : List D → Res D} {H : Hp} {a : Addr} {ns : List Int} (h : C [.lst (ns.map .int)] = .ok (.bl true)) (hl : ns.length ≤ sizeLine) (hS : SqL K H a (ns.map V.int)) :
    Spec K mg 1 0 C [.ref a] H (fun v _ => v = .bl true) (fun _ _ _ => False) := by
  refine ⟨rfl, fun _ => False, [.lst (ns.map .int)], fun _ z => z.elim, .cons ?_ .nil, ?_⟩
  · rw [R]
    exact ⟨a, _, rfl, ⟨LsX.of hS (fun z => z), by rw [List.length_map]; exact hl⟩, rl_ints ns⟩
  · rw [h]
    intro v H' fq e r nd nw
    obtain ⟨_, r⟩ := r
    rw [R] at r
    exact r
/-- how a def without defaults binds -/
def BA (fd : FuncData) (ps : List Str) : Prop := ∀ (s : Shared) (us : List Value), us.length = ps.length → BindsTo s fd ⟨us, []⟩ (ps.zip us)
theorem BA.b {K : PySem.W.Frag} {fd : FuncData} {ps : List Str} (h : BA fd ps) : Binds K fd ps [] := fun s us _ hl => by
  rw [List.append_nil] at hl ⊢
  exact h s us hl
theorem txt_fun {K : PySem.W.Frag} {fa : List He.Fa} {fn : List He.FnD} (c : He.SaysE fa fn K) (i j : Nat) {x : Str} {ps : List Str} {st : Stmt} (h : fn[i]? = some ⟨(x, none), x, x, defArgs st, defBody st, defScope st⟩) (hk : fa[j]? = some (.keep x))
    (hb : ∀ (kV doc pm : Value) (an : Option Addr) (cdv ct : Value) (us : List Value), us.length = ps.length → bindArgs (PySem.W.fnOf x x (defArgs st) (defBody st) (defScope st) .none kV doc pm an cdv ct) ⟨us, []⟩ = pure (ps.zip us)) :
    ∃ fd, Fun K x x st (He.ga K x) fd ∧ BA fd ps := by
  obtain ⟨oc, od, osl, kV, doc, pm, an, cdv, ct, l, q⟩ := c.def_ i h
  have F := fun_mk (K := K) (st := st) (x := x) (qual := x) l q (He.keep_ok (c.fact j hk))
  exact ⟨_, F, fun s us hl => .of_eq (hb kV doc pm an cdv ct us hl)⟩
theorem txt_exc {K : PySem.W.Frag} {fa : List He.Fa} {fn : List He.FnD} {h : Heap} {mg : Str → Option Value} (X : K.In h) (G : h.Ns mainGlobals mg) (c : He.SaysE fa fn K) (i j : Nat) {x : Str} (h1 : fa[i]? = some (.glo x)) (h2 : fa[j]? = some (.exc x)) :
    mg x = some (.ref (He.ga K x)) ∧ PySem.W.excIn K (He.ga K x) He.veBase "ValueError.__new__" = true ∧ PySem.W.keepIn K (.ref (He.ga K x)) = true ∧ PySem.W.subIn K (.ref (He.ga K x)) (.type "BaseException") = some true ∧ PySem.W.typeIn K (.ref (He.ga K x)) = some (.type "type") :=
  ⟨He.glo_ok X G (c.fact i h1), He.exc_ok (c.fact j h2)⟩
/-- a law over a head by facts, exceptions let -/
theorem walk_px {l : PySem.W.OpenLaw} {n k : Nat} {q : Program} {loose : List Str} {XP : (Str → Option Value) → Heap → Prop} {YP : World → Heap → Prop} {d : DefRec} {x : Str}
    (hn : l.most = some n) (hn2 : n ≤ sizeLine) (hdf : d.params.defaults = []) (hr : Room k callerA)
    (F : ∀ (w : World) (mg : Str → Option Value) (fa : Addr) (h : Heap), YP w h → h.Ns mainGlobals mg → mg d.name = some (.ref fa) →
      ∃ (K : PySem.W.Frag) (fd : FuncData) (sp : Sp), K.In h ∧ (∀ (s : Shared) (u : Value), BindsTo s fd ⟨[u], []⟩ [(x, u)]) ∧
        (∀ (H : Hp) (a : Addr) (ns : List Int), ns.length ≤ n → (∀ z ∈ ns, Builtin.Int.intBits z ≤ 1048576) → Only H → SqL K H a (ns.map V.int) → sp [.ref a] H (fun v _ => v = .bl true) fun _ _ _ => False) ∧
        ∀ base : Heap, K.In base → base.Ns mainGlobals mg → FnOk l.prog w K mg base (L2.CX l.prog w) k fa fd [x] sp) :
    PySem.W.WalkO q loose XP YP l.row.toRowW d [] (fun f vs => PySem.call f vs) := by
  refine Att.attach_callB hn hdf fun w s₀ s₁ mg mb fa o pm cd doc a vs ns G Y ho hd hcd hmg hobj hints hlen hbits hg => ?_
  obtain ⟨K, fd, sp, KX, hb, hsp, hF⟩ := F w mg fa _ Y G.T.g hmg
  exact law_call KX G.T.g G.T.b G.T.builtins G.T.nolimit hg hobj hints (Nat.le_trans hlen hn2) hr hF hb (fun H hO hS => hsp H a ns hlen hbits hO hS) fun H e s' ⟨_, _, _, _, _, _, _, _, _, _, _, _, z⟩ => z
end Px

namespace Px
open PySem PySem.Spec PyProof.Rows L2
/-! ### plain reading: tools -/
@[simp] theorem x_eC (d : D) (ρ : Env) : eC d ρ = .ok d := id rfl
@[simp] theorem x_aNil (ρ : Env) : aNil ρ = .ok [] := id rfl
@[simp] theorem x_aCons (f : EF) (g : Env → Res (List D)) (ρ : Env) : aCons f g ρ = f ρ >>= fun d => g ρ >>= fun ds => .ok (d :: ds) := id rfl
@[simp] theorem x_eTup (fs : Env → Res (List D)) (ρ : Env) : eTup fs ρ = fs ρ >>= fun ds => .ok (.tup ds) := id rfl
@[simp] theorem x_eLst (fs : Env → Res (List D)) (ρ : Env) : eLst fs ρ = fs ρ >>= fun ds => .ok (.lst ds) := id rfl
@[simp] theorem x_eOp (o : D → D → Res D) (f g : EF) (ρ : Env) : eOp o f g ρ = f ρ >>= fun a => g ρ >>= fun b => o a b := id rfl
@[simp] theorem x_eUn {α : Type} (o : D → Res α) (f : EF) (ρ : Env) : eUn o f ρ = f ρ >>= o := id rfl
@[simp] theorem x_eCall (o : List D → Res D) (f : Env → Res (List D)) (ρ : Env) : eCall o f ρ = f ρ >>= o := id rfl
@[simp] theorem x_eIf (t : Env → Res Bool) (f g : EF) (ρ : Env) : eIf t f g ρ = t ρ >>= fun b => if b = true then f ρ else g ρ := id rfl
@[simp] theorem x_eNot (f : EF) (ρ : Env) : eNot f ρ = f ρ >>= fun d => dTru d >>= fun b => .ok (.bl (!b)) := id rfl
@[simp] theorem x_eAnd (f g : EF) (ρ : Env) : eAnd f g ρ = f ρ >>= fun d => dTru d >>= fun b => if b = true then g ρ else .ok d := id rfl
@[simp] theorem x_eOr (f g : EF) (ρ : Env) : eOr f g ρ = f ρ >>= fun d => dTru d >>= fun b => if b = true then .ok d else g ρ := id rfl
@[simp] theorem x_bAnd (f g : Env → Res Bool) (ρ : Env) : bAnd f g ρ = f ρ >>= fun b => if b = true then g ρ else .ok false := id rfl
@[simp] theorem x_bOr (f g : Env → Res Bool) (ρ : Env) : bOr f g ρ = f ρ >>= fun b => if b = true then .ok true else g ρ := id rfl
@[simp] theorem x_bNot (f : Env → Res Bool) (ρ : Env) : bNot f ρ = f ρ >>= fun b => .ok (!b) := id rfl
@[simp] theorem x_bYes (ρ : Env) : bYes ρ = .ok true := id rfl
@[simp] theorem x_iSeq (f : EF) (ρ : Env) : iSeq f ρ = f ρ >>= dItems := id rfl
@[simp] theorem x_iCall (o : List D → Res (List D)) (fs : Env → Res (List D)) (ρ : Env) : iCall o fs ρ = fs ρ >>= o := id rfl
@[simp] theorem x_sNext (ρ : Env) : sNext ρ = .next ρ := id rfl
@[simp] theorem x_sRet (f : EF) (ρ : Env) : sRet f ρ = (f ρ).flow ρ fun d => .ret d := id rfl
@[simp] theorem x_sRetN (ρ : Env) : sRetN ρ = .ret .non := id rfl
@[simp] theorem x_sDrop (f : EF) (ρ : Env) : sDrop f ρ = (f ρ).flow ρ fun _ => .next ρ := id rfl
@[simp] theorem x_sIf (t : Env → Res Bool) (F G : SF) (ρ : Env) : sIf t F G ρ = (t ρ).flow ρ fun b => if b = true then F ρ else G ρ := id rfl
@[simp] theorem x_sSet (i : Nat) (f : EF) (ρ : Env) : sSet i f ρ = (f ρ).flow ρ fun d => .next (ρ.set i (some d)) := id rfl
def resF (r : Res Env) : Flow := match r with
  | .ok ρ' => .next ρ'
  | _ => .err
@[simp] theorem resF_ok (ρ : Env) : resF (.ok ρ) = .next ρ := id rfl
@[simp] theorem x_sUnp (gf : Env → D → Res Env) (f : EF) (ρ : Env) : sUnp gf f ρ = (f ρ).flow ρ fun d => resF (gf ρ d) := by
  unfold sUnp
  cases f ρ with
  | ok d =>
    show sUnp.noX' _ = resF _
    cases gf ρ d <;> rfl
  | _ => rfl
@[simp] theorem x_sBreak (ρ : Env) : sBreak ρ = .brk ρ := id rfl
@[simp] theorem x_sCont (ρ : Env) : sCont ρ = .cont ρ := id rfl
@[simp] theorem x_sPar (is : List Nat) (fs : List EF) (ρ : Env) : sPar is fs ρ = (evL fs ρ).flow ρ fun ds => .next (setL ρ is ds) := id rfl
@[simp] theorem x_sRaise (c : Str) (ρ : Env) : sRaise c ρ = .exc c ρ := id rfl
@[simp] theorem x_gfName (i : Nat) (ρ : Env) (d : D) : gfName i ρ d = .ok (ρ.set i (some d)) := id rfl
@[simp] theorem x_gfTup (is : List Nat) (ρ : Env) (ds : List D) : gfTup is ρ (.tup ds) = if ds.length = is.length then .ok (setL ρ is ds) else .err := id rfl
@[simp] theorem x_setL0 (ρ : Env) (ds : List D) : setL ρ [] ds = ρ := by unfold setL; rfl
@[simp] theorem x_setL1 (ρ : Env) (i : Nat) (is : List Nat) (d : D) (ds : List D) : setL ρ (i :: is) (d :: ds) = setL (ρ.set i (some d)) is ds := id rfl
@[simp] theorem x_evL0 (ρ : Env) : evL [] ρ = .ok [] := id rfl
@[simp] theorem x_evL1 (f : EF) (r : List EF) (ρ : Env) : evL (f :: r) ρ = f ρ >>= fun d => evL r ρ >>= fun ds => .ok (d :: ds) := id rfl
@[simp] theorem x_wipe0 (ρ : Env) : wipeE ρ [] = ρ := id rfl
@[simp] theorem x_wipe1 (ρ : Env) (v : Nat) (vs : List Nat) : wipeE ρ (v :: vs) = (wipeE ρ vs).set v none := id rfl
theorem x_sFor (fI : Px.Env → Res (List D)) (gf : Px.Env → D → Res Px.Env) (F : SF) (ρ : Px.Env) : sFor fI gf F ρ = (fI ρ).flow ρ fun ds => forE gf F ds ρ := id rfl
@[simp] theorem x_oNone (ρ : Env) : oNone ρ = .ok none := id rfl
def asI : D → Res (Option Int)
  | .int i => .ok (some i)
  | _ => .err
@[simp] theorem asI_int (i : Int) : asI (.int i) = .ok (some i) := id rfl
@[simp] theorem x_oSome (f : EF) (ρ : Env) : oSome f ρ = f ρ >>= asI := by
  unfold oSome
  cases f ρ with
  | ok d => cases d <;> rfl
  | _ => rfl
@[simp] theorem x_eSl (f : EF) (lo hi : Env → Res (Option Int)) (ρ : Env) : eSl f lo hi ρ = f ρ >>= fun d => lo ρ >>= fun a => hi ρ >>= fun b => dSl d a b := id rfl
@[simp] theorem x_dSl_l (xs : List D) (a b : Option Int) : dSl (.lst xs) a b = .ok (.lst (cut xs a b)) := id rfl
@[simp] theorem x_dSl_t (xs : List D) (a b : Option Int) : dSl (.tup xs) a b = .ok (.tup (cut xs a b)) := id rfl
def vD (o : Option D) : Res D := match o with
  | some d => .ok d
  | none => .err
@[simp] theorem vD_some (d : D) : vD (some d) = .ok d := id rfl
@[simp] theorem x_eVar (i : Nat) (ρ : Env) : eVar i ρ = vD (ρ.getD i none) := id rfl
@[simp] theorem x_asB (b : Bool) : asB (.bl b) = .ok b := id rfl
@[simp] theorem x_tru_n : dTru .non = .ok false := id rfl
@[simp] theorem x_tru_b (b : Bool) : dTru (.bl b) = .ok b := id rfl
@[simp] theorem x_tru_i (i : Int) : dTru (.int i) = .ok (i != 0) := id rfl
@[simp] theorem x_tru_t (xs : List D) : dTru (.tup xs) = .ok (!xs.isEmpty) := id rfl
@[simp] theorem x_tru_l (xs : List D) : dTru (.lst xs) = .ok (!xs.isEmpty) := id rfl
@[simp] theorem x_add (i j : Int) : dAdd (.int i) (.int j) = .ok (.int (i + j)) := id rfl
@[simp] theorem x_add_l (a b : List D) : dAdd (.lst a) (.lst b) = if a.length + b.length ≤ sizeLine then .ok (.lst (a ++ b)) else .err := id rfl
@[simp] theorem x_add_t (a b : List D) : dAdd (.tup a) (.tup b) = if a.length + b.length ≤ sizeLine then .ok (.tup (a ++ b)) else .err := id rfl
@[simp] theorem x_sub (i j : Int) : dSub (.int i) (.int j) = .ok (.int (i - j)) := id rfl
@[simp] theorem x_mod (i j : Int) (h : 0 < j) : dMod (.int i) (.int j) = .ok (.int (i % j)) := by
  show (if _ then _ else _) = _
  rw [if_pos h]
@[simp] theorem x_cmp (p : Int → Int → Bool) (i j : Int) : dCmpI p (.int i) (.int j) = .ok (.bl (p i j)) := id rfl
@[simp] theorem x_len_t (xs : List D) : fLen [.tup xs] = .ok (.int xs.length) := id rfl
@[simp] theorem x_len_l (xs : List D) : fLen [.lst xs] = .ok (.int xs.length) := id rfl
@[simp] theorem x_tup_t (xs : List D) : fTuple [.tup xs] = .ok (.tup xs) := id rfl
@[simp] theorem x_tup_l (xs : List D) : fTuple [.lst xs] = .ok (.tup xs) := id rfl
@[simp] theorem x_list_t (xs : List D) : fList [.tup xs] = .ok (.lst xs) := id rfl
@[simp] theorem x_list_l (xs : List D) : fList [.lst xs] = .ok (.lst xs) := id rfl
@[simp] theorem x_int_i (i : Int) : fInt [.int i] = .ok (.int i) := id rfl
@[simp] theorem x_abs (i : Int) : fAbs [.int i] = .ok (.int (if i < 0 then -i else i)) := id rfl
@[simp] theorem x_items_t (xs : List D) : dItems (.tup xs) = .ok xs := id rfl
@[simp] theorem x_items_l (xs : List D) : dItems (.lst xs) = .ok xs := id rfl
@[simp] theorem x_pow (i : Int) (j : Int) (h : 0 ≤ j ∧ j ≤ 1000000 ∧ i.natAbs < 2 ^ 64) : dPow (.int i) (.int j) = .ok (.int (i ^ j.toNat)) := by
  show (if _ then _ else _) = _
  rw [if_pos h]
theorem sl_eq : sizeLine = 16777216 := sizeLine_eq
@[simp] theorem sKill_x (is : List Nat) (F : SF) (ρ : Env) : sKill is F ρ = F (wipeE ρ is) := id rfl
theorem sSeq_of {F G : SF} {ρ ρ' : Env} (h : F ρ = .next ρ') : sSeq F G ρ = G ρ' := by
  unfold sSeq
  rw [h]
theorem sSeq_ret {F G : SF} {ρ : Env} {d : D} (h : F ρ = .ret d) : sSeq F G ρ = .ret d := by
  unfold sSeq
  rw [h]
@[simp] theorem sSeq_set (i : Nat) (f : EF) (G : SF) (ρ : Env) : sSeq (sSet i f) G ρ = (f ρ).flow ρ fun d => G (ρ.set i (some d)) := by
  unfold sSeq sSet
  cases f ρ <;> rfl
theorem sSeq_def (F G : SF) (ρ : Env) : sSeq F G ρ = match F ρ with
  | .next ρ' => G ρ'
  | r => r := rfl
def seqK (r : Flow) (k : Env → Flow) : Flow := match r with
  | .next ρ' => k ρ'
  | r => r
@[simp] theorem seqK_next (ρ : Env) (k : Env → Flow) : seqK (.next ρ) k = k ρ := id rfl
@[simp] theorem seqK_ret (d : D) (k : Env → Flow) : seqK (.ret d) k = .ret d := id rfl
@[simp] theorem seqK_cont (ρ : Env) (k : Env → Flow) : seqK (.cont ρ) k = .cont ρ := id rfl
@[simp] theorem seqK_brk (ρ : Env) (k : Env → Flow) : seqK (.brk ρ) k = .brk ρ := id rfl
@[simp] theorem seqK_exc (c : Str) (ρ : Env) (k : Env → Flow) : seqK (.exc c ρ) k = .exc c ρ := id rfl
@[simp] theorem sSeq_x (F G : SF) (ρ : Env) : sSeq F G ρ = seqK (F ρ) G := by
  unfold sSeq seqK
  rfl
@[simp] theorem seqK_ite {c : Prop} [Decidable c] (a b : Flow) (k : Env → Flow) : seqK (if c then a else b) k = if c then seqK a k else seqK b k := by split <;> rfl
@[simp] theorem loopK_ite {c : Prop} [Decidable c] (a b : Flow) (k : Env → Flow) : loopK (if c then a else b) k = if c then loopK a k else loopK b k := by split <;> rfl
@[simp] theorem dMul_i (i j : Int) (h : mulOk i j = true) : dMul (.int i) (.int j) = .ok (.int (i * j)) := by
  show (if _ then _ else _) = _
  rw [if_pos h]
@[simp] theorem dDiv_i (i j : Int) (h : 0 < j ∧ j < 1073741824) : dDiv (.int i) (.int j) = .ok (.int (i / j)) := by
  show (if _ then _ else _) = _
  rw [if_pos h]
theorem mulOk_r (i j : Int) (h : -(2 ^ 64) < j ∧ j < 2 ^ 64) : mulOk i j = true := decide_eq_true (.inr h)
theorem mulOk_l (i j : Int) (h : -(2 ^ 64) < i ∧ i < 2 ^ 64) : mulOk i j = true := decide_eq_true (.inl h)
theorem app_ok {i : Nat} {f : EF} {ρ : Env} {xs : List D} {d : D} (h : ρ.getD i none = some (.lst xs)) (hf : f ρ = .ok d) (hl : xs.length < sizeLine) : sAppend i f ρ = .next (ρ.set i (some (.lst (xs ++ [d])))) := by
  unfold sAppend
  rw [h]
  dsimp only
  rw [hf]
  dsimp only [Res.flow]
  rw [if_pos hl]
/-- a walk that neither ends nor leaves -/
theorem for_inv {gf : Env → D → Res Env} {F : SF} {P : Nat → Env → Prop} : ∀ {ds : List D} {n : Nat} {ρ : Env}, P n ρ →
    (∀ i d, ds[i]? = some d → ∀ ρ, P (n + i) ρ → ∃ ρ1 ρ', gf ρ d = .ok ρ1 ∧ (F ρ1 = .next ρ' ∨ F ρ1 = .cont ρ') ∧ P (n + i + 1) ρ') → ∃ ρ', forE gf F ds ρ = .next ρ' ∧ P (n + ds.length) ρ'
  | [], n, ρ, h, _ => ⟨ρ, rfl, h⟩
  | d :: ds, n, ρ, h, st => by
    obtain ⟨ρ1, ρ', e1, e2, p⟩ := st 0 d rfl ρ h
    obtain ⟨ρ2, e3, p2⟩ := for_inv (ds := ds) (n := n + 1) p fun i d' hi ρ hp => by
      have := st (i + 1) d' hi ρ (by rw [show n + (i + 1) = n + 1 + i by omega]; exact hp)
      rw [show n + (i + 1) + 1 = n + 1 + i + 1 by omega] at this
      exact this
    refine ⟨ρ2, ?_, by rw [List.length_cons, show n + (ds.length + 1) = n + 1 + ds.length by omega]; exact p2⟩
    unfold forE
    rw [e1]
    dsimp only [Res.must]
    rcases e2 with e2 | e2 <;> (rw [e2]; exact e3)
/-- a walk that looks for the first that ends it -/
def Scan (P : Env → Prop) (o : Option D) (fl : Flow) : Prop := match o with
  | some r => fl = .ret r
  | none => ∃ ρ, (fl = .next ρ ∨ fl = .cont ρ) ∧ P ρ
theorem for_scan {gf : Env → D → Res Env} {F : SF} {P : Env → Prop} {bad : D → Option D} : ∀ {ds : List D} {ρ : Env}, P ρ →
    (∀ d ∈ ds, ∀ ρ, P ρ → ∃ ρ1, gf ρ d = .ok ρ1 ∧ Scan P (bad d) (F ρ1)) → match ds.findSome? bad with
      | some r => forE gf F ds ρ = .ret r
      | none => ∃ ρ', forE gf F ds ρ = .next ρ' ∧ P ρ'
  | [], ρ, h, _ => ⟨ρ, rfl, h⟩
  | d :: ds, ρ, h, st => by
    obtain ⟨ρ1, e1, sc⟩ := st d List.mem_cons_self ρ h
    unfold forE
    rw [e1]
    dsimp only [Res.must]
    rw [List.findSome?_cons]
    cases e : bad d with
    | some r =>
      rw [e] at sc
      have sc : F ρ1 = .ret r := sc
      rw [sc]
      rfl
    | none =>
      rw [e] at sc
      obtain ⟨ρ', e2, p⟩ := sc
      have ih := for_scan (ds := ds) p fun d' hd => st d' (List.mem_cons_of_mem _ hd)
      dsimp only
      rcases e2 with e2 | e2 <;> (rw [e2]; exact ih)
theorem lc_map {i : Nat} {f : EF} {ρ : Env} {g : D → D} : ∀ {ds : List D}, (∀ d ∈ ds, f (ρ.set i (some d)) = .ok (g d)) → lcE (gfName i) bYes f ρ ds = .ok (ds.map g)
  | [], _ => rfl
  | d :: ds, h => by
    have := lc_map (ds := ds) fun d' hd => h d' (List.mem_cons_of_mem _ hd)
    simp [lcE, h d List.mem_cons_self, this]
@[simp] theorem atI_nat {α : Type} (xs : List α) (n : Nat) : atI xs (n : Int) = xs[n]? := by
  unfold atI ixN
  by_cases h : n < xs.length
  · have : ((n : Int) < xs.length) := by omega
    simp [this]
  · have : ¬ ((n : Int) < xs.length) := by omega
    simp [this]
    omega
theorem dIx_lst {xs : List D} {n : Nat} {d : D} (h : xs[n]? = some d) : dIx (.lst xs) (.int n) = .ok d := by
  simp [dIx, h]
theorem dIx_tup {xs : List D} {n : Nat} {d : D} (h : xs[n]? = some d) : dIx (.tup xs) (.int n) = .ok d := by
  simp [dIx, h]
@[simp] theorem rng_zero (n : Nat) : rng 0 n = (List.range n).map fun i => .int (i : Nat) := by
  simp [rng]
theorem dRng1_nat (n : Nat) (h : n ≤ 16777216) : dRng1 [.int n] = .ok ((List.range n).map fun i => .int (i : Nat)) := by
  have : ((n : Int) ≤ 16777216 ∧ -(2 ^ 62) ≤ (n : Int)) := ⟨by omega, by omega⟩
  simp only [dRng1]
  rw [if_pos this]
  simp
@[simp] theorem x_eq_ii (i j : Int) : dEq (.int i) (.int j) = .ok (.bl (i == j)) := by
  simp [dEq, okN, eqD]
@[simp] theorem x_ne_ii (i j : Int) : dNe (.int i) (.int j) = .ok (.bl (!(i == j))) := by
  simp [dNe, okN, eqD]
theorem x_eq_ss (a b : Str) (h : PyData.strOk a = true) (h2 : PyData.strOk b = true) : dEq (.str a) (.str b) = .ok (.bl (a == b)) := by
  simp [dEq, okN, eqD, h, h2]
theorem x_ne_ss (a b : Str) (h : PyData.strOk a = true) (h2 : PyData.strOk b = true) : dNe (.str a) (.str b) = .ok (.bl (!(a == b))) := by
  simp [dNe, okN, eqD, h, h2]
@[simp] theorem x_is_n (d : D) : dIs d .non = .ok (.bl (isNon d)) := by
  cases d <;> rfl
@[simp] theorem x_isNot_n (d : D) : dIsNot d .non = .ok (.bl (!isNon d)) := by
  cases d <;> rfl
@[simp] theorem isNon_n : isNon .non = true := id rfl
@[simp] theorem isNon_i (i : Int) : isNon (.int i) = false := id rfl
@[simp] theorem isNon_s (i : Str) : isNon (.str i) = false := id rfl
@[simp] theorem isNon_t (i : List D) : isNon (.tup i) = false := id rfl
@[simp] theorem isNon_l (i : List D) : isNon (.lst i) = false := id rfl
@[simp] theorem isNon_b (i : Bool) : isNon (.bl i) = false := id rfl
@[simp] theorem isi_n (p : D → Bool) : dIsi p .non = .ok (.bl (p .non)) := id rfl
@[simp] theorem isi_b (p : D → Bool) (b : Bool) : dIsi p (.bl b) = .ok (.bl (p (.bl b))) := id rfl
@[simp] theorem isi_i (p : D → Bool) (b : Int) : dIsi p (.int b) = .ok (.bl (p (.int b))) := id rfl
@[simp] theorem isi_s (p : D → Bool) (b : Str) : dIsi p (.str b) = .ok (.bl (p (.str b))) := id rfl
@[simp] theorem isi_t (p : D → Bool) (b : List D) : dIsi p (.tup b) = .ok (.bl (p (.tup b))) := id rfl
@[simp] theorem isi_l (p : D → Bool) (b : List D) : dIsi p (.lst b) = .ok (.bl (p (.lst b))) := id rfl
@[simp] theorem k_ii (i : Int) : isInt (.int i) = true := id rfl
@[simp] theorem k_ib (i : Bool) : isInt (.bl i) = true := id rfl
@[simp] theorem k_in : isInt .non = false := id rfl
@[simp] theorem k_is (i : Str) : isInt (.str i) = false := id rfl
@[simp] theorem k_it (i : List D) : isInt (.tup i) = false := id rfl
@[simp] theorem k_il (i : List D) : isInt (.lst i) = false := id rfl
@[simp] theorem k_bi (i : Int) : isBool (.int i) = false := id rfl
@[simp] theorem k_bb (i : Bool) : isBool (.bl i) = true := id rfl
@[simp] theorem k_bn : isBool .non = false := id rfl
@[simp] theorem k_bs (i : Str) : isBool (.str i) = false := id rfl
@[simp] theorem k_bt (i : List D) : isBool (.tup i) = false := id rfl
@[simp] theorem k_bl (i : List D) : isBool (.lst i) = false := id rfl
@[simp] theorem k_si (i : Int) : isStr (.int i) = false := id rfl
@[simp] theorem k_sb (i : Bool) : isStr (.bl i) = false := id rfl
@[simp] theorem k_sn : isStr .non = false := id rfl
@[simp] theorem k_ss (i : Str) : isStr (.str i) = true := id rfl
@[simp] theorem k_st (i : List D) : isStr (.tup i) = false := id rfl
@[simp] theorem k_sl (i : List D) : isStr (.lst i) = false := id rfl
@[simp] theorem k_ti (i : Int) : isTup (.int i) = false := id rfl
@[simp] theorem k_tb (i : Bool) : isTup (.bl i) = false := id rfl
@[simp] theorem k_tn : isTup .non = false := id rfl
@[simp] theorem k_ts (i : Str) : isTup (.str i) = false := id rfl
@[simp] theorem k_tt (i : List D) : isTup (.tup i) = true := id rfl
@[simp] theorem k_tl (i : List D) : isTup (.lst i) = false := id rfl
@[simp] theorem k_li (i : Int) : isLst (.int i) = false := id rfl
@[simp] theorem k_lb (i : Bool) : isLst (.bl i) = false := id rfl
@[simp] theorem k_ln : isLst .non = false := id rfl
@[simp] theorem k_ls (i : Str) : isLst (.str i) = false := id rfl
@[simp] theorem k_lt (i : List D) : isLst (.tup i) = false := id rfl
@[simp] theorem k_ll (i : List D) : isLst (.lst i) = true := id rfl
theorem isi_ok {n : Nat} {p : D → Bool} {d : D} (h : okN n d = true) : dIsi p d = .ok (.bl (p d)) := by
  cases d with
  | dic _ _ => rw [okN] at h <;> first | cases h | (intro q; cases q)
  | set _ => rw [okN] at h <;> first | cases h | (intro q; cases q)
  | exc _ => rw [okN] at h <;> first | cases h | (intro q; cases q)
  | oth => rw [okN] at h <;> first | cases h | (intro q; cases q)
  | _ => rfl
@[simp] theorem x_min2 (i j : Int) : fMin [.int i, .int j] = .ok (.int (if j < i then j else i)) := id rfl
@[simp] theorem x_max2 (i j : Int) : fMax [.int i, .int j] = .ok (.int (if j > i then j else i)) := id rfl
theorem x_min_l (b : Int) (bs : List Int) : fMin [.lst ((b :: bs).map .int)] = .ok (.int (bs.foldl min b)) := by
  simp only [fMin, nums_map]
theorem x_min_t (b : Int) (bs : List Int) : fMin [.tup ((b :: bs).map .int)] = .ok (.int (bs.foldl min b)) := by
  simp only [fMin, nums_map]
theorem x_all (bs : List Bool) : fAll [.lst (bs.map .bl)] = .ok (.bl (bs.all fun z => z)) := by
  simp only [fAll, bools_map]
theorem x_any (bs : List Bool) : fAny [.lst (bs.map .bl)] = .ok (.bl (bs.any fun z => z)) := by
  simp only [fAny, bools_map]
/-- a comprehension: what holds of each -/
theorem lc_ex {gf : Px.Env → D → Res Px.Env} {f : EF} {ρ : Px.Env} {Q : D → Prop} : ∀ {ds : List D}, (∀ d ∈ ds, ∃ ρ1 y, gf ρ d = .ok ρ1 ∧ f ρ1 = .ok y ∧ Q y) → ∃ ys, lcE gf bYes f ρ ds = .ok ys ∧ ys.length = ds.length ∧ ∀ y ∈ ys, Q y
  | [], _ => ⟨[], rfl, rfl, fun y h => nomatch h⟩
  | d :: ds, h => by
    obtain ⟨ρ1, y, e1, e2, q⟩ := h d List.mem_cons_self
    obtain ⟨ys, e3, hl, hq⟩ := lc_ex (ds := ds) fun d' hd => h d' (List.mem_cons_of_mem _ hd)
    refine ⟨y :: ys, ?_, by simp [hl], fun z hz => ?_⟩
    · simp [lcE, e1, e2, e3]
    · rcases List.mem_cons.mp hz with rfl | hz
      · exact q
      · exact hq z hz
/-- a comprehension of bools -/
theorem lc_bools {gf : Px.Env → D → Res Px.Env} {f : EF} {ρ : Px.Env} {p : D → Bool} : ∀ {ds : List D}, (∀ d ∈ ds, ∃ ρ1, gf ρ d = .ok ρ1 ∧ f ρ1 = .ok (.bl (p d))) → lcE gf bYes f ρ ds = .ok ((ds.map p).map .bl)
  | [], _ => rfl
  | d :: ds, h => by
    obtain ⟨ρ1, e1, e2⟩ := h d List.mem_cons_self
    have := lc_bools (ds := ds) fun d' hd => h d' (List.mem_cons_of_mem _ hd)
    simp [lcE, e1, e2, this]
theorem imin_lt (a b x : Int) : min a b < x ↔ a < x ∨ b < x := by omega
theorem cut_hi {α : Type} (xs : List α) (n : Nat) : cut xs none (some (n : Int)) = xs.take n := by
  unfold cut
  rw [HT.sIx_none, HT.sIx_nat, List.drop_zero, Nat.sub_zero]
  apply List.take_eq_take_iff.mpr
  omega
theorem cut_lo {α : Type} (xs : List α) (n : Nat) : cut xs (some (n : Int)) none = xs.drop n := by
  unfold cut
  rw [HT.sIx_none, HT.sIx_nat]
  rw [List.take_of_length_le (by simp)]
  apply List.drop_eq_drop_iff.mpr
  omega
theorem cut_lh {α : Type} (xs : List α) (a b : Nat) : cut xs (some (a : Int)) (some (b : Int)) = (xs.drop a).take (b - a) := by
  unfold cut
  rw [HT.sIx_nat, HT.sIx_nat]
  have e : xs.drop (min a xs.length) = xs.drop a := List.drop_eq_drop_iff.mpr (by omega)
  rw [e]
  apply List.take_eq_take_iff.mpr
  simp
  omega
end Px

namespace Px
open PySem PySem.Spec PyProof.Rows L2
/-! ### nested targets -/
def GSems (K : PySem.W.Frag) (g : TGs) (gfs : Px.Env → List D → Res Px.Env) (is : List Nat) : Prop :=
  ∀ ex vs σ H Q ds ρ ρ', Paired (R K ex H) ds vs → gfs ρ ds = .ok ρ' → (∀ l : Sets, (∀ t ∈ l, R K ex H t.2.1 t.2.2 ∧ t.1 ∈ is) → ρ' = setE ρ l → Q (setS σ l) H) → g vs σ H Q
def gfN : Px.Env → List D → Res Px.Env := fun ρ ds => match ds with
  | [] => .ok ρ
  | _ => .err
def gfC (gf : Px.Env → D → Res Px.Env) (gfs : Px.Env → List D → Res Px.Env) : Px.Env → List D → Res Px.Env := fun ρ ds => match ds with
  | d :: r => (match gf ρ d with
    | .ok ρ1 => gfs ρ1 r
    | _ => .err)
  | _ => .err
def gfT (n : Nat) (gfs : Px.Env → List D → Res Px.Env) : Px.Env → D → Res Px.Env := fun ρ d => match d with
  | .tup ds => if ds.length = n then gfs ρ ds else .err
  | _ => .err
@[simp] theorem x_gfN (ρ : Px.Env) : gfN ρ [] = .ok ρ := id rfl
@[simp] theorem x_gfT (n : Nat) (gfs : Px.Env → List D → Res Px.Env) (ρ : Px.Env) (ds : List D) : gfT n gfs ρ (.tup ds) = if ds.length = n then gfs ρ ds else .err := id rfl
@[simp] theorem x_gfCn (i : Nat) (gfs : Px.Env → List D → Res Px.Env) (ρ : Px.Env) (d : D) (ds : List D) : gfC (gfName i) gfs ρ (d :: ds) = gfs (ρ.set i (some d)) ds := id rfl
theorem setE_append (ρ : Px.Env) (l1 l2 : Sets) : setE (setE ρ l1) l2 = setE ρ (l1 ++ l2) := by
  unfold setE
  rw [List.foldl_append]
theorem setS_append (σ : L2.St) (l1 l2 : Sets) : setS (setS σ l1) l2 = setS σ (l1 ++ l2) := by
  unfold setS
  rw [List.foldl_append]
theorem gs_n {K : PySem.W.Frag} : GSems K gNil gfN [] := fun ex vs σ H Q ds ρ ρ' p e h => by
  cases p with
  | nil =>
    cases e
    exact ⟨rfl, h [] (fun t ht => nomatch ht) rfl⟩
  | cons r t => cases e
theorem gs_c {K : PySem.W.Frag} {g : TG} {gs : TGs} {gf : Px.Env → D → Res Px.Env} {gfs : Px.Env → List D → Res Px.Env} {is js : List Nat} (h1 : GSem K g gf is) (h2 : GSems K gs gfs js) : GSems K (gCons g gs) (gfC gf gfs) (is ++ js) := fun ex vs σ H Q ds ρ ρ' p e h => by
  cases p with
  | nil => cases e
  | cons r t =>
    rename_i d v ds vs
    simp only [gfC] at e
    cases e1 : gf ρ d with
    | ok ρ1 =>
      rw [e1] at e
      refine ⟨v, vs, rfl, h1 ex v σ H _ d ρ ρ1 r e1 fun l hl q => ?_⟩
      refine h2 ex vs _ H Q ds ρ1 ρ' t e fun l2 hl2 q2 => ?_
      rw [setS_append]
      refine h (l ++ l2) (fun z hz => ?_) (by rw [← setE_append, ← q, q2])
      rcases List.mem_append.mp hz with hz | hz
      · exact ⟨(hl z hz).1, List.mem_append.mpr (.inl (hl z hz).2)⟩
      · exact ⟨(hl2 z hz).1, List.mem_append.mpr (.inr (hl2 z hz).2)⟩
    | exc c => rw [e1] at e; cases e
    | err => rw [e1] at e; cases e
theorem gs_t {K : PySem.W.Frag} {n : Nat} {gs : TGs} {gfs : Px.Env → List D → Res Px.Env} {is : List Nat} (h1 : GSems K gs gfs is) : GSem K (gTup K n gs) (gfT n gfs) is := fun ex v σ H Q d ρ ρ' r e h => by
  unfold gfT at e
  split at e
  · split at e
    · rename_i ds hl
      rw [R] at r
      obtain ⟨a, xs, rfl, h1', h2⟩ := r
      exact ⟨a, xs, rfl, h1'.1, by rw [← RL.length h2]; exact hl, h1 ex xs σ H Q ds ρ ρ' (RL.pair h2) e h⟩
    · cases e
  · cases e
end Px

/-! enumerate over what begins an iterator -/
namespace PySem
open Sem (wp)
theorem px_enum_new {v : Value} {o : Obj} {H : Heap → Prop} (B : Begins v o H) :
    Meets (Builtin.«enumerate.__new__» ⟨[.type "enumerate", v], []⟩) (fun _ R s => H s.heap ∧
      R (.ok (.ret (.ref (s.heap.push o).objs.size))) { s with heap := (s.heap.push o).push { cls := .type "enumerate", data := .fields #[.none, .bool false, .ref s.heap.objs.size, rawInt 0, .none, .none] } }) :=
  .of_wp fun prog w A R s h => by
    obtain ⟨hp, g, d, tk, os⟩ := s; obtain ⟨h1, h⟩ := h
    have hsub := sub_enumerate
    have q1 : ∀ {A' : Around} {E : Value → Shared → Prop} {Q : Value → Shared → Prop}, Q (.ref hp.objs.size) ⟨hp.push o, g, d, tk, os⟩ → wpAny (model prog w) A' (pyIter v) Q E ⟨hp, g, d, tk, os⟩ :=
      fun q => B.iter prog w _ _ ⟨hp, g, d, tk, os⟩ _ h1 q
    wp_walk using q1
    refine wpAny_stack_any fun st => wpAny_pure ?_
    split
    · rename_i c _ _ _ _ _
      cases (c == Value.type "enumerate")
      · wp_walk using q1
        exact ⟨_, rfl, h⟩
      · wp_walk using q1
        exact ⟨_, rfl, h⟩
    · wp_walk using q1
      exact ⟨_, rfl, h⟩
theorem px_call_enum {prog : Program} {w : World} {A : Around} {E : Value → Shared → Prop} {s : Shared} {v : Value} {o : Obj} {H : Heap → Prop} {Q : Value → Shared → Prop} (B : Begins v o H) (h1 : H s.heap)
    (h : ∀ h', IsEnum h' (s.heap.objs.size + 1) s.heap.objs.size 0 .none → h'.get? s.heap.objs.size = some o → h'.objs.size = s.heap.objs.size + 2 →
      (∀ b o, s.heap.get? b = some o → h'.get? b = some o) → Q (.ref (s.heap.objs.size + 1)) { s with heap := h' }) :
    wpAny (model prog w) A (call (.type "enumerate") [v]) Q E s := by
  refine callType_new F.called_enumerate (by decide) (F.typeCall_enumerate_1 _) (F.newCall_enumerate_1 _) (fun obj => F.args_object_init_2 obj _) F.entry_enumerate_new
    (px_enum_new B) ⟨h1, ?_⟩
  have hz : (s.heap.push o).objs.size = s.heap.objs.size + 1 := Heap.size_push ..
  show _ ∧ _
  rw [hz]
  have he : IsEnum ((s.heap.push o).push { cls := .type "enumerate", data := .fields #[.none, .bool false, .ref s.heap.objs.size, rawInt 0, .none, .none] }) (s.heap.objs.size + 1) s.heap.objs.size 0 .none := by
    have := Heap.get?_push_size (s.heap.push o) (o := { cls := .type "enumerate", data := .fields #[.none, .bool false, .ref s.heap.objs.size, rawInt 0, .none, .none] }) rfl
    rw [hz] at this; exact this
  refine ⟨⟨_, he, rfl⟩, h _ he (Heap.get?_push_of_some _ (Heap.get?_push_size _ B.free)) (by rw [Heap.size_push, hz]) fun b o x => Heap.get?_push_of_some _ (Heap.get?_push_of_some _ x)⟩
theorem wpAny_pyNext_enum_endT {prog : Program} {w : World} {A : Around} {E : Value → Shared → Prop} {s : Shared} {e it l : Addr} {i : Nat} {items : Array Value} {old : Value} {Q : Option Value → Shared → Prop} (hh : A.handled = none)
    (he : IsEnum s.heap e it i old) (hit : s.heap.IsTupleIter it l i) (hl : s.heap.IsTuple l items) (hx : items[i]? = none)
    (hQ : ∀ h', Heap.ExtBut it s.heap h' → Q none { s with heap := h' }) : wpAny (model prog w) A (pyNext (.ref e)) Q E s := by
  have hT : s.TypeIs (.ref e) "enumerate" := ⟨_, he, rfl⟩
  unfold pyNext
  refine wpAny_bind (wpAny_attempt (wpAny_callSpecial?_slot (name := Str.ofString "__next__") hT F.slot_enumerate_next
    (wpAny_call_entry F.slot_enumerate_next hT F.entry_enumerate_next ?_ (F.args_enumerate_next_1 _))))
  show wpAny _ _ (field (.ref e) 2 >>= _) _ _ _
  refine wpAny_bind (wpAny_field he rfl (x := .ref it) rfl ?_)
  refine wpAny_bind (wpAny_nextOf_tuple_end hh hit hl hx fun h' x he' hx' => ?_)
  obtain ⟨o, ho, hc⟩ := hx'
  refine wpAny_bind (wpAny_isInstance (T := "StopIteration") (b := true) ⟨o, ho, hc⟩ isSubtype_stop ?_)
  exact wpAny_pure (hQ _ he')
end PySem
namespace Px
open PySem PySem.Spec PyProof.Rows L2
/-- the tuple at a, each item in a new pair -/
def IteT (K : PySem.W.Frag) (a : Addr) : It :=
  ⟨fun i H => ∃ (xs : List V) (x : V), SqT K H a xs ∧ xs[i]? = some x, fun i H v H' => ∃ T x, v = .ref T ∧ H T = none ∧ H' = upd H T (.tup [.int (i : Nat), x]) ∧ ∀ xs, SqT K H a xs → xs[i]? = some x, fun i H => ∃ xs : List V, SqT K H a xs ∧ xs.length ≤ i⟩
theorem turn_enumT {P : Program} {w : World} {K : PySem.W.Frag} {elts : List Expr} {kk : Nat} {tpos : Pos} (a e it : Addr) :
    Turn P w K (.Tuple elts kk tpos) (IteT K a) [e, it] e (fun i h => (∃ old, IsEnum h e it ((i : Nat) : Int) old) ∧ h.IsTupleIter it a i ∧ e ≠ it ∧ a ≠ it ∧ a ≠ e) where
  mem := by simp
  obj := fun i h st b hb => by
    obtain ⟨⟨old, he⟩, ⟨o, ho, hc, hd⟩, _⟩ := st
    have e' : b = e ∨ b = it := by simpa using hb
    rcases e' with z | z
    · rw [z]; exact ⟨_, he, fun v q => nomatch q⟩
    · rw [z]; exact ⟨o, ho, fun v q => by rw [hd] at q; cases q⟩
  keep := fun i h h' st k => let ⟨⟨old, he⟩, hi, hne⟩ := st; ⟨⟨old, k e (by simp) _ he⟩, hi.at fun o q => k it (by simp) o q, hne⟩
  item := by
    intro X hP hw hK hc i pins s σ H E I hf st hg
    subst hP hw hK
    obtain ⟨⟨old, he⟩, hit, hne, ha1, ha2⟩ := st
    obtain ⟨xs, x, hq, hx⟩ := hg
    obtain ⟨its, rv, p, hz⟩ := I.tuple hq
    obtain ⟨u, hu, ru⟩ := rv.get hx
    have hel : e < s.heap.objs.size := Heap.lt_size he
    have hil : it < s.heap.objs.size := by obtain ⟨_, q, _⟩ := hit; exact Heap.lt_size q
    have hlt : i < its.toArray.size := by
      have := (List.getElem?_eq_some_iff.mp hu).1
      simpa using this
    refine wpAny_pyNext_enum_itemD (Draws.tuple (prog := X.prog) (w := X.w) (A := X.A.in1) (show X.A.in1.handled = none from I.ok.hd hc) it a ha1 its.toArray) he ⟨hit, p⟩ hlt hne (by simp [hne, Ne.symm ha2]) fun u' h' tk hu' ho hit' hT hsz hk => ?_
    have eu : u' = u := by
      have h1 : its[i]? = some u' := by simpa using hu'
      exact Option.some.inj (h1.symm.trans hu)
    subst eu
    refine ⟨_, rfl, wpAny_letOwnedTupleGo_enum (s := { s with heap := h', toks := tk + 1 }) ho fun h'' he' sb => ?_⟩
    have hT2 : h''.get? s.heap.objs.size = some { cls := .type "tuple", data := .seq #[.int i tk, u'] } := (sb.2 _ (Nat.ne_of_gt hel)).trans hT
    have new : ObjOk X.prog X.w (upd H s.heap.objs.size (.tup [.int (i : Nat), x])) h'' s.heap.objs.size (.tup [.int (i : Nat), x]) :=
      ⟨by show 2 ≤ sizeLine; decide, [.int i tk, u'], .cons ⟨_, rfl⟩ (.cons ru .nil), ⟨_, hT2, rfl, _, rfl⟩⟩
    have I1 : Inv X pins σ (upd H s.heap.objs.size (.tup [.int (i : Nat), x])) { s with heap := h'', toks := tk + 1 } :=
      I.turnedNew (ch := [e, it]) (fun b ob hb q => (sb.2 b (fun z => hb (by simp [z]))).trans (hk b ob (fun z => hb (by simp [z])) (fun z => hb (by simp [z])) q)) hf (Nat.le_refl _) new
    refine ⟨.ref s.heap.objs.size, _, I1, rfl, ⟨_, x, rfl, I.hok.fresh (Nat.le_refl _), rfl, fun ys hy => by rw [I.tuple_inj hy hq]; exact hx⟩, ⟨⟨u', ?_⟩, hit'.1.at fun o q => (sb.2 it (Ne.symm hne)).trans q, hne, ha1, ha2⟩, fun b hb => ?_⟩
    · have e1 : ((i + 1 : Nat) : Int) = (i : Int) + 1 := by omega
      rw [e1]; exact he'
    · have hb' : b < s.heap.objs.size := by
        have e' : b = e ∨ b = it := by simpa using hb
        rcases e' with z | z
        · rw [z]; exact hel
        · rw [z]; exact hil
      rw [upd_ne (Nat.ne_of_lt hb')]
      exact (hf b hb).1
  done := by
    intro X hP hw hK hc i pins s σ H E I hf st hg
    subst hP hw hK
    obtain ⟨⟨old, he⟩, hit, hne, ha1, ha2⟩ := st
    obtain ⟨xs, hq, hx⟩ := hg
    obtain ⟨its, rv, p, hz⟩ := I.tuple hq
    obtain ⟨f0, f1, f2, f3, f4, f5⟩ := hf it (by simp)
    have hl := rv.length
    have hit2 : s.heap.IsTupleIter it a i := hit
    exact wpAny_pyNext_enum_endT (I.ok.hd hc) he hit (show s.heap.IsTuple a its.toArray from p) (by simp; omega) fun h' eb => ⟨rfl, I.turned (t' := s.toks) (fun b o hb q => eb b o hb q) f0 f1 f3 f4 f5⟩
  self := fun A i s Q E st h => let ⟨⟨_, he⟩, _⟩ := st; wpAny_pyIter_enum he h
end Px
namespace Px
open PySem PySem.Spec PyProof.Rows L2
def enumL (xs : List D) : List D := xs.zipIdx.map fun p => .tup [.int (p.2 : Nat), p.1]
theorem enumL_len (xs : List D) : (enumL xs).length = xs.length := by simp [enumL]
theorem enumL_get {xs : List D} {i : Nat} {d : D} (h : (enumL xs)[i]? = some d) : ∃ x, xs[i]? = some x ∧ d = .tup [.int (i : Nat), x] := by
  simp only [enumL, List.getElem?_map, List.getElem?_zipIdx, Nat.zero_add] at h
  cases e : xs[i]? with
  | none => rw [e] at h; cases h
  | some x =>
    rw [e] at h
    cases h
    exact ⟨x, rfl, rfl⟩
theorem itn_enumT {K : PySem.W.Frag} {n : Nat} {ds : List D} {a : Addr} (hl : ds.length ≤ sizeLine) : Itn K n (IteT K a) ((.tup ds, .ref a), (.non, .non)) (enumL ds) := by
  have ob : ∀ ex H, RB K ex H n (.tup ds) (.ref a) → ∃ xs, SqT K H a xs ∧ Paired (R K ex H) ds xs := fun ex H h => by
    obtain ⟨b, xs, e, h1, h2, h3⟩ := RB.tup h
    cases e
    exact ⟨xs, h1, h3⟩
  refine ⟨by rw [enumL_len]; exact hl, fun ex H i h hi => ?_, fun ex H h => ?_, fun ex H i d x H' h hd hy => ?_⟩
  · rw [enumL_len] at hi
    obtain ⟨xs, h1, h2⟩ := ob ex H h.1
    obtain ⟨x, hx, _⟩ := Paired.get h2 (List.getElem?_eq_getElem hi)
    exact ⟨xs, x, h1, hx⟩
  · obtain ⟨xs, h1, h2⟩ := ob ex H h.1
    exact ⟨xs, h1, by rw [enumL_len, h2.length]; exact Nat.le_refl _⟩
  · obtain ⟨xs, h1, h2⟩ := ob ex H h.1
    obtain ⟨z, hz, rfl⟩ := enumL_get hd
    obtain ⟨y, hy1, ry⟩ := Paired.get h2 hz
    obtain ⟨T, x', rfl, hT, rfl, hy2⟩ := hy
    have e := hy2 xs h1
    rw [hy1] at e
    cases e
    have sm : Same H (upd H T (.tup [.int (i : Nat), y])) := same_upd hT
    refine ⟨sm, RB.of ?_⟩
    rw [R]
    refine ⟨T, [.int (i : Nat), y], rfl, ⟨.inl (.inl upd_same), (by decide : (2 : Nat) ≤ sizeLine)⟩, RL.of (.cons (by rw [R]) (.cons (R.same sm ry) .nil))⟩
def dEnum : List D → Res (List D)
  | [.tup xs] => .ok (enumL xs)
  | _ => .err
@[simp] theorem x_dEnum (xs : List D) : dEnum [.tup xs] = .ok (enumL xs) := id rfl
def iEnumT (K : PySem.W.Frag) (ta : TA) : TI := fun σ H R => ta σ H fun vs H1 => ∃ a xs, vs = [.ref a] ∧ SqT K H1 a xs ∧ R (IteT K a) H1
theorem pi_enumT {X : Cx} {e : Expr} {ta : TA} {p pos tpos : Pos} {elts : List Expr} {kk : Nat} (hg : Gl X "enumerate") (hm : X.mg "enumerate" = none) (ha : PA X [e] ta) (hs : starEach [e] X.env = [(false, eval e X.env)] := by rfl) :
    PI X (.Tuple elts kk tpos) (.Call (.Name "enumerate" p) [e] [] pos) (iEnumT X.K ta) := by
  refine ⟨fun pins s σ H R I h => ?_⟩
  refine Call_ (ld_blt I hg hm boot_enumerate (PyProof.Rows.callWith_type1 (thn (ha.run pos pins s σ H _ I h) fun us s1 ⟨vs, H1, I1, r1, q1⟩ => ?_) hs rfl))
  obtain ⟨a, xs, ex, hq, q⟩ := q1
  subst ex
  cases r1 with
  | cons r rr =>
    cases rr
    cases r
    obtain ⟨its, rv, p', hz⟩ := I1.tuple hq
    refine px_call_enum (begins_tuple a its.toArray) (show s1.heap.IsTuple a its.toArray from p') fun h' he hit hsz hk => wpAny_pyIter_enum he ?_
    have hal : a < s1.heap.objs.size := by
      obtain ⟨o, ho, _⟩ := (show s1.heap.IsTuple a its.toArray from p')
      exact Heap.lt_size ho
    have I2 : Inv X pins σ H1 { s1 with heap := h' } := I1.kept (t' := s1.toks) hk
    refine ⟨s1.heap.objs.size + 1, [s1.heap.objs.size + 1, s1.heap.objs.size], _, _, H1, rfl, I2, turn_enumT a (s1.heap.objs.size + 1) s1.heap.objs.size, ⟨⟨.none, he⟩, ⟨_, hit, rfl, rfl⟩, Nat.succ_ne_self _, Nat.ne_of_lt hal, Nat.ne_of_lt (Nat.lt_succ_of_lt hal)⟩, fun b hb => ?_, q⟩
    have e' : b = s1.heap.objs.size + 1 ∨ b = s1.heap.objs.size := by simpa using hb
    have hle : s1.heap.objs.size ≤ b := by
      rcases e' with z | z
      · rw [z]; exact Nat.le_add_right _ _
      · rw [z]; exact Nat.le_refl _
    exact I1.fpOk hle (I1.hok.fresh hle)
section
variable {X : Cx} {W : WX} {L : List Nat} {n kk : Nat} {elts : List Expr} {tpos p pos : Pos} {e : Expr} {fs : Px.Env → Res (List D)}
theorem ei_enum (hg : Gl X "enumerate") (hm : X.mg "enumerate" = none) (ha : EA X W L n 1 [e] fs) (hs : starEach [e] X.env = [(false, eval e X.env)] := by rfl) : EI X W L n (.Tuple elts kk tpos) (.Call (.Name "enumerate" p) [e] [] pos) (iCall dEnum fs) :=
  PI.imp (pi_enumT hg hm ha hs) fun σ H Q ⟨ex, ρ, fp, I, o⟩ => ⟨ex, ρ, fp, I, o.bind.mono fun ds q vs H1 e1 r1 _ => by
    unfold dEnum at q
    split at q
    · rename_i xs
      cases r1 with
      | cons r t =>
        cases t
        have r' := r
        obtain ⟨a, ys, rfl, h1, h2, h3⟩ := RB.tup r
        exact ⟨a, ys, rfl, h1, q (IteT X.K a) H1 ((.tup xs, .ref a), (.non, .non)) e1 (HR.one r') (itn_enumT (by rw [h3.length]; exact h2))⟩
    · exact q.elim⟩
end
end Px

namespace Px
open PySem PySem.Spec PyProof.Rows L2
/-! ### try: body; except x: .. -/
def pick : List (List Str × SF) → Str → Px.Env → Px.Flow
  | [], c, ρ => .exc c ρ
  | h :: r, c, ρ => if c ∈ h.1 then h.2 ρ else pick r c ρ
/-- us: the classes that the clauses are known for -/
def sTry (us : List Str) (F : SF) (hs : List (List Str × SF)) : SF := fun ρ => match F ρ with
  | .exc c ρ' => if c ∈ us then pick hs c ρ' else .err
  | r => r
section
variable {X : Cx} {W : WX} {kr : Nat} {Lb L L' : List Nat}
theorem wMany_ok {Dn : Ends} {c : Str} {ρ' : Px.Env} {ex0 : AS} {G : List (D × V)} : ∀ (hs : List (Value × List Str × SF)), (∀ h ∈ hs, ∀ C, X.mg c = some (.ref C) → PySem.W.exmOne X.K (.ref C) h.1 = some (decide (c ∈ h.2.1))) →
    FOut X W kr Lb L' ex0 G Dn (pick (hs.map (·.2)) c ρ') → ∀ C, X.mg c = some (.ref C) → ∀ σ' H' fp', SS X.K X.H_0 ex0 G [] ρ' σ' H' fp' →
    wMany X.K W Dn (hs.map fun h => (h.1, fun _ _ _ => tS X W kr Lb [] L' h.2.2)) (.ref C) none σ' H'
  | [], _, o, C, hC, σ', H', fp', S => o C hC σ' H' fp' S
  | h :: r, hm, o, C, hC, σ', H', fp', S => by
    refine ⟨_, hm h List.mem_cons_self C hC, fun hb a ha => ?_, fun hb => ?_⟩
    · have hb := of_decide_eq_true hb
      simp only [List.map_cons, pick, if_pos hb] at o
      exact ⟨ex0, G, ρ', fp', S, o⟩
    · have hb := of_decide_eq_false hb
      simp only [List.map_cons, pick, if_neg hb] at o
      exact wMany_ok r (fun h' hh => hm h' (List.mem_cons_of_mem _ hh)) o C hC σ' H' fp' S
theorem sj_try {body : List Stmt} {h₀ : ExceptHandler} {hds : List ExceptHandler} {pos : Pos} {F : SF} {us : List Str} (hs : List (Value × List Str × SF)) (hst : X.stack = X.env :: X.outer) (hf : X.env.frame = some X.env.locals) (tk : Takes X W)
    (hm : ∀ c ∈ us, ∀ h ∈ hs, ∀ C, X.mg c = some (.ref C) → PySem.W.exmOne X.K (.ref C) h.1 = some (decide (c ∈ h.2.1)))
    (hb : ∀ (W' : WX) (pn : List (Addr × Obj)) (xe : Value → Shared → Prop), Takes (X.tr pn xe) W' → PassesOwn (model X.prog X.w) X.A X.env xe → SJs (X.tr pn xe) W' kr Lb L L' body F)
    (hh : HdsOk X (h₀ :: hds) (hs.map fun h => (h.1, fun _ _ _ => tS X W kr Lb [] L' h.2.2))) : SJ X W kr Lb L L' (.Try body (h₀ :: hds) [] [] pos) (sTry us F (hs.map (·.2))) :=
  PS.imp (ps_try_many (tb := fun W' => tS X W' kr Lb L L' F) hst hf tk hb hh) fun Dn σ H ⟨ex0, G, ρ, fp, S, o⟩ => by
    refine ⟨ex0, G, ρ, fp, S, ?_⟩
    unfold sTry at o
    cases q : F ρ with
    | exc c ρ' =>
      rw [q] at o
      dsimp only at o
      split at o
      · rename_i hc
        exact wMany_ok hs (fun h hh C hC => hm c hc h hh C hC) o
      · exact o.elim
    | next ρ' => rw [q] at o; exact o
    | brk ρ' => rw [q] at o; exact o
    | cont ρ' => rw [q] at o; exact o
    | ret d => rw [q] at o; exact o
    | err => rw [q] at o; exact o
end
/-- a clause's suite may not raise -/
def sNx (F : SF) : SF := fun ρ => match F ρ with
  | .exc _ _ => .err
  | r => r
theorem SS.zero {K : PySem.W.Frag} {H0 H : Hp} {ex0 : AS} {G : List (D × V)} {L L0 : List Nat} {ρ : Px.Env} {σ : L2.St} {fp : Nat → List Addr} (S : SS K H0 ex0 G L ρ σ H fp) (h : ∀ i, L0.getD i 0 = L.getD i 0) : SS K H0 ex0 G L0 ρ σ H fp :=
  ⟨⟨S.si.len, fun i d e => by rw [h i]; exact S.si.val i d e, S.si.nod, S.si.dis, S.si.sub, S.si.ext⟩, S.own, S.old, S.same, S.held⟩
theorem zeros (n : Nat) (i : Nat) : (List.replicate n 0).getD i 0 = ([] : List Nat).getD i 0 := by
  rw [List.getD_eq_getElem?_getD, List.getElem?_replicate]
  split <;> rfl
abbrev HdsP (X : Cx) (W : WX) (kr : Nat) (Lb L' : List Nat) (hds : List ExceptHandler) (hs : List (Value × List Str × SF)) : Prop := HdsOk X hds (hs.map fun h => (h.1, fun _ _ _ => tS X W kr Lb [] L' h.2.2))
section
variable {X : Cx} {W : WX} {kr : Nat} {Lb L' : List Nat}
theorem hp_nil : HdsP X W kr Lb L' [] [] := HdsOk.nil
theorem hp_cons {x : Str} {c : Value} {l : List Str} {b₀ : Stmt} {suite : List Stmt} {np pos' : Pos} {hds : List ExceptHandler} {hs : List (Value × List Str × SF)} {F : SF} (n : Nat) (hc : Names X x c)
    (h : ∀ (a : Addr) (pn : List (Addr × Obj)), SJs (X.suite a pn) (fun _ _ _ _ => False) kr Lb (List.replicate n 0) L' (b₀ :: suite) F) (r : HdsP X W kr Lb L' hds hs) :
    HdsP X W kr Lb L' (.ExceptHandler (some (.Name x np)) none (b₀ :: suite) pos' :: hds) ((c, l, sNx F) :: hs) :=
  HdsOk.cons hc (fun a oe cls d pn _ _ => PSs.imp (h a _) fun Dn σ H ⟨ex0, G, ρ, fp, S, o⟩ => by
    refine ⟨ex0, G, ρ, fp, S.zero (zeros n), ?_⟩
    dsimp only at o
    unfold sNx at o
    cases q : F ρ with
    | exc c ρ' => rw [q] at o; exact o.elim
    | next ρ' => rw [q] at o; exact o
    | brk ρ' => rw [q] at o; exact o
    | cont ρ' => rw [q] at o; exact o
    | ret d => rw [q] at o; exact o
    | err => rw [q] at o; exact o) r
end
section
variable {X : Cx}
theorem names_g {x : Str} {c : Value} (hg : Gl X x) (hm : X.mg x = some c) (hd : (x == ("__debug__" : Str)) = false := by decide) : Names X x c := ⟨hg, hd, .inl hm⟩
def HC (X : Cx) (c : Str) (hs : List (Value × List Str × SF)) : Prop := ∀ h ∈ hs, ∀ C, X.mg c = some (.ref C) → PySem.W.exmOne X.K (.ref C) h.1 = some (decide (c ∈ h.2.1))
def HM (X : Cx) (us : List Str) (hs : List (Value × List Str × SF)) : Prop := ∀ c ∈ us, HC X c hs
theorem hc_n {c : Str} : HC X c [] := fun h hh => nomatch hh
theorem hc_c {c : Str} {A : Addr} {v : Value} {b : Bool} {l : List Str} {G : SF} {hs : List (Value × List Str × SF)} (he : X.mg c = some (.ref A)) (hx : PySem.W.exmOne X.K (.ref A) v = some b) (hb : b = decide (c ∈ l)) (r : HC X c hs) : HC X c ((v, l, G) :: hs) := fun h hh C hC => by
  rcases List.mem_cons.mp hh with rfl | hh
  · have e := he.symm.trans hC
    cases e
    rw [hx, hb]
  · exact r h hh C hC
theorem hm_n {hs : List (Value × List Str × SF)} : HM X [] hs := fun c hc => nomatch hc
theorem hm_c {c : Str} {us : List Str} {hs : List (Value × List Str × SF)} (h : HC X c hs) (r : HM X us hs) : HM X (c :: us) hs := fun c' hc => by
  rcases List.mem_cons.mp hc with rfl | hc
  · exact h
  · exact r c' hc
end
end Px

namespace Px
open PySem PySem.Spec PyProof.Rows L2
/-! ### augmented operators -/
def dAddI : D → D → Res D
  | .int i, .int j => .ok (.int (i + j))
  | .str a, .str b => if a.length + b.length ≤ sizeLine then .ok (.str (a ++ b)) else .err
  | _, _ => .err
@[simp] theorem x_addI (i j : Int) : dAddI (.int i) (.int j) = .ok (.int (i + j)) := id rfl
theorem o_iadd {X : Cx} : Op2 X 0 0 0 (inplaceOp .Add) dAddI := fun pins s σ H x y v u Q I rx ry h => by
  obtain ⟨ex, d1, d2, d, ext, r1, r2, e, q⟩ := h
  unfold dAddI at e
  split at e
  · cases e
    exact iop_add pins s σ H x y v u Q I rx ry ⟨_, _, r1.int, r2.int, q.int⟩
  · split at e
    · rename_i hc
      cases e
      exact iop_add_str pins s σ H x y v u Q I rx ry ⟨_, _, r1.str, r2.str, hc, q.str⟩
    · cases e
  · cases e
theorem o_isub {X : Cx} : Op2 X 0 0 0 (inplaceOp .Sub) dSub := fun pins s σ H x y v u Q I rx ry h => by
  obtain ⟨ex, d1, d2, d, ext, r1, r2, e, q⟩ := h
  unfold dSub at e
  split at e
  · cases e
    exact iop_sub pins s σ H x y v u Q I rx ry ⟨_, _, r1.int, r2.int, q.int⟩
  · cases e
end Px

namespace Px
open PySem PySem.Spec PyProof.Rows L2
/-! ### zip of two tuples -/
def zipL (xs ys : List D) : List D := (xs.zip ys).map fun p => .tup [p.1, p.2]
theorem zipL_len (xs ys : List D) : (zipL xs ys).length = min xs.length ys.length := by simp [zipL]
theorem zipL_get {xs ys : List D} {i : Nat} {d : D} (h : (zipL xs ys)[i]? = some d) : ∃ x y, xs[i]? = some x ∧ ys[i]? = some y ∧ d = .tup [x, y] := by
  simp only [zipL, List.getElem?_map] at h
  cases e : (xs.zip ys)[i]? with
  | none => rw [e] at h; cases h
  | some p =>
    rw [e] at h
    cases h
    obtain ⟨h1, h2⟩ := List.getElem?_zip_eq_some.mp e
    exact ⟨p.1, p.2, h1, h2, rfl⟩
def dZip : List D → Res (List D)
  | [.tup xs, .tup ys] => .ok (zipL xs ys)
  | _ => .err
@[simp] theorem x_dZip (xs ys : List D) : dZip [.tup xs, .tup ys] = .ok (zipL xs ys) := id rfl
theorem itn_zip {K : PySem.W.Frag} {n : Nat} {ds es : List D} {a b : Addr} (hl : ds.length ≤ sizeLine) : Itn K n (RZ.ItzT K a b) ((.tup ds, .ref a), (.tup es, .ref b)) (zipL ds es) := by
  have ob : ∀ {ex H d a}, RB K ex H n (.tup d) (.ref a) → ∃ xs, SqT K H a xs ∧ Paired (R K ex H) d xs := fun {ex H d a} h => by
    obtain ⟨b, xs, e, h1, h2, h3⟩ := RB.tup h
    cases e
    exact ⟨xs, h1, h3⟩
  refine ⟨by rw [zipL_len]; omega, fun ex H i h hi => ?_, fun ex H h => ?_, fun ex H i d x H' h hd hy => ?_⟩
  · rw [zipL_len] at hi
    obtain ⟨xs, h1, h2⟩ := ob h.1
    obtain ⟨ys, h3, h4⟩ := ob h.2
    obtain ⟨x, hx, _⟩ := Paired.get h2 (List.getElem?_eq_getElem (show i < ds.length by omega))
    obtain ⟨y, hy, _⟩ := Paired.get h4 (List.getElem?_eq_getElem (show i < es.length by omega))
    exact ⟨xs, ys, x, y, h1, h3, hx, hy⟩
  · obtain ⟨xs, h1, h2⟩ := ob h.1
    obtain ⟨ys, h3, h4⟩ := ob h.2
    refine ⟨xs, ys, h1, h3, ?_⟩
    rw [zipL_len, ← h2.length, ← h4.length]
    omega
  · obtain ⟨xs, h1, h2⟩ := ob h.1
    obtain ⟨ys, h3, h4⟩ := ob h.2
    obtain ⟨z1, z2, hz1, hz2, rfl⟩ := zipL_get hd
    obtain ⟨y1, hy1, ry1⟩ := Paired.get h2 hz1
    obtain ⟨y2, hy2, ry2⟩ := Paired.get h4 hz2
    obtain ⟨T, x1, x2, rfl, hT, rfl, q1, q2⟩ := hy
    have e1 := q1 xs h1
    have e2 := q2 ys h3
    rw [hy1] at e1
    rw [hy2] at e2
    cases e1
    cases e2
    have sm : Same H (upd H T (.tup [y1, y2])) := same_upd hT
    refine ⟨sm, RB.of ?_⟩
    rw [R]
    refine ⟨T, [y1, y2], rfl, ⟨.inl (.inl upd_same), (by decide : (2 : Nat) ≤ sizeLine)⟩, RL.of (.cons (R.same sm ry1) (.cons (R.same sm ry2) .nil))⟩
section
variable {X : Cx} {W : WX} {L : List Nat} {n kk : Nat} {elts : List Expr} {tpos p pos : Pos} {e e2 : Expr} {fs : Px.Env → Res (List D)}
theorem ei_zip (hg : Gl X "zip") (hm : X.mg "zip" = none) (ha : EA X W L n 2 [e, e2] fs) (hs : starEach [e, e2] X.env = (false, eval e X.env) :: starEach [e2] X.env := by rfl) (hpl : (backTo pos (starEach [e2] X.env)).any (·.1) = false := by rfl) :
    EI X W L n (.Tuple elts kk tpos) (.Call (.Name "zip" p) [e, e2] [] pos) (iCall dZip fs) :=
  PI.imp (RZ.pi_zipA hg hm ha hs hpl) fun σ H Q ⟨ex, ρ, fp, I, o⟩ => ⟨ex, ρ, fp, I, o.bind.mono fun ds q vs H1 e1 r1 _ => by
    unfold dZip at q
    split at q
    · rename_i xs ys
      cases r1 with
      | cons r t =>
        cases t with
        | cons r2 t =>
          cases t
          have r' := r
          have r2' := r2
          obtain ⟨a, zs, rfl, h1, h2, h3⟩ := RB.tup r
          obtain ⟨b, ws, rfl, h4, h5, h6⟩ := RB.tup r2
          exact ⟨a, b, zs, ws, rfl, .inr ⟨h1, h4, q (RZ.ItzT X.K a b) H1 ((.tup xs, .ref a), (.tup ys, .ref b)) e1 ⟨r', r2'⟩ (itn_zip (by rw [h3.length]; exact h2))⟩⟩
    · exact q.elim⟩
end
end Px

namespace Px
open PySem PySem.Spec PyProof.Rows L2
/-! ### what is not walked: no claim -/
def eErr : EF := fun _ => .err
def sErr : SF := fun _ => .err
def bErr : Px.Env → Res Bool := fun _ => .err
def iErr : Px.Env → Res (List D) := fun _ => .err
section
variable {X : Cx} {W : WX} {L L' Lb : List Nat} {n k kr : Nat} {e : Expr} {st : Stmt}
theorem eb_err : EB X W L n e eErr := ⟨fun pins s σ H Q I ⟨ex, ρ, fp, S, o⟩ => o.elim⟩
theorem eo_err : EO X W L k e eErr := ⟨fun pins s σ H Q I ⟨ex, ρ, fp, S, o⟩ => o.elim⟩
theorem et_err : ET X W L e bErr := ⟨fun pins s σ H Q I ⟨ex, ρ, fp, S, o⟩ => o.elim⟩
theorem sj_err : SJ X W kr Lb L L' st sErr := ⟨fun pins s σ H D I ⟨ex, G, ρ, fp, S, o⟩ => o.elim⟩
theorem sjs_err {sts : List Stmt} : SJs X W kr Lb L L' sts sErr := ⟨fun pins s σ H D I ⟨ex, G, ρ, fp, S, o⟩ => o.elim⟩
end
/-! ### methods of a str -/
def asStr : D → Res Str
  | .str s => .ok s
  | _ => .err
@[simp] theorem x_asStr (s : Str) : asStr (.str s) = .ok s := id rfl
def eMS (o : Str → List D → Res D) (f : EF) (fs : Px.Env → Res (List D)) : EF := fun ρ => f ρ >>= asStr >>= fun s => fs ρ >>= o s
@[simp] theorem x_eMS (o : Str → List D → Res D) (f : EF) (fs : Px.Env → Res (List D)) (ρ : Px.Env) : eMS o f fs ρ = f ρ >>= asStr >>= fun s => fs ρ >>= o s := id rfl
def NoXS (g : Str → List D → Res D) : Prop := ∀ s ds c, g s ds ≠ .exc c
def MethS (X : Cx) (id : String) (n k : Nat) (g : Str → List D → Res D) : Prop :=
  MtR X id fun x xs H Q => ∃ ex s ds d, (∀ a, ex a → H a ≠ none) ∧ x = .str s ∧ Paired (RB X.K ex H n) ds xs ∧ g s ds = .ok d ∧ QO X.K ex H k Q d
section
variable {X : Cx} {W : WX} {L : List Nat} {n n0 k m : Nat} {e e1 : Expr} {es : List Expr} {f : EF} {fs : Px.Env → Res (List D)} {o : Str → List D → Res D} {name : Str} {id : String} {apos cpos : Pos}
theorem eo_ms (hm : MethS X id n k o) (nx : NoXS o) (slot : Slot "str" name id) (hty : typeOf (.builtin id) = pure (.type "method_descriptor")) (hf : EB X W L n0 e f) (ha : EA X W L n m (e1 :: es) fs)
    (hbase : attributeBase e name X.env (eval e X.env) = eval e X.env := by rfl)
    (hfew : ((backTo cpos (starEach (e1 :: es) X.env)).all (fun x => !x.1) && (backToKw cpos (keywordEach [] X.env)).all (fun x => x.1.isSome)
      && decide ((e1 :: es).length + ([] : List Keyword).length + (if ([] : List Keyword).isEmpty then 0 else 1) < 30)) = true := by rfl)
    (hline : (apos.endLine == cpos.line) = true := by rfl) (hs : starEach (e1 :: es) X.env = (false, eval e1 X.env) :: starEach es X.env := by rfl) (hplain : (backTo cpos (starEach es X.env)).any (·.1) = false := by rfl) :
    EO X W L k (.Call (.Attribute e name apos) (e1 :: es) [] cpos) (eMS o f fs) :=
  PE.imp (pe_bm PySem.F.plainAttrs_str slot hty hm hf ha hbase hfew hline hs hplain) fun σ H Q ⟨ex, ρ, fp, I, q⟩ => by
    refine ⟨ex, ρ, fp, I, q.bind.bind.mono fun d1 q1 v1 H1 e1 r1 => ?_⟩
    cases d1 with
    | str s =>
      have hv := r1.str
      subst hv
      refine ⟨rfl, ex, ρ, fp, I.same e1, (Out.later (show Out X W σ H (fs ρ >>= o s) _ from q1) e1).bind.mono fun ds q2 vs H2 e2 r2 _ => ?_⟩
      obtain ⟨d, ed, qd⟩ := no_exc q2 (nx s ds)
      exact ⟨ex, s, ds, d, ((I.same e1).same e2).ext, rfl, r2, ed, fun v H3 fq e3 ro nd nw => qd v H3 fq ((e1.trans e2).trans e3) ro nd fun a ha => (e1.trans e2).free (nw a ha)⟩
    | _ => exact (show False from q1).elim
end
def txtsD : List D → Option (List Str)
  | [] => some []
  | .str b :: r => (txtsD r).map (b :: ·)
  | _ :: _ => none
theorem txtsD_vals {K : PySem.W.Frag} {ex : AS} {H : Hp} : ∀ {ds : List D} {vs : List V} {bs : List Str}, Paired (R K ex H) ds vs → txtsD ds = some bs → vs = bs.map V.str
  | [], _, _, .nil, h => by cases h; rfl
  | d :: ds, _, _, .cons r t, h => by
    cases d with
    | str b =>
      rw [txtsD] at h
      cases q : txtsD ds with
      | none => rw [q] at h; cases h
      | some bs =>
        rw [q] at h
        cases h
        rw [R] at r
        rw [r, txtsD_vals t q]
        rfl
    | _ => cases h
@[simp] theorem txtsD_map (bs : List Str) : txtsD (bs.map D.str) = some bs := by
  induction bs with
  | nil => rfl
  | cons b r ih => rw [List.map_cons, txtsD, ih]; rfl
def joinR (a : Str) (xs : List D) : Res D := match txtsD xs with
  | some ys => if (ys.map (·.length)).sum + ys.length * a.length ≤ 16777216 then .ok (.str (Txt.join a ys)) else .err
  | none => .err
def fJoin (a : Str) : List D → Res D
  | [.lst xs] => joinR a xs
  | [.tup xs] => joinR a xs
  | _ => .err
theorem fJoin_nx : NoXS fJoin := fun s ds c h => by
  unfold fJoin at h
  split at h <;> first | cases h | (unfold joinR at h; split at h <;> first | cases h | (split at h <;> cases h))
def fSIndex (a : Str) : List D → Res D
  | [.str b] => match Builtin.Str.occurrences a b 0 a.length 1 with
    | i :: _ => .ok (.int (i : Nat))
    | [] => .err
  | _ => .err
theorem fSIndex_nx : NoXS fSIndex := fun s ds c h => by
  unfold fSIndex at h
  split at h <;> first | cases h | (split at h <;> cases h)
def fStarts (a : Str) : List D → Res D
  | [.str b] => .ok (.bl (Txt.startswith a b))
  | _ => .err
theorem fStarts_nx : NoXS fStarts := fun s ds c h => by
  unfold fStarts at h
  split at h <;> cases h
def fSplit (a : Str) : List D → Res D
  | [.str b] => if b.length ≠ 0 ∧ a.length + 2 ≤ sizeLine ∧ (Txt.split a b).length ≤ sizeLine then .ok (.lst ((Txt.split a b).map .str)) else .err
  | _ => .err
theorem fSplit_nx : NoXS fSplit := fun s ds c h => by
  unfold fSplit at h
  split at h <;> first | cases h | (split at h <;> cases h)
def fLstrip (a : Str) : List D → Res D
  | [.str b] => if a.length ≤ sizeLine then .ok (.str (Txt.lstripChars a b)) else .err
  | _ => .err
theorem fLstrip_nx : NoXS fLstrip := fun s ds c h => by
  unfold fLstrip at h
  split at h <;> first | cases h | (split at h <;> cases h)
def fSCount (a : Str) : List D → Res D
  | [.str b] => .ok (.int (Txt.count a b))
  | _ => .err
theorem fSCount_nx : NoXS fSCount := fun s ds c h => by
  unfold fSCount at h
  split at h <;> cases h
section
variable {X : Cx} {k : Nat}
theorem m_join : MethS X "str.join" 1 k fJoin := fun pins s σ H x xs v us Q I rx r h => by
  obtain ⟨ex, a, ds, d, ext, rfl, rs, e, q⟩ := h
  unfold fJoin at e
  split at e
  · unfold joinR at e
    split at e
    · rename_i hb
      split at e
      · rename_i hc
        cases e
        cases rs with
        | cons r1 t =>
          cases t
          obtain ⟨p, zs, rfl, h1, h2, h3⟩ := r1.lst
          have ez := txtsD_vals h3 hb
          subst ez
          exact mt_join pins s σ H _ _ v us Q I rx r ⟨a, p, _, rfl, rfl, .inl h1, hc, q.str⟩
      · cases e
    · cases e
  · unfold joinR at e
    split at e
    · rename_i hb
      split at e
      · rename_i hc
        cases e
        cases rs with
        | cons r1 t =>
          cases t
          obtain ⟨p, zs, rfl, h1, h2, h3⟩ := r1.tup
          have ez := txtsD_vals h3 hb
          subst ez
          exact mt_join pins s σ H _ _ v us Q I rx r ⟨a, p, _, rfl, rfl, .inr h1, hc, q.str⟩
      · cases e
    · cases e
  · cases e
theorem m_sindex : MethS X "str.index" 0 k fSIndex := fun pins s σ H x xs v us Q I rx r h => by
  obtain ⟨ex, a, ds, d, ext, rfl, rs, e, q⟩ := h
  unfold fSIndex at e
  split at e
  · split at e
    · rename_i i rest ho
      cases e
      cases rs with
      | cons r1 t =>
        cases t
        have := r1.str
        subst this
        exact mt_sindex pins s σ H _ _ v us Q I rx r ⟨a, _, i, rest, rfl, rfl, ho, q.int⟩
    · cases e
  · cases e
theorem m_starts : MethS X "str.startswith" 0 k fStarts := fun pins s σ H x xs v us Q I rx r h => by
  obtain ⟨ex, a, ds, d, ext, rfl, rs, e, q⟩ := h
  unfold fStarts at e
  split at e
  · cases e
    cases rs with
    | cons r1 t =>
      cases t
      have := r1.str
      subst this
      exact mt_startswith pins s σ H _ _ v us Q I rx r ⟨a, _, rfl, rfl, q.bl⟩
  · cases e
theorem m_scount : MethS X "str.count" 0 k fSCount := fun pins s σ H x xs v us Q I rx r h => by
  obtain ⟨ex, a, ds, d, ext, rfl, rs, e, q⟩ := h
  unfold fSCount at e
  split at e
  · cases e
    cases rs with
    | cons r1 t =>
      cases t
      have := r1.str
      subst this
      exact mt_count pins s σ H _ _ v us Q I rx r ⟨a, _, rfl, rfl, q.int⟩
  · cases e
theorem m_lstrip : MethS X "str.lstrip" 0 k fLstrip := fun pins s σ H x xs v us Q I rx r h => by
  obtain ⟨ex, a, ds, d, ext, rfl, rs, e, q⟩ := h
  unfold fLstrip at e
  split at e
  · split at e
    · rename_i hc
      cases e
      cases rs with
      | cons r1 t =>
        cases t
        have := r1.str
        subst this
        exact mt_lstripChars pins s σ H _ _ v us Q I rx r ⟨a, _, rfl, rfl, hc, q.str⟩
    · cases e
  · cases e
theorem m_split : MethS X "str.split" 0 1 fSplit := fun pins s σ H x xs v us Q I rx r h => by
  obtain ⟨ex, a, ds, d, ext, rfl, rs, e, q⟩ := h
  unfold fSplit at e
  split at e
  · split at e
    · rename_i b hc
      cases e
      cases rs with
      | cons r1 t =>
        cases t
        have := r1.str
        subst this
        refine mt_split pins s σ H _ _ v us Q I rx r ⟨a, _, rfl, rfl, by simpa using hc.1, hc.2.1, fun p hp => q.lst ?_ hp (by rw [List.length_map]; exact hc.2.2)⟩
        generalize Txt.split a b = l
        induction l with
        | nil => exact .nil
        | cons z l ih => exact .cons (by rw [R]) ih
    · cases e
  · cases e
end
/-! ### str(i), int(s) -/
def fStr : List D → Res D
  | [.int i] => if i.natAbs.log2 < 1920 then .ok (.str (toString i)) else .err
  | [.str s] => .ok (.str s)
  | _ => .err
theorem fStr_nx : NoXL fStr := fun ds c h => by
  unfold fStr at h
  split at h <;> first | cases h | (split at h <;> cases h)
section
variable {X : Cx} {n k : Nat}
theorem c_str : CallD X n k (.type "str") fStr := fun pins s σ H xs us Q I r h => by
  obtain ⟨ex, ds, d, ext, rs, e, q⟩ := h
  unfold fStr at e
  split at e
  · split at e
    · rename_i hc
      cases e
      cases rs with
      | cons r1 t =>
        cases t
        rw [RB.int r1] at *
        exact call_str_int pins s σ H _ us Q I r ⟨_, rfl, hc, q.str⟩
    · cases e
  · cases e
    cases rs with
    | cons r1 t =>
      cases t
      rw [RB.str r1] at *
      exact SkE.call_str_str pins s σ H _ us Q I r ⟨_, rfl, q.str⟩
  · cases e
/-- int(x): also of a text of figures -/
def fIntS : List D → Res D
  | [.int i] => .ok (.int i)
  | [.bl b] => .ok (.int (if b then 1 else 0))
  | [.str a] => match PySem.intText? a with
    | some n => if a.length ≤ 640 then .ok (.int n) else .err
    | none => .err
  | _ => .err
theorem fIntS_nx : NoXL fIntS := fun ds c h => by
  unfold fIntS at h
  split at h <;> first | cases h | (split at h <;> first | cases h | (split at h <;> cases h))
theorem c_intS : CallD X n k (.type "int") fIntS := fun pins s σ H xs us Q I r h => by
  obtain ⟨ex, ds, d, ext, rs, e, q⟩ := h
  unfold fIntS at e
  split at e
  · cases e
    cases rs with
    | cons r1 t =>
      cases t
      rw [RB.int r1] at *
      exact call_int1 pins s σ H _ us Q I r (.inl ⟨_, rfl, q.int⟩)
  · cases e
    cases rs with
    | cons r1 t =>
      cases t
      rw [RB.bl r1] at *
      exact call_int1 pins s σ H _ us Q I r (.inr ⟨_, rfl, q.int⟩)
  · split at e
    · rename_i hi
      split at e
      · rename_i hc
        cases e
        cases rs with
        | cons r1 t =>
          cases t
          rw [RB.str r1] at *
          exact call_int_str pins s σ H _ us Q I r ⟨_, _, rfl, hi, hc, q.int⟩
      · cases e
    · cases e
  · cases e
end
/-! ### a tuple's augmented sum -/
section
variable {prog : Program} {w : World} {A : Around} {E : Value → Shared → Prop} {s : Shared}
theorem noI_tuple_add : typeLookup (.type "tuple") (dunderI "add") = pure none := by rw [typeLookup_type, builtinLookup_eq_fast]; kernel_rfl
theorem iconcat_meets {T id : String} {B : Builtin} {a b : Value} {S : PySem.Spec} {Q : Value → Shared → Prop} (ha : s.TypeIs a T) (hb : s.TypeIs b T) (hno : typeLookup (.type T) (dunderI "add") = pure none)
    (hfill : fillsNumberSlot (.type T) "add" = pure false) (hseq : seqSlot? (.type T) "__add__" = pure (some (.builtin id))) (slot : Slot T "__add__" id)
    (entry : entryFor table id = some B) (args : argsOk id ⟨[a, b], []⟩) (g : Meets (B ⟨[a, b], []⟩) S) (h : S A (wants Q E) s) : wpAny (model prog w) A (inplaceOp .Add a b) Q E s :=
  wpAny_inplaceOp_concat ha hb hno hfill hseq (call_meets slot ha entry args g h)
theorem icat_tup {t b : Addr} {vs ws : List Value} {Q : Value → Shared → Prop} (ht : IsTup s.heap t vs.toArray) (hb : IsTup s.heap b ws.toArray) (hv : vs ≠ [])
    (h1 : ws = [] → Q (.ref t) s) (h2 : ws ≠ [] → Q (.ref s.heap.objs.size) { s with heap := s.heap.push { cls := .type "tuple", data := .seq (vs ++ ws).toArray } })
    (hsz : vs.length + ws.length ≤ sizeLine) : wpAny (model prog w) A (inplaceOp .Add (.ref t) (.ref b)) Q E s := by
  obtain ⟨⟨cls, dd, data, sl⟩, ho, hc, n, hd⟩ := id ht
  obtain ⟨⟨cls2, dd2, data2, sl2⟩, ho2, hc2, n2, hd2⟩ := id hb
  simp only at hc hd hc2 hd2
  subst hc hd hc2 hd2
  have e : vs.toArray ++ ws.toArray = (vs ++ ws).toArray := by simp
  by_cases hw : ws = []
  · exact iconcat_meets ⟨_, ho, rfl⟩ ⟨_, ho2, rfl⟩ noI_tuple_add noFill_tuple_add seq_tuple_add PySem.F.slot_tuple_add PySem.F.entry_tuple_add (PySem.F.args_tuple_add_2 _ _)
      (tuple_addW1 t b vs.toArray ws.toArray n n2 dd dd2 sl sl2 (by simpa using hv) (by simp [hw])) ⟨ho, ho2, h1 hw⟩
  · refine iconcat_meets ⟨_, ho, rfl⟩ ⟨_, ho2, rfl⟩ noI_tuple_add noFill_tuple_add seq_tuple_add PySem.F.slot_tuple_add PySem.F.entry_tuple_add (PySem.F.args_tuple_add_2 _ _)
      (tuple_addW2 t b vs.toArray ws.toArray n n2 dd dd2 sl sl2 (by simpa using hv) (by simpa using hw) (by rw [List.size_toArray, List.size_toArray]; exact hsz)) ⟨ho, ho2, ?_⟩
    rw [e]
    exact h2 hw
theorem icat_tup0 {t b : Addr} {ws : List Value} {Q : Value → Shared → Prop} (ht : IsTup s.heap t ([] : List Value).toArray) (hb : IsTup s.heap b ws.toArray) (h : Q (.ref b) s) : wpAny (model prog w) A (inplaceOp .Add (.ref t) (.ref b)) Q E s := by
  obtain ⟨⟨cls, dd, data, sl⟩, ho, hc, n, hd⟩ := id ht
  obtain ⟨⟨cls2, dd2, data2, sl2⟩, ho2, hc2, n2, hd2⟩ := id hb
  simp only at hc hd hc2 hd2
  subst hc hd hc2 hd2
  exact iconcat_meets ⟨_, ho, rfl⟩ ⟨_, ho2, rfl⟩ noI_tuple_add noFill_tuple_add seq_tuple_add PySem.F.slot_tuple_add PySem.F.entry_tuple_add (PySem.F.args_tuple_add_2 _ _)
    (tuple_addW0 t b ([] : List Value).toArray ws.toArray n n2 dd dd2 sl sl2 (by simp)) ⟨ho, ho2, h⟩
end
section
variable {X : Cx}
theorem iop_catA : OpR X (inplaceOp .Add) (rCatA X.K) := by
  intro pins s σ H x y v u Q I rx ry h
  obtain ⟨a, b, xs, ys, rfl, rfl, ha, hb, hz, q0, q1, q2⟩ := h
  by_cases hx : xs = []
  · subst hx
    cases rx
    cases ry
    obtain ⟨its, r1, p1, _⟩ := I.tuple ha
    obtain ⟨its2, r2, p2, _⟩ := I.tuple hb
    cases r1
    exact icat_tup0 p1 p2 ⟨.ref b, H, I, rfl, q0 rfl⟩
  · cases rx
    cases ry
    obtain ⟨its, r1, p1, _⟩ := I.tuple ha
    obtain ⟨its2, r2, p2, _⟩ := I.tuple hb
    refine icat_tup p1 p2 (fun z => hx (r1.nil_iff.mp z)) (fun z => ⟨.ref a, H, I, rfl, q1 hx (r2.nil_iff.mp z)⟩) (fun z => ?_) (by rw [← r1.length, ← r2.length]; exact hz)
    refine ⟨.ref s.heap.objs.size, _, I.laid (t' := s.toks) (o := .tup (xs ++ ys)) (fun b ob q => Heap.get?_push_of_some _ q) (Nat.le_refl _) ?_, rfl, q2 hx (fun w => z (r2.nil_iff.mpr w)) _ (I.hok.fresh (Nat.le_refl _))⟩
    exact ⟨by rw [List.length_append]; exact hz, _, r1.append r2, IsTup.new _ _⟩
/-- x += y of ints, txtsD, tuples -/
def dAddT : D → D → Res D
  | .int i, .int j => .ok (.int (i + j))
  | .str a, .str b => if a.length + b.length ≤ sizeLine then .ok (.str (a ++ b)) else .err
  | .tup a, .tup b => if a.length + b.length ≤ sizeLine then .ok (.tup (a ++ b)) else .err
  | _, _ => .err
theorem o_iaddT : Op2 X 0 0 0 (inplaceOp .Add) dAddT := fun pins s σ H x y v u Q I rx ry h => by
  obtain ⟨ex, d1, d2, d, ext, r1, r2, e, q⟩ := h
  unfold dAddT at e
  split at e
  · cases e
    exact iop_add pins s σ H x y v u Q I rx ry ⟨_, _, r1.int, r2.int, q.int⟩
  · split at e
    · rename_i hc
      cases e
      exact iop_add_str pins s σ H x y v u Q I rx ry ⟨_, _, r1.str, r2.str, hc, q.str⟩
    · cases e
  · split at e
    · rename_i hc
      cases e
      obtain ⟨l, xs, rfl, h1, z1, p1⟩ := r1.tup
      obtain ⟨b, ys, rfl, h2, z2, p2⟩ := r2.tup
      have hl : xs.length + ys.length ≤ sizeLine := by rw [← p1.length, ← p2.length]; exact hc
      refine iop_catA pins s σ H _ _ v u Q I rx ry ⟨l, b, xs, ys, rfl, rfl, h1, h2, hl, fun e => ?_, fun _ e => ?_, fun _ _ p hp => q.tup (Paired.app p1 p2) hp (by rw [List.length_append]; exact hl)⟩
      · subst e
        cases p1
        exact q.flat (by rw [R]; exact ⟨b, ys, rfl, ⟨h2, z2⟩, RL.of p2⟩) rfl
      · subst e
        cases p2
        rw [List.append_nil] at q
        exact q.flat (by rw [R]; exact ⟨l, xs, rfl, ⟨h1, z1⟩, RL.of p1⟩) rfl
    · cases e
  · cases e
theorem o_imul : Op2 X 0 0 0 (inplaceOp .Mult) dMul := fun pins s σ H x y v u Q I rx ry h => by
  obtain ⟨ex, d1, d2, d, ext, r1, r2, e, q⟩ := h
  unfold dMul at e
  split at e
  · split at e
    · rename_i hm
      cases e
      exact iop_mul pins s σ H x y v u Q I rx ry ⟨_, _, r1.int, r2.int, by unfold mulOk at hm; rw [decide_eq_true_eq] at hm; exact hm, q.int⟩
    · cases e
  · cases e
theorem o_idiv : Op2 X 0 0 0 (inplaceOp .FloorDiv) dDiv := fun pins s σ H x y v u Q I rx ry h => by
  obtain ⟨ex, d1, d2, d, ext, r1, r2, e, q⟩ := h
  unfold dDiv at e
  split at e
  · split at e
    · rename_i hc
      cases e
      exact iop_fdiv pins s σ H x y v u Q I rx ry ⟨_, _, r1.int, r2.int, hc, q.int⟩
    · cases e
  · cases e
theorem o_imod : Op2 X 0 0 0 (inplaceOp .Mod) dMod := fun pins s σ H x y v u Q I rx ry h => by
  obtain ⟨ex, d1, d2, d, ext, r1, r2, e, q⟩ := h
  unfold dMod at e
  split at e
  · split at e
    · rename_i hc
      cases e
      exact iop_mod pins s σ H x y v u Q I rx ry ⟨_, _, r1.int, r2.int, hc, q.int⟩
    · cases e
  · cases e
end
/-! ### plain reading -/
@[simp] theorem x_addT_i (i j : Int) : dAddT (.int i) (.int j) = .ok (.int (i + j)) := id rfl
@[simp] theorem x_addT_t (a b : List D) : dAddT (.tup a) (.tup b) = if a.length + b.length ≤ sizeLine then .ok (.tup (a ++ b)) else .err := id rfl
@[simp] theorem x_addT_s (a b : Str) : dAddT (.str a) (.str b) = if a.length + b.length ≤ sizeLine then .ok (.str (a ++ b)) else .err := id rfl
end Px

namespace Px
open PySem PySem.Spec PyProof.Rows L2
/-! ### list(range(..)), tuple(range(..)) -/
def rgD (mk : List D → D) (i : Int) : D → Res D
  | .int j => if -(2 ^ 61) ≤ i ∧ i ≤ 2 ^ 61 ∧ -(2 ^ 61) ≤ j ∧ j ≤ 2 ^ 61 ∧ j - i ≤ 16777216 then .ok (mk (rng i (j - i).toNat)) else .err
  | _ => .err
def eRg1 (mk : List D → D) (f : EF) : EF := fun ρ => f ρ >>= fun d => rgD mk 0 d
def eRg2 (mk : List D → D) (f g : EF) : EF := fun ρ => f ρ >>= fun a => g ρ >>= fun b => match a with
  | .int i => rgD mk i b
  | _ => .err
@[simp] theorem x_eRg1 (mk : List D → D) (f : EF) (ρ : Px.Env) : eRg1 mk f ρ = f ρ >>= fun d => rgD mk 0 d := id rfl
theorem rgD_nat (mk : List D → D) (n : Nat) (h : n ≤ 16777216) : rgD mk 0 (.int n) = .ok (mk ((List.range n).map fun i => .int (i : Nat))) := by
  show (if _ then _ else _) = _
  rw [if_pos ⟨by omega, by omega, by omega, by omega, by omega⟩]
  simp
theorem rng_paired {K : PySem.W.Frag} {ex : AS} {H : Hp} (i j : Int) : Paired (R K ex H) (rng i (j - i).toNat) (rgV i j) := by
  unfold rng rgV
  generalize List.range (j - i).toNat = l
  induction l with
  | nil => exact .nil
  | cons a l ih => exact .cons (by rw [R]) ih
section
variable {X : Cx} {W : WX} {L : List Nat} {n m kk : Nat} {a b : Expr} {f g : EF} {p p2 p3 pos : Pos}
theorem eo_lrg1 (hc : X.calm = true) (hg : Gl X "list") (hm : X.mg "list" = none) (hg2 : Gl X "range") (hm2 : X.mg "range" = none) (ha : EB X W L n a f)
    (na : starEach [a] X.env = (false, eval a X.env) :: starEach [] X.env := by rfl)
    (nb : starEach [Expr.Call (.Name "range" p2) [a] [] p3] X.env = (false, eval (Expr.Call (.Name "range" p2) [a] [] p3) X.env) :: starEach [] X.env := by rfl) : EO X W L 1 (.Call (.Name "list" p) [.Call (.Name "range" p2) [a] [] p3] [] pos) (eRg1 .lst f) :=
  PE.imp (pe_listRg hc hg hm (prg_1 hg2 hm2 ha na) nb) fun σ H Q ⟨ex, ρ, fp, I, o⟩ => ⟨ex, ρ, fp, I, o.bind.mono fun d q v H1 e1 r1 => by
    unfold rgD at q
    split at q
    · rename_i j
      split at q
      · rename_i hj
        refine ⟨j, r1.int, ⟨by omega, by omega, by omega, by omega, by omega⟩, fun l hl => ?_⟩
        refine QO.lst (K := X.K) (ex := ex) (fun v H5 fq e5 ro nd nw => q v H5 fq (e1.trans e5) ro nd fun a ha => e1.free (nw a ha)) (rng_paired 0 j) hl ?_
        rw [rgV_length, sizeLine_eq]
        omega
      · exact q.elim
    · exact q.elim⟩
theorem eo_trg1 (hc : X.calm = true) (hg : Gl X "tuple") (hm : X.mg "tuple" = none) (hg2 : Gl X "range") (hm2 : X.mg "range" = none) (ha : EB X W L n a f)
    (na : starEach [a] X.env = (false, eval a X.env) :: starEach [] X.env := by rfl)
    (nb : starEach [Expr.Call (.Name "range" p2) [a] [] p3] X.env = (false, eval (Expr.Call (.Name "range" p2) [a] [] p3) X.env) :: starEach [] X.env := by rfl) : EO X W L kk (.Call (.Name "tuple" p) [.Call (.Name "range" p2) [a] [] p3] [] pos) (eRg1 .tup f) :=
  PE.imp (pe_tupRg hc hg hm (prg_1 hg2 hm2 ha na) nb) fun σ H Q ⟨ex, ρ, fp, I, o⟩ => ⟨ex, ρ, fp, I, o.bind.mono fun d q v H1 e1 r1 => by
    unfold rgD at q
    split at q
    · rename_i j
      split at q
      · rename_i hj
        refine ⟨j, r1.int, ⟨by omega, by omega, by omega, by omega, by omega⟩, fun l hl => ?_⟩
        refine QO.tup (K := X.K) (ex := ex) (fun v H5 fq e5 ro nd nw => q v H5 fq (e1.trans e5) ro nd fun a ha => e1.free (nw a ha)) (rng_paired 0 j) hl ?_
        rw [rgV_length, sizeLine_eq]
        omega
      · exact q.elim
    · exact q.elim⟩
theorem eo_lrg2 (hc : X.calm = true) (hg : Gl X "list") (hm : X.mg "list" = none) (hg2 : Gl X "range") (hm2 : X.mg "range" = none) (ha : EB X W L n a f) (hb : EB X W L m b g)
    (na : starEach [a, b] X.env = (false, eval a X.env) :: starEach [b] X.env := by rfl) (nb : starEach [b] X.env = (false, eval b X.env) :: starEach [] X.env := by rfl) (hp : (backTo p3 (starEach [b] X.env)).any (·.1) = false := by rfl)
    (nc : starEach [Expr.Call (.Name "range" p2) [a, b] [] p3] X.env = (false, eval (Expr.Call (.Name "range" p2) [a, b] [] p3) X.env) :: starEach [] X.env := by rfl) : EO X W L 1 (.Call (.Name "list" p) [.Call (.Name "range" p2) [a, b] [] p3] [] pos) (eRg2 .lst f g) :=
  PE.imp (pe_listRg hc hg hm (prg_2 hg2 hm2 ha hb na nb hp) nc) fun σ H Q ⟨ex, ρ, fp, I, o⟩ => ⟨ex, ρ, fp, I, o.bind.mono fun d q v H1 e1 r1 => ⟨ex, ρ, fp, I.same e1, (q.bind.later e1).mono fun d2 q2 v2 H2 e2 r2 => by
    cases d with
    | int i =>
      cases d2 with
      | int j =>
        have e9 : rgD .lst i (.int j) = if -(2 ^ 61) ≤ i ∧ i ≤ 2 ^ 61 ∧ -(2 ^ 61) ≤ j ∧ j ≤ 2 ^ 61 ∧ j - i ≤ 16777216 then .ok (.lst (rng i (j - i).toNat)) else .err := rfl
        dsimp only at q2
        rw [e9] at q2
        split at q2
        · rename_i hj
          refine ⟨i, j, r1.int, r2.int, ⟨by omega, by omega, by omega, by omega, by omega⟩, fun l hl => ?_⟩
          refine QO.lst (K := X.K) (ex := ex) (fun v H5 fq e5 ro nd nw => q2 v H5 fq ((e1.trans e2).trans e5) ro nd fun a ha => (e1.trans e2).free (nw a ha)) (rng_paired i j) hl ?_
          rw [rgV_length, sizeLine_eq]
          omega
        · exact q2.elim
      | _ => exact q2.elim
    | _ => exact q2.elim⟩⟩
end
/-! ### f() -/
section
variable {X : Cx} {W : WX} {L : List Nat} {k kr : Nat} {pos p : Pos} {f : Addr} {fd : FuncData} {ps : List Str} {x : Str} {C : List D → Res D}
theorem pe_callS0 {sp : Sp} {E : L2.St → XK} (F : FnOk X.prog X.w X.K X.mg X.base (L2.CX X.prog X.w) k f fd ps sp) (hr : Room k X.A) (hg : Gl X x) (hm : X.mg x = some (.ref f)) (hk : PySem.W.keepIn X.K (.ref f) = true) (hb : Binds X.K fd ps []) (hx : ∀ σ, PassesAt (L2.CX X.prog X.w) X σ (E σ))
    (hdb : (x == ("__debug__" : Str)) = false := by decide) : PE X (.Call (.Name x p) [] [] pos) (tCallS sp E tNil) := by
  refine ⟨fun pins s σ H Q I h => ?_⟩
  refine wpAny_Call_Name_kw (ld_glob I hg hm ?_ hdb)
  exact PySem.W.callWith_K0 I.kIn hk (run_fnS (us := []) F hr hb (hx σ) I .nil h)
theorem eo_call0 (F : FnOk X.prog X.w X.K X.mg X.base (L2.CX X.prog X.w) k f fd ps (Spec X.K X.mg 0 kr C)) (hr : Room k X.A) (hg : Gl X x) (hm : X.mg x = some (.ref f)) (hk : PySem.W.keepIn X.K (.ref f) = true) (hb : Binds X.K fd ps []) (tk : Takes X W)
    (hdb : (x == ("__debug__" : Str)) = false := by decide) : EO X W L kr (.Call (.Name x p) [] [] pos) (eCall C aNil) :=
  PE.imp (pe_callS0 F hr hg hm hk hb (fun σ => passAt tk σ) hdb) fun σ H Q ⟨ex, ρ, fp, I, o⟩ => by
    have o : Out X W σ H (C []) _ := o
    refine ⟨rfl, ex, [], I.ext, .nil, ?_⟩
    cases hC : C [] with
    | ok d =>
      rw [hC] at o
      exact fun v H2 fq e2 ro nd nw => o v H2 fq e2 ro nd nw
    | exc c =>
      rw [hC] at o
      exact fun Cl hCl H' e2 => o Cl hCl H' e2
    | err =>
      rw [hC] at o
      exact o.elim
end
/-! ### a, b, c = .. -/
section
variable {X : Cx} {W : WX} {kr : Nat} {Lb L : List Nat} {a b c : Expr} {f g h : EF} {pos : Pos}
theorem sj_par3 {i j l k1 k2 k3 : Nat} {x y z : Str} {px py pz pt : Pos} {kt kt2 : Nat} {pt2 : Pos} (hc : X.calm = true) (hN : X.N.Nodup) (hi : X.N[i]? = some x) (hj : X.N[j]? = some y) (hl : X.N[l]? = some z) (hij : i ≠ j) (hil : i ≠ l) (hjl : j ≠ l)
    (hx : X.env.scope.names.lookup x = some .local) (hy : X.env.scope.names.lookup y = some .local) (hz : X.env.scope.names.lookup z = some .local)
    (h1 : EO X W L k1 a f) (h2 : EO X W L k2 b g) (h3 : EO X W L k3 c h) (li : i < L.length) (lj : j < L.length) (ll : l < L.length)
    (hw : swappedStores [.Tuple [.Name x px, .Name y py, .Name z pz] kt pt] (.Tuple [a, b, c] kt2 pt2) X.env = pure (some [x, y, z])) (hs : swapsWithSole [.Tuple [.Name x px, .Name y py, .Name z pz] kt pt] (.Tuple [a, b, c] kt2 pt2) pos.line X.env = pure false := by rfl)
    (hs1 : starEach [a, b, c] X.env = (false, eval a X.env) :: starEach [b, c] X.env := by rfl) (hs2 : starEach [b, c] X.env = (false, eval b X.env) :: starEach [c] X.env := by rfl) (hs3 : starEach [c] X.env = (false, eval c X.env) :: starEach [] X.env := by rfl) :
    SJ X W kr Lb L (setLv L [i, j, l] [k1, k2, k3]) (.Assign [.Tuple [.Name x px, .Name y py, .Name z pz] kt pt] (.Tuple [a, b, c] kt2 pt2) pos) (sPar [i, j, l] [f, g, h]) :=
  PS.imp (ps_par3 hc hN hi hj hl hij hil hjl hx hy hz (eas_cons h1 (eas_cons h2 (eas_cons h3 eas_nil hs3) hs2) hs1) hw hs) fun Dn σ H ⟨ex0, Gs, ρ, fp, S, o⟩ => by
    refine ⟨_, ρ, fp, S.si, (flow_out S o).mono fun ds q vs fqs H1 e1 r nd nw => ?_⟩
    obtain ⟨fp', S'⟩ := S.puts (is := [i, j, l]) e1 r nd nw rfl (fun l' hl => by
      rcases List.mem_cons.mp hl with rfl | hl
      · exact li
      · rcases List.mem_cons.mp hl with rfl | hl
        · exact lj
        · rw [List.mem_singleton.mp hl]
          exact ll)
    have hl := r.lens
    clear nd nw r
    match vs, hl with
    | [v1, v2, v3], _ => exact ⟨v1, v2, v3, rfl, q _ _ _ S'⟩
end
end Px

namespace Px
open PySem PySem.Spec PyProof.Rows L2
/-! ### sep.join(a str) -/
section
open Builtin Builtin.Str
variable {prog : Program} {w : World} {A : Around} {E : Value → Shared → Prop} {s : Shared}
theorem join_tree_str (sep y : Str) (t u : Tok) : «str.join» ⟨[.str sep t, .str y u], []⟩ = (do
    let ty ← typeOf (.str y u)
    if (ty == .type "list" || ty == .type "tuple") = true then (do
      match ← seqItems? (.str y u) with
      | some xs => joinTail sep xs.toList
      | none => unsupported "internal:str.join")
    else (do
      let it ← (pyIter (.str y u)).tryCatch fun e => do
        if ← isInstance e (.type "TypeError") then rule "str.join.not-iterable"; raiseError "TypeError" "can only join an iterable" else throw e
      let items ← collect it
      joinTail sep items)) := rfl
def chs (y : Str) : List Str := y.cps.toList.map fun c => ⟨#[c]⟩
theorem join_str {x y : Str} {t u : Tok} {Q : Value → Shared → Prop} (hh : A.handled = none) (hsz : y.length ≤ sizeLine) (hok : y.length + y.length * x.length ≤ 16777216)
    (hq : ∀ h' k t', (∀ b o, s.heap.get? b = some o → h'.get? b = some o) → Q (.str (Txt.join x (chs y)) t') { s with heap := h', toks := k }) :
    wpAny (model prog w) A (call (.builtin "str.join") [.str x t, .str y u]) Q E s := by
  refine wpAny_call (codeAny_call_builtin F.slot_str_join.plain F.entry_str_join (F.slot_str_join.check _ _ _ _ _ _ _ _ (typeIs_str _ _ _) (F.args_str_join_2 _ _) ?_))
  rw [join_tree_str]
  refine wpAny_bind (wpAny_typeOf (typeIs_str _ y u) ?_)
  show wpAny _ A.in1 ((pyIter (.str y u)).tryCatch _ >>= fun it => collect it >>= fun items => joinTail x items) _ _ s
  refine wpAny_bind (wpAny_tryCatch (wpAny_pyIter_strU ?_))
  have hx : ∀ b o, s.heap.get? b = some o → (s.heap.push { cls := .type (strIterType y), data := .fields #[.str y u, .int 0 0] }).get? b = some o := fun b o e => Heap.get?_push_of_some _ e
  refine wpAny_bind (wpAny_collect_strIter (ty := strIterType y) (x := y) (t := u) hh (by unfold strIterType; split <;> simp) ⟨_, Heap.get?_push_size _ rfl, rfl, rfl⟩ (fun s' acc hk hg hd ho hacc => ?_) hsz)
  obtain ⟨l, hl⟩ := exists_strValues acc.toList fun v hv => by
    obtain ⟨j, hj, rfl⟩ := Array.mem_iff_getElem.mp (Array.mem_toList_iff.mp hv)
    obtain ⟨c, u, _, e⟩ := hacc.2 j _ (Array.getElem?_eq_getElem hj)
    exact ⟨_, u, e⟩
  have hlen : l.length = y.cps.size := by
    have := congrArg List.length hl
    have h2 : acc.toList.length = y.cps.size := by rw [Array.length_toList]; exact hacc.1
    rw [h2] at this
    rw [← this]
    simp [strValues]
  have hl1 : l.map (·.1) = chs y := by
    refine List.ext_getElem? fun j => ?_
    by_cases hj : j < l.length
    · have hj2 : j < y.cps.size := by omega
      have e1 : acc.toList[j]? = some (.str (l[j]).1 (l[j]).2) := by
        rw [← hl]
        simp [strValues, hj]
      rw [Array.getElem?_toList] at e1
      obtain ⟨c, u', hc, e2⟩ := hacc.2 j _ e1
      have h1 : (l[j]).1 = ⟨#[c]⟩ := (Value.str.inj e2).1
      rw [List.getElem?_map, List.getElem?_eq_getElem hj]
      unfold chs
      rw [List.getElem?_map, Array.getElem?_toList, hc]
      simp [h1]
    · rw [List.getElem?_eq_none (by rw [List.length_map]; omega), List.getElem?_eq_none (by unfold chs; rw [List.length_map, Array.length_toList]; omega)]
  have hsum : ∀ l : List Nat, ((l.map fun c => (⟨#[c]⟩ : Str)).map (·.length)).sum = l.length := fun l => by
    induction l with
    | nil => rfl
    | cons a l ih =>
      rw [List.map_cons, List.map_cons, List.sum_cons, ih, List.length_cons]
      show 1 + l.length = _
      omega
  have hok' : JoinOk x (l.map (·.1)) = true := by
    rw [hl1]
    refine joinOk_of ?_
    unfold chs
    rw [hsum, List.length_map, Array.length_toList]
    exact hok
  rw [← hl]
  unfold JoinOk at hok'
  rw [Bool.not_eq_true'] at hok'
  have g : Gives (joinTail x (strValues l)) (joinMade x l) := by
    have g0 := gives_joinTail x l hok'
    cases l with
    | nil => exact g0
    | cons p r => cases r with
      | nil => exact g0
      | cons q r' => exact g0
  refine g prog w A (wants Q E) s' (post_join l ⟨joinFit_length hok', fun t' k => ?_⟩)
  rw [hl1]
  obtain ⟨h', g', d', tk', os'⟩ := s'
  cases hg
  cases hd
  cases ho
  exact hq h' k t' fun b o e => hk b o (fun q => absurd (Heap.lt_size e) (by rw [q]; exact Nat.lt_irrefl _)) (hx b o e)
end
def fJoinS (a : Str) : List D → Res D
  | [.str y] => if y.length ≤ sizeLine ∧ y.length + y.length * a.length ≤ 16777216 then .ok (.str (Txt.join a (chs y))) else .err
  | [.lst xs] => joinR a xs
  | [.tup xs] => joinR a xs
  | _ => .err
theorem fJoinS_nx : NoXS fJoinS := fun s ds c h => by
  unfold fJoinS at h
  split at h <;> first | cases h | (split at h <;> cases h) | (unfold joinR at h; split at h <;> first | cases h | (split at h <;> cases h))
section
variable {X : Cx} {k : Nat}
theorem m_joinS (hc : X.calm = true) : MethS X "str.join" 1 k fJoinS := fun pins s σ H x xs v us Q I rx r h => by
  obtain ⟨ex, a, ds, d, ext, rfl, rs, e, q⟩ := h
  unfold fJoinS at e
  split at e
  · split at e
    · rename_i y hy
      cases e
      cases rs with
      | cons r1 t =>
        cases t
        have := r1.str
        subst this
        cases r with
        | cons r2 r3 =>
          cases r3
          obtain ⟨t1, rfl⟩ := rx
          obtain ⟨t2, rfl⟩ := r2
          exact join_str (I.ok.hd hc) hy.1 hy.2 fun h' kk t' hk => ⟨.str (Txt.join a (chs _)), H, I.kept (t' := kk) hk, ⟨t', rfl⟩, q.str⟩
    · cases e
  · exact m_join (k := k) pins s σ H _ xs v us Q I rx r ⟨ex, a, _, d, ext, rfl, rs, e, q⟩
  · exact m_join (k := k) pins s σ H _ xs v us Q I rx r ⟨ex, a, _, d, ext, rfl, rs, e, q⟩
  · cases e
end
end Px

namespace Px
open PySem PySem.Spec PyProof.Rows L2
/-! ### plain reading: more tools -/
abbrev dN (n : Nat) : D := .int (n : Int)
theorem dN_def (n : Nat) : dN n = .int (n : Int) := id rfl
mutual
theorem eqD_self : ∀ (k : Nat) (d : D), okN k d = true → eqD d d = true
  | k, .non, _ => by rw [eqD]
  | k, .bl b, _ => by rw [eqD]; simp
  | k, .int b, _ => by rw [eqD]; simp
  | k, .str b, _ => by rw [eqD]; simp
  | 0, .tup xs, h => by rw [okN] at h; cases h
  | k + 1, .tup xs, h => by rw [okN] at h; rw [eqD]; exact eqDL_self k xs h
  | 0, .lst xs, h => by rw [okN] at h; cases h
  | k + 1, .lst xs, h => by rw [okN] at h; rw [eqD]; exact eqDL_self k xs h
  | k, .dic _ _, h => by rw [okN] at h; cases h
  | k, .set _, h => by rw [okN] at h; cases h
  | k, .exc _, h => by rw [okN] at h; cases h
  | k, .oth, h => by rw [okN] at h; cases h
theorem eqDL_self : ∀ (k : Nat) (xs : List D), okL k xs = true → eqDL xs xs = true
  | k, [], _ => by rw [eqDL]
  | k, x :: xs, h => by
    rw [okL, Bool.and_eq_true] at h
    rw [eqDL, eqD_self k x h.1, eqDL_self k xs h.2]
    rfl
end
theorem dEq_self {d : D} (h : okN 60 d = true) : dEq d d = .ok (.bl true) := by
  unfold dEq
  rw [h, eqD_self 60 d h]
  rfl
theorem dNe_self {d : D} (h : okN 60 d = true) : dNe d d = .ok (.bl false) := by
  unfold dNe
  rw [h, eqD_self 60 d h]
  rfl
mutual
theorem okN_mono : ∀ {k m : Nat} {d : D}, k ≤ m → okN k d = true → okN m d = true
  | k, m, .non, _, _ => by rw [okN]
  | k, m, .bl _, _, _ => by rw [okN]
  | k, m, .int _, _, _ => by rw [okN]
  | k, m, .str s, _, h => by rw [okN] at h ⊢; exact h
  | 0, m, .tup xs, _, h => by rw [okN] at h; cases h
  | k + 1, 0, .tup xs, hk, h => by omega
  | k + 1, m + 1, .tup xs, hk, h => by rw [okN] at h ⊢; exact okL_mono (by omega) h
  | 0, m, .lst xs, _, h => by rw [okN] at h; cases h
  | k + 1, 0, .lst xs, hk, h => by omega
  | k + 1, m + 1, .lst xs, hk, h => by rw [okN] at h ⊢; exact okL_mono (by omega) h
  | k, m, .dic _ _, _, h => by rw [okN] at h; cases h
  | k, m, .set _, _, h => by rw [okN] at h; cases h
  | k, m, .exc _, _, h => by rw [okN] at h; cases h
  | k, m, .oth, _, h => by rw [okN] at h; cases h
theorem okL_mono : ∀ {k m : Nat} {xs : List D}, k ≤ m → okL k xs = true → okL m xs = true
  | k, m, [], _, _ => by rw [okL]
  | k, m, x :: xs, hk, h => by
    rw [okL, Bool.and_eq_true] at h ⊢
    exact ⟨okN_mono hk h.1, okL_mono hk h.2⟩
end
theorem okN_tup {k : Nat} {xs : List D} (h : ∀ x ∈ xs, okN k x = true) : okN (k + 1) (.tup xs) = true := by
  rw [okN, okL_all]
  exact List.all_eq_true.mpr h
theorem okN_lst {k : Nat} {xs : List D} (h : ∀ x ∈ xs, okN k x = true) : okN (k + 1) (.lst xs) = true := by
  rw [okN, okL_all]
  exact List.all_eq_true.mpr h
@[simp] theorem ok_non (k : Nat) : okN k .non = true := by rw [okN]
@[simp] theorem ok_bl (k : Nat) (b : Bool) : okN k (.bl b) = true := by rw [okN]
@[simp] theorem ok_int (k : Nat) (i : Int) : okN k (.int i) = true := by rw [okN]
@[simp] theorem ok_str (k : Nat) (s : Str) : okN k (.str s) = PyData.strOk s := by rw [okN]
theorem ok_ints (k : Nat) (l : List Nat) : okN (k + 1) (.tup (l.map dN)) = true := okN_tup fun x h => by
  obtain ⟨n, _, rfl⟩ := List.mem_map.mp h
  exact ok_int _ _
/-- equal exactly if the images are -/
theorem eqDL_map {α : Type} [DecidableEq α] {f : α → D} (h : ∀ a b, eqD (f a) (f b) = decide (a = b)) : ∀ (xs ys : List α), eqDL (xs.map f) (ys.map f) = decide (xs = ys)
  | [], [] => by rw [List.map_nil, eqDL]; simp
  | [], y :: ys => by rw [List.map_nil, List.map_cons, eqDL]; simp; all_goals (intros; contradiction)
  | x :: xs, [] => by rw [List.map_nil, List.map_cons, eqDL]; simp; all_goals (intros; contradiction)
  | x :: xs, y :: ys => by
    rw [List.map_cons, List.map_cons, eqDL, h, eqDL_map h xs ys]
    simp
theorem eqD_N (a b : Nat) : eqD (dN a) (dN b) = decide (a = b) := by
  rw [eqD]
  by_cases h : a = b
  · subst h; simp
  · rw [decide_eq_false h]
    exact beq_eq_false_iff_ne.mpr fun q => h (by omega)
theorem cut_map {α β : Type} (f : α → β) (xs : List α) (a b : Option Int) : cut (xs.map f) a b = (cut xs a b).map f := by
  unfold cut
  rw [List.length_map, List.map_take, List.map_drop]
theorem dIx_tm {α : Type} {f : α → D} {xs : List α} {n : Nat} {a : α} (h : xs[n]? = some a) : dIx (.tup (xs.map f)) (.int n) = .ok (f a) := dIx_tup (by rw [List.getElem?_map, h]; rfl)
theorem dIx_lm {α : Type} {f : α → D} {xs : List α} {n : Nat} {a : α} (h : xs[n]? = some a) : dIx (.lst (xs.map f)) (.int n) = .ok (f a) := dIx_lst (by rw [List.getElem?_map, h]; rfl)
theorem whileE_succ (t : Px.Env → Res Bool) (F : SF) (n : Nat) (ρ : Px.Env) : whileE t F (n + 1) ρ = (t ρ).flow ρ fun b => if b = true then loopK (F ρ) (whileE t F n) else .next ρ := id rfl
@[simp] theorem x_sWhile (n : Nat) (t : Px.Env → Res Bool) (F : SF) : sWhile n t F = whileE t F n := id rfl
@[simp] theorem forE_nil (gf : Px.Env → D → Res Px.Env) (F : SF) (ρ : Px.Env) : forE gf F [] ρ = .next ρ := id rfl
theorem forE_cons (gf : Px.Env → D → Res Px.Env) (F : SF) (d : D) (ds : List D) (ρ : Px.Env) : forE gf F (d :: ds) ρ = (gf ρ d).must fun ρ1 => loopK (F ρ1) (forE gf F ds) := id rfl
/-- x += e -/
def augK (r : Res D) (ρ : Px.Env) (i : Nat) : Px.Flow := match r with
  | .ok d => .next (ρ.set i (some d))
  | _ => .err
@[simp] theorem augK_ok (d : D) (ρ : Px.Env) (i : Nat) : augK (.ok d) ρ i = .next (ρ.set i (some d)) := id rfl
@[simp] theorem x_sAug (o : D → D → Res D) (i : Nat) (f : EF) (ρ : Px.Env) : sAug o i f ρ = (vD (ρ.getD i none)).flow ρ fun a => (f ρ).flow ρ fun b => augK (o a b) ρ i := by
  unfold sAug
  rw [x_eVar]
  rfl
@[simp] theorem flow_ite {α : Type} {c : Prop} [Decidable c] (a b : Res α) (ρ : Px.Env) (k : α → Px.Flow) : (if c then a else b).flow ρ k = if c then a.flow ρ k else b.flow ρ k := by split <;> rfl
@[simp] theorem bind_ite {α β : Type} {c : Prop} [Decidable c] (a b : Res α) (k : α → Res β) : ((if c then a else b) >>= k) = if c then a >>= k else b >>= k := by split <;> rfl
end Px

namespace Px
open PySem PySem.Spec PyProof.Rows L2
/-! ### texts by their signs -/
def sOf (l : List Nat) : Str := ⟨l.toArray⟩
abbrev dS (l : List Nat) : D := .str (sOf l)
theorem sOf_len (l : List Nat) : (sOf l).length = l.length := id rfl
theorem sOf_cps (l : List Nat) : (sOf l).cps.toList = l := id rfl
theorem sOf_one (c : Nat) : (⟨#[c]⟩ : Str) = sOf [c] := id rfl
theorem sOf_inj {a b : List Nat} (h : sOf a = sOf b) : a = b := by
  have := congrArg (fun s : Str => s.cps.toList) h
  exact this
theorem sOf_app (a b : List Nat) : sOf a ++ sOf b = sOf (a ++ b) := by
  show (⟨a.toArray ++ b.toArray⟩ : Str) = ⟨(a ++ b).toArray⟩
  rw [List.append_toArray]
theorem sOf_eta (s : Str) : sOf s.cps.toList = s := by
  obtain ⟨⟨l⟩⟩ := s
  rfl
theorem s_len (l : List Nat) (h : l.length ≤ 16777216) : fLen [.str (sOf l)] = .ok (.int l.length) := by
  show (if _ then _ else _) = _
  rw [sOf_len, if_pos (by rw [sizeLine_eq]; exact h)]
theorem s_ix (l : List Nat) (n c : Nat) (h : l[n]? = some c) (hl : l.length ≤ 16777216) : dIx (.str (sOf l)) (.int n) = .ok (.str (sOf [c])) := by
  show (if _ then _ else _) = _
  rw [sOf_len, if_pos (by rw [sizeLine_eq]; exact hl), sOf_cps, atI_nat, h]
  rfl
theorem s_items (l : List Nat) (h : l.length ≤ 16777216) : dItems (.str (sOf l)) = .ok (l.map fun c => .str (sOf [c])) := by
  show (if _ then _ else _) = _
  rw [sOf_len, if_pos (by rw [sizeLine_eq]; exact h)]
  rfl
theorem s_add (a b : List Nat) (h : a.length + b.length ≤ 16777216) : dAdd (.str (sOf a)) (.str (sOf b)) = .ok (.str (sOf (a ++ b))) := by
  show (if _ then _ else _) = _
  rw [sOf_len, sOf_len, if_pos (by rw [sizeLine_eq]; exact h), sOf_app]
theorem s_addT (a b : List Nat) (h : a.length + b.length ≤ 16777216) : dAddT (.str (sOf a)) (.str (sOf b)) = .ok (.str (sOf (a ++ b))) := by
  show (if _ then _ else _) = _
  rw [sOf_len, sOf_len, if_pos (by rw [sizeLine_eq]; exact h), sOf_app]
theorem s_sl (l : List Nat) (a b : Option Int) (h : l.length ≤ 16777216) : dSl (.str (sOf l)) a b = .ok (.str (sOf (cut l a b))) := by
  show (if _ then _ else _) = _
  rw [sOf_len, if_pos (by rw [sizeLine_eq]; exact h), sOf_cps]
  rfl
theorem s_rev (l : List Nat) (h : l.length ≤ 16777216) : dRev (.str (sOf l)) = .ok (.str (sOf l.reverse)) := by
  show (if _ then _ else _) = _
  rw [sOf_len, if_pos (by rw [sizeLine_eq]; exact h), sOf_cps]
  rfl
theorem s_in (c : Nat) (l : List Nat) : dIn (.str (sOf [c])) (.str (sOf l)) = .ok (.bl (decide (c ∈ l))) := by
  have e : (sOf [c]).cps.size = 1 := rfl
  show (if (sOf [c]).cps.size = 1 then Res.ok (D.bl (decide ((sOf [c]).cps.getD 0 0 ∈ (sOf l).cps.toList))) else .err) = _
  rw [if_pos e]
  rfl
theorem s_notIn (c : Nat) (l : List Nat) : dNotIn (.str (sOf [c])) (.str (sOf l)) = .ok (.bl (!decide (c ∈ l))) := by
  unfold dNotIn
  rw [s_in]
theorem s_ok (l : List Nat) : PyData.strOk (sOf l) = l.all (· < 0x110000) := by
  unfold PyData.strOk
  rw [← Array.all_toList]
  rfl
theorem s_eqD (a b : List Nat) : eqD (.str (sOf a)) (.str (sOf b)) = decide (a = b) := by
  rw [eqD]
  by_cases h : a = b
  · subst h; simp
  · rw [decide_eq_false h]
    exact beq_eq_false_iff_ne.mpr fun q => h (sOf_inj q)
theorem s_tru (l : List Nat) (h : l.length ≤ 16777216) : dTru (.str (sOf l)) = .ok (!l.isEmpty) := by
  show (if _ then _ else _) = _
  rw [sOf_len, if_pos (by rw [sizeLine_eq]; exact h)]
  congr 1
  cases l with
  | nil => rfl
  | cons a l =>
    rw [List.length_cons]
    simp
    omega
theorem s_sumlen : ∀ ps : List (List Nat), ((ps.map sOf).map (·.length)).sum = (ps.map (·.length)).sum
  | [] => rfl
  | p :: ps => by rw [List.map_cons, List.map_cons, List.map_cons, List.sum_cons, List.sum_cons, s_sumlen ps, sOf_len]
theorem s_txts : ∀ ps : List (List Nat), txtsD (ps.map fun l => .str (sOf l)) = some (ps.map sOf)
  | [] => rfl
  | p :: ps => by rw [List.map_cons, txtsD, s_txts ps]; rfl
theorem s_tl (ps : List (List Nat)) : (ps.map sOf).map TL.tl = ps := by
  induction ps with
  | nil => rfl
  | cons p ps ih => rw [List.map_cons, List.map_cons, ih]; rfl
theorem s_join (s : List Nat) (ps : List (List Nat)) (h : (ps.map (·.length)).sum + ps.length * s.length ≤ 16777216) : joinR (sOf s) (ps.map fun l => .str (sOf l)) = .ok (.str (sOf (TL.joinL s ps))) := by
  unfold joinR
  rw [s_txts]
  dsimp only
  rw [s_sumlen, List.length_map, sOf_len, if_pos h]
  congr 2
  have := TL.tl_join (sOf s) (ps.map sOf)
  rw [s_tl] at this
  rw [← sOf_eta (Txt.join (sOf s) (ps.map sOf))]
  congr 1
  rw [show Txt.join (sOf s) (ps.map sOf) = Str.join (sOf s) (ps.map sOf) from StrLaws.glued_eq_join _ _]
  exact this
theorem joinL_nil : ∀ ps : List (List Nat), TL.joinL [] ps = ps.flatten
  | [] => rfl
  | [p] => by rw [TL.joinL]; simp
  | p :: q :: r => by rw [TL.joinL, joinL_nil (q :: r)]; simp
@[simp] theorem x_all_c {α : Type} (p : α → Bool) (xs : List α) : fAll [.lst (xs.map (D.bl ∘ p))] = .ok (.bl (xs.all p)) := by
  rw [← List.map_map, x_all, List.all_map]
  rfl
@[simp] theorem x_any_c {α : Type} (p : α → Bool) (xs : List α) : fAny [.lst (xs.map (D.bl ∘ p))] = .ok (.bl (xs.any p)) := by
  rw [← List.map_map, x_any, List.any_map]
  rfl
@[simp] theorem x_all_f {α : Type} (p : α → Bool) (xs : List α) : fAll [.lst (xs.map fun x => D.bl (p x))] = .ok (.bl (xs.all p)) := x_all_c p xs
@[simp] theorem x_any_f {α : Type} (p : α → Bool) (xs : List α) : fAny [.lst (xs.map fun x => D.bl (p x))] = .ok (.bl (xs.any p)) := x_any_c p xs
/-- a comprehension over what comes of a list by a map -/
theorem lc_fun {α : Type} {gf : Px.Env → D → Res Px.Env} {f : EF} {ρ : Px.Env} {e : α → D} {g : α → D} : ∀ {xs : List α}, (∀ x ∈ xs, ∃ ρ1, gf ρ (e x) = .ok ρ1 ∧ f ρ1 = .ok (g x)) → lcE gf bYes f ρ (xs.map e) = .ok (xs.map g)
  | [], _ => rfl
  | x :: xs, h => by
    obtain ⟨ρ1, e1, e2⟩ := h x List.mem_cons_self
    have := lc_fun (xs := xs) fun y hy => h y (List.mem_cons_of_mem _ hy)
    simp [lcE, e1, e2, this]
end Px

namespace K
open PySem PySem.Spec PyProof.Rows L2 Px
/-! _law_draws -/
def B__law_draws_2 : SF := (sSeq (sIf (eUn asB (eOp (dCmpI iGt) (eVar 5) (eC (.int 0)))) (sSeq (sAppend 2 (eOp dMod (eCall fInt (aCons (eVar 5) aNil)) (eC (.int 1009))))
  (sSet 5 (eOp dDiv (eVar 5) (eC (.int 1009))))) sNext)
  (sKill [6] sNext))
def B__law_draws_1 : SF := (sSeq (sSet 5 (eCall fAbs (aCons (eVar 4) aNil)))
  (sSeq (sSet 3 (eOp dMod (eCall fInt (aCons (eOp dAdd (eOp dAdd (eOp dMul (eVar 3) (eC (.int 48271))) (eVar 5)) (eC (.int 11))) aNil)) (eC (.int 2147483647))))
  (sSeq (sIf (eUn asB (eOp (dCmpI iGe) (eVar 5) (eOp dPow (eC (.int 10)) (eC (.int 18))))) (sSeq (sFor (iCall dRng1 (aCons (eC (.int 60)) aNil)) (gfName 6)
  B__law_draws_2)
  (sKill [5, 6] sNext)) (sAppend 2 (eOp dMod (eOp dDiv (eCall fInt (aCons (eOp dAdd (eOp dMul (eVar 3) (eC (.int 16807))) (eC (.int 5))) aNil)) (eC (.int 3))) (eC (.int 65521)))))
  (sKill [4, 5, 6] sNext))))
def B__law_draws_3 : SF := (sSeq (sIf (eUn asB (eOp (dCmpI iLt) (eCall fLen (aCons (eVar 2) aNil)) (eVar 1))) (sSeq (sSet 3 (eOp dMod (eCall fInt (aCons (eOp dAdd (eOp dAdd (eOp dMul (eVar 3) (eC (.int 69621))) (eVar 6)) (eC (.int 1))) aNil)) (eC (.int 2147483647))))
  (sAppend 2 (eOp dMod (eOp dDiv (eCall fInt (aCons (eVar 3) aNil)) (eC (.int 7))) (eC (.int 65521))))) sNext)
  (sKill [6] sNext))
def F__law_draws : SF := (sSeq (sSet 2 (eC (.lst [])))
  (sSeq (sSet 3 (eC (.int 7)))
  (sSeq (sFor (iSeq (eSl (eVar 0) oNone (oSome (eC (.int 63))))) (gfName 4)
  B__law_draws_1)
  (sKill [4, 5, 6] (sSeq (sFor (iCall dRng1 (aCons (eVar 1) aNil)) (gfName 6)
  B__law_draws_3)
  (sKill [3, 6] (sRet (eSl (eVar 2) oNone (oSome (eVar 1))))))))))
def C__law_draws : List D → Res D := fnE 7 F__law_draws
/-! _law_text -/
def F__law_text : SF := (sRet (eCall fTuple (aCons (eLc (iCall dRng1 (aCons (eOp dMod (eCall fInt (aCons (eOp dIx (eVar 0) (eVar 1)) aNil)) (eOp dAdd (eVar 2) (eC (.int 1)))) aNil)) [3] (gfName 3) bYes (eOp dIx (eC (.str "abcxy")) (eOp dMod (eCall fInt (aCons (eOp dIx (eVar 0) (eOp dAdd (eOp dAdd (eVar 1) (eC (.int 1))) (eVar 3))) aNil)) (eC (.int 5))))) aNil)))
def C__law_text : List D → Res D := fnE 4 F__law_text
/-! _law_patch -/
def B__law_patch_1 : SF := (sSeq (sSet 7 (eSl (eVar 2) (oSome (eVar 5)) (oSome (eOp dAdd (eVar 5) (eOp dMod (eCall fInt (aCons (eOp dIx (eVar 0) (eOp dAdd (eOp dAdd (eVar 1) (eC (.int 2))) (eOp dMul (eC (.int 4)) (eVar 6)))) aNil)) (eC (.int 3)))))))
  (sSeq (sSet 8 (eCall fTuple (aCons (eLc (iCall dRng1 (aCons (eOp dMod (eCall fInt (aCons (eOp dIx (eVar 0) (eOp dAdd (eOp dAdd (eVar 1) (eC (.int 4))) (eOp dMul (eC (.int 4)) (eVar 6)))) aNil)) (eC (.int 3))) aNil)) [9] (gfName 9) bYes (eOp dIx (eC (.str "abcxyz")) (eOp dMod (eOp dDiv (eCall fInt (aCons (eOp dIx (eVar 0) (eOp dAdd (eOp dAdd (eVar 1) (eC (.int 3))) (eOp dMul (eC (.int 4)) (eVar 6)))) aNil)) (eOp dIx (eLst (aCons (eC (.int 1)) (aCons (eC (.int 6)) (aCons (eC (.int 36)) aNil)))) (eVar 9))) (eC (.int 6))))) aNil)))
  (sSeq (sIf (bAnd (eUn asB (eOp (dCmpI iLe) (eVar 5) (eCall fLen (aCons (eVar 2) aNil)))) (eUn asB (eOp (dNe) (eVar 7) (eVar 8)))) (sSeq (sAppend 4 (eTup (aCons (eVar 5) (aCons (eVar 7) (aCons (eVar 8) aNil)))))
  (sSet 5 (eOp dAdd (eVar 5) (eCall fLen (aCons (eVar 7) aNil))))) sNext)
  (sSeq (sSet 5 (eOp dAdd (eOp dAdd (eVar 5) (eC (.int 1))) (eOp dMod (eCall fInt (aCons (eOp dIx (eVar 0) (eOp dAdd (eOp dAdd (eVar 1) (eC (.int 5))) (eOp dMul (eC (.int 4)) (eVar 6)))) aNil)) (eC (.int 3)))))
  (sKill [6, 7, 8] sNext)))))
def F__law_patch : SF := (sSeq (sPar [4, 5] [(eC (.lst [])), (eOp dMod (eCall fInt (aCons (eOp dIx (eVar 0) (eVar 1)) aNil)) (eC (.int 3)))])
  (sSeq (sFor (iCall dRng1 (aCons (eOp dMod (eCall fInt (aCons (eOp dIx (eVar 0) (eOp dAdd (eVar 1) (eC (.int 1)))) aNil)) (eOp dAdd (eVar 3) (eC (.int 1)))) aNil)) (gfName 6)
  B__law_patch_1)
  (sKill [5, 6, 7, 8] (sRet (eCall fTuple (aCons (eVar 4) aNil))))))
def C__law_patch : List D → Res D := fnE 10 F__law_patch
/-! _law_behind -/
def B__law_behind_1 : SF := (sSeq (sSet 0 (eOp dAdd (eOp dAdd (eSl (eVar 0) oNone (oSome (eVar 2))) (eVar 4)) (eSl (eVar 0) (oSome (eOp dAdd (eVar 2) (eCall fLen (aCons (eVar 3) aNil)))) oNone)))
  (sKill [2, 3, 4] sNext))
def F__law_behind : SF := (sSeq (sFor (iSeq (eUn dRev (eVar 1))) (gfTup [2, 3, 4])
  B__law_behind_1)
  (sKill [2, 3, 4] (sRet (eVar 0))))
def C__law_behind : List D → Res D := fnE 5 F__law_behind
/-! _law_row -/
def B__law_row_1 : SF := (sSeq (sSet 5 (eCall C__law_patch (aCons (eVar 0) (aCons (eOp dMul (eC (.int 18)) (eVar 4)) (aCons (eVar 1) (aCons (eC (.int 2)) aNil))))))
  (sSeq (sAppend 3 (eVar 5))
  (sSeq (sSet 1 (eCall C__law_behind (aCons (eVar 1) (aCons (eVar 5) aNil))))
  (sKill [4, 5] sNext))))
def F__law_row : SF := (sSeq (sSet 3 (eC (.lst [])))
  (sSeq (sFor (iCall dRng1 (aCons (eVar 2) aNil)) (gfName 4)
  B__law_row_1)
  (sKill [1, 4, 5] (sRet (eCall fTuple (aCons (eVar 3) aNil))))))
def C__law_row : List D → Res D := fnE 6 F__law_row
/-! _law_fits -/
def F__law_fits : SF := (sRet (eCall fAll (aCons (eLc (iSeq (eVar 1)) [2] (gfName 2) bYes (eAnd (eOp (dCmpI iLe) (eOp dAdd (eOp dIx (eVar 2) (eC (.int 0))) (eCall fLen (aCons (eOp dIx (eVar 2) (eC (.int 1))) aNil))) (eCall fLen (aCons (eVar 0) aNil))) (eOp (dEq) (eSl (eVar 0) (oSome (eOp dIx (eVar 2) (eC (.int 0)))) (oSome (eOp dAdd (eOp dIx (eVar 2) (eC (.int 0))) (eCall fLen (aCons (eOp dIx (eVar 2) (eC (.int 1))) aNil))))) (eOp dIx (eVar 2) (eC (.int 1)))))) aNil)))
def C__law_fits : List D → Res D := fnE 3 F__law_fits
/-! _law_is_text -/
def F__law_is_text : SF := (sRet (eAnd (eUn (dIsi isTup) (eVar 0)) (eCall fAll (aCons (eLc (iSeq (eVar 0)) [1] (gfName 1) bYes (eAnd (eUn (dIsi isStr) (eVar 1)) (eOp (dNotIn) (eC (.str "\n")) (eVar 1)))) aNil))))
def C__law_is_text : List D → Res D := fnE 2 F__law_is_text
/-! _law_is_patch -/
def B__law_is_patch_1 : SF := (sSeq (sIf (bOr (bNot (eUn dTru (eUn (dIsi isTup) (eVar 2)))) (bOr (eUn asB (eOp (dNe) (eCall fLen (aCons (eVar 2) aNil)) (eC (.int 3)))) (bOr (bNot (eUn dTru (eUn (dIsi isInt) (eOp dIx (eVar 2) (eC (.int 0)))))) (bOr (eUn dTru (eUn (dIsi isBool) (eOp dIx (eVar 2) (eC (.int 0))))) (eUn asB (eOp (dCmpI iLe) (eOp dIx (eVar 2) (eC (.int 0))) (eVar 1))))))) (sRet (eC (.bl false))) sNext)
  (sSeq (sIf (bOr (bNot (eUn dTru (eCall C__law_is_text (aCons (eOp dIx (eVar 2) (eC (.int 1))) aNil)))) (bOr (bNot (eUn dTru (eCall C__law_is_text (aCons (eOp dIx (eVar 2) (eC (.int 2))) aNil)))) (eUn asB (eOp (dEq) (eOp dIx (eVar 2) (eC (.int 1))) (eOp dIx (eVar 2) (eC (.int 2))))))) (sRet (eC (.bl false))) sNext)
  (sSeq (sSet 1 (eOp dAdd (eOp dIx (eVar 2) (eC (.int 0))) (eCall fLen (aCons (eOp dIx (eVar 2) (eC (.int 1))) aNil))))
  (sKill [2] sNext))))
def F__law_is_patch : SF := (sSeq (sIf (bNot (eUn dTru (eUn (dIsi isTup) (eVar 0)))) (sRet (eC (.bl false))) sNext)
  (sSeq (sSet 1 (eUn dNeg (eC (.int 1))))
  (sSeq (sFor (iSeq (eVar 0)) (gfName 2)
  B__law_is_patch_1)
  (sKill [1, 2] (sRet (eC (.bl true)))))))
def C__law_is_patch : List D → Res D := fnE 3 F__law_is_patch
/-! _law_fault -/
def B__law_fault_1 : SF := (sSeq (sIf (bNot (eUn dTru (eCall C__law_fits (aCons (eVar 0) (aCons (eOp dIx (eVar 1) (eVar 2)) aNil))))) (sRet (eVar 2)) sNext)
  (sSeq (sSet 0 (eCall C__law_behind (aCons (eVar 0) (aCons (eOp dIx (eVar 1) (eVar 2)) aNil))))
  (sKill [2] sNext)))
def F__law_fault : SF := (sSeq (sIf (bOr (bNot (eUn dTru (eUn (dIsi isTup) (eVar 1)))) (bNot (eUn dTru (eCall fAll (aCons (eLc (iSeq (eVar 1)) [3] (gfName 3) bYes (eCall C__law_is_patch (aCons (eVar 3) aNil))) aNil))))) (sRet (eUn dNeg (eC (.int 1)))) sNext)
  (sSeq (sFor (iCall dRng1 (aCons (eCall fLen (aCons (eVar 1) aNil)) aNil)) (gfName 2)
  B__law_fault_1)
  (sKill [0, 2] (sRet (eC .non)))))
def C__law_fault : List D → Res D := fnE 4 F__law_fault
/-! is_line -/
def F_is_line : SF := (sRet (eAnd (eUn (dIsi isStr) (eVar 0)) (eOp (dNotIn) (eC (.str "\n")) (eVar 0))))
def C_is_line : List D → Res D := fnE 1 F_is_line
/-! is_text -/
def F_is_text : SF := (sRet (eAnd (eUn (dIsi isTup) (eVar 0)) (eCall fAll (aCons (eLc (iSeq (eVar 0)) [1] (gfName 1) bYes (eCall C_is_line (aCons (eVar 1) aNil))) aNil))))
def C_is_text : List D → Res D := fnE 2 F_is_text
/-! check_texts -/
def F_check_texts : SF := (sIf (bNot (eUn dTru (eCall fAll (aCons (eLc (iSeq (eVar 0)) [1] (gfName 1) bYes (eCall C_is_text (aCons (eVar 1) aNil))) aNil)))) (sRaise "BadText") sNext)
def C_check_texts : List D → Res D := fnE 2 F_check_texts
/-! is_whole -/
def F_is_whole : SF := (sRet (eAnd (eUn (dIsi isInt) (eVar 0)) (eAnd (eNot (eUn (dIsi isBool) (eVar 0))) (eOp (dCmpI iGe) (eVar 0) (eC (.int 0))))))
def C_is_whole : List D → Res D := fnE 1 F_is_whole
/-! _is_hunk -/
def F__is_hunk : SF := (sSeq (sIf (bOr (bNot (eUn dTru (eUn (dIsi isTup) (eVar 0)))) (bOr (eUn asB (eOp (dNe) (eCall fLen (aCons (eVar 0) aNil)) (eC (.int 3)))) (bNot (eUn dTru (eCall C_is_whole (aCons (eOp dIx (eVar 0) (eC (.int 0))) aNil)))))) (sRet (eC (.bl false))) sNext)
  (sRet (eAnd (eCall C_is_text (aCons (eOp dIx (eVar 0) (eC (.int 1))) aNil)) (eAnd (eCall C_is_text (aCons (eOp dIx (eVar 0) (eC (.int 2))) aNil)) (eOp (dNe) (eOp dIx (eVar 0) (eC (.int 1))) (eOp dIx (eVar 0) (eC (.int 2))))))))
def C__is_hunk : List D → Res D := fnE 1 F__is_hunk
/-! is_patch -/
def F_is_patch : SF := (sSeq (sIf (bOr (bNot (eUn dTru (eUn (dIsi isTup) (eVar 0)))) (bNot (eUn dTru (eCall fAll (aCons (eLc (iSeq (eVar 0)) [1] (gfName 1) bYes (eCall C__is_hunk (aCons (eVar 1) aNil))) aNil))))) (sRet (eC (.bl false))) sNext)
  (sRet (eCall fAll (aCons (eLc (iCall dZip (aCons (eVar 0) (aCons (eSl (eVar 0) (oSome (eC (.int 1))) oNone) aNil))) [1, 2] (gfTup [1, 2]) bYes (eOp (dCmpI iLt) (eOp dAdd (eOp dIx (eVar 1) (eC (.int 0))) (eCall fLen (aCons (eOp dIx (eVar 1) (eC (.int 1))) aNil))) (eOp dIx (eVar 2) (eC (.int 0))))) aNil))))
def C_is_patch : List D → Res D := fnE 3 F_is_patch
/-! is_row -/
def F_is_row : SF := (sRet (eAnd (eUn (dIsi isTup) (eVar 0)) (eCall fAll (aCons (eLc (iSeq (eVar 0)) [1] (gfName 1) bYes (eCall C_is_patch (aCons (eVar 1) aNil))) aNil))))
def C_is_row : List D → Res D := fnE 2 F_is_row
/-! applied -/
def B_applied_1 : SF := (sSeq (sAug dAddT 2 (eOp dAdd (eSl (eVar 0) (oSome (eVar 3)) (oSome (eVar 4))) (eVar 6)))
  (sSeq (sSet 3 (eOp dAdd (eVar 4) (eCall fLen (aCons (eVar 5) aNil))))
  (sKill [4, 5, 6] sNext)))
def F_applied : SF := (sSeq (sSet 2 (eTup aNil))
  (sSeq (sSet 3 (eC (.int 0)))
  (sSeq (sFor (iSeq (eVar 1)) (gfTup [4, 5, 6])
  B_applied_1)
  (sKill [4, 5, 6] (sRet (eOp dAdd (eVar 2) (eSl (eVar 0) (oSome (eVar 3)) oNone)))))))
def C_applied : List D → Res D := fnE 7 F_applied
/-! fault -/
def B_fault_1 : SF := (sSeq (sIf (bOr (eUn asB (eOp (dCmpI iGt) (eOp dAdd (eVar 3) (eCall fLen (aCons (eVar 4) aNil))) (eCall fLen (aCons (eVar 0) aNil)))) (eUn asB (eOp (dNe) (eSl (eVar 0) (oSome (eVar 3)) (oSome (eOp dAdd (eVar 3) (eCall fLen (aCons (eVar 4) aNil))))) (eVar 4)))) (sRet (eVar 2)) sNext)
  (sKill [2, 3, 4, 5] sNext))
def F_fault : SF := (sSeq (sFor (iCall dEnum (aCons (eVar 1) aNil)) (gfT 2 (gfC (gfName 2) (gfC (gfTup [3, 4, 5]) gfN)))
  B_fault_1)
  (sKill [2, 3, 4, 5] (sRet (eC .non))))
def C_fault : List D → Res D := fnE 6 F_fault
/-! row_fault -/
def B_row_fault_1 : SF := (sSeq (sIf (eUn asB (eOp (dIsNot) (eCall C_fault (aCons (eVar 0) (aCons (eVar 3) aNil))) (eC .non))) (sRet (eVar 2)) sNext)
  (sSeq (sSet 0 (eCall C_applied (aCons (eVar 0) (aCons (eVar 3) aNil))))
  (sKill [2, 3] sNext)))
def F_row_fault : SF := (sSeq (sDrop (eCall C_check_texts (aCons (eLst (aCons (eVar 0) aNil)) aNil)))
  (sSeq (sIf (bNot (eUn dTru (eCall C_is_row (aCons (eVar 1) aNil)))) (sRet (eUn dNeg (eC (.int 1)))) sNext)
  (sSeq (sFor (iCall dEnum (aCons (eVar 1) aNil)) (gfTup [2, 3])
  B_row_fault_1)
  (sKill [0, 2, 3] (sRet (eC .non))))))
def C_row_fault : List D → Res D := fnE 4 F_row_fault
/-! check_row -/
def F_check_row : SF := (sIf (bNot (eUn dTru (eCall C_is_row (aCons (eVar 0) aNil)))) (sRaise "BadPatch") sNext)
def C_check_row : List D → Res D := fnE 1 F_check_row
/-! row_behind -/
def B_row_behind_1 : SF := (sSeq (sSet 0 (eCall C_applied (aCons (eVar 0) (aCons (eVar 2) aNil))))
  (sKill [2] sNext))
def F_row_behind : SF := (sSeq (sDrop (eCall C_check_row (aCons (eVar 1) aNil)))
  (sSeq (sIf (eUn asB (eOp (dIsNot) (eCall C_row_fault (aCons (eVar 0) (aCons (eVar 1) aNil))) (eC .non))) (sRaise "NoFit") sNext)
  (sSeq (sFor (iSeq (eVar 1)) (gfName 2)
  B_row_behind_1)
  (sKill [2] (sRet (eVar 0))))))
def C_row_behind : List D → Res D := fnE 3 F_row_behind
/-! _law_swapped -/
def B__law_swapped_1 : SF := (sSeq (sAppend 2 (eTup (aCons (eOp dAdd (eVar 4) (eVar 3)) (aCons (eOp dAdd (eOp dAdd (eVar 4) (eVar 3)) (eCall fLen (aCons (eVar 6) aNil))) (aCons (eOp dSub (eCall fLen (aCons (eVar 6) aNil)) (eCall fLen (aCons (eVar 5) aNil))) aNil)))))
  (sSeq (sSet 3 (eOp dSub (eOp dAdd (eVar 3) (eCall fLen (aCons (eVar 6) aNil))) (eCall fLen (aCons (eVar 5) aNil))))
  (sKill [4, 5, 6] sNext)))
def B__law_swapped_2 : SF := (sSeq (sIf (eUn dTru (eCall fAny (aCons (eLc (iSeq (eVar 2)) [9, 10, 11] (gfTup [9, 10, 11]) bYes (eNot (eOr (eOp (dCmpI iLt) (eOp dAdd (eVar 4) (eCall fLen (aCons (eVar 5) aNil))) (eVar 9)) (eOp (dCmpI iLt) (eVar 10) (eVar 4))))) aNil))) (sRet (eC .non)) sNext)
  (sSeq (sAppend 7 (eTup (aCons (eOp dSub (eVar 4) (eCall fSum (aCons (eLc (iSeq (eVar 2)) [9, 10, 11] (gfTup [9, 10, 11]) (eUn asB (eOp (dCmpI iLt) (eVar 10) (eVar 4))) (eVar 11)) aNil))) (aCons (eVar 5) (aCons (eVar 6) aNil)))))
  (sKill [4, 5, 6] sNext)))
def B__law_swapped_3 : SF := (sSeq (sAppend 8 (eTup (aCons (eOp dAdd (eVar 4) (eCall fSum (aCons (eLc (iSeq (eVar 7)) [12] (gfName 12) (eUn asB (eOp (dCmpI iLt) (eOp dAdd (eOp dIx (eVar 12) (eC (.int 0))) (eCall fLen (aCons (eOp dIx (eVar 12) (eC (.int 1))) aNil))) (eVar 4))) (eOp dSub (eCall fLen (aCons (eOp dIx (eVar 12) (eC (.int 2))) aNil)) (eCall fLen (aCons (eOp dIx (eVar 12) (eC (.int 1))) aNil)))) aNil))) (aCons (eVar 5) (aCons (eVar 6) aNil)))))
  (sKill [4, 5, 6] sNext))
def F__law_swapped : SF := (sSeq (sPar [2, 3] [(eC (.lst [])), (eC (.int 0))])
  (sSeq (sFor (iSeq (eVar 0)) (gfTup [4, 5, 6])
  B__law_swapped_1)
  (sKill [3, 4, 5, 6] (sSeq (sSet 7 (eC (.lst [])))
  (sSeq (sFor (iSeq (eVar 1)) (gfTup [4, 5, 6])
  B__law_swapped_2)
  (sKill [4, 5, 6] (sSeq (sSet 8 (eC (.lst [])))
  (sSeq (sFor (iSeq (eVar 0)) (gfTup [4, 5, 6])
  B__law_swapped_3)
  (sKill [4, 5, 6] (sRet (eTup (aCons (eCall fTuple (aCons (eVar 7) aNil)) (aCons (eCall fTuple (aCons (eVar 8) aNil)) aNil)))))))))))))
def C__law_swapped : List D → Res D := fnE 13 F__law_swapped
/-! _law_to_end -/
def B__law_to_end_1 : SF := (sSeq (sSet 3 (eCall C__law_swapped (aCons (eOp dIx (eVar 0) (eVar 2)) (aCons (eOp dIx (eVar 0) (eOp dAdd (eVar 2) (eC (.int 1)))) aNil))))
  (sSeq (sIf (eUn asB (eOp (dIs) (eVar 3) (eC .non))) (sRet (eTup (aCons (eC (.str "needed")) (aCons (eOp dAdd (eVar 2) (eC (.int 1))) aNil)))) sNext)
  (sSeq (sSet 0 (eOp dAdd (eOp dAdd (eSl (eVar 0) oNone (oSome (eVar 2))) (eVar 3)) (eSl (eVar 0) (oSome (eOp dAdd (eVar 2) (eC (.int 2)))) oNone)))
  (sKill [2, 3] sNext))))
def F__law_to_end : SF := (sSeq (sFor (iCall dRng2 (aCons (eVar 1) (aCons (eOp dSub (eCall fLen (aCons (eVar 0) aNil)) (eC (.int 1))) aNil))) (gfName 2)
  B__law_to_end_1)
  (sKill [2, 3] (sRet (eTup (aCons (eC (.str "row")) (aCons (eVar 0) aNil))))))
def C__law_to_end : List D → Res D := fnE 4 F__law_to_end
/-! _law_to_front -/
def B__law_to_front_1 : SF := (sSeq (sSet 3 (eCall C__law_swapped (aCons (eOp dIx (eVar 0) (eOp dSub (eVar 2) (eC (.int 1)))) (aCons (eOp dIx (eVar 0) (eVar 2)) aNil))))
  (sSeq (sIf (eUn asB (eOp (dIs) (eVar 3) (eC .non))) (sRet (eTup (aCons (eC (.str "needs")) (aCons (eOp dSub (eVar 2) (eC (.int 1))) aNil)))) sNext)
  (sSeq (sSet 0 (eOp dAdd (eOp dAdd (eSl (eVar 0) oNone (oSome (eOp dSub (eVar 2) (eC (.int 1))))) (eVar 3)) (eSl (eVar 0) (oSome (eOp dAdd (eVar 2) (eC (.int 1)))) oNone)))
  (sKill [2, 3] sNext))))
def F__law_to_front : SF := (sSeq (sFor (iCall dRng3 (aCons (eVar 1) (aCons (eC (.int 0)) (aCons (eUn dNeg (eC (.int 1))) aNil)))) (gfName 2)
  B__law_to_front_1)
  (sKill [2, 3] (sRet (eTup (aCons (eC (.str "row")) (aCons (eVar 0) aNil))))))
def C__law_to_front : List D → Res D := fnE 4 F__law_to_front
/-! _check_place -/
def F__check_place : SF := (sIf (bOr (bNot (eUn dTru (eCall C_is_whole (aCons (eVar 0) aNil)))) (eUn asB (eOp (dCmpI iGt) (eVar 0) (eVar 1)))) (sRaise "BadPlace") sNext)
def C__check_place : List D → Res D := fnE 2 F__check_place
/-! reverse -/
def B_reverse_1 : SF := (sSeq (sAppend 1 (eTup (aCons (eOp dAdd (eVar 3) (eVar 2)) (aCons (eVar 5) (aCons (eVar 4) aNil)))))
  (sSeq (sAug dAddT 2 (eOp dSub (eCall fLen (aCons (eVar 5) aNil)) (eCall fLen (aCons (eVar 4) aNil))))
  (sKill [3, 4, 5] sNext)))
def F_reverse : SF := (sSeq (sSet 1 (eC (.lst [])))
  (sSeq (sSet 2 (eC (.int 0)))
  (sSeq (sFor (iSeq (eVar 0)) (gfTup [3, 4, 5])
  B_reverse_1)
  (sKill [2, 3, 4, 5] (sRet (eCall fTuple (aCons (eVar 1) aNil)))))))
def C_reverse : List D → Res D := fnE 6 F_reverse
/-! touch -/
def F_touch : SF := (sRet (eAnd (eOp (dCmpI iLe) (eOp dIx (eVar 0) (eC (.int 0))) (eOp dIx (eVar 1) (eC (.int 1)))) (eOp (dCmpI iLe) (eOp dIx (eVar 1) (eC (.int 0))) (eOp dIx (eVar 0) (eC (.int 1))))))
def C_touch : List D → Res D := fnE 2 F_touch
/-! _first_touch -/
def B__first_touch_2 : SF := (sSeq (sIf (eUn dTru (eCall C_touch (aCons (eVar 3) (aCons (eVar 5) aNil)))) (sRet (eTup (aCons (eVar 2) (aCons (eVar 4) aNil)))) sNext)
  (sKill [4, 5] sNext))
def B__first_touch_1 : SF := (sSeq (sFor (iCall dEnum (aCons (eVar 1) aNil)) (gfTup [4, 5])
  B__first_touch_2)
  (sKill [4, 5] (sKill [2, 3, 4, 5] sNext)))
def F__first_touch : SF := (sSeq (sFor (iCall dEnum (aCons (eVar 0) aNil)) (gfTup [2, 3])
  B__first_touch_1)
  (sKill [2, 3, 4, 5] (sRet (eC .non))))
def C__first_touch : List D → Res D := fnE 6 F__first_touch
/-! _spans -/
def F__spans : SF := (sRet (eCall fTuple (aCons (eLc (iSeq (eVar 0)) [1, 2, 3] (gfTup [1, 2, 3]) bYes (eTup (aCons (eVar 1) (aCons (eOp dAdd (eVar 1) (eCall fLen (aCons (eVar 2) aNil))) aNil)))) aNil)))
def C__spans : List D → Res D := fnE 4 F__spans
/-! shifted -/
def B_shifted_2 : SF := (sSeq (sIf (eUn asB (eOp (dCmpI iLt) (eOp dIx (eVar 9) (eC (.int 1))) (eVar 4))) (sAug dAddT 7 (eOp dSub (eCall fLen (aCons (eOp dIx (eOp dIx (eVar 1) (eVar 8)) (eC (.int 2))) aNil)) (eCall fLen (aCons (eOp dIx (eOp dIx (eVar 1) (eVar 8)) (eC (.int 1))) aNil)))) sNext)
  (sKill [8, 9] sNext))
def B_shifted_1 : SF := (sSeq (sSet 7 (eC (.int 0)))
  (sSeq (sFor (iCall dEnum (aCons (eVar 2) aNil)) (gfTup [8, 9])
  B_shifted_2)
  (sKill [8, 9] (sSeq (sAppend 3 (eTup (aCons (eOp dAdd (eVar 4) (eVar 7)) (aCons (eVar 5) (aCons (eVar 6) aNil)))))
  (sKill [4, 5, 6, 7, 8, 9] sNext)))))
def F_shifted : SF := (sSeq (sSet 2 (eCall C__spans (aCons (eVar 1) aNil)))
  (sSeq (sSet 3 (eC (.lst [])))
  (sSeq (sFor (iSeq (eVar 0)) (gfTup [4, 5, 6])
  B_shifted_1)
  (sKill [4, 5, 6, 7, 8, 9] (sRet (eCall fTuple (aCons (eVar 3) aNil)))))))
def C_shifted : List D → Res D := fnE 10 F_shifted
/-! commuting -/
def F_commuting : SF := (sSeq (sSet 2 (eCall C_reverse (aCons (eVar 0) aNil)))
  (sSeq (sSet 3 (eCall C__first_touch (aCons (eCall C__spans (aCons (eVar 1) aNil)) (aCons (eCall C__spans (aCons (eVar 2) aNil)) aNil))))
  (sSeq (sIf (eUn asB (eOp (dIsNot) (eVar 3) (eC .non))) (sRet (eOp dAdd (eTup (aCons (eC (.str "needs")) aNil)) (eVar 3))) sNext)
  (sSeq (sSet 4 (eCall C_shifted (aCons (eVar 1) (aCons (eVar 2) aNil))))
  (sRet (eTup (aCons (eC (.str "commuted")) (aCons (eVar 4) (aCons (eCall C_shifted (aCons (eVar 0) (aCons (eVar 4) aNil))) aNil)))))))))
def C_commuting : List D → Res D := fnE 5 F_commuting
/-! _to_end -/
def B__to_end_1 : SF := (sSeq (sSet 3 (eCall C_commuting (aCons (eOp dIx (eVar 0) (eVar 2)) (aCons (eOp dIx (eVar 0) (eOp dAdd (eVar 2) (eC (.int 1)))) aNil))))
  (sSeq (sIf (eUn asB (eOp (dEq) (eOp dIx (eVar 3) (eC (.int 0))) (eC (.str "needs")))) (sRet (eTup (aCons (eC (.str "needed")) (aCons (eOp dAdd (eVar 2) (eC (.int 1))) aNil)))) sNext)
  (sSeq (sSet 0 (eOp dAdd (eOp dAdd (eSl (eVar 0) oNone (oSome (eVar 2))) (eSl (eVar 3) (oSome (eC (.int 1))) oNone)) (eSl (eVar 0) (oSome (eOp dAdd (eVar 2) (eC (.int 2)))) oNone)))
  (sKill [2, 3] sNext))))
def F__to_end : SF := (sSeq (sFor (iCall dRng2 (aCons (eVar 1) (aCons (eOp dSub (eCall fLen (aCons (eVar 0) aNil)) (eC (.int 1))) aNil))) (gfName 2)
  B__to_end_1)
  (sKill [2, 3] (sRet (eTup (aCons (eC (.str "row")) (aCons (eVar 0) aNil))))))
def C__to_end : List D → Res D := fnE 4 F__to_end
/-! without -/
def F_without : SF := (sSeq (sDrop (eCall C_check_row (aCons (eVar 0) aNil)))
  (sSeq (sDrop (eCall C__check_place (aCons (eVar 1) (aCons (eOp dSub (eCall fLen (aCons (eVar 0) aNil)) (eC (.int 1))) aNil))))
  (sSeq (sSet 2 (eCall C__to_end (aCons (eVar 0) (aCons (eVar 1) aNil))))
  (sRet (eIf (eUn asB (eOp (dEq) (eOp dIx (eVar 2) (eC (.int 0))) (eC (.str "needed")))) (eVar 2) (eTup (aCons (eC (.str "row")) (aCons (eSl (eOp dIx (eVar 2) (eC (.int 1))) oNone (oSome (eUn dNeg (eC (.int 1))))) aNil))))))))
def C_without : List D → Res D := fnE 3 F_without
/-! exchanged -/
def F_exchanged : SF := (sSeq (sDrop (eCall C_check_row (aCons (eVar 0) aNil)))
  (sSeq (sDrop (eCall C__check_place (aCons (eVar 1) (aCons (eOp dSub (eCall fLen (aCons (eVar 0) aNil)) (eC (.int 2))) aNil))))
  (sSeq (sSet 2 (eCall C_commuting (aCons (eOp dIx (eVar 0) (eVar 1)) (aCons (eOp dIx (eVar 0) (eOp dAdd (eVar 1) (eC (.int 1)))) aNil))))
  (sSeq (sIf (eUn asB (eOp (dEq) (eOp dIx (eVar 2) (eC (.int 0))) (eC (.str "needs")))) (sRet (eVar 2)) sNext)
  (sRet (eTup (aCons (eC (.str "row")) (aCons (eOp dAdd (eOp dAdd (eSl (eVar 0) oNone (oSome (eVar 1))) (eSl (eVar 2) (oSome (eC (.int 1))) oNone)) (eSl (eVar 0) (oSome (eOp dAdd (eVar 1) (eC (.int 2)))) oNone)) aNil))))))))
def C_exchanged : List D → Res D := fnE 3 F_exchanged
/-! to_end -/
def F_to_end : SF := (sSeq (sDrop (eCall C_check_row (aCons (eVar 0) aNil)))
  (sSeq (sDrop (eCall C__check_place (aCons (eVar 1) (aCons (eOp dSub (eCall fLen (aCons (eVar 0) aNil)) (eC (.int 1))) aNil))))
  (sRet (eCall C__to_end (aCons (eVar 0) (aCons (eVar 1) aNil))))))
def C_to_end : List D → Res D := fnE 2 F_to_end
/-! to_front -/
def B_to_front_1 : SF := (sSeq (sSet 3 (eCall C_commuting (aCons (eOp dIx (eVar 0) (eOp dSub (eVar 2) (eC (.int 1)))) (aCons (eOp dIx (eVar 0) (eVar 2)) aNil))))
  (sSeq (sIf (eUn asB (eOp (dEq) (eOp dIx (eVar 3) (eC (.int 0))) (eC (.str "needs")))) (sRet (eTup (aCons (eC (.str "needs")) (aCons (eOp dSub (eVar 2) (eC (.int 1))) aNil)))) sNext)
  (sSeq (sSet 0 (eOp dAdd (eOp dAdd (eSl (eVar 0) oNone (oSome (eOp dSub (eVar 2) (eC (.int 1))))) (eSl (eVar 3) (oSome (eC (.int 1))) oNone)) (eSl (eVar 0) (oSome (eOp dAdd (eVar 2) (eC (.int 1)))) oNone)))
  (sKill [2, 3] sNext))))
def F_to_front : SF := (sSeq (sDrop (eCall C_check_row (aCons (eVar 0) aNil)))
  (sSeq (sDrop (eCall C__check_place (aCons (eVar 1) (aCons (eOp dSub (eCall fLen (aCons (eVar 0) aNil)) (eC (.int 1))) aNil))))
  (sSeq (sFor (iCall dRng3 (aCons (eVar 1) (aCons (eC (.int 0)) (aCons (eUn dNeg (eC (.int 1))) aNil)))) (gfName 2)
  B_to_front_1)
  (sKill [2, 3] (sRet (eTup (aCons (eC (.str "row")) (aCons (eVar 0) aNil))))))))
def C_to_front : List D → Res D := fnE 4 F_to_front
/-! _law_error -/
def F__law_error : SF := (sSeq (sTry ["BadPatch", "BadPlace", "BadText", "NoFit"] (sIf (eUn asB (eOp (dEq) (eVar 0) (eC (.int 0)))) (sDrop (eCall C_row_fault (aCons (eVar 1) (aCons (eVar 2) aNil)))) (sIf (eUn asB (eOp (dEq) (eVar 0) (eC (.int 1)))) (sDrop (eCall C_row_behind (aCons (eVar 1) (aCons (eVar 2) aNil)))) (sIf (eUn asB (eOp (dEq) (eVar 0) (eC (.int 2)))) (sDrop (eCall C_exchanged (aCons (eVar 1) (aCons (eVar 2) aNil)))) (sIf (eUn asB (eOp (dEq) (eVar 0) (eC (.int 3)))) (sDrop (eCall C_to_end (aCons (eVar 1) (aCons (eVar 2) aNil)))) (sIf (eUn asB (eOp (dEq) (eVar 0) (eC (.int 4)))) (sDrop (eCall C_to_front (aCons (eVar 1) (aCons (eVar 2) aNil)))) (sDrop (eCall C_without (aCons (eVar 1) (aCons (eVar 2) aNil))))))))) [(["BadText"], (sNx (sRet (eC (.str "text"))))), (["BadPatch"], (sNx (sRet (eC (.str "patch"))))), (["BadPlace"], (sNx (sRet (eC (.str "place"))))), (["NoFit"], (sNx (sRet (eC (.str "fit")))))])
  (sRet (eC (.str "none"))))
def C__law_error : List D → Res D := fnE 3 F__law_error
/-! check_patches -/
def F_check_patches : SF := (sIf (bNot (eUn dTru (eCall fAll (aCons (eLc (iSeq (eVar 0)) [1] (gfName 1) bYes (eCall C_is_patch (aCons (eVar 1) aNil))) aNil)))) (sRaise "BadPatch") sNext)
def C_check_patches : List D → Res D := fnE 2 F_check_patches
/-! commuted -/
def F_commuted : SF := (sSeq (sDrop (eCall C_check_patches (aCons (eLst (aCons (eVar 0) (aCons (eVar 1) aNil))) aNil)))
  (sRet (eCall C_commuting (aCons (eVar 0) (aCons (eVar 1) aNil)))))
def C_commuted : List D → Res D := fnE 2 F_commuted
/-! law -/
def B_law_1 : SF := (sSeq (sSet 4 (eCall C__law_behind (aCons (eVar 4) (aCons (eVar 5) aNil))))
  (sKill [5] sNext))
def B_law_3 : SF := (sSeq (sIf (bAnd (eUn asB (eOp (dEq) (eOp dIx (eVar 9) (eC (.int 0))) (eC (.str "row")))) (bOr (eUn asB (eOp (dIsNot) (eCall C__law_fault (aCons (eVar 2) (aCons (eOp dIx (eVar 9) (eC (.int 1))) aNil))) (eC .non))) (eUn asB (eOp (dNe) (eCall C_row_behind (aCons (eVar 2) (aCons (eOp dIx (eVar 9) (eC (.int 1))) aNil))) (eVar 4))))) (sRet (eC (.bl false))) sNext)
  (sKill [9] sNext))
def B_law_2 : SF := (sSeq (sPar [7, 8] [(eCall C__law_to_end (aCons (eVar 3) (aCons (eVar 6) aNil))), (eCall C__law_to_front (aCons (eVar 3) (aCons (eVar 6) aNil)))])
  (sSeq (sIf (bOr (eUn asB (eOp (dNe) (eCall C_to_end (aCons (eVar 3) (aCons (eVar 6) aNil))) (eVar 7))) (eUn asB (eOp (dNe) (eCall C_to_front (aCons (eVar 3) (aCons (eVar 6) aNil))) (eVar 8)))) (sRet (eC (.bl false))) sNext)
  (sSeq (sIf (eUn asB (eOp (dNe) (eCall C_without (aCons (eVar 3) (aCons (eVar 6) aNil))) (eIf (eUn asB (eOp (dEq) (eOp dIx (eVar 7) (eC (.int 0))) (eC (.str "needed")))) (eVar 7) (eTup (aCons (eC (.str "row")) (aCons (eSl (eOp dIx (eVar 7) (eC (.int 1))) oNone (oSome (eUn dNeg (eC (.int 1))))) aNil)))))) (sRet (eC (.bl false))) sNext)
  (sSeq (sFor (iSeq (eTup (aCons (eVar 7) (aCons (eVar 8) aNil)))) (gfName 9)
  B_law_3)
  (sKill [9] (sSeq (sIf (bAnd (eUn asB (eOp (dEq) (eOp dIx (eVar 7) (eC (.int 0))) (eC (.str "row")))) (bAnd (eUn asB (eOp (dNe) (eOp dIx (eCall C_to_front (aCons (eOp dIx (eVar 7) (eC (.int 1))) (aCons (eOp dSub (eCall fLen (aCons (eVar 3) aNil)) (eC (.int 1))) aNil))) (eC (.int 0))) (eC (.str "row")))) (eUn asB (eOp (dEq) (eVar 6) (eC (.int 0)))))) (sRet (eC (.bl false))) sNext)
  (sSeq (sIf (eUn asB (eOp (dCmpI iLt) (eOp dAdd (eVar 6) (eC (.int 1))) (eCall fLen (aCons (eVar 3) aNil)))) (sSeq (sPar [10, 9] [(eCall C__law_swapped (aCons (eOp dIx (eVar 3) (eVar 6)) (aCons (eOp dIx (eVar 3) (eOp dAdd (eVar 6) (eC (.int 1)))) aNil))), (eCall C_exchanged (aCons (eVar 3) (aCons (eVar 6) aNil)))])
  (sIf (bOr (bAnd (eUn asB (eOp (dIs) (eVar 10) (eC .non))) (eUn asB (eOp (dNe) (eVar 9) (eCall C_commuted (aCons (eOp dIx (eVar 3) (eVar 6)) (aCons (eOp dIx (eVar 3) (eOp dAdd (eVar 6) (eC (.int 1)))) aNil)))))) (bAnd (eUn asB (eOp (dIsNot) (eVar 10) (eC .non))) (eUn asB (eOp (dNe) (eVar 9) (eTup (aCons (eC (.str "row")) (aCons (eOp dAdd (eOp dAdd (eSl (eVar 3) oNone (oSome (eVar 6))) (eVar 10)) (eSl (eVar 3) (oSome (eOp dAdd (eVar 6) (eC (.int 2)))) oNone)) aNil))))))) (sRet (eC (.bl false))) sNext)) sNext)
  (sKill [6, 7, 8, 9, 10] sNext))))))))
def B_law_4 : SF := (sSeq (sSet 14 (eCall C__law_fault (aCons (eVar 12) (aCons (eVar 13) aNil))))
  (sSeq (sIf (bOr (eUn asB (eOp (dNe) (eCall C_row_fault (aCons (eVar 12) (aCons (eVar 13) aNil))) (eVar 14))) (bOr (bAnd (eUn asB (eOp (dNe) (eVar 14) (eUn dNeg (eC (.int 1))))) (eUn asB (eOp (dNe) (eOp (dEq) (eCall C__law_error (aCons (eC (.int 1)) (aCons (eVar 12) (aCons (eVar 13) aNil)))) (eC (.str "fit"))) (eOp (dIsNot) (eVar 14) (eC .non))))) (bAnd (eUn asB (eOp (dEq) (eVar 14) (eUn dNeg (eC (.int 1))))) (eUn asB (eOp (dNe) (eCall C__law_error (aCons (eC (.int 1)) (aCons (eVar 12) (aCons (eVar 13) aNil)))) (eC (.str "patch"))))))) (sRet (eC (.bl false))) sNext)
  (sKill [12, 13, 14] sNext)))
def B_law_5 : SF := (sSeq (sIf (eUn asB (eOp (dNe) (eLc (iSeq (eTup (aCons (eC (.int 2)) (aCons (eC (.int 3)) (aCons (eC (.int 4)) (aCons (eC (.int 5)) aNil)))))) [16] (gfName 16) bYes (eCall C__law_error (aCons (eVar 16) (aCons (eVar 15) (aCons (eC .non) aNil))))) (eOp dRep (eLst (aCons (eC (.str "patch")) aNil)) (eC (.int 4))))) (sRet (eC (.bl false))) sNext)
  (sKill [15] sNext))
def B_law_6 : SF := (sSeq (sIf (eUn asB (eOp (dNe) (eLc (iSeq (eTup (aCons (eC (.int 2)) (aCons (eC (.int 3)) (aCons (eC (.int 4)) (aCons (eC (.int 5)) aNil)))))) [16] (gfName 16) bYes (eCall C__law_error (aCons (eVar 16) (aCons (eVar 3) (aCons (eVar 15) aNil))))) (eOp dRep (eLst (aCons (eC (.str "place")) aNil)) (eC (.int 4))))) (sRet (eC (.bl false))) sNext)
  (sKill [15] sNext))
def F_law : SF := (sSeq (sSet 1 (eCall C__law_draws (aCons (eVar 0) (aCons (eC (.int 130)) aNil))))
  (sSeq (sSet 2 (eCall C__law_text (aCons (eVar 1) (aCons (eC (.int 0)) (aCons (eC (.int 12)) aNil)))))
  (sSeq (sSet 3 (eCall C__law_row (aCons (eSl (eVar 1) (oSome (eC (.int 16))) oNone) (aCons (eVar 2) (aCons (eOp dAdd (eC (.int 1)) (eOp dMod (eCall fInt (aCons (eOp dIx (eVar 1) (eC (.int 14))) aNil)) (eC (.int 5)))) aNil)))))
  (sSeq (sSet 4 (eVar 2))
  (sSeq (sFor (iSeq (eVar 3)) (gfName 5)
  B_law_1)
  (sKill [5] (sSeq (sIf (bOr (eUn asB (eOp (dIsNot) (eCall C_row_fault (aCons (eVar 2) (aCons (eVar 3) aNil))) (eC .non))) (eUn asB (eOp (dNe) (eCall C_row_behind (aCons (eVar 2) (aCons (eVar 3) aNil))) (eVar 4)))) (sRet (eC (.bl false))) sNext)
  (sSeq (sFor (iCall dRng1 (aCons (eCall fLen (aCons (eVar 3) aNil)) aNil)) (gfName 6)
  B_law_2)
  (sKill [6, 7, 8, 9, 10] (sSeq (sSet 11 (eCall C__law_text (aCons (eVar 1) (aCons (eC (.int 110)) (aCons (eC (.int 12)) aNil)))))
  (sSeq (sFor (iSeq (eTup (aCons (eTup (aCons (eVar 11) (aCons (eVar 3) aNil))) (aCons (eTup (aCons (eVar 2) (aCons (eUn dRev (eVar 3)) aNil))) (aCons (eTup (aCons (eVar 2) (aCons (eOp dAdd (eVar 3) (eSl (eVar 3) oNone (oSome (eC (.int 1))))) aNil))) (aCons (eTup (aCons (eVar 2) (aCons (eCall fList (aCons (eVar 3) aNil)) aNil))) (aCons (eTup (aCons (eVar 2) (aCons (eC .non) aNil))) (aCons (eTup (aCons (eVar 2) (aCons (eOp dAdd (eVar 3) (eTup (aCons (eC .non) aNil))) aNil))) (aCons (eTup (aCons (eVar 2) (aCons (eTup aNil) aNil))) aNil))))))))) (gfTup [12, 13])
  B_law_4)
  (sKill [12, 13, 14] (sSeq (sFor (iSeq (eTup (aCons (eC .non) (aCons (eCall fList (aCons (eVar 3) aNil)) (aCons (eOp dAdd (eVar 3) (eTup (aCons (eTup (aCons (eTup (aCons (eC (.int 0)) (aCons (eTup aNil) (aCons (eTup aNil) aNil)))) aNil)) aNil))) (aCons (eTup (aCons (eC (.int 1)) aNil)) aNil)))))) (gfName 15)
  B_law_5)
  (sKill [15] (sSeq (sFor (iSeq (eTup (aCons (eUn dNeg (eC (.int 1))) (aCons (eCall fLen (aCons (eVar 3) aNil)) (aCons (eC (.bl true)) (aCons (eC .non) (aCons (eC (.str "0")) aNil))))))) (gfName 15)
  B_law_6)
  (sKill [15] (sRet (eAnd (eOp (dEq) (eCall C__law_error (aCons (eC (.int 2)) (aCons (eVar 3) (aCons (eOp dSub (eCall fLen (aCons (eVar 3) aNil)) (eC (.int 1))) aNil)))) (eC (.str "place"))) (eOp (dEq) (eOp dIx (eLc (iSeq (eTup (aCons (eC (.int 0)) (aCons (eC (.int 1)) aNil)))) [16] (gfName 16) bYes (eCall C__law_error (aCons (eVar 16) (aCons (eLst (aCons (eC (.str "a")) aNil)) (aCons (eVar 3) aNil))))) (eC (.int 0))) (eC (.str "text")))))))))))))))))))))
def C_law : List D → Res D := fnE 17 F_law
end K
namespace K
open PySem PySem.Spec PyProof.Rows L2 Px
def topS (i : Nat) : Stmt := PySem.Challenge.pw_patchwright_k15_whole_rows_of_patches.main.body.getD i (.Pass ⟨0, 0, 0, 0⟩)
/-! _law_draws -/
abbrev s__law_draws : Stmt := topS 37
abbrev n__law_draws : List Str := ["script", "many", "draws", "seed", "cell", "number", "k"]
theorem sc__law_draws : FnScope n__law_draws ["script", "many"] (defScope s__law_draws) := ⟨rfl, rfl, rfl, by decide +kernel, rfl, by decide +kernel, by decide +kernel⟩
/-! _law_text -/
abbrev s__law_text : Stmt := topS 38
abbrev n__law_text : List Str := ["draws", "at", "most", "k"]
theorem sc__law_text : FnScope n__law_text ["draws", "at", "most"] (defScope s__law_text) := ⟨rfl, rfl, rfl, by decide +kernel, rfl, by decide +kernel, by decide +kernel⟩
/-! _law_patch -/
abbrev s__law_patch : Stmt := topS 39
abbrev n__law_patch : List Str := ["draws", "at", "text", "most", "found", "place", "k", "old", "new", "j"]
theorem sc__law_patch : FnScope n__law_patch ["draws", "at", "text", "most"] (defScope s__law_patch) := ⟨rfl, rfl, rfl, by decide +kernel, rfl, by decide +kernel, by decide +kernel⟩
/-! _law_behind -/
abbrev s__law_behind : Stmt := topS 40
abbrev n__law_behind : List Str := ["text", "patch", "at", "old", "new"]
theorem sc__law_behind : FnScope n__law_behind ["text", "patch"] (defScope s__law_behind) := ⟨rfl, rfl, rfl, by decide +kernel, rfl, by decide +kernel, by decide +kernel⟩
/-! _law_row -/
abbrev s__law_row : Stmt := topS 45
abbrev n__law_row : List Str := ["draws", "text", "many", "found", "k", "patch"]
theorem sc__law_row : FnScope n__law_row ["draws", "text", "many"] (defScope s__law_row) := ⟨rfl, rfl, rfl, by decide +kernel, rfl, by decide +kernel, by decide +kernel⟩
/-! _law_fits -/
abbrev s__law_fits : Stmt := topS 41
abbrev n__law_fits : List Str := ["text", "patch", "hunk"]
theorem sc__law_fits : FnScope n__law_fits ["text", "patch"] (defScope s__law_fits) := ⟨rfl, rfl, rfl, by decide +kernel, rfl, by decide +kernel, by decide +kernel⟩
/-! _law_is_text -/
abbrev s__law_is_text : Stmt := topS 43
abbrev n__law_is_text : List Str := ["value", "line"]
theorem sc__law_is_text : FnScope n__law_is_text ["value"] (defScope s__law_is_text) := ⟨rfl, rfl, rfl, by decide +kernel, rfl, by decide +kernel, by decide +kernel⟩
/-! _law_is_patch -/
abbrev s__law_is_patch : Stmt := topS 44
abbrev n__law_is_patch : List Str := ["value", "end", "hunk"]
theorem sc__law_is_patch : FnScope n__law_is_patch ["value"] (defScope s__law_is_patch) := ⟨rfl, rfl, rfl, by decide +kernel, rfl, by decide +kernel, by decide +kernel⟩
/-! _law_fault -/
abbrev s__law_fault : Stmt := topS 49
abbrev n__law_fault : List Str := ["text", "row", "k", "patch"]
theorem sc__law_fault : FnScope n__law_fault ["text", "row"] (defScope s__law_fault) := ⟨rfl, rfl, rfl, by decide +kernel, rfl, by decide +kernel, by decide +kernel⟩
/-! is_line -/
abbrev s_is_line : Stmt := topS 9
abbrev n_is_line : List Str := ["value"]
theorem sc_is_line : FnScope n_is_line ["value"] (defScope s_is_line) := ⟨rfl, rfl, rfl, by decide +kernel, rfl, by decide +kernel, by decide +kernel⟩
/-! is_text -/
abbrev s_is_text : Stmt := topS 10
abbrev n_is_text : List Str := ["value", "line"]
theorem sc_is_text : FnScope n_is_text ["value"] (defScope s_is_text) := ⟨rfl, rfl, rfl, by decide +kernel, rfl, by decide +kernel, by decide +kernel⟩
/-! check_texts -/
abbrev s_check_texts : Stmt := topS 13
abbrev n_check_texts : List Str := ["values", "value"]
theorem sc_check_texts : FnScope n_check_texts ["values"] (defScope s_check_texts) := ⟨rfl, rfl, rfl, by decide +kernel, rfl, by decide +kernel, by decide +kernel⟩
/-! is_whole -/
abbrev s_is_whole : Stmt := topS 8
abbrev n_is_whole : List Str := ["value"]
theorem sc_is_whole : FnScope n_is_whole ["value"] (defScope s_is_whole) := ⟨rfl, rfl, rfl, by decide +kernel, rfl, by decide +kernel, by decide +kernel⟩
/-! _is_hunk -/
abbrev s__is_hunk : Stmt := topS 11
abbrev n__is_hunk : List Str := ["value"]
theorem sc__is_hunk : FnScope n__is_hunk ["value"] (defScope s__is_hunk) := ⟨rfl, rfl, rfl, by decide +kernel, rfl, by decide +kernel, by decide +kernel⟩
/-! is_patch -/
abbrev s_is_patch : Stmt := topS 12
abbrev n_is_patch : List Str := ["value", "hunk", "later"]
theorem sc_is_patch : FnScope n_is_patch ["value"] (defScope s_is_patch) := ⟨rfl, rfl, rfl, by decide +kernel, rfl, by decide +kernel, by decide +kernel⟩
/-! is_row -/
abbrev s_is_row : Stmt := topS 26
abbrev n_is_row : List Str := ["value", "patch"]
theorem sc_is_row : FnScope n_is_row ["value"] (defScope s_is_row) := ⟨rfl, rfl, rfl, by decide +kernel, rfl, by decide +kernel, by decide +kernel⟩
/-! applied -/
abbrev s_applied : Stmt := topS 16
abbrev n_applied : List Str := ["text", "patch", "found", "done", "at", "old", "new"]
theorem sc_applied : FnScope n_applied ["text", "patch"] (defScope s_applied) := ⟨rfl, rfl, rfl, by decide +kernel, rfl, by decide +kernel, by decide +kernel⟩
/-! fault -/
abbrev s_fault : Stmt := topS 15
abbrev n_fault : List Str := ["text", "patch", "number", "at", "old", "_new"]
theorem sc_fault : FnScope n_fault ["text", "patch"] (defScope s_fault) := ⟨rfl, rfl, rfl, by decide +kernel, rfl, by decide +kernel, by decide +kernel⟩
/-! row_fault -/
abbrev s_row_fault : Stmt := topS 27
abbrev n_row_fault : List Str := ["text", "row", "number", "patch"]
theorem sc_row_fault : FnScope n_row_fault ["text", "row"] (defScope s_row_fault) := ⟨rfl, rfl, rfl, by decide +kernel, rfl, by decide +kernel, by decide +kernel⟩
/-! check_row -/
abbrev s_check_row : Stmt := topS 29
abbrev n_check_row : List Str := ["row"]
theorem sc_check_row : FnScope n_check_row ["row"] (defScope s_check_row) := ⟨rfl, rfl, rfl, by decide +kernel, rfl, by decide +kernel, by decide +kernel⟩
/-! row_behind -/
abbrev s_row_behind : Stmt := topS 28
abbrev n_row_behind : List Str := ["text", "row", "patch"]
theorem sc_row_behind : FnScope n_row_behind ["text", "row"] (defScope s_row_behind) := ⟨rfl, rfl, rfl, by decide +kernel, rfl, by decide +kernel, by decide +kernel⟩
/-! _law_swapped -/
abbrev s__law_swapped : Stmt := topS 46
abbrev n__law_swapped : List Str := ["first", "second", "made", "more", "at", "old", "new", "ahead", "behind", "begin", "end", "less", "one"]
theorem sc__law_swapped : FnScope n__law_swapped ["first", "second"] (defScope s__law_swapped) := ⟨rfl, rfl, rfl, by decide +kernel, rfl, by decide +kernel, by decide +kernel⟩
/-! _law_to_end -/
abbrev s__law_to_end : Stmt := topS 47
abbrev n__law_to_end : List Str := ["row", "place", "k", "found"]
theorem sc__law_to_end : FnScope n__law_to_end ["row", "place"] (defScope s__law_to_end) := ⟨rfl, rfl, rfl, by decide +kernel, rfl, by decide +kernel, by decide +kernel⟩
/-! _law_to_front -/
abbrev s__law_to_front : Stmt := topS 48
abbrev n__law_to_front : List Str := ["row", "place", "k", "found"]
theorem sc__law_to_front : FnScope n__law_to_front ["row", "place"] (defScope s__law_to_front) := ⟨rfl, rfl, rfl, by decide +kernel, rfl, by decide +kernel, by decide +kernel⟩
/-! _check_place -/
abbrev s__check_place : Stmt := topS 30
abbrev n__check_place : List Str := ["place", "most"]
theorem sc__check_place : FnScope n__check_place ["place", "most"] (defScope s__check_place) := ⟨rfl, rfl, rfl, by decide +kernel, rfl, by decide +kernel, by decide +kernel⟩
/-! reverse -/
abbrev s_reverse : Stmt := topS 17
abbrev n_reverse : List Str := ["patch", "found", "more", "at", "old", "new"]
theorem sc_reverse : FnScope n_reverse ["patch"] (defScope s_reverse) := ⟨rfl, rfl, rfl, by decide +kernel, rfl, by decide +kernel, by decide +kernel⟩
/-! touch -/
abbrev s_touch : Stmt := topS 20
abbrev n_touch : List Str := ["one", "other"]
theorem sc_touch : FnScope n_touch ["one", "other"] (defScope s_touch) := ⟨rfl, rfl, rfl, by decide +kernel, rfl, by decide +kernel, by decide +kernel⟩
/-! _first_touch -/
abbrev s__first_touch : Stmt := topS 21
abbrev n__first_touch : List Str := ["ones", "others", "i", "one", "j", "other"]
theorem sc__first_touch : FnScope n__first_touch ["ones", "others"] (defScope s__first_touch) := ⟨rfl, rfl, rfl, by decide +kernel, rfl, by decide +kernel, by decide +kernel⟩
/-! _spans -/
abbrev s__spans : Stmt := topS 19
abbrev n__spans : List Str := ["patch", "at", "old", "_new"]
theorem sc__spans : FnScope n__spans ["patch"] (defScope s__spans) := ⟨rfl, rfl, rfl, by decide +kernel, rfl, by decide +kernel, by decide +kernel⟩
/-! shifted -/
abbrev s_shifted : Stmt := topS 22
abbrev n_shifted : List Str := ["patch", "by", "spans", "found", "at", "old", "new", "more", "number", "span"]
theorem sc_shifted : FnScope n_shifted ["patch", "by"] (defScope s_shifted) := ⟨rfl, rfl, rfl, by decide +kernel, rfl, by decide +kernel, by decide +kernel⟩
/-! commuting -/
abbrev s_commuting : Stmt := topS 23
abbrev n_commuting : List Str := ["first", "second", "back", "needs", "ahead"]
theorem sc_commuting : FnScope n_commuting ["first", "second"] (defScope s_commuting) := ⟨rfl, rfl, rfl, by decide +kernel, rfl, by decide +kernel, by decide +kernel⟩
/-! _to_end -/
abbrev s__to_end : Stmt := topS 32
abbrev n__to_end : List Str := ["row", "place", "at", "found"]
theorem sc__to_end : FnScope n__to_end ["row", "place"] (defScope s__to_end) := ⟨rfl, rfl, rfl, by decide +kernel, rfl, by decide +kernel, by decide +kernel⟩
/-! without -/
abbrev s_without : Stmt := topS 34
abbrev n_without : List Str := ["row", "place", "found"]
theorem sc_without : FnScope n_without ["row", "place"] (defScope s_without) := ⟨rfl, rfl, rfl, by decide +kernel, rfl, by decide +kernel, by decide +kernel⟩
/-! exchanged -/
abbrev s_exchanged : Stmt := topS 31
abbrev n_exchanged : List Str := ["row", "place", "found"]
theorem sc_exchanged : FnScope n_exchanged ["row", "place"] (defScope s_exchanged) := ⟨rfl, rfl, rfl, by decide +kernel, rfl, by decide +kernel, by decide +kernel⟩
/-! to_end -/
abbrev s_to_end : Stmt := topS 33
abbrev n_to_end : List Str := ["row", "place"]
theorem sc_to_end : FnScope n_to_end ["row", "place"] (defScope s_to_end) := ⟨rfl, rfl, rfl, by decide +kernel, rfl, by decide +kernel, by decide +kernel⟩
/-! to_front -/
abbrev s_to_front : Stmt := topS 35
abbrev n_to_front : List Str := ["row", "place", "at", "found"]
theorem sc_to_front : FnScope n_to_front ["row", "place"] (defScope s_to_front) := ⟨rfl, rfl, rfl, by decide +kernel, rfl, by decide +kernel, by decide +kernel⟩
/-! _law_error -/
abbrev s__law_error : Stmt := topS 50
abbrev n__law_error : List Str := ["call", "one", "two"]
theorem sc__law_error : FnScope n__law_error ["call", "one", "two"] (defScope s__law_error) := ⟨rfl, rfl, rfl, by decide +kernel, rfl, by decide +kernel, by decide +kernel⟩
/-! check_patches -/
abbrev s_check_patches : Stmt := topS 14
abbrev n_check_patches : List Str := ["values", "value"]
theorem sc_check_patches : FnScope n_check_patches ["values"] (defScope s_check_patches) := ⟨rfl, rfl, rfl, by decide +kernel, rfl, by decide +kernel, by decide +kernel⟩
/-! commuted -/
abbrev s_commuted : Stmt := topS 24
abbrev n_commuted : List Str := ["first", "second"]
theorem sc_commuted : FnScope n_commuted ["first", "second"] (defScope s_commuted) := ⟨rfl, rfl, rfl, by decide +kernel, rfl, by decide +kernel, by decide +kernel⟩
/-! law -/
abbrev s_law : Stmt := topS 51
abbrev n_law : List Str := ["script", "draws", "text", "row", "behind", "patch", "place", "last", "first", "told", "found", "other", "one", "rows", "due", "wrong", "call"]
theorem sc_law : FnScope n_law ["script"] (defScope s_law) := ⟨rfl, rfl, rfl, by decide +kernel, rfl, by decide +kernel, by decide +kernel⟩
structure Txt (K : PySem.W.Frag) (mg : Str → Option Value) : Prop where
  F__law_draws : ∃ fd, Fun K "_law_draws" "_law_draws" s__law_draws (He.ga K "_law_draws") fd ∧ BA fd ["script", "many"]
  g__law_draws : mg "_law_draws" = some (.ref (He.ga K "_law_draws"))
  F__law_text : ∃ fd, Fun K "_law_text" "_law_text" s__law_text (He.ga K "_law_text") fd ∧ BA fd ["draws", "at", "most"]
  g__law_text : mg "_law_text" = some (.ref (He.ga K "_law_text"))
  F__law_patch : ∃ fd, Fun K "_law_patch" "_law_patch" s__law_patch (He.ga K "_law_patch") fd ∧ BA fd ["draws", "at", "text", "most"]
  g__law_patch : mg "_law_patch" = some (.ref (He.ga K "_law_patch"))
  F__law_behind : ∃ fd, Fun K "_law_behind" "_law_behind" s__law_behind (He.ga K "_law_behind") fd ∧ BA fd ["text", "patch"]
  g__law_behind : mg "_law_behind" = some (.ref (He.ga K "_law_behind"))
  F__law_row : ∃ fd, Fun K "_law_row" "_law_row" s__law_row (He.ga K "_law_row") fd ∧ BA fd ["draws", "text", "many"]
  g__law_row : mg "_law_row" = some (.ref (He.ga K "_law_row"))
  F__law_fits : ∃ fd, Fun K "_law_fits" "_law_fits" s__law_fits (He.ga K "_law_fits") fd ∧ BA fd ["text", "patch"]
  g__law_fits : mg "_law_fits" = some (.ref (He.ga K "_law_fits"))
  F__law_is_text : ∃ fd, Fun K "_law_is_text" "_law_is_text" s__law_is_text (He.ga K "_law_is_text") fd ∧ BA fd ["value"]
  g__law_is_text : mg "_law_is_text" = some (.ref (He.ga K "_law_is_text"))
  F__law_is_patch : ∃ fd, Fun K "_law_is_patch" "_law_is_patch" s__law_is_patch (He.ga K "_law_is_patch") fd ∧ BA fd ["value"]
  g__law_is_patch : mg "_law_is_patch" = some (.ref (He.ga K "_law_is_patch"))
  F__law_fault : ∃ fd, Fun K "_law_fault" "_law_fault" s__law_fault (He.ga K "_law_fault") fd ∧ BA fd ["text", "row"]
  g__law_fault : mg "_law_fault" = some (.ref (He.ga K "_law_fault"))
  F_is_line : ∃ fd, Fun K "is_line" "is_line" s_is_line (He.ga K "is_line") fd ∧ BA fd ["value"]
  g_is_line : mg "is_line" = some (.ref (He.ga K "is_line"))
  F_is_text : ∃ fd, Fun K "is_text" "is_text" s_is_text (He.ga K "is_text") fd ∧ BA fd ["value"]
  g_is_text : mg "is_text" = some (.ref (He.ga K "is_text"))
  F_check_texts : ∃ fd, Fun K "check_texts" "check_texts" s_check_texts (He.ga K "check_texts") fd ∧ BA fd ["values"]
  g_check_texts : mg "check_texts" = some (.ref (He.ga K "check_texts"))
  F_is_whole : ∃ fd, Fun K "is_whole" "is_whole" s_is_whole (He.ga K "is_whole") fd ∧ BA fd ["value"]
  g_is_whole : mg "is_whole" = some (.ref (He.ga K "is_whole"))
  F__is_hunk : ∃ fd, Fun K "_is_hunk" "_is_hunk" s__is_hunk (He.ga K "_is_hunk") fd ∧ BA fd ["value"]
  g__is_hunk : mg "_is_hunk" = some (.ref (He.ga K "_is_hunk"))
  F_is_patch : ∃ fd, Fun K "is_patch" "is_patch" s_is_patch (He.ga K "is_patch") fd ∧ BA fd ["value"]
  g_is_patch : mg "is_patch" = some (.ref (He.ga K "is_patch"))
  F_is_row : ∃ fd, Fun K "is_row" "is_row" s_is_row (He.ga K "is_row") fd ∧ BA fd ["value"]
  g_is_row : mg "is_row" = some (.ref (He.ga K "is_row"))
  F_applied : ∃ fd, Fun K "applied" "applied" s_applied (He.ga K "applied") fd ∧ BA fd ["text", "patch"]
  g_applied : mg "applied" = some (.ref (He.ga K "applied"))
  F_fault : ∃ fd, Fun K "fault" "fault" s_fault (He.ga K "fault") fd ∧ BA fd ["text", "patch"]
  g_fault : mg "fault" = some (.ref (He.ga K "fault"))
  F_row_fault : ∃ fd, Fun K "row_fault" "row_fault" s_row_fault (He.ga K "row_fault") fd ∧ BA fd ["text", "row"]
  g_row_fault : mg "row_fault" = some (.ref (He.ga K "row_fault"))
  F_check_row : ∃ fd, Fun K "check_row" "check_row" s_check_row (He.ga K "check_row") fd ∧ BA fd ["row"]
  g_check_row : mg "check_row" = some (.ref (He.ga K "check_row"))
  F_row_behind : ∃ fd, Fun K "row_behind" "row_behind" s_row_behind (He.ga K "row_behind") fd ∧ BA fd ["text", "row"]
  g_row_behind : mg "row_behind" = some (.ref (He.ga K "row_behind"))
  F__law_swapped : ∃ fd, Fun K "_law_swapped" "_law_swapped" s__law_swapped (He.ga K "_law_swapped") fd ∧ BA fd ["first", "second"]
  g__law_swapped : mg "_law_swapped" = some (.ref (He.ga K "_law_swapped"))
  F__law_to_end : ∃ fd, Fun K "_law_to_end" "_law_to_end" s__law_to_end (He.ga K "_law_to_end") fd ∧ BA fd ["row", "place"]
  g__law_to_end : mg "_law_to_end" = some (.ref (He.ga K "_law_to_end"))
  F__law_to_front : ∃ fd, Fun K "_law_to_front" "_law_to_front" s__law_to_front (He.ga K "_law_to_front") fd ∧ BA fd ["row", "place"]
  g__law_to_front : mg "_law_to_front" = some (.ref (He.ga K "_law_to_front"))
  F__check_place : ∃ fd, Fun K "_check_place" "_check_place" s__check_place (He.ga K "_check_place") fd ∧ BA fd ["place", "most"]
  g__check_place : mg "_check_place" = some (.ref (He.ga K "_check_place"))
  F_reverse : ∃ fd, Fun K "reverse" "reverse" s_reverse (He.ga K "reverse") fd ∧ BA fd ["patch"]
  g_reverse : mg "reverse" = some (.ref (He.ga K "reverse"))
  F_touch : ∃ fd, Fun K "touch" "touch" s_touch (He.ga K "touch") fd ∧ BA fd ["one", "other"]
  g_touch : mg "touch" = some (.ref (He.ga K "touch"))
  F__first_touch : ∃ fd, Fun K "_first_touch" "_first_touch" s__first_touch (He.ga K "_first_touch") fd ∧ BA fd ["ones", "others"]
  g__first_touch : mg "_first_touch" = some (.ref (He.ga K "_first_touch"))
  F__spans : ∃ fd, Fun K "_spans" "_spans" s__spans (He.ga K "_spans") fd ∧ BA fd ["patch"]
  g__spans : mg "_spans" = some (.ref (He.ga K "_spans"))
  F_shifted : ∃ fd, Fun K "shifted" "shifted" s_shifted (He.ga K "shifted") fd ∧ BA fd ["patch", "by"]
  g_shifted : mg "shifted" = some (.ref (He.ga K "shifted"))
  F_commuting : ∃ fd, Fun K "commuting" "commuting" s_commuting (He.ga K "commuting") fd ∧ BA fd ["first", "second"]
  g_commuting : mg "commuting" = some (.ref (He.ga K "commuting"))
  F__to_end : ∃ fd, Fun K "_to_end" "_to_end" s__to_end (He.ga K "_to_end") fd ∧ BA fd ["row", "place"]
  g__to_end : mg "_to_end" = some (.ref (He.ga K "_to_end"))
  F_without : ∃ fd, Fun K "without" "without" s_without (He.ga K "without") fd ∧ BA fd ["row", "place"]
  g_without : mg "without" = some (.ref (He.ga K "without"))
  F_exchanged : ∃ fd, Fun K "exchanged" "exchanged" s_exchanged (He.ga K "exchanged") fd ∧ BA fd ["row", "place"]
  g_exchanged : mg "exchanged" = some (.ref (He.ga K "exchanged"))
  F_to_end : ∃ fd, Fun K "to_end" "to_end" s_to_end (He.ga K "to_end") fd ∧ BA fd ["row", "place"]
  g_to_end : mg "to_end" = some (.ref (He.ga K "to_end"))
  F_to_front : ∃ fd, Fun K "to_front" "to_front" s_to_front (He.ga K "to_front") fd ∧ BA fd ["row", "place"]
  g_to_front : mg "to_front" = some (.ref (He.ga K "to_front"))
  F__law_error : ∃ fd, Fun K "_law_error" "_law_error" s__law_error (He.ga K "_law_error") fd ∧ BA fd ["call", "one", "two"]
  g__law_error : mg "_law_error" = some (.ref (He.ga K "_law_error"))
  F_check_patches : ∃ fd, Fun K "check_patches" "check_patches" s_check_patches (He.ga K "check_patches") fd ∧ BA fd ["values"]
  g_check_patches : mg "check_patches" = some (.ref (He.ga K "check_patches"))
  F_commuted : ∃ fd, Fun K "commuted" "commuted" s_commuted (He.ga K "commuted") fd ∧ BA fd ["first", "second"]
  g_commuted : mg "commuted" = some (.ref (He.ga K "commuted"))
  F_law : ∃ fd, Fun K "law" "law" s_law (He.ga K "law") fd ∧ BA fd ["script"]
  g_law : mg "law" = some (.ref (He.ga K "law"))
  z_abs : mg "abs" = none
  z_int : mg "int" = none
  z_range : mg "range" = none
  z_len : mg "len" = none
  z_tuple : mg "tuple" = none
  z_all : mg "all" = none
  z_isinstance : mg "isinstance" = none
  z_str : mg "str" = none
  z_bool : mg "bool" = none
  z_zip : mg "zip" = none
  z_enumerate : mg "enumerate" = none
  z_any : mg "any" = none
  z_sum : mg "sum" = none
  z_list : mg "list" = none
  c_END : ∃ t, mg "END" = some (.str "\n" t)
  e_BadText : mg "BadText" = some (.ref (He.ga K "BadText")) ∧ PySem.W.excIn K (He.ga K "BadText") He.veBase "ValueError.__new__" = true ∧ PySem.W.keepIn K (.ref (He.ga K "BadText")) = true ∧ PySem.W.subIn K (.ref (He.ga K "BadText")) (.type "BaseException") = some true ∧ PySem.W.typeIn K (.ref (He.ga K "BadText")) = some (.type "type")
  e_BadPatch : mg "BadPatch" = some (.ref (He.ga K "BadPatch")) ∧ PySem.W.excIn K (He.ga K "BadPatch") He.veBase "ValueError.__new__" = true ∧ PySem.W.keepIn K (.ref (He.ga K "BadPatch")) = true ∧ PySem.W.subIn K (.ref (He.ga K "BadPatch")) (.type "BaseException") = some true ∧ PySem.W.typeIn K (.ref (He.ga K "BadPatch")) = some (.type "type")
  e_NoFit : mg "NoFit" = some (.ref (He.ga K "NoFit")) ∧ PySem.W.excIn K (He.ga K "NoFit") He.veBase "ValueError.__new__" = true ∧ PySem.W.keepIn K (.ref (He.ga K "NoFit")) = true ∧ PySem.W.subIn K (.ref (He.ga K "NoFit")) (.type "BaseException") = some true ∧ PySem.W.typeIn K (.ref (He.ga K "NoFit")) = some (.type "type")
  e_BadPlace : mg "BadPlace" = some (.ref (He.ga K "BadPlace")) ∧ PySem.W.excIn K (He.ga K "BadPlace") He.veBase "ValueError.__new__" = true ∧ PySem.W.keepIn K (.ref (He.ga K "BadPlace")) = true ∧ PySem.W.subIn K (.ref (He.ga K "BadPlace")) (.type "BaseException") = some true ∧ PySem.W.typeIn K (.ref (He.ga K "BadPlace")) = some (.type "type")
  m_BadPatch_BadText : PySem.W.exmOne K (.ref (He.ga K "BadPatch")) (.ref (He.ga K "BadText")) = some false
  m_BadPlace_BadText : PySem.W.exmOne K (.ref (He.ga K "BadPlace")) (.ref (He.ga K "BadText")) = some false
  m_BadText_BadText : PySem.W.exmOne K (.ref (He.ga K "BadText")) (.ref (He.ga K "BadText")) = some true
  m_NoFit_BadText : PySem.W.exmOne K (.ref (He.ga K "NoFit")) (.ref (He.ga K "BadText")) = some false
  m_BadPatch_BadPatch : PySem.W.exmOne K (.ref (He.ga K "BadPatch")) (.ref (He.ga K "BadPatch")) = some true
  m_BadPlace_BadPatch : PySem.W.exmOne K (.ref (He.ga K "BadPlace")) (.ref (He.ga K "BadPatch")) = some false
  m_BadText_BadPatch : PySem.W.exmOne K (.ref (He.ga K "BadText")) (.ref (He.ga K "BadPatch")) = some false
  m_NoFit_BadPatch : PySem.W.exmOne K (.ref (He.ga K "NoFit")) (.ref (He.ga K "BadPatch")) = some false
  m_BadPatch_BadPlace : PySem.W.exmOne K (.ref (He.ga K "BadPatch")) (.ref (He.ga K "BadPlace")) = some false
  m_BadPlace_BadPlace : PySem.W.exmOne K (.ref (He.ga K "BadPlace")) (.ref (He.ga K "BadPlace")) = some true
  m_BadText_BadPlace : PySem.W.exmOne K (.ref (He.ga K "BadText")) (.ref (He.ga K "BadPlace")) = some false
  m_NoFit_BadPlace : PySem.W.exmOne K (.ref (He.ga K "NoFit")) (.ref (He.ga K "BadPlace")) = some false
  m_BadPatch_NoFit : PySem.W.exmOne K (.ref (He.ga K "BadPatch")) (.ref (He.ga K "NoFit")) = some false
  m_BadPlace_NoFit : PySem.W.exmOne K (.ref (He.ga K "BadPlace")) (.ref (He.ga K "NoFit")) = some false
  m_BadText_NoFit : PySem.W.exmOne K (.ref (He.ga K "BadText")) (.ref (He.ga K "NoFit")) = some false
  m_NoFit_NoFit : PySem.W.exmOne K (.ref (He.ga K "NoFit")) (.ref (He.ga K "NoFit")) = some true
section
variable {P : Program} {w : World} {K : PySem.W.Frag} {mg : Str → Option Value}
theorem ok__law_draws (T : Txt K mg) : ∃ fd, (∀ base : Heap, FnOk P w K mg base (L2.CX P w) 1 (He.ga K "_law_draws") fd ["script", "many"] (Spec K mg 2 0 C__law_draws)) ∧ BA fd ["script", "many"] ∧ PySem.W.keepIn K (.ref (He.ga K "_law_draws")) = true := by
  obtain ⟨fd, F, b⟩ := T.F__law_draws
  exact ⟨fd, fun base => fn_ok (N := n__law_draws) (nN := 7) (k := 0) (kr := 0) (L := [0, 0, 0, 0, 0, 0, 0]) (L' := [0, 0, 0, 0, 0, 0, 0]) (FF := F__law_draws) F sc__law_draws rfl rfl rfl rfl fun cdv A outer s H E hr => ((sjs_cons (L1 := [0, 0, 1, 0, 0, 0, 0]) (sj_set (i := 2) (k := 1) sc__law_draws.nd rfl (.inl (by kernel_rfl)) (eo_nil) (by decide) rfl (.inl rfl))
  (sjs_cons (L1 := [0, 0, 1, 0, 0, 0, 0]) (sj_set (i := 3) (k := 0) sc__law_draws.nd rfl (.inl (by kernel_rfl)) eo_int (by decide) rfl (.inl rfl))
  (sjs_cons (L1 := [0, 0, 1, 0, 0, 0, 0]) (sj_for (passes_of rfl) rfl (ei_seq (EO.up (k := 1) (n := 0) (eo_sl (eb_var (n := 1) (i := 0) rfl (.inl (by kernel_rfl)) (by decide)) ep_none (ep_some (EO.up (k := 0) (n := 0) eo_int))))) (pg_name (i := 4) sc__law_draws.nd rfl (.inl (by kernel_rfl)) (.inl rfl)) (gs_name 4) (by decide)
  (sjs_cons (L1 := [0, 0, 1, 0, 0, 0, 0]) (sj_set (i := 5) (k := 0) sc__law_draws.nd rfl (.inl (by kernel_rfl)) (eo_callB c_abs fAbs_nx (gl_of (by kernel_rfl)) T.z_abs (by decide +kernel) (ea_cons (eb_var (n := 0) (i := 4) rfl (.inl (by kernel_rfl)) (by decide)) ea_nil)) (by decide) rfl (.inl rfl))
  (sjs_cons (L1 := [0, 0, 1, 0, 0, 0, 0]) (sj_set (i := 3) (k := 0) sc__law_draws.nd rfl (.inl (by kernel_rfl)) (eo_op o_mod dMod_nx (EO.up (k := 0) (n := 0) (eo_callTy c_int fInt_nx (gl_of (by kernel_rfl)) T.z_int (by decide +kernel) (ea_cons (EO.up (k := 1) (n := 0) (eo_op o_add dAdd_nx (EO.up (k := 1) (n := 1) (eo_op o_add dAdd_nx (EO.up (k := 0) (n := 1) (eo_op o_mul dMul_nx (eb_var (n := 0) (i := 3) rfl (.inl (by kernel_rfl)) (by decide)) (EO.up (k := 0) (n := 0) eo_int))) (eb_var (n := 1) (i := 5) rfl (.inl (by kernel_rfl)) (by decide)))) (EO.up (k := 0) (n := 1) eo_int))) ea_nil))) (EO.up (k := 0) (n := 0) eo_int)) (by decide) rfl (.inl rfl))
  (sjs_cons (L1 := [0, 0, 1, 0, 0, 0, 0]) (sj_if (et_cmp o_ge dCmpI_nx (eb_var (n := 0) (i := 5) rfl (.inl (by kernel_rfl)) (by decide)) (EO.up (k := 0) (n := 0) (eo_op o_pow dPow_nx (EO.up (k := 0) (n := 0) eo_int) (EO.up (k := 0) (n := 0) eo_int))) (nomark _)) (sjs_cons (L1 := [0, 0, 1, 0, 0, 0, 0]) (sj_for (passes_of rfl) rfl (ei_range1 (gl_of (by kernel_rfl)) T.z_range (ea_cons (EO.up (k := 0) (n := 0) eo_int) ea_nil)) (pg_name (i := 6) sc__law_draws.nd rfl (.inl (by kernel_rfl)) (.inl rfl)) (gs_name 6) (by decide)
  (sjs_cons (L1 := [0, 0, 1, 0, 0, 0, 0]) (sj_if (et_cmp o_gt dCmpI_nx (eb_var (n := 0) (i := 5) rfl (.inl (by kernel_rfl)) (by decide)) (EO.up (k := 0) (n := 0) eo_int) (nomark _)) (sjs_cons (L1 := [0, 0, 1, 0, 0, 0, 0]) (sj_append (i := 2) (k := 0) rfl (.inl (by kernel_rfl)) rfl (eo_op o_mod dMod_nx (EO.up (k := 0) (n := 0) (eo_callTy c_int fInt_nx (gl_of (by kernel_rfl)) T.z_int (by decide +kernel) (ea_cons (eb_var (n := 0) (i := 5) rfl (.inl (by kernel_rfl)) (by decide)) ea_nil))) (EO.up (k := 0) (n := 0) eo_int)))
  (sjs_one (sj_set (i := 5) (k := 0) sc__law_draws.nd rfl (.inl (by kernel_rfl)) (eo_op o_div dDiv_nx (eb_var (n := 0) (i := 5) rfl (.inl (by kernel_rfl)) (by decide)) (EO.up (k := 0) (n := 0) eo_int)) (by decide) rfl (.inl rfl)))) sjs_nil)
  (sjs_kill [6] sjs_nil)))
  (sjs_kill [5, 6] sjs_nil)) (sjs_one (sj_append (i := 2) (k := 0) rfl (.inl (by kernel_rfl)) rfl (eo_op o_mod dMod_nx (EO.up (k := 0) (n := 0) (eo_op o_div dDiv_nx (EO.up (k := 0) (n := 0) (eo_callTy c_int fInt_nx (gl_of (by kernel_rfl)) T.z_int (by decide +kernel) (ea_cons (EO.up (k := 1) (n := 0) (eo_op o_add dAdd_nx (EO.up (k := 0) (n := 1) (eo_op o_mul dMul_nx (eb_var (n := 0) (i := 3) rfl (.inl (by kernel_rfl)) (by decide)) (EO.up (k := 0) (n := 0) eo_int))) (EO.up (k := 0) (n := 1) eo_int))) ea_nil))) (EO.up (k := 0) (n := 0) eo_int))) (EO.up (k := 0) (n := 0) eo_int)))))
  (sjs_kill [4, 5, 6] sjs_nil)))))
  (sjs_kill [4, 5, 6] (sjs_cons (L1 := [0, 0, 1, 0, 0, 0, 0]) (sj_for (passes_of rfl) rfl (ei_range1 (gl_of (by kernel_rfl)) T.z_range (ea_cons (eb_var (n := 0) (i := 1) rfl (.inl (by kernel_rfl)) (by decide)) ea_nil)) (pg_name (i := 6) sc__law_draws.nd rfl (.inl (by kernel_rfl)) (.inl rfl)) (gs_name 6) (by decide)
  (sjs_cons (L1 := [0, 0, 1, 0, 0, 0, 0]) (sj_if (et_cmp o_lt dCmpI_nx (EO.up (k := 0) (n := 0) (eo_callB c_len fLen_nx (gl_of (by kernel_rfl)) T.z_len (by decide +kernel) (ea_cons (eb_var (n := 1) (i := 2) rfl (.inl (by kernel_rfl)) (by decide)) ea_nil))) (eb_var (n := 0) (i := 1) rfl (.inl (by kernel_rfl)) (by decide)) (nomark _)) (sjs_cons (L1 := [0, 0, 1, 0, 0, 0, 0]) (sj_set (i := 3) (k := 0) sc__law_draws.nd rfl (.inl (by kernel_rfl)) (eo_op o_mod dMod_nx (EO.up (k := 0) (n := 0) (eo_callTy c_int fInt_nx (gl_of (by kernel_rfl)) T.z_int (by decide +kernel) (ea_cons (EO.up (k := 1) (n := 0) (eo_op o_add dAdd_nx (EO.up (k := 1) (n := 1) (eo_op o_add dAdd_nx (EO.up (k := 0) (n := 1) (eo_op o_mul dMul_nx (eb_var (n := 0) (i := 3) rfl (.inl (by kernel_rfl)) (by decide)) (EO.up (k := 0) (n := 0) eo_int))) (eb_var (n := 1) (i := 6) rfl (.inl (by kernel_rfl)) (by decide)))) (EO.up (k := 0) (n := 1) eo_int))) ea_nil))) (EO.up (k := 0) (n := 0) eo_int)) (by decide) rfl (.inl rfl))
  (sjs_one (sj_append (i := 2) (k := 0) rfl (.inl (by kernel_rfl)) rfl (eo_op o_mod dMod_nx (EO.up (k := 0) (n := 0) (eo_op o_div dDiv_nx (EO.up (k := 0) (n := 0) (eo_callTy c_int fInt_nx (gl_of (by kernel_rfl)) T.z_int (by decide +kernel) (ea_cons (eb_var (n := 0) (i := 3) rfl (.inl (by kernel_rfl)) (by decide)) ea_nil))) (EO.up (k := 0) (n := 0) eo_int))) (EO.up (k := 0) (n := 0) eo_int))))) sjs_nil)
  (sjs_kill [6] sjs_nil)))
  (sjs_kill [3, 6] (sjs_one (sj_ret (EB.o (EO.b (k := 1) (eo_sl (eb_var (n := 1) (i := 2) rfl (.inl (by kernel_rfl)) (by decide)) ep_none (ep_some (eb_var (n := 0) (i := 1) rfl (.inl (by kernel_rfl)) (by decide))))))))))))))), b, F.kp⟩
theorem ok__law_text (T : Txt K mg) : ∃ fd, (∀ base : Heap, FnOk P w K mg base (L2.CX P w) 1 (He.ga K "_law_text") fd ["draws", "at", "most"] (Spec K mg 3 0 C__law_text)) ∧ BA fd ["draws", "at", "most"] ∧ PySem.W.keepIn K (.ref (He.ga K "_law_text")) = true := by
  obtain ⟨fd, F, b⟩ := T.F__law_text
  exact ⟨fd, fun base => fn_ok (N := n__law_text) (nN := 4) (k := 0) (kr := 0) (L := [0, 0, 0, 0]) (L' := [0, 0, 0, 0]) (FF := F__law_text) F sc__law_text rfl rfl rfl rfl fun cdv A outer s H E hr => ((sjs_one (sj_ret (eo_callTy c_tuple fTuple_nx (gl_of (by kernel_rfl)) T.z_tuple (by decide +kernel) (ea_cons (EO.up (k := 1) (n := 1) (eo_lc (own := [("k", 3)]) rfl sc__law_text.nd (ei_range1 (gl_of (by kernel_rfl)) T.z_range (ea_cons (EO.up (k := 0) (n := 0) (eo_op o_mod dMod_nx (EO.up (k := 0) (n := 0) (eo_callTy c_int fInt_nx (gl_of (by kernel_rfl)) T.z_int (by decide +kernel) (ea_cons (eb_ix (eb_var (n := 1) (i := 0) rfl (.inr (.inl (by kernel_rfl))) (by decide)) (eb_var (n := 0) (i := 1) rfl (.inr (.inl (by kernel_rfl))) (by decide))) ea_nil))) (EO.up (k := 1) (n := 0) (eo_op o_add dAdd_nx (eb_var (n := 1) (i := 2) rfl (.inl (by kernel_rfl)) (by decide)) (EO.up (k := 0) (n := 1) eo_int))))) ea_nil)) (blkOk_by (by kernel_rfl)) (fun _ _ _ _ _ => (pg_name (i := 3) sc__law_text.nd rfl (.inl (by kernel_rfl)) (.inr (by kernel_rfl)))) (fun _ _ _ _ _ => ets_nil) (fun _ _ _ _ _ => (EB.o (eb_ix (EO.up (k := 0) (n := 1) eo_str) (EO.up (k := 0) (n := 0) (eo_op o_mod dMod_nx (EO.up (k := 0) (n := 0) (eo_callTy c_int fInt_nx (gl_of (by kernel_rfl)) T.z_int (by decide +kernel) (ea_cons (eb_ix (eb_var (n := 1) (i := 0) rfl (.inr (.inl (by kernel_rfl))) (by decide)) (EO.up (k := 1) (n := 0) (eo_op o_add dAdd_nx (EO.up (k := 1) (n := 1) (eo_op o_add dAdd_nx (eb_var (n := 1) (i := 1) rfl (.inr (.inl (by kernel_rfl))) (by decide)) (EO.up (k := 0) (n := 1) eo_int))) (eb_var (n := 1) (i := 3) rfl (.inl (by kernel_rfl)) (by decide))))) ea_nil))) (EO.up (k := 0) (n := 0) eo_int)))))) (gs_name 3) (by decide) (by decide))) ea_nil))))), b, F.kp⟩
theorem ok__law_patch (T : Txt K mg) : ∃ fd, (∀ base : Heap, FnOk P w K mg base (L2.CX P w) 1 (He.ga K "_law_patch") fd ["draws", "at", "text", "most"] (Spec K mg 4 0 C__law_patch)) ∧ BA fd ["draws", "at", "text", "most"] ∧ PySem.W.keepIn K (.ref (He.ga K "_law_patch")) = true := by
  obtain ⟨fd, F, b⟩ := T.F__law_patch
  exact ⟨fd, fun base => fn_ok (N := n__law_patch) (nN := 10) (k := 0) (kr := 0) (L := [0, 0, 0, 0, 0, 0, 0, 0, 0, 0]) (L' := [0, 0, 0, 0, 0, 0, 0, 0, 0, 0]) (FF := F__law_patch) F sc__law_patch rfl rfl rfl rfl fun cdv A outer s H E hr => ((sjs_cons (L1 := [0, 0, 0, 0, 1, 0, 0, 0, 0, 0]) (sj_par2 (i := 4) (j := 5) (k1 := 1) (k2 := 0) rfl sc__law_patch.nd rfl rfl (by decide) (by kernel_rfl) (by kernel_rfl) (eo_nil) (eo_op o_mod dMod_nx (EO.up (k := 0) (n := 0) (eo_callTy c_int fInt_nx (gl_of (by kernel_rfl)) T.z_int (by decide +kernel) (ea_cons (eb_ix (eb_var (n := 1) (i := 0) rfl (.inr (.inl (by kernel_rfl))) (by decide)) (eb_var (n := 0) (i := 1) rfl (.inr (.inl (by kernel_rfl))) (by decide))) ea_nil))) (EO.up (k := 0) (n := 0) eo_int)) (by decide) (by decide) (by kernel_rfl))
  (sjs_cons (L1 := [0, 0, 0, 0, 1, 0, 0, 0, 0, 0]) (sj_for (passes_of rfl) rfl (ei_range1 (gl_of (by kernel_rfl)) T.z_range (ea_cons (EO.up (k := 0) (n := 0) (eo_op o_mod dMod_nx (EO.up (k := 0) (n := 0) (eo_callTy c_int fInt_nx (gl_of (by kernel_rfl)) T.z_int (by decide +kernel) (ea_cons (eb_ix (eb_var (n := 1) (i := 0) rfl (.inr (.inl (by kernel_rfl))) (by decide)) (EO.up (k := 1) (n := 0) (eo_op o_add dAdd_nx (eb_var (n := 1) (i := 1) rfl (.inr (.inl (by kernel_rfl))) (by decide)) (EO.up (k := 0) (n := 1) eo_int)))) ea_nil))) (EO.up (k := 1) (n := 0) (eo_op o_add dAdd_nx (eb_var (n := 1) (i := 3) rfl (.inl (by kernel_rfl)) (by decide)) (EO.up (k := 0) (n := 1) eo_int))))) ea_nil)) (pg_name (i := 6) sc__law_patch.nd rfl (.inr (by kernel_rfl)) (.inl rfl)) (gs_name 6) (by decide)
  (sjs_cons (L1 := [0, 0, 0, 0, 1, 0, 0, 0, 0, 0]) (sj_set (i := 7) (k := 0) sc__law_patch.nd rfl (.inl (by kernel_rfl)) (EB.o (EO.b (k := 1) (eo_sl (eb_var (n := 1) (i := 2) rfl (.inl (by kernel_rfl)) (by decide)) (ep_some (eb_var (n := 0) (i := 5) rfl (.inl (by kernel_rfl)) (by decide))) (ep_some (EO.up (k := 1) (n := 0) (eo_op o_add dAdd_nx (eb_var (n := 1) (i := 5) rfl (.inl (by kernel_rfl)) (by decide)) (EO.up (k := 0) (n := 1) (eo_op o_mod dMod_nx (EO.up (k := 0) (n := 0) (eo_callTy c_int fInt_nx (gl_of (by kernel_rfl)) T.z_int (by decide +kernel) (ea_cons (eb_ix (eb_var (n := 1) (i := 0) rfl (.inr (.inl (by kernel_rfl))) (by decide)) (EO.up (k := 1) (n := 0) (eo_op o_add dAdd_nx (EO.up (k := 1) (n := 1) (eo_op o_add dAdd_nx (eb_var (n := 1) (i := 1) rfl (.inr (.inl (by kernel_rfl))) (by decide)) (EO.up (k := 0) (n := 1) eo_int))) (EO.up (k := 0) (n := 1) (eo_op o_mul dMul_nx (EO.up (k := 0) (n := 0) eo_int) (eb_var (n := 0) (i := 6) rfl (.inr (.inl (by kernel_rfl))) (by decide))))))) ea_nil))) (EO.up (k := 0) (n := 0) eo_int))))))))) (by decide) rfl (.inl rfl))
  (sjs_cons (L1 := [0, 0, 0, 0, 1, 0, 0, 0, 0, 0]) (sj_set (i := 8) (k := 0) sc__law_patch.nd rfl (.inl (by kernel_rfl)) (eo_callTy c_tuple fTuple_nx (gl_of (by kernel_rfl)) T.z_tuple (by decide +kernel) (ea_cons (EO.up (k := 1) (n := 1) (eo_lc (own := [("j", 9)]) rfl sc__law_patch.nd (ei_range1 (gl_of (by kernel_rfl)) T.z_range (ea_cons (EO.up (k := 0) (n := 0) (eo_op o_mod dMod_nx (EO.up (k := 0) (n := 0) (eo_callTy c_int fInt_nx (gl_of (by kernel_rfl)) T.z_int (by decide +kernel) (ea_cons (eb_ix (eb_var (n := 1) (i := 0) rfl (.inr (.inl (by kernel_rfl))) (by decide)) (EO.up (k := 1) (n := 0) (eo_op o_add dAdd_nx (EO.up (k := 1) (n := 1) (eo_op o_add dAdd_nx (eb_var (n := 1) (i := 1) rfl (.inr (.inl (by kernel_rfl))) (by decide)) (EO.up (k := 0) (n := 1) eo_int))) (EO.up (k := 0) (n := 1) (eo_op o_mul dMul_nx (EO.up (k := 0) (n := 0) eo_int) (eb_var (n := 0) (i := 6) rfl (.inr (.inl (by kernel_rfl))) (by decide))))))) ea_nil))) (EO.up (k := 0) (n := 0) eo_int))) ea_nil)) (blkOk_by (by kernel_rfl)) (fun _ _ _ _ _ => (pg_name (i := 9) sc__law_patch.nd rfl (.inl (by kernel_rfl)) (.inr (by kernel_rfl)))) (fun _ _ _ _ _ => ets_nil) (fun _ _ _ _ _ => (EB.o (eb_ix (EO.up (k := 0) (n := 1) eo_str) (EO.up (k := 0) (n := 0) (eo_op o_mod dMod_nx (EO.up (k := 0) (n := 0) (eo_op o_div dDiv_nx (EO.up (k := 0) (n := 0) (eo_callTy c_int fInt_nx (gl_of (by kernel_rfl)) T.z_int (by decide +kernel) (ea_cons (eb_ix (eb_var (n := 1) (i := 0) rfl (.inr (.inl (by kernel_rfl))) (by decide)) (EO.up (k := 1) (n := 0) (eo_op o_add dAdd_nx (EO.up (k := 1) (n := 1) (eo_op o_add dAdd_nx (eb_var (n := 1) (i := 1) rfl (.inr (.inl (by kernel_rfl))) (by decide)) (EO.up (k := 0) (n := 1) eo_int))) (EO.up (k := 0) (n := 1) (eo_op o_mul dMul_nx (EO.up (k := 0) (n := 0) eo_int) (eb_var (n := 0) (i := 6) rfl (.inr (.inl (by kernel_rfl))) (by decide))))))) ea_nil))) (eb_ix (EO.up (k := 1) (n := 1) (eo_lst (ea_cons (EO.up (k := 0) (n := 0) eo_int) (ea_cons (EO.up (k := 0) (n := 0) eo_int) (ea_cons (EO.up (k := 0) (n := 0) eo_int) ea_nil))))) (eb_var (n := 0) (i := 9) rfl (.inl (by kernel_rfl)) (by decide))))) (EO.up (k := 0) (n := 0) eo_int)))))) (gs_name 9) (by decide) (by decide))) ea_nil)) (by decide) rfl (.inl rfl))
  (sjs_cons (L1 := [0, 0, 0, 0, 1, 0, 0, 0, 0, 0]) (sj_if (et_w (ew_and (et_cmp o_le dCmpI_nx (eb_var (n := 0) (i := 5) rfl (.inl (by kernel_rfl)) (by decide)) (EO.up (k := 0) (n := 0) (eo_callB c_len fLen_nx (gl_of (by kernel_rfl)) T.z_len (by decide +kernel) (ea_cons (eb_var (n := 1) (i := 2) rfl (.inl (by kernel_rfl)) (by decide)) ea_nil))) (nomark _)) (ew_and1 (et_cmp (o_ne hr.units) dNe_nx (eb_var (n := 1) (i := 7) rfl (.inl (by kernel_rfl)) (by decide)) (eb_var (n := 1) (i := 8) rfl (.inl (by kernel_rfl)) (by decide)) (nomark _))))) (sjs_cons (L1 := [0, 0, 0, 0, 1, 0, 0, 0, 0, 0]) (sj_append (i := 4) (k := 0) rfl (.inl (by kernel_rfl)) rfl (eo_tup (ea_cons (eb_var (n := 0) (i := 5) rfl (.inl (by kernel_rfl)) (by decide)) (ea_cons (eb_var (n := 0) (i := 7) rfl (.inl (by kernel_rfl)) (by decide)) (ea_cons (eb_var (n := 0) (i := 8) rfl (.inl (by kernel_rfl)) (by decide)) ea_nil)))))
  (sjs_one (sj_set (i := 5) (k := 0) sc__law_patch.nd rfl (.inl (by kernel_rfl)) (EB.o (EO.b (k := 1) (eo_op o_add dAdd_nx (eb_var (n := 1) (i := 5) rfl (.inl (by kernel_rfl)) (by decide)) (EO.up (k := 0) (n := 1) (eo_callB c_len fLen_nx (gl_of (by kernel_rfl)) T.z_len (by decide +kernel) (ea_cons (eb_var (n := 1) (i := 7) rfl (.inl (by kernel_rfl)) (by decide)) ea_nil)))))) (by decide) rfl (.inl rfl)))) sjs_nil)
  (sjs_cons (L1 := [0, 0, 0, 0, 1, 0, 0, 0, 0, 0]) (sj_set (i := 5) (k := 0) sc__law_patch.nd rfl (.inl (by kernel_rfl)) (EB.o (EO.b (k := 1) (eo_op o_add dAdd_nx (EO.up (k := 1) (n := 1) (eo_op o_add dAdd_nx (eb_var (n := 1) (i := 5) rfl (.inl (by kernel_rfl)) (by decide)) (EO.up (k := 0) (n := 1) eo_int))) (EO.up (k := 0) (n := 1) (eo_op o_mod dMod_nx (EO.up (k := 0) (n := 0) (eo_callTy c_int fInt_nx (gl_of (by kernel_rfl)) T.z_int (by decide +kernel) (ea_cons (eb_ix (eb_var (n := 1) (i := 0) rfl (.inr (.inl (by kernel_rfl))) (by decide)) (EO.up (k := 1) (n := 0) (eo_op o_add dAdd_nx (EO.up (k := 1) (n := 1) (eo_op o_add dAdd_nx (eb_var (n := 1) (i := 1) rfl (.inr (.inl (by kernel_rfl))) (by decide)) (EO.up (k := 0) (n := 1) eo_int))) (EO.up (k := 0) (n := 1) (eo_op o_mul dMul_nx (EO.up (k := 0) (n := 0) eo_int) (eb_var (n := 0) (i := 6) rfl (.inr (.inl (by kernel_rfl))) (by decide))))))) ea_nil))) (EO.up (k := 0) (n := 0) eo_int)))))) (by decide) rfl (.inl rfl))
  (sjs_kill [6, 7, 8] sjs_nil))))))
  (sjs_kill [5, 6, 7, 8] (sjs_one (sj_ret (eo_callTy c_tuple fTuple_nx (gl_of (by kernel_rfl)) T.z_tuple (by decide +kernel) (ea_cons (eb_var (n := 1) (i := 4) rfl (.inl (by kernel_rfl)) (by decide)) ea_nil)))))))), b, F.kp⟩
theorem ok__law_behind (T : Txt K mg) : ∃ fd, (∀ base : Heap, FnOk P w K mg base (L2.CX P w) 1 (He.ga K "_law_behind") fd ["text", "patch"] (Spec K mg 2 0 C__law_behind)) ∧ BA fd ["text", "patch"] ∧ PySem.W.keepIn K (.ref (He.ga K "_law_behind")) = true := by
  obtain ⟨fd, F, b⟩ := T.F__law_behind
  exact ⟨fd, fun base => fn_ok (N := n__law_behind) (nN := 5) (k := 0) (kr := 0) (L := [0, 0, 0, 0, 0]) (L' := [0, 0, 0, 0, 0]) (FF := F__law_behind) F sc__law_behind rfl rfl rfl rfl fun cdv A outer s H E hr => ((sjs_cons (L1 := [0, 0, 0, 0, 0]) (sj_for (passes_of rfl) rfl (ei_seq (EO.up (k := 1) (n := 0) (eo_rev (eb_var (n := 1) (i := 1) rfl (.inl (by kernel_rfl)) (by decide))))) (pg_tup rfl (pgs_cons (pg_name (i := 2) sc__law_behind.nd rfl (.inl (by kernel_rfl)) (.inl rfl)) (pgs_cons (pg_name (i := 3) sc__law_behind.nd rfl (.inl (by kernel_rfl)) (.inl rfl)) (pgs_cons (pg_name (i := 4) sc__law_behind.nd rfl (.inl (by kernel_rfl)) (.inl rfl)) pgs_nil)))) (gs_tup [2, 3, 4]) (by decide)
  (sjs_cons (L1 := [0, 0, 0, 0, 0]) (sj_set (i := 0) (k := 0) sc__law_behind.nd rfl (.inl (by kernel_rfl)) (EB.o (EO.b (k := 1) (eo_op o_add dAdd_nx (EO.up (k := 1) (n := 1) (eo_op o_add dAdd_nx (EO.up (k := 1) (n := 1) (eo_sl (eb_var (n := 1) (i := 0) rfl (.inl (by kernel_rfl)) (by decide)) ep_none (ep_some (eb_var (n := 0) (i := 2) rfl (.inl (by kernel_rfl)) (by decide))))) (eb_var (n := 1) (i := 4) rfl (.inl (by kernel_rfl)) (by decide)))) (EO.up (k := 1) (n := 1) (eo_sl (eb_var (n := 1) (i := 0) rfl (.inl (by kernel_rfl)) (by decide)) (ep_some (EO.up (k := 1) (n := 0) (eo_op o_add dAdd_nx (eb_var (n := 1) (i := 2) rfl (.inl (by kernel_rfl)) (by decide)) (EO.up (k := 0) (n := 1) (eo_callB c_len fLen_nx (gl_of (by kernel_rfl)) T.z_len (by decide +kernel) (ea_cons (eb_var (n := 1) (i := 3) rfl (.inl (by kernel_rfl)) (by decide)) ea_nil)))))) ep_none))))) (by decide) rfl (.inl rfl))
  (sjs_kill [2, 3, 4] sjs_nil)))
  (sjs_kill [2, 3, 4] (sjs_one (sj_ret (EB.o (eb_var (n := 0) (i := 0) rfl (.inl (by kernel_rfl)) (by decide)))))))), b, F.kp⟩
theorem ok__law_row (T : Txt K mg) : ∃ fd, (∀ base : Heap, FnOk P w K mg base (L2.CX P w) 2 (He.ga K "_law_row") fd ["draws", "text", "many"] (Spec K mg 3 0 C__law_row)) ∧ BA fd ["draws", "text", "many"] ∧ PySem.W.keepIn K (.ref (He.ga K "_law_row")) = true := by
  obtain ⟨fd, F, b⟩ := T.F__law_row
  obtain ⟨fd__law_patch, G__law_patch, b__law_patch, k__law_patch⟩ := ok__law_patch (P := P) (w := w) T
  obtain ⟨fd__law_behind, G__law_behind, b__law_behind, k__law_behind⟩ := ok__law_behind (P := P) (w := w) T
  exact ⟨fd, fun base => fn_ok (N := n__law_row) (nN := 6) (k := 1) (kr := 0) (L := [0, 0, 0, 0, 0, 0]) (L' := [0, 0, 0, 0, 0, 0]) (FF := F__law_row) F sc__law_row rfl rfl rfl rfl fun cdv A outer s H E hr => ((sjs_cons (L1 := [0, 0, 0, 1, 0, 0]) (sj_set (i := 3) (k := 1) sc__law_row.nd rfl (.inl (by kernel_rfl)) (eo_nil) (by decide) rfl (.inl rfl))
  (sjs_cons (L1 := [0, 0, 0, 1, 0, 0]) (sj_for (passes_of rfl) rfl (ei_range1 (gl_of (by kernel_rfl)) T.z_range (ea_cons (eb_var (n := 0) (i := 2) rfl (.inl (by kernel_rfl)) (by decide)) ea_nil)) (pg_name (i := 4) sc__law_row.nd rfl (.inl (by kernel_rfl)) (.inl rfl)) (gs_name 4) (by decide)
  (sjs_cons (L1 := [0, 0, 0, 1, 0, 0]) (sj_set (i := 5) (k := 0) sc__law_row.nd rfl (.inl (by kernel_rfl)) (eo_call (G__law_patch base) (hr.mono (by decide)) (gl_of (by kernel_rfl)) T.g__law_patch k__law_patch b__law_patch.b (takes_of rfl rfl rfl rfl) (ea_cons (eb_var (n := 0) (i := 0) rfl (.inl (by kernel_rfl)) (by decide)) (ea_cons (EO.up (k := 0) (n := 0) (eo_op o_mul dMul_nx (EO.up (k := 0) (n := 0) eo_int) (eb_var (n := 0) (i := 4) rfl (.inl (by kernel_rfl)) (by decide)))) (ea_cons (eb_var (n := 0) (i := 1) rfl (.inl (by kernel_rfl)) (by decide)) (ea_cons (EO.up (k := 0) (n := 0) eo_int) ea_nil))))) (by decide) rfl (.inl rfl))
  (sjs_cons (L1 := [0, 0, 0, 1, 0, 0]) (sj_append (i := 3) (k := 0) rfl (.inl (by kernel_rfl)) rfl (EB.o (eb_var (n := 0) (i := 5) rfl (.inl (by kernel_rfl)) (by decide))))
  (sjs_cons (L1 := [0, 0, 0, 1, 0, 0]) (sj_set (i := 1) (k := 0) sc__law_row.nd rfl (.inl (by kernel_rfl)) (eo_call (G__law_behind base) (hr.mono (by decide)) (gl_of (by kernel_rfl)) T.g__law_behind k__law_behind b__law_behind.b (takes_of rfl rfl rfl rfl) (ea_cons (eb_var (n := 0) (i := 1) rfl (.inl (by kernel_rfl)) (by decide)) (ea_cons (eb_var (n := 0) (i := 5) rfl (.inl (by kernel_rfl)) (by decide)) ea_nil))) (by decide) rfl (.inl rfl))
  (sjs_kill [4, 5] sjs_nil)))))
  (sjs_kill [1, 4, 5] (sjs_one (sj_ret (eo_callTy c_tuple fTuple_nx (gl_of (by kernel_rfl)) T.z_tuple (by decide +kernel) (ea_cons (eb_var (n := 1) (i := 3) rfl (.inl (by kernel_rfl)) (by decide)) ea_nil)))))))), b, F.kp⟩
theorem ok__law_fits (T : Txt K mg) : ∃ fd, (∀ base : Heap, FnOk P w K mg base (L2.CX P w) 1 (He.ga K "_law_fits") fd ["text", "patch"] (Spec K mg 2 0 C__law_fits)) ∧ BA fd ["text", "patch"] ∧ PySem.W.keepIn K (.ref (He.ga K "_law_fits")) = true := by
  obtain ⟨fd, F, b⟩ := T.F__law_fits
  exact ⟨fd, fun base => fn_ok (N := n__law_fits) (nN := 3) (k := 0) (kr := 0) (L := [0, 0, 0]) (L' := [0, 0, 0]) (FF := F__law_fits) F sc__law_fits rfl rfl rfl rfl fun cdv A outer s H E hr => ((sjs_one (sj_ret (eo_callB (c_all rfl) fAll_nx (gl_of (by kernel_rfl)) T.z_all (by decide +kernel) (ea_cons (EO.up (k := 1) (n := 1) (eo_lc (own := [("hunk", 2)]) rfl sc__law_fits.nd (ei_seq (eb_var (n := 1) (i := 1) rfl (.inl (by kernel_rfl)) (by decide))) (blkOk_by (by kernel_rfl)) (fun _ _ _ _ _ => (pg_name (i := 2) sc__law_fits.nd rfl (.inl (by kernel_rfl)) (.inr (by kernel_rfl)))) (fun _ _ _ _ _ => ets_nil) (fun _ _ _ _ _ => (EB.o (eb_and (EO.up (k := 0) (n := 0) (eo_cmp o_le dCmpI_nx (EO.up (k := 1) (n := 0) (eo_op o_add dAdd_nx (eb_ix (eb_var (n := 2) (i := 2) rfl (.inl (by kernel_rfl)) (by decide)) (EO.up (k := 0) (n := 0) eo_int)) (EO.up (k := 0) (n := 1) (eo_callB c_len fLen_nx (gl_of (by kernel_rfl)) T.z_len (by decide +kernel) (ea_cons (eb_ix (eb_var (n := 2) (i := 2) rfl (.inl (by kernel_rfl)) (by decide)) (EO.up (k := 0) (n := 0) eo_int)) ea_nil))))) (EO.up (k := 0) (n := 0) (eo_callB c_len fLen_nx (gl_of (by kernel_rfl)) T.z_len (by decide +kernel) (ea_cons (eb_var (n := 1) (i := 0) rfl (.inr (.inl (by kernel_rfl))) (by decide)) ea_nil))) (nomark _))) (eb_one (EO.up (k := 0) (n := 0) (eo_cmp (o_eq hr.units) dEq_nx (EO.up (k := 1) (n := 1) (eo_sl (eb_var (n := 1) (i := 0) rfl (.inr (.inl (by kernel_rfl))) (by decide)) (ep_some (eb_ix (eb_var (n := 1) (i := 2) rfl (.inl (by kernel_rfl)) (by decide)) (EO.up (k := 0) (n := 0) eo_int))) (ep_some (EO.up (k := 1) (n := 0) (eo_op o_add dAdd_nx (eb_ix (eb_var (n := 2) (i := 2) rfl (.inl (by kernel_rfl)) (by decide)) (EO.up (k := 0) (n := 0) eo_int)) (EO.up (k := 0) (n := 1) (eo_callB c_len fLen_nx (gl_of (by kernel_rfl)) T.z_len (by decide +kernel) (ea_cons (eb_ix (eb_var (n := 2) (i := 2) rfl (.inl (by kernel_rfl)) (by decide)) (EO.up (k := 0) (n := 0) eo_int)) ea_nil)))))))) (eb_ix (eb_var (n := 2) (i := 2) rfl (.inl (by kernel_rfl)) (by decide)) (EO.up (k := 0) (n := 0) eo_int)) (nomark _))))))) (gs_name 2) (by decide) (by decide))) ea_nil))))), b, F.kp⟩
theorem ok__law_is_text (T : Txt K mg) : ∃ fd, (∀ base : Heap, FnOk P w K mg base (L2.CX P w) 1 (He.ga K "_law_is_text") fd ["value"] (Spec K mg 1 0 C__law_is_text)) ∧ BA fd ["value"] ∧ PySem.W.keepIn K (.ref (He.ga K "_law_is_text")) = true := by
  obtain ⟨fd, F, b⟩ := T.F__law_is_text
  exact ⟨fd, fun base => fn_ok (N := n__law_is_text) (nN := 2) (k := 0) (kr := 0) (L := [0, 0]) (L' := [0, 0]) (FF := F__law_is_text) F sc__law_is_text rfl rfl rfl rfl fun cdv A outer s H E hr => ((sjs_one (sj_ret (EB.o (eb_and (EO.up (k := 0) (n := 0) (eo_isi kind_tup (gl_of (by kernel_rfl)) T.z_isinstance (gl_of (by kernel_rfl)) T.z_tuple (by decide +kernel) (eb_var (n := 1) (i := 0) rfl (.inl (by kernel_rfl)) (by decide)))) (eb_one (EO.up (k := 0) (n := 0) (eo_callB (c_all rfl) fAll_nx (gl_of (by kernel_rfl)) T.z_all (by decide +kernel) (ea_cons (EO.up (k := 1) (n := 1) (eo_lc (own := [("line", 1)]) rfl sc__law_is_text.nd (ei_seq (eb_var (n := 1) (i := 0) rfl (.inl (by kernel_rfl)) (by decide))) (blkOk_by (by kernel_rfl)) (fun _ _ _ _ _ => (pg_name (i := 1) sc__law_is_text.nd rfl (.inl (by kernel_rfl)) (.inr (by kernel_rfl)))) (fun _ _ _ _ _ => ets_nil) (fun _ _ _ _ _ => (EB.o (eb_and (EO.up (k := 0) (n := 0) (eo_isi kind_str (gl_of (by kernel_rfl)) T.z_isinstance (gl_of (by kernel_rfl)) T.z_str (by decide +kernel) (eb_var (n := 1) (i := 1) rfl (.inl (by kernel_rfl)) (by decide)))) (eb_one (EO.up (k := 0) (n := 0) (eo_cmp (o_notIn (hu65 hr)) dNotIn_nx (EO.up (k := 0) (n := 1) eo_str) (eb_var (n := 1) (i := 1) rfl (.inl (by kernel_rfl)) (by decide)) (by rfl))))))) (gs_name 1) (by decide) (by decide))) ea_nil))))))))), b, F.kp⟩
theorem ok__law_is_patch (T : Txt K mg) : ∃ fd, (∀ base : Heap, FnOk P w K mg base (L2.CX P w) 2 (He.ga K "_law_is_patch") fd ["value"] (Spec K mg 1 0 C__law_is_patch)) ∧ BA fd ["value"] ∧ PySem.W.keepIn K (.ref (He.ga K "_law_is_patch")) = true := by
  obtain ⟨fd, F, b⟩ := T.F__law_is_patch
  obtain ⟨fd__law_is_text, G__law_is_text, b__law_is_text, k__law_is_text⟩ := ok__law_is_text (P := P) (w := w) T
  exact ⟨fd, fun base => fn_ok (N := n__law_is_patch) (nN := 3) (k := 1) (kr := 0) (L := [0, 0, 0]) (L' := [0, 0, 0]) (FF := F__law_is_patch) F sc__law_is_patch rfl rfl rfl rfl fun cdv A outer s H E hr => ((sjs_cons (L1 := [0, 0, 0]) (sj_if (et_not (et_val (EO.up (k := 0) (n := 1) (eo_isi kind_tup (gl_of (by kernel_rfl)) T.z_isinstance (gl_of (by kernel_rfl)) T.z_tuple (by decide +kernel) (eb_var (n := 1) (i := 0) rfl (.inl (by kernel_rfl)) (by decide)))))) (sjs_one (sj_ret eo_bl)) sjs_nil)
  (sjs_cons (L1 := [0, 0, 0]) (sj_set (i := 1) (k := 0) sc__law_is_patch.nd rfl (.inl (by kernel_rfl)) (eo_un o_neg dNeg_nx (EO.up (k := 0) (n := 0) eo_int)) (by decide) rfl (.inl rfl))
  (sjs_cons (L1 := [0, 0, 0]) (sj_for (passes_of rfl) rfl (ei_seq (eb_var (n := 0) (i := 0) rfl (.inl (by kernel_rfl)) (by decide))) (pg_name (i := 2) sc__law_is_patch.nd rfl (.inl (by kernel_rfl)) (.inl rfl)) (gs_name 2) (by decide)
  (sjs_cons (L1 := [0, 0, 0]) (sj_if (et_w (ew_or (et_not (et_val (EO.up (k := 0) (n := 1) (eo_isi kind_tup (gl_of (by kernel_rfl)) T.z_isinstance (gl_of (by kernel_rfl)) T.z_tuple (by decide +kernel) (eb_var (n := 1) (i := 2) rfl (.inl (by kernel_rfl)) (by decide)))))) (ew_or (et_cmp (o_ne hr.units) dNe_nx (EO.up (k := 0) (n := 1) (eo_callB c_len fLen_nx (gl_of (by kernel_rfl)) T.z_len (by decide +kernel) (ea_cons (eb_var (n := 1) (i := 2) rfl (.inl (by kernel_rfl)) (by decide)) ea_nil))) (EO.up (k := 0) (n := 1) eo_int) (nomark _)) (ew_or (et_not (et_val (EO.up (k := 0) (n := 1) (eo_isi kind_int (gl_of (by kernel_rfl)) T.z_isinstance (gl_of (by kernel_rfl)) T.z_int (by decide +kernel) (eb_ix (eb_var (n := 2) (i := 2) rfl (.inl (by kernel_rfl)) (by decide)) (EO.up (k := 0) (n := 0) eo_int)))))) (ew_or (et_val (EO.up (k := 0) (n := 1) (eo_isi kind_bool (gl_of (by kernel_rfl)) T.z_isinstance (gl_of (by kernel_rfl)) T.z_bool (by decide +kernel) (eb_ix (eb_var (n := 2) (i := 2) rfl (.inl (by kernel_rfl)) (by decide)) (EO.up (k := 0) (n := 0) eo_int))))) (ew_or1 (et_cmp o_le dCmpI_nx (eb_ix (eb_var (n := 1) (i := 2) rfl (.inl (by kernel_rfl)) (by decide)) (EO.up (k := 0) (n := 0) eo_int)) (eb_var (n := 0) (i := 1) rfl (.inl (by kernel_rfl)) (by decide)) (nomark _)))))))) (sjs_one (sj_ret eo_bl)) sjs_nil)
  (sjs_cons (L1 := [0, 0, 0]) (sj_if (et_w (ew_or (et_not (et_val (EO.up (k := 0) (n := 1) (eo_call (G__law_is_text base) (hr.mono (by decide)) (gl_of (by kernel_rfl)) T.g__law_is_text k__law_is_text b__law_is_text.b (takes_of rfl rfl rfl rfl) (ea_cons (eb_ix (eb_var (n := 1) (i := 2) rfl (.inl (by kernel_rfl)) (by decide)) (EO.up (k := 0) (n := 0) eo_int)) ea_nil))))) (ew_or (et_not (et_val (EO.up (k := 0) (n := 1) (eo_call (G__law_is_text base) (hr.mono (by decide)) (gl_of (by kernel_rfl)) T.g__law_is_text k__law_is_text b__law_is_text.b (takes_of rfl rfl rfl rfl) (ea_cons (eb_ix (eb_var (n := 1) (i := 2) rfl (.inl (by kernel_rfl)) (by decide)) (EO.up (k := 0) (n := 0) eo_int)) ea_nil))))) (ew_or1 (et_cmp (o_eq hr.units) dEq_nx (eb_ix (eb_var (n := 2) (i := 2) rfl (.inl (by kernel_rfl)) (by decide)) (EO.up (k := 0) (n := 0) eo_int)) (eb_ix (eb_var (n := 2) (i := 2) rfl (.inl (by kernel_rfl)) (by decide)) (EO.up (k := 0) (n := 0) eo_int)) (nomark _)))))) (sjs_one (sj_ret eo_bl)) sjs_nil)
  (sjs_cons (L1 := [0, 0, 0]) (sj_set (i := 1) (k := 0) sc__law_is_patch.nd rfl (.inl (by kernel_rfl)) (EB.o (EO.b (k := 1) (eo_op o_add dAdd_nx (eb_ix (eb_var (n := 2) (i := 2) rfl (.inl (by kernel_rfl)) (by decide)) (EO.up (k := 0) (n := 0) eo_int)) (EO.up (k := 0) (n := 1) (eo_callB c_len fLen_nx (gl_of (by kernel_rfl)) T.z_len (by decide +kernel) (ea_cons (eb_ix (eb_var (n := 2) (i := 2) rfl (.inl (by kernel_rfl)) (by decide)) (EO.up (k := 0) (n := 0) eo_int)) ea_nil)))))) (by decide) rfl (.inl rfl))
  (sjs_kill [2] sjs_nil)))))
  (sjs_kill [1, 2] (sjs_one (sj_ret eo_bl))))))), b, F.kp⟩
theorem ok__law_fault (T : Txt K mg) : ∃ fd, (∀ base : Heap, FnOk P w K mg base (L2.CX P w) 3 (He.ga K "_law_fault") fd ["text", "row"] (Spec K mg 2 0 C__law_fault)) ∧ BA fd ["text", "row"] ∧ PySem.W.keepIn K (.ref (He.ga K "_law_fault")) = true := by
  obtain ⟨fd, F, b⟩ := T.F__law_fault
  obtain ⟨fd__law_is_patch, G__law_is_patch, b__law_is_patch, k__law_is_patch⟩ := ok__law_is_patch (P := P) (w := w) T
  obtain ⟨fd__law_fits, G__law_fits, b__law_fits, k__law_fits⟩ := ok__law_fits (P := P) (w := w) T
  obtain ⟨fd__law_behind, G__law_behind, b__law_behind, k__law_behind⟩ := ok__law_behind (P := P) (w := w) T
  exact ⟨fd, fun base => fn_ok (N := n__law_fault) (nN := 4) (k := 2) (kr := 0) (L := [0, 0, 0, 0]) (L' := [0, 0, 0, 0]) (FF := F__law_fault) F sc__law_fault rfl rfl rfl rfl fun cdv A outer s H E hr => ((sjs_cons (L1 := [0, 0, 0, 0]) (sj_if (et_w (ew_or (et_not (et_val (EO.up (k := 0) (n := 1) (eo_isi kind_tup (gl_of (by kernel_rfl)) T.z_isinstance (gl_of (by kernel_rfl)) T.z_tuple (by decide +kernel) (eb_var (n := 1) (i := 1) rfl (.inl (by kernel_rfl)) (by decide)))))) (ew_or1 (et_not (et_val (EO.up (k := 0) (n := 1) (eo_callB (c_all rfl) fAll_nx (gl_of (by kernel_rfl)) T.z_all (by decide +kernel) (ea_cons (EO.up (k := 1) (n := 1) (eo_lc (own := [("patch", 3)]) rfl sc__law_fault.nd (ei_seq (eb_var (n := 1) (i := 1) rfl (.inl (by kernel_rfl)) (by decide))) (blkOk_by (by kernel_rfl)) (fun _ _ _ _ _ => (pg_name (i := 3) sc__law_fault.nd rfl (.inl (by kernel_rfl)) (.inr (by kernel_rfl)))) (fun _ _ _ _ _ => ets_nil) (fun _ _ _ _ _ => (eo_call (G__law_is_patch base) (hr.mono (by decide)) (gl_of (by kernel_rfl)) T.g__law_is_patch k__law_is_patch b__law_is_patch.b takes0 (ea_cons (eb_var (n := 0) (i := 3) rfl (.inl (by kernel_rfl)) (by decide)) ea_nil))) (gs_name 3) (by decide) (by decide))) ea_nil)))))))) (sjs_one (sj_ret (eo_un o_neg dNeg_nx (EO.up (k := 0) (n := 0) eo_int)))) sjs_nil)
  (sjs_cons (L1 := [0, 0, 0, 0]) (sj_for (passes_of rfl) rfl (ei_range1 (gl_of (by kernel_rfl)) T.z_range (ea_cons (EO.up (k := 0) (n := 0) (eo_callB c_len fLen_nx (gl_of (by kernel_rfl)) T.z_len (by decide +kernel) (ea_cons (eb_var (n := 1) (i := 1) rfl (.inl (by kernel_rfl)) (by decide)) ea_nil))) ea_nil)) (pg_name (i := 2) sc__law_fault.nd rfl (.inl (by kernel_rfl)) (.inl rfl)) (gs_name 2) (by decide)
  (sjs_cons (L1 := [0, 0, 0, 0]) (sj_if (et_not (et_val (EO.up (k := 0) (n := 1) (eo_call (G__law_fits base) (hr.mono (by decide)) (gl_of (by kernel_rfl)) T.g__law_fits k__law_fits b__law_fits.b (takes_of rfl rfl rfl rfl) (ea_cons (eb_var (n := 0) (i := 0) rfl (.inl (by kernel_rfl)) (by decide)) (ea_cons (eb_ix (eb_var (n := 1) (i := 1) rfl (.inl (by kernel_rfl)) (by decide)) (eb_var (n := 0) (i := 2) rfl (.inl (by kernel_rfl)) (by decide))) ea_nil)))))) (sjs_one (sj_ret (EB.o (eb_var (n := 0) (i := 2) rfl (.inl (by kernel_rfl)) (by decide))))) sjs_nil)
  (sjs_cons (L1 := [0, 0, 0, 0]) (sj_set (i := 0) (k := 0) sc__law_fault.nd rfl (.inl (by kernel_rfl)) (eo_call (G__law_behind base) (hr.mono (by decide)) (gl_of (by kernel_rfl)) T.g__law_behind k__law_behind b__law_behind.b (takes_of rfl rfl rfl rfl) (ea_cons (eb_var (n := 0) (i := 0) rfl (.inl (by kernel_rfl)) (by decide)) (ea_cons (eb_ix (eb_var (n := 1) (i := 1) rfl (.inl (by kernel_rfl)) (by decide)) (eb_var (n := 0) (i := 2) rfl (.inl (by kernel_rfl)) (by decide))) ea_nil))) (by decide) rfl (.inl rfl))
  (sjs_kill [2] sjs_nil))))
  (sjs_kill [0, 2] (sjs_one (sj_ret eo_non)))))), b, F.kp⟩
theorem ok_is_line (T : Txt K mg) : ∃ fd, (∀ base : Heap, FnOk P w K mg base (L2.CX P w) 1 (He.ga K "is_line") fd ["value"] (Spec K mg 1 0 C_is_line)) ∧ BA fd ["value"] ∧ PySem.W.keepIn K (.ref (He.ga K "is_line")) = true := by
  obtain ⟨fd, F, b⟩ := T.F_is_line
  exact ⟨fd, fun base => fn_ok (N := n_is_line) (nN := 1) (k := 0) (kr := 0) (L := [0]) (L' := [0]) (FF := F_is_line) F sc_is_line rfl rfl rfl rfl fun cdv A outer s H E hr => ((sjs_one (sj_ret (EB.o (eb_and (EO.up (k := 0) (n := 0) (eo_isi kind_str (gl_of (by kernel_rfl)) T.z_isinstance (gl_of (by kernel_rfl)) T.z_str (by decide +kernel) (eb_var (n := 1) (i := 0) rfl (.inl (by kernel_rfl)) (by decide)))) (eb_one (EO.up (k := 0) (n := 0) (eo_cmp (o_notIn (hu65 hr)) dNotIn_nx (EO.up (k := 0) (n := 1) (eo_gstr (gl_of (by kernel_rfl)) T.c_END.choose_spec)) (eb_var (n := 1) (i := 0) rfl (.inl (by kernel_rfl)) (by decide)) (by rfl))))))))), b, F.kp⟩
theorem ok_is_text (T : Txt K mg) : ∃ fd, (∀ base : Heap, FnOk P w K mg base (L2.CX P w) 2 (He.ga K "is_text") fd ["value"] (Spec K mg 1 0 C_is_text)) ∧ BA fd ["value"] ∧ PySem.W.keepIn K (.ref (He.ga K "is_text")) = true := by
  obtain ⟨fd, F, b⟩ := T.F_is_text
  obtain ⟨fd_is_line, G_is_line, b_is_line, k_is_line⟩ := ok_is_line (P := P) (w := w) T
  exact ⟨fd, fun base => fn_ok (N := n_is_text) (nN := 2) (k := 1) (kr := 0) (L := [0, 0]) (L' := [0, 0]) (FF := F_is_text) F sc_is_text rfl rfl rfl rfl fun cdv A outer s H E hr => ((sjs_one (sj_ret (EB.o (eb_and (EO.up (k := 0) (n := 0) (eo_isi kind_tup (gl_of (by kernel_rfl)) T.z_isinstance (gl_of (by kernel_rfl)) T.z_tuple (by decide +kernel) (eb_var (n := 1) (i := 0) rfl (.inl (by kernel_rfl)) (by decide)))) (eb_one (EO.up (k := 0) (n := 0) (eo_callB (c_all rfl) fAll_nx (gl_of (by kernel_rfl)) T.z_all (by decide +kernel) (ea_cons (EO.up (k := 1) (n := 1) (eo_lc (own := [("line", 1)]) rfl sc_is_text.nd (ei_seq (eb_var (n := 1) (i := 0) rfl (.inl (by kernel_rfl)) (by decide))) (blkOk_by (by kernel_rfl)) (fun _ _ _ _ _ => (pg_name (i := 1) sc_is_text.nd rfl (.inl (by kernel_rfl)) (.inr (by kernel_rfl)))) (fun _ _ _ _ _ => ets_nil) (fun _ _ _ _ _ => (eo_call (G_is_line base) (hr.mono (by decide)) (gl_of (by kernel_rfl)) T.g_is_line k_is_line b_is_line.b takes0 (ea_cons (eb_var (n := 0) (i := 1) rfl (.inl (by kernel_rfl)) (by decide)) ea_nil))) (gs_name 1) (by decide) (by decide))) ea_nil))))))))), b, F.kp⟩
theorem ok_check_texts (T : Txt K mg) : ∃ fd, (∀ base : Heap, FnOk P w K mg base (L2.CX P w) 3 (He.ga K "check_texts") fd ["values"] (Spec K mg 1 0 C_check_texts)) ∧ BA fd ["values"] ∧ PySem.W.keepIn K (.ref (He.ga K "check_texts")) = true := by
  obtain ⟨fd, F, b⟩ := T.F_check_texts
  obtain ⟨fd_is_text, G_is_text, b_is_text, k_is_text⟩ := ok_is_text (P := P) (w := w) T
  exact ⟨fd, fun base => fn_ok (N := n_check_texts) (nN := 2) (k := 2) (kr := 0) (L := [0, 0]) (L' := [0, 0]) (FF := F_check_texts) F sc_check_texts rfl rfl rfl rfl fun cdv A outer s H E hr => ((sjs_one (sj_if (et_not (et_val (EO.up (k := 0) (n := 1) (eo_callB (c_all rfl) fAll_nx (gl_of (by kernel_rfl)) T.z_all (by decide +kernel) (ea_cons (EO.up (k := 1) (n := 1) (eo_lc (own := [("value", 1)]) rfl sc_check_texts.nd (ei_seq (eb_var (n := 1) (i := 0) rfl (.inl (by kernel_rfl)) (by decide))) (blkOk_by (by kernel_rfl)) (fun _ _ _ _ _ => (pg_name (i := 1) sc_check_texts.nd rfl (.inl (by kernel_rfl)) (.inr (by kernel_rfl)))) (fun _ _ _ _ _ => ets_nil) (fun _ _ _ _ _ => (eo_call (G_is_text base) (hr.mono (by decide)) (gl_of (by kernel_rfl)) T.g_is_text k_is_text b_is_text.b takes0 (ea_cons (eb_var (n := 0) (i := 1) rfl (.inl (by kernel_rfl)) (by decide)) ea_nil))) (gs_name 1) (by decide) (by decide))) ea_nil))))) (sjs_one (sj_raise rfl (takes_of rfl rfl rfl rfl) PySem.F.excBase_ValueError T.e_BadText.2.1 T.e_BadText.1 T.e_BadText.2.2.1 (raises_own T.e_BadText.2.2.2.1 T.e_BadText.2.2.2.2) (gl_of (by kernel_rfl)))) sjs_nil))), b, F.kp⟩
theorem ok_is_whole (T : Txt K mg) : ∃ fd, (∀ base : Heap, FnOk P w K mg base (L2.CX P w) 1 (He.ga K "is_whole") fd ["value"] (Spec K mg 1 0 C_is_whole)) ∧ BA fd ["value"] ∧ PySem.W.keepIn K (.ref (He.ga K "is_whole")) = true := by
  obtain ⟨fd, F, b⟩ := T.F_is_whole
  exact ⟨fd, fun base => fn_ok (N := n_is_whole) (nN := 1) (k := 0) (kr := 0) (L := [0]) (L' := [0]) (FF := F_is_whole) F sc_is_whole rfl rfl rfl rfl fun cdv A outer s H E hr => ((sjs_one (sj_ret (EB.o (eb_and (EO.up (k := 0) (n := 0) (eo_isi kind_int (gl_of (by kernel_rfl)) T.z_isinstance (gl_of (by kernel_rfl)) T.z_int (by decide +kernel) (eb_var (n := 1) (i := 0) rfl (.inl (by kernel_rfl)) (by decide)))) (eb_and (EO.up (k := 0) (n := 0) (eo_not (EO.up (k := 0) (n := 1) (eo_isi kind_bool (gl_of (by kernel_rfl)) T.z_isinstance (gl_of (by kernel_rfl)) T.z_bool (by decide +kernel) (eb_var (n := 1) (i := 0) rfl (.inl (by kernel_rfl)) (by decide)))))) (eb_one (EO.up (k := 0) (n := 0) (eo_cmp o_ge dCmpI_nx (eb_var (n := 0) (i := 0) rfl (.inl (by kernel_rfl)) (by decide)) (EO.up (k := 0) (n := 0) eo_int) (nomark _)))))))))), b, F.kp⟩
theorem ok__is_hunk (T : Txt K mg) : ∃ fd, (∀ base : Heap, FnOk P w K mg base (L2.CX P w) 3 (He.ga K "_is_hunk") fd ["value"] (Spec K mg 1 0 C__is_hunk)) ∧ BA fd ["value"] ∧ PySem.W.keepIn K (.ref (He.ga K "_is_hunk")) = true := by
  obtain ⟨fd, F, b⟩ := T.F__is_hunk
  obtain ⟨fd_is_whole, G_is_whole, b_is_whole, k_is_whole⟩ := ok_is_whole (P := P) (w := w) T
  obtain ⟨fd_is_text, G_is_text, b_is_text, k_is_text⟩ := ok_is_text (P := P) (w := w) T
  exact ⟨fd, fun base => fn_ok (N := n__is_hunk) (nN := 1) (k := 2) (kr := 0) (L := [0]) (L' := [0]) (FF := F__is_hunk) F sc__is_hunk rfl rfl rfl rfl fun cdv A outer s H E hr => ((sjs_cons (L1 := [0]) (sj_if (et_w (ew_or (et_not (et_val (EO.up (k := 0) (n := 1) (eo_isi kind_tup (gl_of (by kernel_rfl)) T.z_isinstance (gl_of (by kernel_rfl)) T.z_tuple (by decide +kernel) (eb_var (n := 1) (i := 0) rfl (.inl (by kernel_rfl)) (by decide)))))) (ew_or (et_cmp (o_ne hr.units) dNe_nx (EO.up (k := 0) (n := 1) (eo_callB c_len fLen_nx (gl_of (by kernel_rfl)) T.z_len (by decide +kernel) (ea_cons (eb_var (n := 1) (i := 0) rfl (.inl (by kernel_rfl)) (by decide)) ea_nil))) (EO.up (k := 0) (n := 1) eo_int) (nomark _)) (ew_or1 (et_not (et_val (EO.up (k := 0) (n := 1) (eo_call (G_is_whole base) (hr.mono (by decide)) (gl_of (by kernel_rfl)) T.g_is_whole k_is_whole b_is_whole.b (takes_of rfl rfl rfl rfl) (ea_cons (eb_ix (eb_var (n := 1) (i := 0) rfl (.inl (by kernel_rfl)) (by decide)) (EO.up (k := 0) (n := 0) eo_int)) ea_nil))))))))) (sjs_one (sj_ret eo_bl)) sjs_nil)
  (sjs_one (sj_ret (EB.o (eb_and (EO.up (k := 0) (n := 0) (eo_call (G_is_text base) (hr.mono (by decide)) (gl_of (by kernel_rfl)) T.g_is_text k_is_text b_is_text.b (takes_of rfl rfl rfl rfl) (ea_cons (eb_ix (eb_var (n := 1) (i := 0) rfl (.inl (by kernel_rfl)) (by decide)) (EO.up (k := 0) (n := 0) eo_int)) ea_nil))) (eb_and (EO.up (k := 0) (n := 0) (eo_call (G_is_text base) (hr.mono (by decide)) (gl_of (by kernel_rfl)) T.g_is_text k_is_text b_is_text.b (takes_of rfl rfl rfl rfl) (ea_cons (eb_ix (eb_var (n := 1) (i := 0) rfl (.inl (by kernel_rfl)) (by decide)) (EO.up (k := 0) (n := 0) eo_int)) ea_nil))) (eb_one (EO.up (k := 0) (n := 0) (eo_cmp (o_ne hr.units) dNe_nx (eb_ix (eb_var (n := 2) (i := 0) rfl (.inl (by kernel_rfl)) (by decide)) (EO.up (k := 0) (n := 0) eo_int)) (eb_ix (eb_var (n := 2) (i := 0) rfl (.inl (by kernel_rfl)) (by decide)) (EO.up (k := 0) (n := 0) eo_int)) (nomark _))))))))))), b, F.kp⟩
theorem ok_is_patch (T : Txt K mg) : ∃ fd, (∀ base : Heap, FnOk P w K mg base (L2.CX P w) 4 (He.ga K "is_patch") fd ["value"] (Spec K mg 1 0 C_is_patch)) ∧ BA fd ["value"] ∧ PySem.W.keepIn K (.ref (He.ga K "is_patch")) = true := by
  obtain ⟨fd, F, b⟩ := T.F_is_patch
  obtain ⟨fd__is_hunk, G__is_hunk, b__is_hunk, k__is_hunk⟩ := ok__is_hunk (P := P) (w := w) T
  exact ⟨fd, fun base => fn_ok (N := n_is_patch) (nN := 3) (k := 3) (kr := 0) (L := [0, 0, 0]) (L' := [0, 0, 0]) (FF := F_is_patch) F sc_is_patch rfl rfl rfl rfl fun cdv A outer s H E hr => ((sjs_cons (L1 := [0, 0, 0]) (sj_if (et_w (ew_or (et_not (et_val (EO.up (k := 0) (n := 1) (eo_isi kind_tup (gl_of (by kernel_rfl)) T.z_isinstance (gl_of (by kernel_rfl)) T.z_tuple (by decide +kernel) (eb_var (n := 1) (i := 0) rfl (.inl (by kernel_rfl)) (by decide)))))) (ew_or1 (et_not (et_val (EO.up (k := 0) (n := 1) (eo_callB (c_all rfl) fAll_nx (gl_of (by kernel_rfl)) T.z_all (by decide +kernel) (ea_cons (EO.up (k := 1) (n := 1) (eo_lc (own := [("hunk", 1)]) rfl sc_is_patch.nd (ei_seq (eb_var (n := 1) (i := 0) rfl (.inl (by kernel_rfl)) (by decide))) (blkOk_by (by kernel_rfl)) (fun _ _ _ _ _ => (pg_name (i := 1) sc_is_patch.nd rfl (.inl (by kernel_rfl)) (.inr (by kernel_rfl)))) (fun _ _ _ _ _ => ets_nil) (fun _ _ _ _ _ => (eo_call (G__is_hunk base) (hr.mono (by decide)) (gl_of (by kernel_rfl)) T.g__is_hunk k__is_hunk b__is_hunk.b takes0 (ea_cons (eb_var (n := 0) (i := 1) rfl (.inl (by kernel_rfl)) (by decide)) ea_nil))) (gs_name 1) (by decide) (by decide))) ea_nil)))))))) (sjs_one (sj_ret eo_bl)) sjs_nil)
  (sjs_one (sj_ret (eo_callB (c_all rfl) fAll_nx (gl_of (by kernel_rfl)) T.z_all (by decide +kernel) (ea_cons (EO.up (k := 1) (n := 1) (eo_lc (own := [("hunk", 1), ("later", 2)]) rfl sc_is_patch.nd (ei_zip (gl_of (by kernel_rfl)) T.z_zip (ea_cons (eb_var (n := 1) (i := 0) rfl (.inl (by kernel_rfl)) (by decide)) (ea_cons (EO.up (k := 1) (n := 1) (eo_sl (eb_var (n := 1) (i := 0) rfl (.inl (by kernel_rfl)) (by decide)) (ep_some (EO.up (k := 0) (n := 0) eo_int)) ep_none)) ea_nil))) (blkOk_by (by kernel_rfl)) (fun _ _ _ _ _ => (pg_tup rfl (pgs_cons (pg_name (i := 1) sc_is_patch.nd rfl (.inl (by kernel_rfl)) (.inr (by kernel_rfl))) (pgs_cons (pg_name (i := 2) sc_is_patch.nd rfl (.inl (by kernel_rfl)) (.inr (by kernel_rfl))) pgs_nil)))) (fun _ _ _ _ _ => ets_nil) (fun _ _ _ _ _ => (eo_cmp o_lt dCmpI_nx (EO.up (k := 1) (n := 0) (eo_op o_add dAdd_nx (eb_ix (eb_var (n := 2) (i := 1) rfl (.inl (by kernel_rfl)) (by decide)) (EO.up (k := 0) (n := 0) eo_int)) (EO.up (k := 0) (n := 1) (eo_callB c_len fLen_nx (gl_of (by kernel_rfl)) T.z_len (by decide +kernel) (ea_cons (eb_ix (eb_var (n := 2) (i := 1) rfl (.inl (by kernel_rfl)) (by decide)) (EO.up (k := 0) (n := 0) eo_int)) ea_nil))))) (eb_ix (eb_var (n := 1) (i := 2) rfl (.inl (by kernel_rfl)) (by decide)) (EO.up (k := 0) (n := 0) eo_int)) (nomark _))) (gs_tup [1, 2]) (by decide) (by decide))) ea_nil)))))), b, F.kp⟩
theorem ok_is_row (T : Txt K mg) : ∃ fd, (∀ base : Heap, FnOk P w K mg base (L2.CX P w) 5 (He.ga K "is_row") fd ["value"] (Spec K mg 1 0 C_is_row)) ∧ BA fd ["value"] ∧ PySem.W.keepIn K (.ref (He.ga K "is_row")) = true := by
  obtain ⟨fd, F, b⟩ := T.F_is_row
  obtain ⟨fd_is_patch, G_is_patch, b_is_patch, k_is_patch⟩ := ok_is_patch (P := P) (w := w) T
  exact ⟨fd, fun base => fn_ok (N := n_is_row) (nN := 2) (k := 4) (kr := 0) (L := [0, 0]) (L' := [0, 0]) (FF := F_is_row) F sc_is_row rfl rfl rfl rfl fun cdv A outer s H E hr => ((sjs_one (sj_ret (EB.o (eb_and (EO.up (k := 0) (n := 0) (eo_isi kind_tup (gl_of (by kernel_rfl)) T.z_isinstance (gl_of (by kernel_rfl)) T.z_tuple (by decide +kernel) (eb_var (n := 1) (i := 0) rfl (.inl (by kernel_rfl)) (by decide)))) (eb_one (EO.up (k := 0) (n := 0) (eo_callB (c_all rfl) fAll_nx (gl_of (by kernel_rfl)) T.z_all (by decide +kernel) (ea_cons (EO.up (k := 1) (n := 1) (eo_lc (own := [("patch", 1)]) rfl sc_is_row.nd (ei_seq (eb_var (n := 1) (i := 0) rfl (.inl (by kernel_rfl)) (by decide))) (blkOk_by (by kernel_rfl)) (fun _ _ _ _ _ => (pg_name (i := 1) sc_is_row.nd rfl (.inl (by kernel_rfl)) (.inr (by kernel_rfl)))) (fun _ _ _ _ _ => ets_nil) (fun _ _ _ _ _ => (eo_call (G_is_patch base) (hr.mono (by decide)) (gl_of (by kernel_rfl)) T.g_is_patch k_is_patch b_is_patch.b takes0 (ea_cons (eb_var (n := 0) (i := 1) rfl (.inl (by kernel_rfl)) (by decide)) ea_nil))) (gs_name 1) (by decide) (by decide))) ea_nil))))))))), b, F.kp⟩
theorem ok_applied (T : Txt K mg) : ∃ fd, (∀ base : Heap, FnOk P w K mg base (L2.CX P w) 1 (He.ga K "applied") fd ["text", "patch"] (Spec K mg 2 0 C_applied)) ∧ BA fd ["text", "patch"] ∧ PySem.W.keepIn K (.ref (He.ga K "applied")) = true := by
  obtain ⟨fd, F, b⟩ := T.F_applied
  exact ⟨fd, fun base => fn_ok (N := n_applied) (nN := 7) (k := 0) (kr := 0) (L := [0, 0, 0, 0, 0, 0, 0]) (L' := [0, 0, 0, 0, 0, 0, 0]) (FF := F_applied) F sc_applied rfl rfl rfl rfl fun cdv A outer s H E hr => ((sjs_cons (L1 := [0, 0, 0, 0, 0, 0, 0]) (sj_set (i := 2) (k := 0) sc_applied.nd rfl (.inl (by kernel_rfl)) (eo_tup ea_nil) (by decide) rfl (.inl rfl))
  (sjs_cons (L1 := [0, 0, 0, 0, 0, 0, 0]) (sj_set (i := 3) (k := 0) sc_applied.nd rfl (.inl (by kernel_rfl)) eo_int (by decide) rfl (.inl rfl))
  (sjs_cons (L1 := [0, 0, 0, 0, 0, 0, 0]) (sj_for (passes_of rfl) rfl (ei_seq (eb_var (n := 0) (i := 1) rfl (.inl (by kernel_rfl)) (by decide))) (pg_tup rfl (pgs_cons (pg_name (i := 4) sc_applied.nd rfl (.inl (by kernel_rfl)) (.inl rfl)) (pgs_cons (pg_name (i := 5) sc_applied.nd rfl (.inl (by kernel_rfl)) (.inl rfl)) (pgs_cons (pg_name (i := 6) sc_applied.nd rfl (.inl (by kernel_rfl)) (.inl rfl)) pgs_nil)))) (gs_tup [4, 5, 6]) (by decide)
  (sjs_cons (L1 := [0, 0, 0, 0, 0, 0, 0]) (sj_aug (i := 2) sc_applied.nd rfl (.inl (by kernel_rfl)) o_iaddT (EO.up (k := 1) (n := 0) (eo_op o_add dAdd_nx (EO.up (k := 1) (n := 1) (eo_sl (eb_var (n := 1) (i := 0) rfl (.inl (by kernel_rfl)) (by decide)) (ep_some (eb_var (n := 0) (i := 3) rfl (.inl (by kernel_rfl)) (by decide))) (ep_some (eb_var (n := 0) (i := 4) rfl (.inl (by kernel_rfl)) (by decide))))) (eb_var (n := 1) (i := 6) rfl (.inl (by kernel_rfl)) (by decide)))) (by decide) rfl (.inl rfl))
  (sjs_cons (L1 := [0, 0, 0, 0, 0, 0, 0]) (sj_set (i := 3) (k := 0) sc_applied.nd rfl (.inl (by kernel_rfl)) (EB.o (EO.b (k := 1) (eo_op o_add dAdd_nx (eb_var (n := 1) (i := 4) rfl (.inl (by kernel_rfl)) (by decide)) (EO.up (k := 0) (n := 1) (eo_callB c_len fLen_nx (gl_of (by kernel_rfl)) T.z_len (by decide +kernel) (ea_cons (eb_var (n := 1) (i := 5) rfl (.inl (by kernel_rfl)) (by decide)) ea_nil)))))) (by decide) rfl (.inl rfl))
  (sjs_kill [4, 5, 6] sjs_nil))))
  (sjs_kill [4, 5, 6] (sjs_one (sj_ret (EB.o (EO.b (k := 1) (eo_op o_add dAdd_nx (eb_var (n := 1) (i := 2) rfl (.inl (by kernel_rfl)) (by decide)) (EO.up (k := 1) (n := 1) (eo_sl (eb_var (n := 1) (i := 0) rfl (.inl (by kernel_rfl)) (by decide)) (ep_some (eb_var (n := 0) (i := 3) rfl (.inl (by kernel_rfl)) (by decide))) ep_none)))))))))))), b, F.kp⟩
theorem ok_fault (T : Txt K mg) : ∃ fd, (∀ base : Heap, FnOk P w K mg base (L2.CX P w) 1 (He.ga K "fault") fd ["text", "patch"] (Spec K mg 2 0 C_fault)) ∧ BA fd ["text", "patch"] ∧ PySem.W.keepIn K (.ref (He.ga K "fault")) = true := by
  obtain ⟨fd, F, b⟩ := T.F_fault
  exact ⟨fd, fun base => fn_ok (N := n_fault) (nN := 6) (k := 0) (kr := 0) (L := [0, 0, 0, 0, 0, 0]) (L' := [0, 0, 0, 0, 0, 0]) (FF := F_fault) F sc_fault rfl rfl rfl rfl fun cdv A outer s H E hr => ((sjs_cons (L1 := [0, 0, 0, 0, 0, 0]) (sj_for (passes_of rfl) rfl (ei_enum (gl_of (by kernel_rfl)) T.z_enumerate (ea_cons (eb_var (n := 0) (i := 1) rfl (.inl (by kernel_rfl)) (by decide)) ea_nil)) (pg_tup rfl (pgs_cons (pg_name (i := 2) sc_fault.nd rfl (.inl (by kernel_rfl)) (.inl rfl)) (pgs_cons (pg_tup rfl (pgs_cons (pg_name (i := 3) sc_fault.nd rfl (.inl (by kernel_rfl)) (.inl rfl)) (pgs_cons (pg_name (i := 4) sc_fault.nd rfl (.inl (by kernel_rfl)) (.inl rfl)) (pgs_cons (pg_name (i := 5) sc_fault.nd rfl (.inl (by kernel_rfl)) (.inl rfl)) pgs_nil)))) pgs_nil))) (gs_t (gs_c (gs_name 2) (gs_c (gs_tup [3, 4, 5]) gs_n))) (by decide)
  (sjs_cons (L1 := [0, 0, 0, 0, 0, 0]) (sj_if (et_w (ew_or (et_cmp o_gt dCmpI_nx (EO.up (k := 1) (n := 0) (eo_op o_add dAdd_nx (eb_var (n := 1) (i := 3) rfl (.inl (by kernel_rfl)) (by decide)) (EO.up (k := 0) (n := 1) (eo_callB c_len fLen_nx (gl_of (by kernel_rfl)) T.z_len (by decide +kernel) (ea_cons (eb_var (n := 1) (i := 4) rfl (.inl (by kernel_rfl)) (by decide)) ea_nil))))) (EO.up (k := 0) (n := 0) (eo_callB c_len fLen_nx (gl_of (by kernel_rfl)) T.z_len (by decide +kernel) (ea_cons (eb_var (n := 1) (i := 0) rfl (.inl (by kernel_rfl)) (by decide)) ea_nil))) (nomark _)) (ew_or1 (et_cmp (o_ne hr.units) dNe_nx (EO.up (k := 1) (n := 1) (eo_sl (eb_var (n := 1) (i := 0) rfl (.inl (by kernel_rfl)) (by decide)) (ep_some (eb_var (n := 0) (i := 3) rfl (.inl (by kernel_rfl)) (by decide))) (ep_some (EO.up (k := 1) (n := 0) (eo_op o_add dAdd_nx (eb_var (n := 1) (i := 3) rfl (.inl (by kernel_rfl)) (by decide)) (EO.up (k := 0) (n := 1) (eo_callB c_len fLen_nx (gl_of (by kernel_rfl)) T.z_len (by decide +kernel) (ea_cons (eb_var (n := 1) (i := 4) rfl (.inl (by kernel_rfl)) (by decide)) ea_nil)))))))) (eb_var (n := 1) (i := 4) rfl (.inl (by kernel_rfl)) (by decide)) (nomark _))))) (sjs_one (sj_ret (EB.o (eb_var (n := 0) (i := 2) rfl (.inl (by kernel_rfl)) (by decide))))) sjs_nil)
  (sjs_kill [2, 3, 4, 5] sjs_nil)))
  (sjs_kill [2, 3, 4, 5] (sjs_one (sj_ret eo_non))))), b, F.kp⟩
theorem ok_row_fault (T : Txt K mg) : ∃ fd, (∀ base : Heap, FnOk P w K mg base (L2.CX P w) 6 (He.ga K "row_fault") fd ["text", "row"] (Spec K mg 2 0 C_row_fault)) ∧ BA fd ["text", "row"] ∧ PySem.W.keepIn K (.ref (He.ga K "row_fault")) = true := by
  obtain ⟨fd, F, b⟩ := T.F_row_fault
  obtain ⟨fd_check_texts, G_check_texts, b_check_texts, k_check_texts⟩ := ok_check_texts (P := P) (w := w) T
  obtain ⟨fd_is_row, G_is_row, b_is_row, k_is_row⟩ := ok_is_row (P := P) (w := w) T
  obtain ⟨fd_fault, G_fault, b_fault, k_fault⟩ := ok_fault (P := P) (w := w) T
  obtain ⟨fd_applied, G_applied, b_applied, k_applied⟩ := ok_applied (P := P) (w := w) T
  exact ⟨fd, fun base => fn_ok (N := n_row_fault) (nN := 4) (k := 5) (kr := 0) (L := [0, 0, 0, 0]) (L' := [0, 0, 0, 0]) (FF := F_row_fault) F sc_row_fault rfl rfl rfl rfl fun cdv A outer s H E hr => ((sjs_cons (L1 := [0, 0, 0, 0]) (sj_expr (EO.up (k := 0) (n := 0) (eo_call (G_check_texts base) (hr.mono (by decide)) (gl_of (by kernel_rfl)) T.g_check_texts k_check_texts b_check_texts.b (takes_of rfl rfl rfl rfl) (ea_cons (EO.up (k := 1) (n := 0) (eo_lst (ea_cons (eb_var (n := 0) (i := 0) rfl (.inl (by kernel_rfl)) (by decide)) ea_nil))) ea_nil))))
  (sjs_cons (L1 := [0, 0, 0, 0]) (sj_if (et_not (et_val (EO.up (k := 0) (n := 1) (eo_call (G_is_row base) (hr.mono (by decide)) (gl_of (by kernel_rfl)) T.g_is_row k_is_row b_is_row.b (takes_of rfl rfl rfl rfl) (ea_cons (eb_var (n := 0) (i := 1) rfl (.inl (by kernel_rfl)) (by decide)) ea_nil))))) (sjs_one (sj_ret (eo_un o_neg dNeg_nx (EO.up (k := 0) (n := 0) eo_int)))) sjs_nil)
  (sjs_cons (L1 := [0, 0, 0, 0]) (sj_for (passes_of rfl) rfl (ei_enum (gl_of (by kernel_rfl)) T.z_enumerate (ea_cons (eb_var (n := 0) (i := 1) rfl (.inl (by kernel_rfl)) (by decide)) ea_nil)) (pg_tup rfl (pgs_cons (pg_name (i := 2) sc_row_fault.nd rfl (.inl (by kernel_rfl)) (.inl rfl)) (pgs_cons (pg_name (i := 3) sc_row_fault.nd rfl (.inl (by kernel_rfl)) (.inl rfl)) pgs_nil))) (gs_tup [2, 3]) (by decide)
  (sjs_cons (L1 := [0, 0, 0, 0]) (sj_if (et_cmp o_isNot dIsNot_nx (EO.up (k := 0) (n := 1) (eo_call (G_fault base) (hr.mono (by decide)) (gl_of (by kernel_rfl)) T.g_fault k_fault b_fault.b (takes_of rfl rfl rfl rfl) (ea_cons (eb_var (n := 0) (i := 0) rfl (.inl (by kernel_rfl)) (by decide)) (ea_cons (eb_var (n := 0) (i := 3) rfl (.inl (by kernel_rfl)) (by decide)) ea_nil)))) (EO.up (k := 0) (n := 1) eo_non) (nomark _)) (sjs_one (sj_ret (EB.o (eb_var (n := 0) (i := 2) rfl (.inl (by kernel_rfl)) (by decide))))) sjs_nil)
  (sjs_cons (L1 := [0, 0, 0, 0]) (sj_set (i := 0) (k := 0) sc_row_fault.nd rfl (.inl (by kernel_rfl)) (eo_call (G_applied base) (hr.mono (by decide)) (gl_of (by kernel_rfl)) T.g_applied k_applied b_applied.b (takes_of rfl rfl rfl rfl) (ea_cons (eb_var (n := 0) (i := 0) rfl (.inl (by kernel_rfl)) (by decide)) (ea_cons (eb_var (n := 0) (i := 3) rfl (.inl (by kernel_rfl)) (by decide)) ea_nil))) (by decide) rfl (.inl rfl))
  (sjs_kill [2, 3] sjs_nil))))
  (sjs_kill [0, 2, 3] (sjs_one (sj_ret eo_non))))))), b, F.kp⟩
theorem ok_check_row (T : Txt K mg) : ∃ fd, (∀ base : Heap, FnOk P w K mg base (L2.CX P w) 6 (He.ga K "check_row") fd ["row"] (Spec K mg 1 0 C_check_row)) ∧ BA fd ["row"] ∧ PySem.W.keepIn K (.ref (He.ga K "check_row")) = true := by
  obtain ⟨fd, F, b⟩ := T.F_check_row
  obtain ⟨fd_is_row, G_is_row, b_is_row, k_is_row⟩ := ok_is_row (P := P) (w := w) T
  exact ⟨fd, fun base => fn_ok (N := n_check_row) (nN := 1) (k := 5) (kr := 0) (L := [0]) (L' := [0]) (FF := F_check_row) F sc_check_row rfl rfl rfl rfl fun cdv A outer s H E hr => ((sjs_one (sj_if (et_not (et_val (EO.up (k := 0) (n := 1) (eo_call (G_is_row base) (hr.mono (by decide)) (gl_of (by kernel_rfl)) T.g_is_row k_is_row b_is_row.b (takes_of rfl rfl rfl rfl) (ea_cons (eb_var (n := 0) (i := 0) rfl (.inl (by kernel_rfl)) (by decide)) ea_nil))))) (sjs_one (sj_raise rfl (takes_of rfl rfl rfl rfl) PySem.F.excBase_ValueError T.e_BadPatch.2.1 T.e_BadPatch.1 T.e_BadPatch.2.2.1 (raises_own T.e_BadPatch.2.2.2.1 T.e_BadPatch.2.2.2.2) (gl_of (by kernel_rfl)))) sjs_nil))), b, F.kp⟩
theorem ok_row_behind (T : Txt K mg) : ∃ fd, (∀ base : Heap, FnOk P w K mg base (L2.CX P w) 7 (He.ga K "row_behind") fd ["text", "row"] (Spec K mg 2 0 C_row_behind)) ∧ BA fd ["text", "row"] ∧ PySem.W.keepIn K (.ref (He.ga K "row_behind")) = true := by
  obtain ⟨fd, F, b⟩ := T.F_row_behind
  obtain ⟨fd_check_row, G_check_row, b_check_row, k_check_row⟩ := ok_check_row (P := P) (w := w) T
  obtain ⟨fd_row_fault, G_row_fault, b_row_fault, k_row_fault⟩ := ok_row_fault (P := P) (w := w) T
  obtain ⟨fd_applied, G_applied, b_applied, k_applied⟩ := ok_applied (P := P) (w := w) T
  exact ⟨fd, fun base => fn_ok (N := n_row_behind) (nN := 3) (k := 6) (kr := 0) (L := [0, 0, 0]) (L' := [0, 0, 0]) (FF := F_row_behind) F sc_row_behind rfl rfl rfl rfl fun cdv A outer s H E hr => ((sjs_cons (L1 := [0, 0, 0]) (sj_expr (EO.up (k := 0) (n := 0) (eo_call (G_check_row base) (hr.mono (by decide)) (gl_of (by kernel_rfl)) T.g_check_row k_check_row b_check_row.b (takes_of rfl rfl rfl rfl) (ea_cons (eb_var (n := 0) (i := 1) rfl (.inl (by kernel_rfl)) (by decide)) ea_nil))))
  (sjs_cons (L1 := [0, 0, 0]) (sj_if (et_cmp o_isNot dIsNot_nx (EO.up (k := 0) (n := 1) (eo_call (G_row_fault base) (hr.mono (by decide)) (gl_of (by kernel_rfl)) T.g_row_fault k_row_fault b_row_fault.b (takes_of rfl rfl rfl rfl) (ea_cons (eb_var (n := 0) (i := 0) rfl (.inl (by kernel_rfl)) (by decide)) (ea_cons (eb_var (n := 0) (i := 1) rfl (.inl (by kernel_rfl)) (by decide)) ea_nil)))) (EO.up (k := 0) (n := 1) eo_non) (nomark _)) (sjs_one (sj_raise rfl (takes_of rfl rfl rfl rfl) PySem.F.excBase_ValueError T.e_NoFit.2.1 T.e_NoFit.1 T.e_NoFit.2.2.1 (raises_own T.e_NoFit.2.2.2.1 T.e_NoFit.2.2.2.2) (gl_of (by kernel_rfl)))) sjs_nil)
  (sjs_cons (L1 := [0, 0, 0]) (sj_for (passes_of rfl) rfl (ei_seq (eb_var (n := 0) (i := 1) rfl (.inl (by kernel_rfl)) (by decide))) (pg_name (i := 2) sc_row_behind.nd rfl (.inl (by kernel_rfl)) (.inl rfl)) (gs_name 2) (by decide)
  (sjs_cons (L1 := [0, 0, 0]) (sj_set (i := 0) (k := 0) sc_row_behind.nd rfl (.inl (by kernel_rfl)) (eo_call (G_applied base) (hr.mono (by decide)) (gl_of (by kernel_rfl)) T.g_applied k_applied b_applied.b (takes_of rfl rfl rfl rfl) (ea_cons (eb_var (n := 0) (i := 0) rfl (.inl (by kernel_rfl)) (by decide)) (ea_cons (eb_var (n := 0) (i := 2) rfl (.inl (by kernel_rfl)) (by decide)) ea_nil))) (by decide) rfl (.inl rfl))
  (sjs_kill [2] sjs_nil)))
  (sjs_kill [2] (sjs_one (sj_ret (EB.o (eb_var (n := 0) (i := 0) rfl (.inl (by kernel_rfl)) (by decide)))))))))), b, F.kp⟩
theorem ok__law_swapped (T : Txt K mg) : ∃ fd, (∀ base : Heap, FnOk P w K mg base (L2.CX P w) 1 (He.ga K "_law_swapped") fd ["first", "second"] (Spec K mg 2 0 C__law_swapped)) ∧ BA fd ["first", "second"] ∧ PySem.W.keepIn K (.ref (He.ga K "_law_swapped")) = true := by
  obtain ⟨fd, F, b⟩ := T.F__law_swapped
  exact ⟨fd, fun base => fn_ok (N := n__law_swapped) (nN := 13) (k := 0) (kr := 0) (L := [0, 0, 0, 0, 0, 0, 0, 0, 0, 0, 0, 0, 0]) (L' := [0, 0, 0, 0, 0, 0, 0, 0, 0, 0, 0, 0, 0]) (FF := F__law_swapped) F sc__law_swapped rfl rfl rfl rfl fun cdv A outer s H E hr => ((sjs_cons (L1 := [0, 0, 1, 0, 0, 0, 0, 0, 0, 0, 0, 0, 0]) (sj_par2 (i := 2) (j := 3) (k1 := 1) (k2 := 0) rfl sc__law_swapped.nd rfl rfl (by decide) (by kernel_rfl) (by kernel_rfl) (eo_nil) eo_int (by decide) (by decide) (by kernel_rfl))
  (sjs_cons (L1 := [0, 0, 1, 0, 0, 0, 0, 0, 0, 0, 0, 0, 0]) (sj_for (passes_of rfl) rfl (ei_seq (eb_var (n := 0) (i := 0) rfl (.inl (by kernel_rfl)) (by decide))) (pg_tup rfl (pgs_cons (pg_name (i := 4) sc__law_swapped.nd rfl (.inr (by kernel_rfl)) (.inl rfl)) (pgs_cons (pg_name (i := 5) sc__law_swapped.nd rfl (.inr (by kernel_rfl)) (.inl rfl)) (pgs_cons (pg_name (i := 6) sc__law_swapped.nd rfl (.inl (by kernel_rfl)) (.inl rfl)) pgs_nil)))) (gs_tup [4, 5, 6]) (by decide)
  (sjs_cons (L1 := [0, 0, 1, 0, 0, 0, 0, 0, 0, 0, 0, 0, 0]) (sj_append (i := 2) (k := 0) rfl (.inl (by kernel_rfl)) rfl (eo_tup (ea_cons (EO.up (k := 1) (n := 0) (eo_op o_add dAdd_nx (eb_var (n := 1) (i := 4) rfl (.inr (.inl (by kernel_rfl))) (by decide)) (eb_var (n := 1) (i := 3) rfl (.inl (by kernel_rfl)) (by decide)))) (ea_cons (EO.up (k := 1) (n := 0) (eo_op o_add dAdd_nx (EO.up (k := 1) (n := 1) (eo_op o_add dAdd_nx (eb_var (n := 1) (i := 4) rfl (.inr (.inl (by kernel_rfl))) (by decide)) (eb_var (n := 1) (i := 3) rfl (.inl (by kernel_rfl)) (by decide)))) (EO.up (k := 0) (n := 1) (eo_callB c_len fLen_nx (gl_of (by kernel_rfl)) T.z_len (by decide +kernel) (ea_cons (eb_var (n := 1) (i := 6) rfl (.inl (by kernel_rfl)) (by decide)) ea_nil))))) (ea_cons (EO.up (k := 0) (n := 0) (eo_op o_sub dSub_nx (EO.up (k := 0) (n := 0) (eo_callB c_len fLen_nx (gl_of (by kernel_rfl)) T.z_len (by decide +kernel) (ea_cons (eb_var (n := 1) (i := 6) rfl (.inl (by kernel_rfl)) (by decide)) ea_nil))) (EO.up (k := 0) (n := 0) (eo_callB c_len fLen_nx (gl_of (by kernel_rfl)) T.z_len (by decide +kernel) (ea_cons (eb_var (n := 1) (i := 5) rfl (.inr (.inl (by kernel_rfl))) (by decide)) ea_nil))))) ea_nil)))))
  (sjs_cons (L1 := [0, 0, 1, 0, 0, 0, 0, 0, 0, 0, 0, 0, 0]) (sj_set (i := 3) (k := 0) sc__law_swapped.nd rfl (.inl (by kernel_rfl)) (eo_op o_sub dSub_nx (EO.up (k := 1) (n := 0) (eo_op o_add dAdd_nx (eb_var (n := 1) (i := 3) rfl (.inl (by kernel_rfl)) (by decide)) (EO.up (k := 0) (n := 1) (eo_callB c_len fLen_nx (gl_of (by kernel_rfl)) T.z_len (by decide +kernel) (ea_cons (eb_var (n := 1) (i := 6) rfl (.inl (by kernel_rfl)) (by decide)) ea_nil))))) (EO.up (k := 0) (n := 0) (eo_callB c_len fLen_nx (gl_of (by kernel_rfl)) T.z_len (by decide +kernel) (ea_cons (eb_var (n := 1) (i := 5) rfl (.inr (.inl (by kernel_rfl))) (by decide)) ea_nil)))) (by decide) rfl (.inl rfl))
  (sjs_kill [4, 5, 6] sjs_nil))))
  (sjs_kill [3, 4, 5, 6] (sjs_cons (L1 := [0, 0, 1, 0, 0, 0, 0, 1, 0, 0, 0, 0, 0]) (sj_set (i := 7) (k := 1) sc__law_swapped.nd rfl (.inl (by kernel_rfl)) (eo_nil) (by decide) rfl (.inl rfl))
  (sjs_cons (L1 := [0, 0, 1, 0, 0, 0, 0, 1, 0, 0, 0, 0, 0]) (sj_for (passes_of rfl) rfl (ei_seq (eb_var (n := 0) (i := 1) rfl (.inl (by kernel_rfl)) (by decide))) (pg_tup rfl (pgs_cons (pg_name (i := 4) sc__law_swapped.nd rfl (.inr (by kernel_rfl)) (.inl rfl)) (pgs_cons (pg_name (i := 5) sc__law_swapped.nd rfl (.inr (by kernel_rfl)) (.inl rfl)) (pgs_cons (pg_name (i := 6) sc__law_swapped.nd rfl (.inl (by kernel_rfl)) (.inl rfl)) pgs_nil)))) (gs_tup [4, 5, 6]) (by decide)
  (sjs_cons (L1 := [0, 0, 1, 0, 0, 0, 0, 1, 0, 0, 0, 0, 0]) (sj_if (et_val (EO.up (k := 0) (n := 1) (eo_callB (c_any rfl) fAny_nx (gl_of (by kernel_rfl)) T.z_any (by decide +kernel) (ea_cons (EO.up (k := 1) (n := 1) (eo_lc (own := [("begin", 9), ("end", 10), ("less", 11)]) rfl sc__law_swapped.nd (ei_seq (eb_var (n := 1) (i := 2) rfl (.inl (by kernel_rfl)) (by decide))) (blkOk_by (by kernel_rfl)) (fun _ _ _ _ _ => (pg_tup rfl (pgs_cons (pg_name (i := 9) sc__law_swapped.nd rfl (.inl (by kernel_rfl)) (.inr (by kernel_rfl))) (pgs_cons (pg_name (i := 10) sc__law_swapped.nd rfl (.inl (by kernel_rfl)) (.inr (by kernel_rfl))) (pgs_cons (pg_name (i := 11) sc__law_swapped.nd rfl (.inl (by kernel_rfl)) (.inr (by kernel_rfl))) pgs_nil))))) (fun _ _ _ _ _ => ets_nil) (fun _ _ _ _ _ => (eo_not (EB.up (n := 1) (eb_or (EO.up (k := 0) (n := 0) (eo_cmp o_lt dCmpI_nx (EO.up (k := 1) (n := 0) (eo_op o_add dAdd_nx (eb_var (n := 1) (i := 4) rfl (.inr (.inl (by kernel_rfl))) (by decide)) (EO.up (k := 0) (n := 1) (eo_callB c_len fLen_nx (gl_of (by kernel_rfl)) T.z_len (by decide +kernel) (ea_cons (eb_var (n := 1) (i := 5) rfl (.inr (.inl (by kernel_rfl))) (by decide)) ea_nil))))) (eb_var (n := 0) (i := 9) rfl (.inl (by kernel_rfl)) (by decide)) (nomark _))) (eb_one (EO.up (k := 0) (n := 0) (eo_cmp o_lt dCmpI_nx (eb_var (n := 0) (i := 10) rfl (.inl (by kernel_rfl)) (by decide)) (eb_var (n := 0) (i := 4) rfl (.inr (.inl (by kernel_rfl))) (by decide)) (nomark _)))))))) (gs_tup [9, 10, 11]) (by decide) (by decide))) ea_nil)))) (sjs_one (sj_ret eo_non)) sjs_nil)
  (sjs_cons (L1 := [0, 0, 1, 0, 0, 0, 0, 1, 0, 0, 0, 0, 0]) (sj_append (i := 7) (k := 0) rfl (.inl (by kernel_rfl)) rfl (eo_tup (ea_cons (EO.up (k := 0) (n := 0) (eo_op o_sub dSub_nx (eb_var (n := 0) (i := 4) rfl (.inr (.inl (by kernel_rfl))) (by decide)) (EO.up (k := 0) (n := 0) (eo_callB (c_sum rfl) fSum_nx (gl_of (by kernel_rfl)) T.z_sum (by decide +kernel) (ea_cons (EO.up (k := 1) (n := 1) (eo_lc (own := [("begin", 9), ("end", 10), ("less", 11)]) rfl sc__law_swapped.nd (ei_seq (eb_var (n := 1) (i := 2) rfl (.inl (by kernel_rfl)) (by decide))) (blkOk_by (by kernel_rfl)) (fun _ _ _ _ _ => (pg_tup rfl (pgs_cons (pg_name (i := 9) sc__law_swapped.nd rfl (.inl (by kernel_rfl)) (.inr (by kernel_rfl))) (pgs_cons (pg_name (i := 10) sc__law_swapped.nd rfl (.inl (by kernel_rfl)) (.inr (by kernel_rfl))) (pgs_cons (pg_name (i := 11) sc__law_swapped.nd rfl (.inl (by kernel_rfl)) (.inr (by kernel_rfl))) pgs_nil))))) (fun _ _ _ _ _ => (ets_one (et_cmp o_lt dCmpI_nx (eb_var (n := 0) (i := 10) rfl (.inl (by kernel_rfl)) (by decide)) (eb_var (n := 0) (i := 4) rfl (.inr (.inl (by kernel_rfl))) (by decide)) (nomark _)))) (fun _ _ _ _ _ => (EB.o (eb_var (n := 0) (i := 11) rfl (.inl (by kernel_rfl)) (by decide)))) (gs_tup [9, 10, 11]) (by decide) (by decide))) ea_nil))))) (ea_cons (eb_var (n := 0) (i := 5) rfl (.inr (.inl (by kernel_rfl))) (by decide)) (ea_cons (eb_var (n := 0) (i := 6) rfl (.inl (by kernel_rfl)) (by decide)) ea_nil)))))
  (sjs_kill [4, 5, 6] sjs_nil))))
  (sjs_kill [4, 5, 6] (sjs_cons (L1 := [0, 0, 1, 0, 0, 0, 0, 1, 1, 0, 0, 0, 0]) (sj_set (i := 8) (k := 1) sc__law_swapped.nd rfl (.inl (by kernel_rfl)) (eo_nil) (by decide) rfl (.inl rfl))
  (sjs_cons (L1 := [0, 0, 1, 0, 0, 0, 0, 1, 1, 0, 0, 0, 0]) (sj_for (passes_of rfl) rfl (ei_seq (eb_var (n := 0) (i := 0) rfl (.inl (by kernel_rfl)) (by decide))) (pg_tup rfl (pgs_cons (pg_name (i := 4) sc__law_swapped.nd rfl (.inr (by kernel_rfl)) (.inl rfl)) (pgs_cons (pg_name (i := 5) sc__law_swapped.nd rfl (.inr (by kernel_rfl)) (.inl rfl)) (pgs_cons (pg_name (i := 6) sc__law_swapped.nd rfl (.inl (by kernel_rfl)) (.inl rfl)) pgs_nil)))) (gs_tup [4, 5, 6]) (by decide)
  (sjs_cons (L1 := [0, 0, 1, 0, 0, 0, 0, 1, 1, 0, 0, 0, 0]) (sj_append (i := 8) (k := 0) rfl (.inl (by kernel_rfl)) rfl (eo_tup (ea_cons (EO.up (k := 1) (n := 0) (eo_op o_add dAdd_nx (eb_var (n := 1) (i := 4) rfl (.inr (.inl (by kernel_rfl))) (by decide)) (EO.up (k := 0) (n := 1) (eo_callB (c_sum rfl) fSum_nx (gl_of (by kernel_rfl)) T.z_sum (by decide +kernel) (ea_cons (EO.up (k := 1) (n := 1) (eo_lc (own := [("one", 12)]) rfl sc__law_swapped.nd (ei_seq (eb_var (n := 1) (i := 7) rfl (.inl (by kernel_rfl)) (by decide))) (blkOk_by (by kernel_rfl)) (fun _ _ _ _ _ => (pg_name (i := 12) sc__law_swapped.nd rfl (.inl (by kernel_rfl)) (.inr (by kernel_rfl)))) (fun _ _ _ _ _ => (ets_one (et_cmp o_lt dCmpI_nx (EO.up (k := 1) (n := 0) (eo_op o_add dAdd_nx (eb_ix (eb_var (n := 2) (i := 12) rfl (.inl (by kernel_rfl)) (by decide)) (EO.up (k := 0) (n := 0) eo_int)) (EO.up (k := 0) (n := 1) (eo_callB c_len fLen_nx (gl_of (by kernel_rfl)) T.z_len (by decide +kernel) (ea_cons (eb_ix (eb_var (n := 2) (i := 12) rfl (.inl (by kernel_rfl)) (by decide)) (EO.up (k := 0) (n := 0) eo_int)) ea_nil))))) (eb_var (n := 0) (i := 4) rfl (.inr (.inl (by kernel_rfl))) (by decide)) (nomark _)))) (fun _ _ _ _ _ => (eo_op o_sub dSub_nx (EO.up (k := 0) (n := 0) (eo_callB c_len fLen_nx (gl_of (by kernel_rfl)) T.z_len (by decide +kernel) (ea_cons (eb_ix (eb_var (n := 2) (i := 12) rfl (.inl (by kernel_rfl)) (by decide)) (EO.up (k := 0) (n := 0) eo_int)) ea_nil))) (EO.up (k := 0) (n := 0) (eo_callB c_len fLen_nx (gl_of (by kernel_rfl)) T.z_len (by decide +kernel) (ea_cons (eb_ix (eb_var (n := 2) (i := 12) rfl (.inl (by kernel_rfl)) (by decide)) (EO.up (k := 0) (n := 0) eo_int)) ea_nil))))) (gs_name 12) (by decide) (by decide))) ea_nil))))) (ea_cons (eb_var (n := 0) (i := 5) rfl (.inr (.inl (by kernel_rfl))) (by decide)) (ea_cons (eb_var (n := 0) (i := 6) rfl (.inl (by kernel_rfl)) (by decide)) ea_nil)))))
  (sjs_kill [4, 5, 6] sjs_nil)))
  (sjs_kill [4, 5, 6] (sjs_one (sj_ret (eo_tup (ea_cons (EO.up (k := 0) (n := 0) (eo_callTy c_tuple fTuple_nx (gl_of (by kernel_rfl)) T.z_tuple (by decide +kernel) (ea_cons (eb_var (n := 1) (i := 7) rfl (.inl (by kernel_rfl)) (by decide)) ea_nil))) (ea_cons (EO.up (k := 0) (n := 0) (eo_callTy c_tuple fTuple_nx (gl_of (by kernel_rfl)) T.z_tuple (by decide +kernel) (ea_cons (eb_var (n := 1) (i := 8) rfl (.inl (by kernel_rfl)) (by decide)) ea_nil))) ea_nil))))))))))))))), b, F.kp⟩
theorem ok__law_to_end (T : Txt K mg) : ∃ fd, (∀ base : Heap, FnOk P w K mg base (L2.CX P w) 2 (He.ga K "_law_to_end") fd ["row", "place"] (Spec K mg 2 0 C__law_to_end)) ∧ BA fd ["row", "place"] ∧ PySem.W.keepIn K (.ref (He.ga K "_law_to_end")) = true := by
  obtain ⟨fd, F, b⟩ := T.F__law_to_end
  obtain ⟨fd__law_swapped, G__law_swapped, b__law_swapped, k__law_swapped⟩ := ok__law_swapped (P := P) (w := w) T
  exact ⟨fd, fun base => fn_ok (N := n__law_to_end) (nN := 4) (k := 1) (kr := 0) (L := [0, 0, 0, 0]) (L' := [0, 0, 0, 0]) (FF := F__law_to_end) F sc__law_to_end rfl rfl rfl rfl fun cdv A outer s H E hr => ((sjs_cons (L1 := [0, 0, 0, 0]) (sj_for (passes_of rfl) rfl (ei_range2 (gl_of (by kernel_rfl)) T.z_range (ea_cons (eb_var (n := 0) (i := 1) rfl (.inl (by kernel_rfl)) (by decide)) (ea_cons (EO.up (k := 0) (n := 0) (eo_op o_sub dSub_nx (EO.up (k := 0) (n := 0) (eo_callB c_len fLen_nx (gl_of (by kernel_rfl)) T.z_len (by decide +kernel) (ea_cons (eb_var (n := 1) (i := 0) rfl (.inl (by kernel_rfl)) (by decide)) ea_nil))) (EO.up (k := 0) (n := 0) eo_int))) ea_nil))) (pg_name (i := 2) sc__law_to_end.nd rfl (.inl (by kernel_rfl)) (.inl rfl)) (gs_name 2) (by decide)
  (sjs_cons (L1 := [0, 0, 0, 0]) (sj_set (i := 3) (k := 0) sc__law_to_end.nd rfl (.inl (by kernel_rfl)) (eo_call (G__law_swapped base) (hr.mono (by decide)) (gl_of (by kernel_rfl)) T.g__law_swapped k__law_swapped b__law_swapped.b (takes_of rfl rfl rfl rfl) (ea_cons (eb_ix (eb_var (n := 1) (i := 0) rfl (.inl (by kernel_rfl)) (by decide)) (eb_var (n := 0) (i := 2) rfl (.inl (by kernel_rfl)) (by decide))) (ea_cons (eb_ix (eb_var (n := 1) (i := 0) rfl (.inl (by kernel_rfl)) (by decide)) (EO.up (k := 1) (n := 0) (eo_op o_add dAdd_nx (eb_var (n := 1) (i := 2) rfl (.inl (by kernel_rfl)) (by decide)) (EO.up (k := 0) (n := 1) eo_int)))) ea_nil))) (by decide) rfl (.inl rfl))
  (sjs_cons (L1 := [0, 0, 0, 0]) (sj_if (et_cmp o_is dIs_nx (eb_var (n := 1) (i := 3) rfl (.inl (by kernel_rfl)) (by decide)) (EO.up (k := 0) (n := 1) eo_non) (nomark _)) (sjs_one (sj_ret (eo_tup (ea_cons (EO.up (k := 0) (n := 0) eo_str) (ea_cons (EO.up (k := 1) (n := 0) (eo_op o_add dAdd_nx (eb_var (n := 1) (i := 2) rfl (.inl (by kernel_rfl)) (by decide)) (EO.up (k := 0) (n := 1) eo_int))) ea_nil))))) sjs_nil)
  (sjs_cons (L1 := [0, 0, 0, 0]) (sj_set (i := 0) (k := 0) sc__law_to_end.nd rfl (.inl (by kernel_rfl)) (EB.o (EO.b (k := 1) (eo_op o_add dAdd_nx (EO.up (k := 1) (n := 1) (eo_op o_add dAdd_nx (EO.up (k := 1) (n := 1) (eo_sl (eb_var (n := 1) (i := 0) rfl (.inl (by kernel_rfl)) (by decide)) ep_none (ep_some (eb_var (n := 0) (i := 2) rfl (.inl (by kernel_rfl)) (by decide))))) (eb_var (n := 1) (i := 3) rfl (.inl (by kernel_rfl)) (by decide)))) (EO.up (k := 1) (n := 1) (eo_sl (eb_var (n := 1) (i := 0) rfl (.inl (by kernel_rfl)) (by decide)) (ep_some (EO.up (k := 1) (n := 0) (eo_op o_add dAdd_nx (eb_var (n := 1) (i := 2) rfl (.inl (by kernel_rfl)) (by decide)) (EO.up (k := 0) (n := 1) eo_int)))) ep_none))))) (by decide) rfl (.inl rfl))
  (sjs_kill [2, 3] sjs_nil)))))
  (sjs_kill [2, 3] (sjs_one (sj_ret (eo_tup (ea_cons (EO.up (k := 0) (n := 0) eo_str) (ea_cons (eb_var (n := 0) (i := 0) rfl (.inl (by kernel_rfl)) (by decide)) ea_nil)))))))), b, F.kp⟩
theorem ok__law_to_front (T : Txt K mg) : ∃ fd, (∀ base : Heap, FnOk P w K mg base (L2.CX P w) 2 (He.ga K "_law_to_front") fd ["row", "place"] (Spec K mg 2 0 C__law_to_front)) ∧ BA fd ["row", "place"] ∧ PySem.W.keepIn K (.ref (He.ga K "_law_to_front")) = true := by
  obtain ⟨fd, F, b⟩ := T.F__law_to_front
  obtain ⟨fd__law_swapped, G__law_swapped, b__law_swapped, k__law_swapped⟩ := ok__law_swapped (P := P) (w := w) T
  exact ⟨fd, fun base => fn_ok (N := n__law_to_front) (nN := 4) (k := 1) (kr := 0) (L := [0, 0, 0, 0]) (L' := [0, 0, 0, 0]) (FF := F__law_to_front) F sc__law_to_front rfl rfl rfl rfl fun cdv A outer s H E hr => ((sjs_cons (L1 := [0, 0, 0, 0]) (sj_for (passes_of rfl) rfl (ei_range3 (gl_of (by kernel_rfl)) T.z_range (ea_cons (eb_var (n := 0) (i := 1) rfl (.inl (by kernel_rfl)) (by decide)) (ea_cons (EO.up (k := 0) (n := 0) eo_int) (ea_cons (EO.up (k := 0) (n := 0) (eo_un o_neg dNeg_nx (EO.up (k := 0) (n := 0) eo_int))) ea_nil)))) (pg_name (i := 2) sc__law_to_front.nd rfl (.inl (by kernel_rfl)) (.inl rfl)) (gs_name 2) (by decide)
  (sjs_cons (L1 := [0, 0, 0, 0]) (sj_set (i := 3) (k := 0) sc__law_to_front.nd rfl (.inl (by kernel_rfl)) (eo_call (G__law_swapped base) (hr.mono (by decide)) (gl_of (by kernel_rfl)) T.g__law_swapped k__law_swapped b__law_swapped.b (takes_of rfl rfl rfl rfl) (ea_cons (eb_ix (eb_var (n := 1) (i := 0) rfl (.inl (by kernel_rfl)) (by decide)) (EO.up (k := 0) (n := 0) (eo_op o_sub dSub_nx (eb_var (n := 0) (i := 2) rfl (.inl (by kernel_rfl)) (by decide)) (EO.up (k := 0) (n := 0) eo_int)))) (ea_cons (eb_ix (eb_var (n := 1) (i := 0) rfl (.inl (by kernel_rfl)) (by decide)) (eb_var (n := 0) (i := 2) rfl (.inl (by kernel_rfl)) (by decide))) ea_nil))) (by decide) rfl (.inl rfl))
  (sjs_cons (L1 := [0, 0, 0, 0]) (sj_if (et_cmp o_is dIs_nx (eb_var (n := 1) (i := 3) rfl (.inl (by kernel_rfl)) (by decide)) (EO.up (k := 0) (n := 1) eo_non) (nomark _)) (sjs_one (sj_ret (eo_tup (ea_cons (EO.up (k := 0) (n := 0) eo_str) (ea_cons (EO.up (k := 0) (n := 0) (eo_op o_sub dSub_nx (eb_var (n := 0) (i := 2) rfl (.inl (by kernel_rfl)) (by decide)) (EO.up (k := 0) (n := 0) eo_int))) ea_nil))))) sjs_nil)
  (sjs_cons (L1 := [0, 0, 0, 0]) (sj_set (i := 0) (k := 0) sc__law_to_front.nd rfl (.inl (by kernel_rfl)) (EB.o (EO.b (k := 1) (eo_op o_add dAdd_nx (EO.up (k := 1) (n := 1) (eo_op o_add dAdd_nx (EO.up (k := 1) (n := 1) (eo_sl (eb_var (n := 1) (i := 0) rfl (.inl (by kernel_rfl)) (by decide)) ep_none (ep_some (EO.up (k := 0) (n := 0) (eo_op o_sub dSub_nx (eb_var (n := 0) (i := 2) rfl (.inl (by kernel_rfl)) (by decide)) (EO.up (k := 0) (n := 0) eo_int)))))) (eb_var (n := 1) (i := 3) rfl (.inl (by kernel_rfl)) (by decide)))) (EO.up (k := 1) (n := 1) (eo_sl (eb_var (n := 1) (i := 0) rfl (.inl (by kernel_rfl)) (by decide)) (ep_some (EO.up (k := 1) (n := 0) (eo_op o_add dAdd_nx (eb_var (n := 1) (i := 2) rfl (.inl (by kernel_rfl)) (by decide)) (EO.up (k := 0) (n := 1) eo_int)))) ep_none))))) (by decide) rfl (.inl rfl))
  (sjs_kill [2, 3] sjs_nil)))))
  (sjs_kill [2, 3] (sjs_one (sj_ret (eo_tup (ea_cons (EO.up (k := 0) (n := 0) eo_str) (ea_cons (eb_var (n := 0) (i := 0) rfl (.inl (by kernel_rfl)) (by decide)) ea_nil)))))))), b, F.kp⟩
theorem ok__check_place (T : Txt K mg) : ∃ fd, (∀ base : Heap, FnOk P w K mg base (L2.CX P w) 2 (He.ga K "_check_place") fd ["place", "most"] (Spec K mg 2 0 C__check_place)) ∧ BA fd ["place", "most"] ∧ PySem.W.keepIn K (.ref (He.ga K "_check_place")) = true := by
  obtain ⟨fd, F, b⟩ := T.F__check_place
  obtain ⟨fd_is_whole, G_is_whole, b_is_whole, k_is_whole⟩ := ok_is_whole (P := P) (w := w) T
  exact ⟨fd, fun base => fn_ok (N := n__check_place) (nN := 2) (k := 1) (kr := 0) (L := [0, 0]) (L' := [0, 0]) (FF := F__check_place) F sc__check_place rfl rfl rfl rfl fun cdv A outer s H E hr => ((sjs_one (sj_if (et_w (ew_or (et_not (et_val (EO.up (k := 0) (n := 1) (eo_call (G_is_whole base) (hr.mono (by decide)) (gl_of (by kernel_rfl)) T.g_is_whole k_is_whole b_is_whole.b (takes_of rfl rfl rfl rfl) (ea_cons (eb_var (n := 0) (i := 0) rfl (.inl (by kernel_rfl)) (by decide)) ea_nil))))) (ew_or1 (et_cmp o_gt dCmpI_nx (eb_var (n := 0) (i := 0) rfl (.inl (by kernel_rfl)) (by decide)) (eb_var (n := 0) (i := 1) rfl (.inl (by kernel_rfl)) (by decide)) (nomark _))))) (sjs_one (sj_raise rfl (takes_of rfl rfl rfl rfl) PySem.F.excBase_ValueError T.e_BadPlace.2.1 T.e_BadPlace.1 T.e_BadPlace.2.2.1 (raises_own T.e_BadPlace.2.2.2.1 T.e_BadPlace.2.2.2.2) (gl_of (by kernel_rfl)))) sjs_nil))), b, F.kp⟩
theorem ok_reverse (T : Txt K mg) : ∃ fd, (∀ base : Heap, FnOk P w K mg base (L2.CX P w) 1 (He.ga K "reverse") fd ["patch"] (Spec K mg 1 0 C_reverse)) ∧ BA fd ["patch"] ∧ PySem.W.keepIn K (.ref (He.ga K "reverse")) = true := by
  obtain ⟨fd, F, b⟩ := T.F_reverse
  exact ⟨fd, fun base => fn_ok (N := n_reverse) (nN := 6) (k := 0) (kr := 0) (L := [0, 0, 0, 0, 0, 0]) (L' := [0, 0, 0, 0, 0, 0]) (FF := F_reverse) F sc_reverse rfl rfl rfl rfl fun cdv A outer s H E hr => ((sjs_cons (L1 := [0, 1, 0, 0, 0, 0]) (sj_set (i := 1) (k := 1) sc_reverse.nd rfl (.inl (by kernel_rfl)) (eo_nil) (by decide) rfl (.inl rfl))
  (sjs_cons (L1 := [0, 1, 0, 0, 0, 0]) (sj_set (i := 2) (k := 0) sc_reverse.nd rfl (.inl (by kernel_rfl)) eo_int (by decide) rfl (.inl rfl))
  (sjs_cons (L1 := [0, 1, 0, 0, 0, 0]) (sj_for (passes_of rfl) rfl (ei_seq (eb_var (n := 0) (i := 0) rfl (.inl (by kernel_rfl)) (by decide))) (pg_tup rfl (pgs_cons (pg_name (i := 3) sc_reverse.nd rfl (.inl (by kernel_rfl)) (.inl rfl)) (pgs_cons (pg_name (i := 4) sc_reverse.nd rfl (.inl (by kernel_rfl)) (.inl rfl)) (pgs_cons (pg_name (i := 5) sc_reverse.nd rfl (.inl (by kernel_rfl)) (.inl rfl)) pgs_nil)))) (gs_tup [3, 4, 5]) (by decide)
  (sjs_cons (L1 := [0, 1, 0, 0, 0, 0]) (sj_append (i := 1) (k := 0) rfl (.inl (by kernel_rfl)) rfl (eo_tup (ea_cons (EO.up (k := 1) (n := 0) (eo_op o_add dAdd_nx (eb_var (n := 1) (i := 3) rfl (.inl (by kernel_rfl)) (by decide)) (eb_var (n := 1) (i := 2) rfl (.inl (by kernel_rfl)) (by decide)))) (ea_cons (eb_var (n := 0) (i := 5) rfl (.inl (by kernel_rfl)) (by decide)) (ea_cons (eb_var (n := 0) (i := 4) rfl (.inl (by kernel_rfl)) (by decide)) ea_nil)))))
  (sjs_cons (L1 := [0, 1, 0, 0, 0, 0]) (sj_aug (i := 2) sc_reverse.nd rfl (.inl (by kernel_rfl)) o_iaddT (EO.up (k := 0) (n := 0) (eo_op o_sub dSub_nx (EO.up (k := 0) (n := 0) (eo_callB c_len fLen_nx (gl_of (by kernel_rfl)) T.z_len (by decide +kernel) (ea_cons (eb_var (n := 1) (i := 5) rfl (.inl (by kernel_rfl)) (by decide)) ea_nil))) (EO.up (k := 0) (n := 0) (eo_callB c_len fLen_nx (gl_of (by kernel_rfl)) T.z_len (by decide +kernel) (ea_cons (eb_var (n := 1) (i := 4) rfl (.inl (by kernel_rfl)) (by decide)) ea_nil))))) (by decide) rfl (.inl rfl))
  (sjs_kill [3, 4, 5] sjs_nil))))
  (sjs_kill [2, 3, 4, 5] (sjs_one (sj_ret (eo_callTy c_tuple fTuple_nx (gl_of (by kernel_rfl)) T.z_tuple (by decide +kernel) (ea_cons (eb_var (n := 1) (i := 1) rfl (.inl (by kernel_rfl)) (by decide)) ea_nil))))))))), b, F.kp⟩
theorem ok_touch (T : Txt K mg) : ∃ fd, (∀ base : Heap, FnOk P w K mg base (L2.CX P w) 1 (He.ga K "touch") fd ["one", "other"] (Spec K mg 2 0 C_touch)) ∧ BA fd ["one", "other"] ∧ PySem.W.keepIn K (.ref (He.ga K "touch")) = true := by
  obtain ⟨fd, F, b⟩ := T.F_touch
  exact ⟨fd, fun base => fn_ok (N := n_touch) (nN := 2) (k := 0) (kr := 0) (L := [0, 0]) (L' := [0, 0]) (FF := F_touch) F sc_touch rfl rfl rfl rfl fun cdv A outer s H E hr => ((sjs_one (sj_ret (EB.o (eb_and (EO.up (k := 0) (n := 0) (eo_cmp o_le dCmpI_nx (eb_ix (eb_var (n := 1) (i := 0) rfl (.inl (by kernel_rfl)) (by decide)) (EO.up (k := 0) (n := 0) eo_int)) (eb_ix (eb_var (n := 1) (i := 1) rfl (.inl (by kernel_rfl)) (by decide)) (EO.up (k := 0) (n := 0) eo_int)) (nomark _))) (eb_one (EO.up (k := 0) (n := 0) (eo_cmp o_le dCmpI_nx (eb_ix (eb_var (n := 1) (i := 1) rfl (.inl (by kernel_rfl)) (by decide)) (EO.up (k := 0) (n := 0) eo_int)) (eb_ix (eb_var (n := 1) (i := 0) rfl (.inl (by kernel_rfl)) (by decide)) (EO.up (k := 0) (n := 0) eo_int)) (nomark _))))))))), b, F.kp⟩
theorem ok__first_touch (T : Txt K mg) : ∃ fd, (∀ base : Heap, FnOk P w K mg base (L2.CX P w) 2 (He.ga K "_first_touch") fd ["ones", "others"] (Spec K mg 2 0 C__first_touch)) ∧ BA fd ["ones", "others"] ∧ PySem.W.keepIn K (.ref (He.ga K "_first_touch")) = true := by
  obtain ⟨fd, F, b⟩ := T.F__first_touch
  obtain ⟨fd_touch, G_touch, b_touch, k_touch⟩ := ok_touch (P := P) (w := w) T
  exact ⟨fd, fun base => fn_ok (N := n__first_touch) (nN := 6) (k := 1) (kr := 0) (L := [0, 0, 0, 0, 0, 0]) (L' := [0, 0, 0, 0, 0, 0]) (FF := F__first_touch) F sc__first_touch rfl rfl rfl rfl fun cdv A outer s H E hr => ((sjs_cons (L1 := [0, 0, 0, 0, 0, 0]) (sj_for (passes_of rfl) rfl (ei_enum (gl_of (by kernel_rfl)) T.z_enumerate (ea_cons (eb_var (n := 0) (i := 0) rfl (.inl (by kernel_rfl)) (by decide)) ea_nil)) (pg_tup rfl (pgs_cons (pg_name (i := 2) sc__first_touch.nd rfl (.inl (by kernel_rfl)) (.inl rfl)) (pgs_cons (pg_name (i := 3) sc__first_touch.nd rfl (.inl (by kernel_rfl)) (.inl rfl)) pgs_nil))) (gs_tup [2, 3]) (by decide)
  (sjs_cons (L1 := [0, 0, 0, 0, 0, 0]) (sj_for (passes_of rfl) rfl (ei_enum (gl_of (by kernel_rfl)) T.z_enumerate (ea_cons (eb_var (n := 0) (i := 1) rfl (.inl (by kernel_rfl)) (by decide)) ea_nil)) (pg_tup rfl (pgs_cons (pg_name (i := 4) sc__first_touch.nd rfl (.inl (by kernel_rfl)) (.inl rfl)) (pgs_cons (pg_name (i := 5) sc__first_touch.nd rfl (.inl (by kernel_rfl)) (.inl rfl)) pgs_nil))) (gs_tup [4, 5]) (by decide)
  (sjs_cons (L1 := [0, 0, 0, 0, 0, 0]) (sj_if (et_val (EO.up (k := 0) (n := 1) (eo_call (G_touch base) (hr.mono (by decide)) (gl_of (by kernel_rfl)) T.g_touch k_touch b_touch.b (takes_of rfl rfl rfl rfl) (ea_cons (eb_var (n := 0) (i := 3) rfl (.inl (by kernel_rfl)) (by decide)) (ea_cons (eb_var (n := 0) (i := 5) rfl (.inl (by kernel_rfl)) (by decide)) ea_nil))))) (sjs_one (sj_ret (eo_tup (ea_cons (eb_var (n := 0) (i := 2) rfl (.inl (by kernel_rfl)) (by decide)) (ea_cons (eb_var (n := 0) (i := 4) rfl (.inl (by kernel_rfl)) (by decide)) ea_nil))))) sjs_nil)
  (sjs_kill [4, 5] sjs_nil)))
  (sjs_kill [4, 5] (sjs_kill [2, 3, 4, 5] sjs_nil))))
  (sjs_kill [2, 3, 4, 5] (sjs_one (sj_ret eo_non))))), b, F.kp⟩
theorem ok__spans (T : Txt K mg) : ∃ fd, (∀ base : Heap, FnOk P w K mg base (L2.CX P w) 1 (He.ga K "_spans") fd ["patch"] (Spec K mg 1 0 C__spans)) ∧ BA fd ["patch"] ∧ PySem.W.keepIn K (.ref (He.ga K "_spans")) = true := by
  obtain ⟨fd, F, b⟩ := T.F__spans
  exact ⟨fd, fun base => fn_ok (N := n__spans) (nN := 4) (k := 0) (kr := 0) (L := [0, 0, 0, 0]) (L' := [0, 0, 0, 0]) (FF := F__spans) F sc__spans rfl rfl rfl rfl fun cdv A outer s H E hr => ((sjs_one (sj_ret (eo_callTy c_tuple fTuple_nx (gl_of (by kernel_rfl)) T.z_tuple (by decide +kernel) (ea_cons (EO.up (k := 1) (n := 1) (eo_lc (own := [("at", 1), ("old", 2), ("_new", 3)]) rfl sc__spans.nd (ei_seq (eb_var (n := 1) (i := 0) rfl (.inl (by kernel_rfl)) (by decide))) (blkOk_by (by kernel_rfl)) (fun _ _ _ _ _ => (pg_tup rfl (pgs_cons (pg_name (i := 1) sc__spans.nd rfl (.inl (by kernel_rfl)) (.inr (by kernel_rfl))) (pgs_cons (pg_name (i := 2) sc__spans.nd rfl (.inl (by kernel_rfl)) (.inr (by kernel_rfl))) (pgs_cons (pg_name (i := 3) sc__spans.nd rfl (.inl (by kernel_rfl)) (.inr (by kernel_rfl))) pgs_nil))))) (fun _ _ _ _ _ => ets_nil) (fun _ _ _ _ _ => (eo_tup (ea_cons (eb_var (n := 0) (i := 1) rfl (.inl (by kernel_rfl)) (by decide)) (ea_cons (EO.up (k := 1) (n := 0) (eo_op o_add dAdd_nx (eb_var (n := 1) (i := 1) rfl (.inl (by kernel_rfl)) (by decide)) (EO.up (k := 0) (n := 1) (eo_callB c_len fLen_nx (gl_of (by kernel_rfl)) T.z_len (by decide +kernel) (ea_cons (eb_var (n := 1) (i := 2) rfl (.inl (by kernel_rfl)) (by decide)) ea_nil))))) ea_nil)))) (gs_tup [1, 2, 3]) (by decide) (by decide))) ea_nil))))), b, F.kp⟩
theorem ok_shifted (T : Txt K mg) : ∃ fd, (∀ base : Heap, FnOk P w K mg base (L2.CX P w) 2 (He.ga K "shifted") fd ["patch", "by"] (Spec K mg 2 0 C_shifted)) ∧ BA fd ["patch", "by"] ∧ PySem.W.keepIn K (.ref (He.ga K "shifted")) = true := by
  obtain ⟨fd, F, b⟩ := T.F_shifted
  obtain ⟨fd__spans, G__spans, b__spans, k__spans⟩ := ok__spans (P := P) (w := w) T
  exact ⟨fd, fun base => fn_ok (N := n_shifted) (nN := 10) (k := 1) (kr := 0) (L := [0, 0, 0, 0, 0, 0, 0, 0, 0, 0]) (L' := [0, 0, 0, 0, 0, 0, 0, 0, 0, 0]) (FF := F_shifted) F sc_shifted rfl rfl rfl rfl fun cdv A outer s H E hr => ((sjs_cons (L1 := [0, 0, 0, 0, 0, 0, 0, 0, 0, 0]) (sj_set (i := 2) (k := 0) sc_shifted.nd rfl (.inl (by kernel_rfl)) (eo_call (G__spans base) (hr.mono (by decide)) (gl_of (by kernel_rfl)) T.g__spans k__spans b__spans.b (takes_of rfl rfl rfl rfl) (ea_cons (eb_var (n := 0) (i := 1) rfl (.inl (by kernel_rfl)) (by decide)) ea_nil)) (by decide) rfl (.inl rfl))
  (sjs_cons (L1 := [0, 0, 0, 1, 0, 0, 0, 0, 0, 0]) (sj_set (i := 3) (k := 1) sc_shifted.nd rfl (.inl (by kernel_rfl)) (eo_nil) (by decide) rfl (.inl rfl))
  (sjs_cons (L1 := [0, 0, 0, 1, 0, 0, 0, 0, 0, 0]) (sj_for (passes_of rfl) rfl (ei_seq (eb_var (n := 0) (i := 0) rfl (.inl (by kernel_rfl)) (by decide))) (pg_tup rfl (pgs_cons (pg_name (i := 4) sc_shifted.nd rfl (.inl (by kernel_rfl)) (.inl rfl)) (pgs_cons (pg_name (i := 5) sc_shifted.nd rfl (.inl (by kernel_rfl)) (.inl rfl)) (pgs_cons (pg_name (i := 6) sc_shifted.nd rfl (.inl (by kernel_rfl)) (.inl rfl)) pgs_nil)))) (gs_tup [4, 5, 6]) (by decide)
  (sjs_cons (L1 := [0, 0, 0, 1, 0, 0, 0, 0, 0, 0]) (sj_set (i := 7) (k := 0) sc_shifted.nd rfl (.inl (by kernel_rfl)) eo_int (by decide) rfl (.inl rfl))
  (sjs_cons (L1 := [0, 0, 0, 1, 0, 0, 0, 0, 0, 0]) (sj_for (passes_of rfl) rfl (ei_enum (gl_of (by kernel_rfl)) T.z_enumerate (ea_cons (eb_var (n := 0) (i := 2) rfl (.inl (by kernel_rfl)) (by decide)) ea_nil)) (pg_tup rfl (pgs_cons (pg_name (i := 8) sc_shifted.nd rfl (.inl (by kernel_rfl)) (.inl rfl)) (pgs_cons (pg_name (i := 9) sc_shifted.nd rfl (.inl (by kernel_rfl)) (.inl rfl)) pgs_nil))) (gs_tup [8, 9]) (by decide)
  (sjs_cons (L1 := [0, 0, 0, 1, 0, 0, 0, 0, 0, 0]) (sj_if (et_cmp o_lt dCmpI_nx (eb_ix (eb_var (n := 1) (i := 9) rfl (.inl (by kernel_rfl)) (by decide)) (EO.up (k := 0) (n := 0) eo_int)) (eb_var (n := 0) (i := 4) rfl (.inl (by kernel_rfl)) (by decide)) (nomark _)) (sjs_one (sj_aug (i := 7) sc_shifted.nd rfl (.inl (by kernel_rfl)) o_iaddT (EO.up (k := 0) (n := 0) (eo_op o_sub dSub_nx (EO.up (k := 0) (n := 0) (eo_callB c_len fLen_nx (gl_of (by kernel_rfl)) T.z_len (by decide +kernel) (ea_cons (eb_ix (eb_ix (eb_var (n := 3) (i := 1) rfl (.inl (by kernel_rfl)) (by decide)) (eb_var (n := 0) (i := 8) rfl (.inl (by kernel_rfl)) (by decide))) (EO.up (k := 0) (n := 0) eo_int)) ea_nil))) (EO.up (k := 0) (n := 0) (eo_callB c_len fLen_nx (gl_of (by kernel_rfl)) T.z_len (by decide +kernel) (ea_cons (eb_ix (eb_ix (eb_var (n := 3) (i := 1) rfl (.inl (by kernel_rfl)) (by decide)) (eb_var (n := 0) (i := 8) rfl (.inl (by kernel_rfl)) (by decide))) (EO.up (k := 0) (n := 0) eo_int)) ea_nil))))) (by decide) rfl (.inl rfl))) sjs_nil)
  (sjs_kill [8, 9] sjs_nil)))
  (sjs_kill [8, 9] (sjs_cons (L1 := [0, 0, 0, 1, 0, 0, 0, 0, 0, 0]) (sj_append (i := 3) (k := 0) rfl (.inl (by kernel_rfl)) rfl (eo_tup (ea_cons (EO.up (k := 1) (n := 0) (eo_op o_add dAdd_nx (eb_var (n := 1) (i := 4) rfl (.inl (by kernel_rfl)) (by decide)) (eb_var (n := 1) (i := 7) rfl (.inl (by kernel_rfl)) (by decide)))) (ea_cons (eb_var (n := 0) (i := 5) rfl (.inl (by kernel_rfl)) (by decide)) (ea_cons (eb_var (n := 0) (i := 6) rfl (.inl (by kernel_rfl)) (by decide)) ea_nil)))))
  (sjs_kill [4, 5, 6, 7, 8, 9] sjs_nil))))))
  (sjs_kill [4, 5, 6, 7, 8, 9] (sjs_one (sj_ret (eo_callTy c_tuple fTuple_nx (gl_of (by kernel_rfl)) T.z_tuple (by decide +kernel) (ea_cons (eb_var (n := 1) (i := 3) rfl (.inl (by kernel_rfl)) (by decide)) ea_nil))))))))), b, F.kp⟩
theorem ok_commuting (T : Txt K mg) : ∃ fd, (∀ base : Heap, FnOk P w K mg base (L2.CX P w) 3 (He.ga K "commuting") fd ["first", "second"] (Spec K mg 2 0 C_commuting)) ∧ BA fd ["first", "second"] ∧ PySem.W.keepIn K (.ref (He.ga K "commuting")) = true := by
  obtain ⟨fd, F, b⟩ := T.F_commuting
  obtain ⟨fd_reverse, G_reverse, b_reverse, k_reverse⟩ := ok_reverse (P := P) (w := w) T
  obtain ⟨fd__first_touch, G__first_touch, b__first_touch, k__first_touch⟩ := ok__first_touch (P := P) (w := w) T
  obtain ⟨fd__spans, G__spans, b__spans, k__spans⟩ := ok__spans (P := P) (w := w) T
  obtain ⟨fd_shifted, G_shifted, b_shifted, k_shifted⟩ := ok_shifted (P := P) (w := w) T
  exact ⟨fd, fun base => fn_ok (N := n_commuting) (nN := 5) (k := 2) (kr := 0) (L := [0, 0, 0, 0, 0]) (L' := [0, 0, 0, 0, 0]) (FF := F_commuting) F sc_commuting rfl rfl rfl rfl fun cdv A outer s H E hr => ((sjs_cons (L1 := [0, 0, 0, 0, 0]) (sj_set (i := 2) (k := 0) sc_commuting.nd rfl (.inl (by kernel_rfl)) (eo_call (G_reverse base) (hr.mono (by decide)) (gl_of (by kernel_rfl)) T.g_reverse k_reverse b_reverse.b (takes_of rfl rfl rfl rfl) (ea_cons (eb_var (n := 0) (i := 0) rfl (.inl (by kernel_rfl)) (by decide)) ea_nil)) (by decide) rfl (.inl rfl))
  (sjs_cons (L1 := [0, 0, 0, 0, 0]) (sj_set (i := 3) (k := 0) sc_commuting.nd rfl (.inl (by kernel_rfl)) (eo_call (G__first_touch base) (hr.mono (by decide)) (gl_of (by kernel_rfl)) T.g__first_touch k__first_touch b__first_touch.b (takes_of rfl rfl rfl rfl) (ea_cons (EO.up (k := 0) (n := 0) (eo_call (G__spans base) (hr.mono (by decide)) (gl_of (by kernel_rfl)) T.g__spans k__spans b__spans.b (takes_of rfl rfl rfl rfl) (ea_cons (eb_var (n := 0) (i := 1) rfl (.inl (by kernel_rfl)) (by decide)) ea_nil))) (ea_cons (EO.up (k := 0) (n := 0) (eo_call (G__spans base) (hr.mono (by decide)) (gl_of (by kernel_rfl)) T.g__spans k__spans b__spans.b (takes_of rfl rfl rfl rfl) (ea_cons (eb_var (n := 0) (i := 2) rfl (.inl (by kernel_rfl)) (by decide)) ea_nil))) ea_nil))) (by decide) rfl (.inl rfl))
  (sjs_cons (L1 := [0, 0, 0, 0, 0]) (sj_if (et_cmp o_isNot dIsNot_nx (eb_var (n := 1) (i := 3) rfl (.inl (by kernel_rfl)) (by decide)) (EO.up (k := 0) (n := 1) eo_non) (nomark _)) (sjs_one (sj_ret (EB.o (EO.b (k := 1) (eo_op o_add dAdd_nx (EO.up (k := 0) (n := 1) (eo_tup (ea_cons (EO.up (k := 0) (n := 0) eo_str) ea_nil))) (eb_var (n := 1) (i := 3) rfl (.inl (by kernel_rfl)) (by decide))))))) sjs_nil)
  (sjs_cons (L1 := [0, 0, 0, 0, 0]) (sj_set (i := 4) (k := 0) sc_commuting.nd rfl (.inl (by kernel_rfl)) (eo_call (G_shifted base) (hr.mono (by decide)) (gl_of (by kernel_rfl)) T.g_shifted k_shifted b_shifted.b (takes_of rfl rfl rfl rfl) (ea_cons (eb_var (n := 0) (i := 1) rfl (.inl (by kernel_rfl)) (by decide)) (ea_cons (eb_var (n := 0) (i := 2) rfl (.inl (by kernel_rfl)) (by decide)) ea_nil))) (by decide) rfl (.inl rfl))
  (sjs_one (sj_ret (eo_tup (ea_cons (EO.up (k := 0) (n := 0) eo_str) (ea_cons (eb_var (n := 0) (i := 4) rfl (.inl (by kernel_rfl)) (by decide)) (ea_cons (EO.up (k := 0) (n := 0) (eo_call (G_shifted base) (hr.mono (by decide)) (gl_of (by kernel_rfl)) T.g_shifted k_shifted b_shifted.b (takes_of rfl rfl rfl rfl) (ea_cons (eb_var (n := 0) (i := 0) rfl (.inl (by kernel_rfl)) (by decide)) (ea_cons (eb_var (n := 0) (i := 4) rfl (.inl (by kernel_rfl)) (by decide)) ea_nil)))) ea_nil))))))))))), b, F.kp⟩
theorem ok__to_end (T : Txt K mg) : ∃ fd, (∀ base : Heap, FnOk P w K mg base (L2.CX P w) 4 (He.ga K "_to_end") fd ["row", "place"] (Spec K mg 2 0 C__to_end)) ∧ BA fd ["row", "place"] ∧ PySem.W.keepIn K (.ref (He.ga K "_to_end")) = true := by
  obtain ⟨fd, F, b⟩ := T.F__to_end
  obtain ⟨fd_commuting, G_commuting, b_commuting, k_commuting⟩ := ok_commuting (P := P) (w := w) T
  exact ⟨fd, fun base => fn_ok (N := n__to_end) (nN := 4) (k := 3) (kr := 0) (L := [0, 0, 0, 0]) (L' := [0, 0, 0, 0]) (FF := F__to_end) F sc__to_end rfl rfl rfl rfl fun cdv A outer s H E hr => ((sjs_cons (L1 := [0, 0, 0, 0]) (sj_for (passes_of rfl) rfl (ei_range2 (gl_of (by kernel_rfl)) T.z_range (ea_cons (eb_var (n := 0) (i := 1) rfl (.inl (by kernel_rfl)) (by decide)) (ea_cons (EO.up (k := 0) (n := 0) (eo_op o_sub dSub_nx (EO.up (k := 0) (n := 0) (eo_callB c_len fLen_nx (gl_of (by kernel_rfl)) T.z_len (by decide +kernel) (ea_cons (eb_var (n := 1) (i := 0) rfl (.inl (by kernel_rfl)) (by decide)) ea_nil))) (EO.up (k := 0) (n := 0) eo_int))) ea_nil))) (pg_name (i := 2) sc__to_end.nd rfl (.inl (by kernel_rfl)) (.inl rfl)) (gs_name 2) (by decide)
  (sjs_cons (L1 := [0, 0, 0, 0]) (sj_set (i := 3) (k := 0) sc__to_end.nd rfl (.inl (by kernel_rfl)) (eo_call (G_commuting base) (hr.mono (by decide)) (gl_of (by kernel_rfl)) T.g_commuting k_commuting b_commuting.b (takes_of rfl rfl rfl rfl) (ea_cons (eb_ix (eb_var (n := 1) (i := 0) rfl (.inl (by kernel_rfl)) (by decide)) (eb_var (n := 0) (i := 2) rfl (.inl (by kernel_rfl)) (by decide))) (ea_cons (eb_ix (eb_var (n := 1) (i := 0) rfl (.inl (by kernel_rfl)) (by decide)) (EO.up (k := 1) (n := 0) (eo_op o_add dAdd_nx (eb_var (n := 1) (i := 2) rfl (.inl (by kernel_rfl)) (by decide)) (EO.up (k := 0) (n := 1) eo_int)))) ea_nil))) (by decide) rfl (.inl rfl))
  (sjs_cons (L1 := [0, 0, 0, 0]) (sj_if (et_cmp (o_eq hr.units) dEq_nx (eb_ix (eb_var (n := 2) (i := 3) rfl (.inl (by kernel_rfl)) (by decide)) (EO.up (k := 0) (n := 0) eo_int)) (EO.up (k := 0) (n := 1) eo_str) (nomark _)) (sjs_one (sj_ret (eo_tup (ea_cons (EO.up (k := 0) (n := 0) eo_str) (ea_cons (EO.up (k := 1) (n := 0) (eo_op o_add dAdd_nx (eb_var (n := 1) (i := 2) rfl (.inl (by kernel_rfl)) (by decide)) (EO.up (k := 0) (n := 1) eo_int))) ea_nil))))) sjs_nil)
  (sjs_cons (L1 := [0, 0, 0, 0]) (sj_set (i := 0) (k := 0) sc__to_end.nd rfl (.inl (by kernel_rfl)) (EB.o (EO.b (k := 1) (eo_op o_add dAdd_nx (EO.up (k := 1) (n := 1) (eo_op o_add dAdd_nx (EO.up (k := 1) (n := 1) (eo_sl (eb_var (n := 1) (i := 0) rfl (.inl (by kernel_rfl)) (by decide)) ep_none (ep_some (eb_var (n := 0) (i := 2) rfl (.inl (by kernel_rfl)) (by decide))))) (EO.up (k := 1) (n := 1) (eo_sl (eb_var (n := 1) (i := 3) rfl (.inl (by kernel_rfl)) (by decide)) (ep_some (EO.up (k := 0) (n := 0) eo_int)) ep_none)))) (EO.up (k := 1) (n := 1) (eo_sl (eb_var (n := 1) (i := 0) rfl (.inl (by kernel_rfl)) (by decide)) (ep_some (EO.up (k := 1) (n := 0) (eo_op o_add dAdd_nx (eb_var (n := 1) (i := 2) rfl (.inl (by kernel_rfl)) (by decide)) (EO.up (k := 0) (n := 1) eo_int)))) ep_none))))) (by decide) rfl (.inl rfl))
  (sjs_kill [2, 3] sjs_nil)))))
  (sjs_kill [2, 3] (sjs_one (sj_ret (eo_tup (ea_cons (EO.up (k := 0) (n := 0) eo_str) (ea_cons (eb_var (n := 0) (i := 0) rfl (.inl (by kernel_rfl)) (by decide)) ea_nil)))))))), b, F.kp⟩
theorem ok_without (T : Txt K mg) : ∃ fd, (∀ base : Heap, FnOk P w K mg base (L2.CX P w) 7 (He.ga K "without") fd ["row", "place"] (Spec K mg 2 0 C_without)) ∧ BA fd ["row", "place"] ∧ PySem.W.keepIn K (.ref (He.ga K "without")) = true := by
  obtain ⟨fd, F, b⟩ := T.F_without
  obtain ⟨fd_check_row, G_check_row, b_check_row, k_check_row⟩ := ok_check_row (P := P) (w := w) T
  obtain ⟨fd__check_place, G__check_place, b__check_place, k__check_place⟩ := ok__check_place (P := P) (w := w) T
  obtain ⟨fd__to_end, G__to_end, b__to_end, k__to_end⟩ := ok__to_end (P := P) (w := w) T
  exact ⟨fd, fun base => fn_ok (N := n_without) (nN := 3) (k := 6) (kr := 0) (L := [0, 0, 0]) (L' := [0, 0, 0]) (FF := F_without) F sc_without rfl rfl rfl rfl fun cdv A outer s H E hr => ((sjs_cons (L1 := [0, 0, 0]) (sj_expr (EO.up (k := 0) (n := 0) (eo_call (G_check_row base) (hr.mono (by decide)) (gl_of (by kernel_rfl)) T.g_check_row k_check_row b_check_row.b (takes_of rfl rfl rfl rfl) (ea_cons (eb_var (n := 0) (i := 0) rfl (.inl (by kernel_rfl)) (by decide)) ea_nil))))
  (sjs_cons (L1 := [0, 0, 0]) (sj_expr (EO.up (k := 0) (n := 0) (eo_call (G__check_place base) (hr.mono (by decide)) (gl_of (by kernel_rfl)) T.g__check_place k__check_place b__check_place.b (takes_of rfl rfl rfl rfl) (ea_cons (eb_var (n := 0) (i := 1) rfl (.inl (by kernel_rfl)) (by decide)) (ea_cons (EO.up (k := 0) (n := 0) (eo_op o_sub dSub_nx (EO.up (k := 0) (n := 0) (eo_callB c_len fLen_nx (gl_of (by kernel_rfl)) T.z_len (by decide +kernel) (ea_cons (eb_var (n := 1) (i := 0) rfl (.inl (by kernel_rfl)) (by decide)) ea_nil))) (EO.up (k := 0) (n := 0) eo_int))) ea_nil)))))
  (sjs_cons (L1 := [0, 0, 0]) (sj_set (i := 2) (k := 0) sc_without.nd rfl (.inl (by kernel_rfl)) (eo_call (G__to_end base) (hr.mono (by decide)) (gl_of (by kernel_rfl)) T.g__to_end k__to_end b__to_end.b (takes_of rfl rfl rfl rfl) (ea_cons (eb_var (n := 0) (i := 0) rfl (.inl (by kernel_rfl)) (by decide)) (ea_cons (eb_var (n := 0) (i := 1) rfl (.inl (by kernel_rfl)) (by decide)) ea_nil))) (by decide) rfl (.inl rfl))
  (sjs_one (sj_ret (EB.o (eb_if (et_cmp (o_eq hr.units) dEq_nx (eb_ix (eb_var (n := 2) (i := 2) rfl (.inl (by kernel_rfl)) (by decide)) (EO.up (k := 0) (n := 0) eo_int)) (EO.up (k := 0) (n := 1) eo_str) (nomark _)) (eb_var (n := 0) (i := 2) rfl (.inl (by kernel_rfl)) (by decide)) (EO.up (k := 0) (n := 0) (eo_tup (ea_cons (EO.up (k := 0) (n := 0) eo_str) (ea_cons (EO.up (k := 1) (n := 0) (eo_sl (eb_ix (eb_var (n := 2) (i := 2) rfl (.inl (by kernel_rfl)) (by decide)) (EO.up (k := 0) (n := 0) eo_int)) ep_none (ep_some (EO.up (k := 0) (n := 0) (eo_un o_neg dNeg_nx (EO.up (k := 0) (n := 0) eo_int)))))) ea_nil)))))))))))), b, F.kp⟩
theorem ok_exchanged (T : Txt K mg) : ∃ fd, (∀ base : Heap, FnOk P w K mg base (L2.CX P w) 7 (He.ga K "exchanged") fd ["row", "place"] (Spec K mg 2 0 C_exchanged)) ∧ BA fd ["row", "place"] ∧ PySem.W.keepIn K (.ref (He.ga K "exchanged")) = true := by
  obtain ⟨fd, F, b⟩ := T.F_exchanged
  obtain ⟨fd_check_row, G_check_row, b_check_row, k_check_row⟩ := ok_check_row (P := P) (w := w) T
  obtain ⟨fd__check_place, G__check_place, b__check_place, k__check_place⟩ := ok__check_place (P := P) (w := w) T
  obtain ⟨fd_commuting, G_commuting, b_commuting, k_commuting⟩ := ok_commuting (P := P) (w := w) T
  exact ⟨fd, fun base => fn_ok (N := n_exchanged) (nN := 3) (k := 6) (kr := 0) (L := [0, 0, 0]) (L' := [0, 0, 0]) (FF := F_exchanged) F sc_exchanged rfl rfl rfl rfl fun cdv A outer s H E hr => ((sjs_cons (L1 := [0, 0, 0]) (sj_expr (EO.up (k := 0) (n := 0) (eo_call (G_check_row base) (hr.mono (by decide)) (gl_of (by kernel_rfl)) T.g_check_row k_check_row b_check_row.b (takes_of rfl rfl rfl rfl) (ea_cons (eb_var (n := 0) (i := 0) rfl (.inl (by kernel_rfl)) (by decide)) ea_nil))))
  (sjs_cons (L1 := [0, 0, 0]) (sj_expr (EO.up (k := 0) (n := 0) (eo_call (G__check_place base) (hr.mono (by decide)) (gl_of (by kernel_rfl)) T.g__check_place k__check_place b__check_place.b (takes_of rfl rfl rfl rfl) (ea_cons (eb_var (n := 0) (i := 1) rfl (.inl (by kernel_rfl)) (by decide)) (ea_cons (EO.up (k := 0) (n := 0) (eo_op o_sub dSub_nx (EO.up (k := 0) (n := 0) (eo_callB c_len fLen_nx (gl_of (by kernel_rfl)) T.z_len (by decide +kernel) (ea_cons (eb_var (n := 1) (i := 0) rfl (.inl (by kernel_rfl)) (by decide)) ea_nil))) (EO.up (k := 0) (n := 0) eo_int))) ea_nil)))))
  (sjs_cons (L1 := [0, 0, 0]) (sj_set (i := 2) (k := 0) sc_exchanged.nd rfl (.inl (by kernel_rfl)) (eo_call (G_commuting base) (hr.mono (by decide)) (gl_of (by kernel_rfl)) T.g_commuting k_commuting b_commuting.b (takes_of rfl rfl rfl rfl) (ea_cons (eb_ix (eb_var (n := 1) (i := 0) rfl (.inl (by kernel_rfl)) (by decide)) (eb_var (n := 0) (i := 1) rfl (.inl (by kernel_rfl)) (by decide))) (ea_cons (eb_ix (eb_var (n := 1) (i := 0) rfl (.inl (by kernel_rfl)) (by decide)) (EO.up (k := 1) (n := 0) (eo_op o_add dAdd_nx (eb_var (n := 1) (i := 1) rfl (.inl (by kernel_rfl)) (by decide)) (EO.up (k := 0) (n := 1) eo_int)))) ea_nil))) (by decide) rfl (.inl rfl))
  (sjs_cons (L1 := [0, 0, 0]) (sj_if (et_cmp (o_eq hr.units) dEq_nx (eb_ix (eb_var (n := 2) (i := 2) rfl (.inl (by kernel_rfl)) (by decide)) (EO.up (k := 0) (n := 0) eo_int)) (EO.up (k := 0) (n := 1) eo_str) (nomark _)) (sjs_one (sj_ret (EB.o (eb_var (n := 0) (i := 2) rfl (.inl (by kernel_rfl)) (by decide))))) sjs_nil)
  (sjs_one (sj_ret (eo_tup (ea_cons (EO.up (k := 0) (n := 0) eo_str) (ea_cons (EO.up (k := 1) (n := 0) (eo_op o_add dAdd_nx (EO.up (k := 1) (n := 1) (eo_op o_add dAdd_nx (EO.up (k := 1) (n := 1) (eo_sl (eb_var (n := 1) (i := 0) rfl (.inl (by kernel_rfl)) (by decide)) ep_none (ep_some (eb_var (n := 0) (i := 1) rfl (.inl (by kernel_rfl)) (by decide))))) (EO.up (k := 1) (n := 1) (eo_sl (eb_var (n := 1) (i := 2) rfl (.inl (by kernel_rfl)) (by decide)) (ep_some (EO.up (k := 0) (n := 0) eo_int)) ep_none)))) (EO.up (k := 1) (n := 1) (eo_sl (eb_var (n := 1) (i := 0) rfl (.inl (by kernel_rfl)) (by decide)) (ep_some (EO.up (k := 1) (n := 0) (eo_op o_add dAdd_nx (eb_var (n := 1) (i := 1) rfl (.inl (by kernel_rfl)) (by decide)) (EO.up (k := 0) (n := 1) eo_int)))) ep_none)))) ea_nil)))))))))), b, F.kp⟩
theorem ok_to_end (T : Txt K mg) : ∃ fd, (∀ base : Heap, FnOk P w K mg base (L2.CX P w) 7 (He.ga K "to_end") fd ["row", "place"] (Spec K mg 2 0 C_to_end)) ∧ BA fd ["row", "place"] ∧ PySem.W.keepIn K (.ref (He.ga K "to_end")) = true := by
  obtain ⟨fd, F, b⟩ := T.F_to_end
  obtain ⟨fd_check_row, G_check_row, b_check_row, k_check_row⟩ := ok_check_row (P := P) (w := w) T
  obtain ⟨fd__check_place, G__check_place, b__check_place, k__check_place⟩ := ok__check_place (P := P) (w := w) T
  obtain ⟨fd__to_end, G__to_end, b__to_end, k__to_end⟩ := ok__to_end (P := P) (w := w) T
  exact ⟨fd, fun base => fn_ok (N := n_to_end) (nN := 2) (k := 6) (kr := 0) (L := [0, 0]) (L' := [0, 0]) (FF := F_to_end) F sc_to_end rfl rfl rfl rfl fun cdv A outer s H E hr => ((sjs_cons (L1 := [0, 0]) (sj_expr (EO.up (k := 0) (n := 0) (eo_call (G_check_row base) (hr.mono (by decide)) (gl_of (by kernel_rfl)) T.g_check_row k_check_row b_check_row.b (takes_of rfl rfl rfl rfl) (ea_cons (eb_var (n := 0) (i := 0) rfl (.inl (by kernel_rfl)) (by decide)) ea_nil))))
  (sjs_cons (L1 := [0, 0]) (sj_expr (EO.up (k := 0) (n := 0) (eo_call (G__check_place base) (hr.mono (by decide)) (gl_of (by kernel_rfl)) T.g__check_place k__check_place b__check_place.b (takes_of rfl rfl rfl rfl) (ea_cons (eb_var (n := 0) (i := 1) rfl (.inl (by kernel_rfl)) (by decide)) (ea_cons (EO.up (k := 0) (n := 0) (eo_op o_sub dSub_nx (EO.up (k := 0) (n := 0) (eo_callB c_len fLen_nx (gl_of (by kernel_rfl)) T.z_len (by decide +kernel) (ea_cons (eb_var (n := 1) (i := 0) rfl (.inl (by kernel_rfl)) (by decide)) ea_nil))) (EO.up (k := 0) (n := 0) eo_int))) ea_nil)))))
  (sjs_one (sj_ret (eo_call (G__to_end base) (hr.mono (by decide)) (gl_of (by kernel_rfl)) T.g__to_end k__to_end b__to_end.b (takes_of rfl rfl rfl rfl) (ea_cons (eb_var (n := 0) (i := 0) rfl (.inl (by kernel_rfl)) (by decide)) (ea_cons (eb_var (n := 0) (i := 1) rfl (.inl (by kernel_rfl)) (by decide)) ea_nil)))))))), b, F.kp⟩
theorem ok_to_front (T : Txt K mg) : ∃ fd, (∀ base : Heap, FnOk P w K mg base (L2.CX P w) 7 (He.ga K "to_front") fd ["row", "place"] (Spec K mg 2 0 C_to_front)) ∧ BA fd ["row", "place"] ∧ PySem.W.keepIn K (.ref (He.ga K "to_front")) = true := by
  obtain ⟨fd, F, b⟩ := T.F_to_front
  obtain ⟨fd_check_row, G_check_row, b_check_row, k_check_row⟩ := ok_check_row (P := P) (w := w) T
  obtain ⟨fd__check_place, G__check_place, b__check_place, k__check_place⟩ := ok__check_place (P := P) (w := w) T
  obtain ⟨fd_commuting, G_commuting, b_commuting, k_commuting⟩ := ok_commuting (P := P) (w := w) T
  exact ⟨fd, fun base => fn_ok (N := n_to_front) (nN := 4) (k := 6) (kr := 0) (L := [0, 0, 0, 0]) (L' := [0, 0, 0, 0]) (FF := F_to_front) F sc_to_front rfl rfl rfl rfl fun cdv A outer s H E hr => ((sjs_cons (L1 := [0, 0, 0, 0]) (sj_expr (EO.up (k := 0) (n := 0) (eo_call (G_check_row base) (hr.mono (by decide)) (gl_of (by kernel_rfl)) T.g_check_row k_check_row b_check_row.b (takes_of rfl rfl rfl rfl) (ea_cons (eb_var (n := 0) (i := 0) rfl (.inl (by kernel_rfl)) (by decide)) ea_nil))))
  (sjs_cons (L1 := [0, 0, 0, 0]) (sj_expr (EO.up (k := 0) (n := 0) (eo_call (G__check_place base) (hr.mono (by decide)) (gl_of (by kernel_rfl)) T.g__check_place k__check_place b__check_place.b (takes_of rfl rfl rfl rfl) (ea_cons (eb_var (n := 0) (i := 1) rfl (.inl (by kernel_rfl)) (by decide)) (ea_cons (EO.up (k := 0) (n := 0) (eo_op o_sub dSub_nx (EO.up (k := 0) (n := 0) (eo_callB c_len fLen_nx (gl_of (by kernel_rfl)) T.z_len (by decide +kernel) (ea_cons (eb_var (n := 1) (i := 0) rfl (.inl (by kernel_rfl)) (by decide)) ea_nil))) (EO.up (k := 0) (n := 0) eo_int))) ea_nil)))))
  (sjs_cons (L1 := [0, 0, 0, 0]) (sj_for (passes_of rfl) rfl (ei_range3 (gl_of (by kernel_rfl)) T.z_range (ea_cons (eb_var (n := 0) (i := 1) rfl (.inl (by kernel_rfl)) (by decide)) (ea_cons (EO.up (k := 0) (n := 0) eo_int) (ea_cons (EO.up (k := 0) (n := 0) (eo_un o_neg dNeg_nx (EO.up (k := 0) (n := 0) eo_int))) ea_nil)))) (pg_name (i := 2) sc_to_front.nd rfl (.inl (by kernel_rfl)) (.inl rfl)) (gs_name 2) (by decide)
  (sjs_cons (L1 := [0, 0, 0, 0]) (sj_set (i := 3) (k := 0) sc_to_front.nd rfl (.inl (by kernel_rfl)) (eo_call (G_commuting base) (hr.mono (by decide)) (gl_of (by kernel_rfl)) T.g_commuting k_commuting b_commuting.b (takes_of rfl rfl rfl rfl) (ea_cons (eb_ix (eb_var (n := 1) (i := 0) rfl (.inl (by kernel_rfl)) (by decide)) (EO.up (k := 0) (n := 0) (eo_op o_sub dSub_nx (eb_var (n := 0) (i := 2) rfl (.inl (by kernel_rfl)) (by decide)) (EO.up (k := 0) (n := 0) eo_int)))) (ea_cons (eb_ix (eb_var (n := 1) (i := 0) rfl (.inl (by kernel_rfl)) (by decide)) (eb_var (n := 0) (i := 2) rfl (.inl (by kernel_rfl)) (by decide))) ea_nil))) (by decide) rfl (.inl rfl))
  (sjs_cons (L1 := [0, 0, 0, 0]) (sj_if (et_cmp (o_eq hr.units) dEq_nx (eb_ix (eb_var (n := 2) (i := 3) rfl (.inl (by kernel_rfl)) (by decide)) (EO.up (k := 0) (n := 0) eo_int)) (EO.up (k := 0) (n := 1) eo_str) (nomark _)) (sjs_one (sj_ret (eo_tup (ea_cons (EO.up (k := 0) (n := 0) eo_str) (ea_cons (EO.up (k := 0) (n := 0) (eo_op o_sub dSub_nx (eb_var (n := 0) (i := 2) rfl (.inl (by kernel_rfl)) (by decide)) (EO.up (k := 0) (n := 0) eo_int))) ea_nil))))) sjs_nil)
  (sjs_cons (L1 := [0, 0, 0, 0]) (sj_set (i := 0) (k := 0) sc_to_front.nd rfl (.inl (by kernel_rfl)) (EB.o (EO.b (k := 1) (eo_op o_add dAdd_nx (EO.up (k := 1) (n := 1) (eo_op o_add dAdd_nx (EO.up (k := 1) (n := 1) (eo_sl (eb_var (n := 1) (i := 0) rfl (.inl (by kernel_rfl)) (by decide)) ep_none (ep_some (EO.up (k := 0) (n := 0) (eo_op o_sub dSub_nx (eb_var (n := 0) (i := 2) rfl (.inl (by kernel_rfl)) (by decide)) (EO.up (k := 0) (n := 0) eo_int)))))) (EO.up (k := 1) (n := 1) (eo_sl (eb_var (n := 1) (i := 3) rfl (.inl (by kernel_rfl)) (by decide)) (ep_some (EO.up (k := 0) (n := 0) eo_int)) ep_none)))) (EO.up (k := 1) (n := 1) (eo_sl (eb_var (n := 1) (i := 0) rfl (.inl (by kernel_rfl)) (by decide)) (ep_some (EO.up (k := 1) (n := 0) (eo_op o_add dAdd_nx (eb_var (n := 1) (i := 2) rfl (.inl (by kernel_rfl)) (by decide)) (EO.up (k := 0) (n := 1) eo_int)))) ep_none))))) (by decide) rfl (.inl rfl))
  (sjs_kill [2, 3] sjs_nil)))))
  (sjs_kill [2, 3] (sjs_one (sj_ret (eo_tup (ea_cons (EO.up (k := 0) (n := 0) eo_str) (ea_cons (eb_var (n := 0) (i := 0) rfl (.inl (by kernel_rfl)) (by decide)) ea_nil)))))))))), b, F.kp⟩
theorem ok__law_error (T : Txt K mg) : ∃ fd, (∀ base : Heap, FnOk P w K mg base (L2.CX P w) 8 (He.ga K "_law_error") fd ["call", "one", "two"] (Spec K mg 3 0 C__law_error)) ∧ BA fd ["call", "one", "two"] ∧ PySem.W.keepIn K (.ref (He.ga K "_law_error")) = true := by
  obtain ⟨fd, F, b⟩ := T.F__law_error
  obtain ⟨fd_row_fault, G_row_fault, b_row_fault, k_row_fault⟩ := ok_row_fault (P := P) (w := w) T
  obtain ⟨fd_row_behind, G_row_behind, b_row_behind, k_row_behind⟩ := ok_row_behind (P := P) (w := w) T
  obtain ⟨fd_exchanged, G_exchanged, b_exchanged, k_exchanged⟩ := ok_exchanged (P := P) (w := w) T
  obtain ⟨fd_to_end, G_to_end, b_to_end, k_to_end⟩ := ok_to_end (P := P) (w := w) T
  obtain ⟨fd_to_front, G_to_front, b_to_front, k_to_front⟩ := ok_to_front (P := P) (w := w) T
  obtain ⟨fd_without, G_without, b_without, k_without⟩ := ok_without (P := P) (w := w) T
  exact ⟨fd, fun base => fn_ok (N := n__law_error) (nN := 3) (k := 7) (kr := 0) (L := [0, 0, 0]) (L' := [0, 0, 0]) (FF := F__law_error) F sc__law_error rfl rfl rfl rfl fun cdv A outer s H E hr => ((sjs_cons (L1 := [0, 0, 0]) (sj_try (us := ["BadPatch", "BadPlace", "BadText", "NoFit"]) [(.ref (He.ga K "BadText"), ["BadText"], (sNx (sRet (eC (.str "text"))))), (.ref (He.ga K "BadPatch"), ["BadPatch"], (sNx (sRet (eC (.str "patch"))))), (.ref (He.ga K "BadPlace"), ["BadPlace"], (sNx (sRet (eC (.str "place"))))), (.ref (He.ga K "NoFit"), ["NoFit"], (sNx (sRet (eC (.str "fit")))))] rfl rfl (takes_of rfl rfl rfl rfl) (hm_c (hc_c T.e_BadPatch.1 T.m_BadPatch_BadText (by decide +kernel) (hc_c T.e_BadPatch.1 T.m_BadPatch_BadPatch (by decide +kernel) (hc_c T.e_BadPatch.1 T.m_BadPatch_BadPlace (by decide +kernel) (hc_c T.e_BadPatch.1 T.m_BadPatch_NoFit (by decide +kernel) hc_n)))) (hm_c (hc_c T.e_BadPlace.1 T.m_BadPlace_BadText (by decide +kernel) (hc_c T.e_BadPlace.1 T.m_BadPlace_BadPatch (by decide +kernel) (hc_c T.e_BadPlace.1 T.m_BadPlace_BadPlace (by decide +kernel) (hc_c T.e_BadPlace.1 T.m_BadPlace_NoFit (by decide +kernel) hc_n)))) (hm_c (hc_c T.e_BadText.1 T.m_BadText_BadText (by decide +kernel) (hc_c T.e_BadText.1 T.m_BadText_BadPatch (by decide +kernel) (hc_c T.e_BadText.1 T.m_BadText_BadPlace (by decide +kernel) (hc_c T.e_BadText.1 T.m_BadText_NoFit (by decide +kernel) hc_n)))) (hm_c (hc_c T.e_NoFit.1 T.m_NoFit_BadText (by decide +kernel) (hc_c T.e_NoFit.1 T.m_NoFit_BadPatch (by decide +kernel) (hc_c T.e_NoFit.1 T.m_NoFit_BadPlace (by decide +kernel) (hc_c T.e_NoFit.1 T.m_NoFit_NoFit (by decide +kernel) hc_n)))) hm_n)))) (fun W2 pnX xeX tkX pasX => (sjs_one (sj_if (et_cmp (o_eq hr.units) dEq_nx (eb_var (n := 1) (i := 0) rfl (.inl (by kernel_rfl)) (by decide)) (EO.up (k := 0) (n := 1) eo_int) (nomark _)) (sjs_one (sj_expr (EO.up (k := 0) (n := 0) (eo_call (G_row_fault base) (hr.mono (by decide)) (gl_of (by kernel_rfl)) T.g_row_fault k_row_fault b_row_fault.b tkX (ea_cons (eb_var (n := 0) (i := 1) rfl (.inl (by kernel_rfl)) (by decide)) (ea_cons (eb_var (n := 0) (i := 2) rfl (.inl (by kernel_rfl)) (by decide)) ea_nil)))))) (sjs_one (sj_if (et_cmp (o_eq hr.units) dEq_nx (eb_var (n := 1) (i := 0) rfl (.inl (by kernel_rfl)) (by decide)) (EO.up (k := 0) (n := 1) eo_int) (nomark _)) (sjs_one (sj_expr (EO.up (k := 0) (n := 0) (eo_call (G_row_behind base) (hr.mono (by decide)) (gl_of (by kernel_rfl)) T.g_row_behind k_row_behind b_row_behind.b tkX (ea_cons (eb_var (n := 0) (i := 1) rfl (.inl (by kernel_rfl)) (by decide)) (ea_cons (eb_var (n := 0) (i := 2) rfl (.inl (by kernel_rfl)) (by decide)) ea_nil)))))) (sjs_one (sj_if (et_cmp (o_eq hr.units) dEq_nx (eb_var (n := 1) (i := 0) rfl (.inl (by kernel_rfl)) (by decide)) (EO.up (k := 0) (n := 1) eo_int) (nomark _)) (sjs_one (sj_expr (EO.up (k := 0) (n := 0) (eo_call (G_exchanged base) (hr.mono (by decide)) (gl_of (by kernel_rfl)) T.g_exchanged k_exchanged b_exchanged.b tkX (ea_cons (eb_var (n := 0) (i := 1) rfl (.inl (by kernel_rfl)) (by decide)) (ea_cons (eb_var (n := 0) (i := 2) rfl (.inl (by kernel_rfl)) (by decide)) ea_nil)))))) (sjs_one (sj_if (et_cmp (o_eq hr.units) dEq_nx (eb_var (n := 1) (i := 0) rfl (.inl (by kernel_rfl)) (by decide)) (EO.up (k := 0) (n := 1) eo_int) (nomark _)) (sjs_one (sj_expr (EO.up (k := 0) (n := 0) (eo_call (G_to_end base) (hr.mono (by decide)) (gl_of (by kernel_rfl)) T.g_to_end k_to_end b_to_end.b tkX (ea_cons (eb_var (n := 0) (i := 1) rfl (.inl (by kernel_rfl)) (by decide)) (ea_cons (eb_var (n := 0) (i := 2) rfl (.inl (by kernel_rfl)) (by decide)) ea_nil)))))) (sjs_one (sj_if (et_cmp (o_eq hr.units) dEq_nx (eb_var (n := 1) (i := 0) rfl (.inl (by kernel_rfl)) (by decide)) (EO.up (k := 0) (n := 1) eo_int) (nomark _)) (sjs_one (sj_expr (EO.up (k := 0) (n := 0) (eo_call (G_to_front base) (hr.mono (by decide)) (gl_of (by kernel_rfl)) T.g_to_front k_to_front b_to_front.b tkX (ea_cons (eb_var (n := 0) (i := 1) rfl (.inl (by kernel_rfl)) (by decide)) (ea_cons (eb_var (n := 0) (i := 2) rfl (.inl (by kernel_rfl)) (by decide)) ea_nil)))))) (sjs_one (sj_expr (EO.up (k := 0) (n := 0) (eo_call (G_without base) (hr.mono (by decide)) (gl_of (by kernel_rfl)) T.g_without k_without b_without.b tkX (ea_cons (eb_var (n := 0) (i := 1) rfl (.inl (by kernel_rfl)) (by decide)) (ea_cons (eb_var (n := 0) (i := 2) rfl (.inl (by kernel_rfl)) (by decide)) ea_nil))))))))))))))))) (hp_cons 3 (names_g (gl_of (by kernel_rfl)) T.e_BadText.1) (fun _ _ => (sjs_one (sj_ret eo_str))) (hp_cons 3 (names_g (gl_of (by kernel_rfl)) T.e_BadPatch.1) (fun _ _ => (sjs_one (sj_ret eo_str))) (hp_cons 3 (names_g (gl_of (by kernel_rfl)) T.e_BadPlace.1) (fun _ _ => (sjs_one (sj_ret eo_str))) (hp_cons 3 (names_g (gl_of (by kernel_rfl)) T.e_NoFit.1) (fun _ _ => (sjs_one (sj_ret eo_str))) hp_nil)))))
  (sjs_one (sj_ret eo_str)))), b, F.kp⟩
theorem ok_check_patches (T : Txt K mg) : ∃ fd, (∀ base : Heap, FnOk P w K mg base (L2.CX P w) 5 (He.ga K "check_patches") fd ["values"] (Spec K mg 1 0 C_check_patches)) ∧ BA fd ["values"] ∧ PySem.W.keepIn K (.ref (He.ga K "check_patches")) = true := by
  obtain ⟨fd, F, b⟩ := T.F_check_patches
  obtain ⟨fd_is_patch, G_is_patch, b_is_patch, k_is_patch⟩ := ok_is_patch (P := P) (w := w) T
  exact ⟨fd, fun base => fn_ok (N := n_check_patches) (nN := 2) (k := 4) (kr := 0) (L := [0, 0]) (L' := [0, 0]) (FF := F_check_patches) F sc_check_patches rfl rfl rfl rfl fun cdv A outer s H E hr => ((sjs_one (sj_if (et_not (et_val (EO.up (k := 0) (n := 1) (eo_callB (c_all rfl) fAll_nx (gl_of (by kernel_rfl)) T.z_all (by decide +kernel) (ea_cons (EO.up (k := 1) (n := 1) (eo_lc (own := [("value", 1)]) rfl sc_check_patches.nd (ei_seq (eb_var (n := 1) (i := 0) rfl (.inl (by kernel_rfl)) (by decide))) (blkOk_by (by kernel_rfl)) (fun _ _ _ _ _ => (pg_name (i := 1) sc_check_patches.nd rfl (.inl (by kernel_rfl)) (.inr (by kernel_rfl)))) (fun _ _ _ _ _ => ets_nil) (fun _ _ _ _ _ => (eo_call (G_is_patch base) (hr.mono (by decide)) (gl_of (by kernel_rfl)) T.g_is_patch k_is_patch b_is_patch.b takes0 (ea_cons (eb_var (n := 0) (i := 1) rfl (.inl (by kernel_rfl)) (by decide)) ea_nil))) (gs_name 1) (by decide) (by decide))) ea_nil))))) (sjs_one (sj_raise rfl (takes_of rfl rfl rfl rfl) PySem.F.excBase_ValueError T.e_BadPatch.2.1 T.e_BadPatch.1 T.e_BadPatch.2.2.1 (raises_own T.e_BadPatch.2.2.2.1 T.e_BadPatch.2.2.2.2) (gl_of (by kernel_rfl)))) sjs_nil))), b, F.kp⟩
theorem ok_commuted (T : Txt K mg) : ∃ fd, (∀ base : Heap, FnOk P w K mg base (L2.CX P w) 6 (He.ga K "commuted") fd ["first", "second"] (Spec K mg 2 0 C_commuted)) ∧ BA fd ["first", "second"] ∧ PySem.W.keepIn K (.ref (He.ga K "commuted")) = true := by
  obtain ⟨fd, F, b⟩ := T.F_commuted
  obtain ⟨fd_check_patches, G_check_patches, b_check_patches, k_check_patches⟩ := ok_check_patches (P := P) (w := w) T
  obtain ⟨fd_commuting, G_commuting, b_commuting, k_commuting⟩ := ok_commuting (P := P) (w := w) T
  exact ⟨fd, fun base => fn_ok (N := n_commuted) (nN := 2) (k := 5) (kr := 0) (L := [0, 0]) (L' := [0, 0]) (FF := F_commuted) F sc_commuted rfl rfl rfl rfl fun cdv A outer s H E hr => ((sjs_cons (L1 := [0, 0]) (sj_expr (EO.up (k := 0) (n := 0) (eo_call (G_check_patches base) (hr.mono (by decide)) (gl_of (by kernel_rfl)) T.g_check_patches k_check_patches b_check_patches.b (takes_of rfl rfl rfl rfl) (ea_cons (EO.up (k := 1) (n := 0) (eo_lst (ea_cons (eb_var (n := 0) (i := 0) rfl (.inl (by kernel_rfl)) (by decide)) (ea_cons (eb_var (n := 0) (i := 1) rfl (.inl (by kernel_rfl)) (by decide)) ea_nil)))) ea_nil))))
  (sjs_one (sj_ret (eo_call (G_commuting base) (hr.mono (by decide)) (gl_of (by kernel_rfl)) T.g_commuting k_commuting b_commuting.b (takes_of rfl rfl rfl rfl) (ea_cons (eb_var (n := 0) (i := 0) rfl (.inl (by kernel_rfl)) (by decide)) (ea_cons (eb_var (n := 0) (i := 1) rfl (.inl (by kernel_rfl)) (by decide)) ea_nil))))))), b, F.kp⟩
theorem ok_law (T : Txt K mg) : ∃ fd, (∀ base : Heap, FnOk P w K mg base (L2.CX P w) 9 (He.ga K "law") fd ["script"] (Spec K mg 1 0 C_law)) ∧ BA fd ["script"] ∧ PySem.W.keepIn K (.ref (He.ga K "law")) = true := by
  obtain ⟨fd, F, b⟩ := T.F_law
  obtain ⟨fd__law_draws, G__law_draws, b__law_draws, k__law_draws⟩ := ok__law_draws (P := P) (w := w) T
  obtain ⟨fd__law_text, G__law_text, b__law_text, k__law_text⟩ := ok__law_text (P := P) (w := w) T
  obtain ⟨fd__law_row, G__law_row, b__law_row, k__law_row⟩ := ok__law_row (P := P) (w := w) T
  obtain ⟨fd__law_behind, G__law_behind, b__law_behind, k__law_behind⟩ := ok__law_behind (P := P) (w := w) T
  obtain ⟨fd_row_fault, G_row_fault, b_row_fault, k_row_fault⟩ := ok_row_fault (P := P) (w := w) T
  obtain ⟨fd_row_behind, G_row_behind, b_row_behind, k_row_behind⟩ := ok_row_behind (P := P) (w := w) T
  obtain ⟨fd__law_to_end, G__law_to_end, b__law_to_end, k__law_to_end⟩ := ok__law_to_end (P := P) (w := w) T
  obtain ⟨fd__law_to_front, G__law_to_front, b__law_to_front, k__law_to_front⟩ := ok__law_to_front (P := P) (w := w) T
  obtain ⟨fd_to_end, G_to_end, b_to_end, k_to_end⟩ := ok_to_end (P := P) (w := w) T
  obtain ⟨fd_to_front, G_to_front, b_to_front, k_to_front⟩ := ok_to_front (P := P) (w := w) T
  obtain ⟨fd_without, G_without, b_without, k_without⟩ := ok_without (P := P) (w := w) T
  obtain ⟨fd__law_fault, G__law_fault, b__law_fault, k__law_fault⟩ := ok__law_fault (P := P) (w := w) T
  obtain ⟨fd__law_swapped, G__law_swapped, b__law_swapped, k__law_swapped⟩ := ok__law_swapped (P := P) (w := w) T
  obtain ⟨fd_exchanged, G_exchanged, b_exchanged, k_exchanged⟩ := ok_exchanged (P := P) (w := w) T
  obtain ⟨fd_commuted, G_commuted, b_commuted, k_commuted⟩ := ok_commuted (P := P) (w := w) T
  obtain ⟨fd__law_error, G__law_error, b__law_error, k__law_error⟩ := ok__law_error (P := P) (w := w) T
  exact ⟨fd, fun base => fn_ok (N := n_law) (nN := 17) (k := 8) (kr := 0) (L := [0, 0, 0, 0, 0, 0, 0, 0, 0, 0, 0, 0, 0, 0, 0, 0, 0]) (L' := [0, 0, 0, 0, 0, 0, 0, 0, 0, 0, 0, 0, 0, 0, 0, 0, 0]) (FF := F_law) F sc_law rfl rfl rfl rfl fun cdv A outer s H E hr => ((sjs_cons (L1 := [0, 0, 0, 0, 0, 0, 0, 0, 0, 0, 0, 0, 0, 0, 0, 0, 0]) (sj_set (i := 1) (k := 0) sc_law.nd rfl (.inl (by kernel_rfl)) (eo_call (G__law_draws base) (hr.mono (by decide)) (gl_of (by kernel_rfl)) T.g__law_draws k__law_draws b__law_draws.b (takes_of rfl rfl rfl rfl) (ea_cons (eb_var (n := 0) (i := 0) rfl (.inl (by kernel_rfl)) (by decide)) (ea_cons (EO.up (k := 0) (n := 0) eo_int) ea_nil))) (by decide) rfl (.inl rfl))
  (sjs_cons (L1 := [0, 0, 0, 0, 0, 0, 0, 0, 0, 0, 0, 0, 0, 0, 0, 0, 0]) (sj_set (i := 2) (k := 0) sc_law.nd rfl (.inl (by kernel_rfl)) (eo_call (G__law_text base) (hr.mono (by decide)) (gl_of (by kernel_rfl)) T.g__law_text k__law_text b__law_text.b (takes_of rfl rfl rfl rfl) (ea_cons (eb_var (n := 0) (i := 1) rfl (.inl (by kernel_rfl)) (by decide)) (ea_cons (EO.up (k := 0) (n := 0) eo_int) (ea_cons (EO.up (k := 0) (n := 0) eo_int) ea_nil)))) (by decide) rfl (.inl rfl))
  (sjs_cons (L1 := [0, 0, 0, 0, 0, 0, 0, 0, 0, 0, 0, 0, 0, 0, 0, 0, 0]) (sj_set (i := 3) (k := 0) sc_law.nd rfl (.inr (by kernel_rfl)) (eo_call (G__law_row base) (hr.mono (by decide)) (gl_of (by kernel_rfl)) T.g__law_row k__law_row b__law_row.b (takes_of rfl rfl rfl rfl) (ea_cons (EO.up (k := 1) (n := 0) (eo_sl (eb_var (n := 1) (i := 1) rfl (.inl (by kernel_rfl)) (by decide)) (ep_some (EO.up (k := 0) (n := 0) eo_int)) ep_none)) (ea_cons (eb_var (n := 0) (i := 2) rfl (.inl (by kernel_rfl)) (by decide)) (ea_cons (EO.up (k := 1) (n := 0) (eo_op o_add dAdd_nx (EO.up (k := 0) (n := 1) eo_int) (EO.up (k := 0) (n := 1) (eo_op o_mod dMod_nx (EO.up (k := 0) (n := 0) (eo_callTy c_int fInt_nx (gl_of (by kernel_rfl)) T.z_int (by decide +kernel) (ea_cons (eb_ix (eb_var (n := 1) (i := 1) rfl (.inl (by kernel_rfl)) (by decide)) (EO.up (k := 0) (n := 0) eo_int)) ea_nil))) (EO.up (k := 0) (n := 0) eo_int))))) ea_nil)))) (by decide) rfl (.inl rfl))
  (sjs_cons (L1 := [0, 0, 0, 0, 0, 0, 0, 0, 0, 0, 0, 0, 0, 0, 0, 0, 0]) (sj_set (i := 4) (k := 0) sc_law.nd rfl (.inl (by kernel_rfl)) (EB.o (eb_var (n := 0) (i := 2) rfl (.inl (by kernel_rfl)) (by decide))) (by decide) rfl (.inl rfl))
  (sjs_cons (L1 := [0, 0, 0, 0, 0, 0, 0, 0, 0, 0, 0, 0, 0, 0, 0, 0, 0]) (sj_for (passes_of rfl) rfl (ei_seq (eb_var (n := 0) (i := 3) rfl (.inr (.inl (by kernel_rfl))) (by decide))) (pg_name (i := 5) sc_law.nd rfl (.inl (by kernel_rfl)) (.inl rfl)) (gs_name 5) (by decide)
  (sjs_cons (L1 := [0, 0, 0, 0, 0, 0, 0, 0, 0, 0, 0, 0, 0, 0, 0, 0, 0]) (sj_set (i := 4) (k := 0) sc_law.nd rfl (.inl (by kernel_rfl)) (eo_call (G__law_behind base) (hr.mono (by decide)) (gl_of (by kernel_rfl)) T.g__law_behind k__law_behind b__law_behind.b (takes_of rfl rfl rfl rfl) (ea_cons (eb_var (n := 0) (i := 4) rfl (.inl (by kernel_rfl)) (by decide)) (ea_cons (eb_var (n := 0) (i := 5) rfl (.inl (by kernel_rfl)) (by decide)) ea_nil))) (by decide) rfl (.inl rfl))
  (sjs_kill [5] sjs_nil)))
  (sjs_kill [5] (sjs_cons (L1 := [0, 0, 0, 0, 0, 0, 0, 0, 0, 0, 0, 0, 0, 0, 0, 0, 0]) (sj_if (et_w (ew_or (et_cmp o_isNot dIsNot_nx (EO.up (k := 0) (n := 1) (eo_call (G_row_fault base) (hr.mono (by decide)) (gl_of (by kernel_rfl)) T.g_row_fault k_row_fault b_row_fault.b (takes_of rfl rfl rfl rfl) (ea_cons (eb_var (n := 0) (i := 2) rfl (.inl (by kernel_rfl)) (by decide)) (ea_cons (eb_var (n := 0) (i := 3) rfl (.inr (.inl (by kernel_rfl))) (by decide)) ea_nil)))) (EO.up (k := 0) (n := 1) eo_non) (nomark _)) (ew_or1 (et_cmp (o_ne hr.units) dNe_nx (EO.up (k := 0) (n := 1) (eo_call (G_row_behind base) (hr.mono (by decide)) (gl_of (by kernel_rfl)) T.g_row_behind k_row_behind b_row_behind.b (takes_of rfl rfl rfl rfl) (ea_cons (eb_var (n := 0) (i := 2) rfl (.inl (by kernel_rfl)) (by decide)) (ea_cons (eb_var (n := 0) (i := 3) rfl (.inr (.inl (by kernel_rfl))) (by decide)) ea_nil)))) (eb_var (n := 1) (i := 4) rfl (.inl (by kernel_rfl)) (by decide)) (nomark _))))) (sjs_one (sj_ret eo_bl)) sjs_nil)
  (sjs_cons (L1 := [0, 0, 0, 0, 0, 0, 0, 0, 0, 0, 0, 0, 0, 0, 0, 0, 0]) (sj_for (passes_of rfl) rfl (ei_range1 (gl_of (by kernel_rfl)) T.z_range (ea_cons (EO.up (k := 0) (n := 0) (eo_callB c_len fLen_nx (gl_of (by kernel_rfl)) T.z_len (by decide +kernel) (ea_cons (eb_var (n := 1) (i := 3) rfl (.inr (.inl (by kernel_rfl))) (by decide)) ea_nil))) ea_nil)) (pg_name (i := 6) sc_law.nd rfl (.inl (by kernel_rfl)) (.inl rfl)) (gs_name 6) (by decide)
  (sjs_cons (L1 := [0, 0, 0, 0, 0, 0, 0, 0, 0, 0, 0, 0, 0, 0, 0, 0, 0]) (sj_par2 (i := 7) (j := 8) (k1 := 0) (k2 := 0) rfl sc_law.nd rfl rfl (by decide) (by kernel_rfl) (by kernel_rfl) (eo_call (G__law_to_end base) (hr.mono (by decide)) (gl_of (by kernel_rfl)) T.g__law_to_end k__law_to_end b__law_to_end.b (takes_of rfl rfl rfl rfl) (ea_cons (eb_var (n := 0) (i := 3) rfl (.inr (.inl (by kernel_rfl))) (by decide)) (ea_cons (eb_var (n := 0) (i := 6) rfl (.inl (by kernel_rfl)) (by decide)) ea_nil))) (eo_call (G__law_to_front base) (hr.mono (by decide)) (gl_of (by kernel_rfl)) T.g__law_to_front k__law_to_front b__law_to_front.b (takes_of rfl rfl rfl rfl) (ea_cons (eb_var (n := 0) (i := 3) rfl (.inr (.inl (by kernel_rfl))) (by decide)) (ea_cons (eb_var (n := 0) (i := 6) rfl (.inl (by kernel_rfl)) (by decide)) ea_nil))) (by decide) (by decide) (by kernel_rfl))
  (sjs_cons (L1 := [0, 0, 0, 0, 0, 0, 0, 0, 0, 0, 0, 0, 0, 0, 0, 0, 0]) (sj_if (et_w (ew_or (et_cmp (o_ne hr.units) dNe_nx (EO.up (k := 0) (n := 1) (eo_call (G_to_end base) (hr.mono (by decide)) (gl_of (by kernel_rfl)) T.g_to_end k_to_end b_to_end.b (takes_of rfl rfl rfl rfl) (ea_cons (eb_var (n := 0) (i := 3) rfl (.inr (.inl (by kernel_rfl))) (by decide)) (ea_cons (eb_var (n := 0) (i := 6) rfl (.inl (by kernel_rfl)) (by decide)) ea_nil)))) (eb_var (n := 1) (i := 7) rfl (.inl (by kernel_rfl)) (by decide)) (nomark _)) (ew_or1 (et_cmp (o_ne hr.units) dNe_nx (EO.up (k := 0) (n := 1) (eo_call (G_to_front base) (hr.mono (by decide)) (gl_of (by kernel_rfl)) T.g_to_front k_to_front b_to_front.b (takes_of rfl rfl rfl rfl) (ea_cons (eb_var (n := 0) (i := 3) rfl (.inr (.inl (by kernel_rfl))) (by decide)) (ea_cons (eb_var (n := 0) (i := 6) rfl (.inl (by kernel_rfl)) (by decide)) ea_nil)))) (eb_var (n := 1) (i := 8) rfl (.inl (by kernel_rfl)) (by decide)) (nomark _))))) (sjs_one (sj_ret eo_bl)) sjs_nil)
  (sjs_cons (L1 := [0, 0, 0, 0, 0, 0, 0, 0, 0, 0, 0, 0, 0, 0, 0, 0, 0]) (sj_if (et_cmp (o_ne hr.units) dNe_nx (EO.up (k := 0) (n := 1) (eo_call (G_without base) (hr.mono (by decide)) (gl_of (by kernel_rfl)) T.g_without k_without b_without.b (takes_of rfl rfl rfl rfl) (ea_cons (eb_var (n := 0) (i := 3) rfl (.inr (.inl (by kernel_rfl))) (by decide)) (ea_cons (eb_var (n := 0) (i := 6) rfl (.inl (by kernel_rfl)) (by decide)) ea_nil)))) (eb_if (et_cmp (o_eq hr.units) dEq_nx (eb_ix (eb_var (n := 2) (i := 7) rfl (.inl (by kernel_rfl)) (by decide)) (EO.up (k := 0) (n := 0) eo_int)) (EO.up (k := 0) (n := 1) eo_str) (nomark _)) (eb_var (n := 1) (i := 7) rfl (.inl (by kernel_rfl)) (by decide)) (EO.up (k := 0) (n := 1) (eo_tup (ea_cons (EO.up (k := 0) (n := 0) eo_str) (ea_cons (EO.up (k := 1) (n := 0) (eo_sl (eb_ix (eb_var (n := 2) (i := 7) rfl (.inl (by kernel_rfl)) (by decide)) (EO.up (k := 0) (n := 0) eo_int)) ep_none (ep_some (EO.up (k := 0) (n := 0) (eo_un o_neg dNeg_nx (EO.up (k := 0) (n := 0) eo_int)))))) ea_nil))))) (nomark _)) (sjs_one (sj_ret eo_bl)) sjs_nil)
  (sjs_cons (L1 := [0, 0, 0, 0, 0, 0, 0, 0, 0, 0, 0, 0, 0, 0, 0, 0, 0]) (sj_for (passes_of rfl) rfl (ei_seq (EO.up (k := 0) (n := 0) (eo_tup (ea_cons (eb_var (n := 0) (i := 7) rfl (.inl (by kernel_rfl)) (by decide)) (ea_cons (eb_var (n := 0) (i := 8) rfl (.inl (by kernel_rfl)) (by decide)) ea_nil))))) (pg_name (i := 9) sc_law.nd rfl (.inl (by kernel_rfl)) (.inl rfl)) (gs_name 9) (by decide)
  (sjs_cons (L1 := [0, 0, 0, 0, 0, 0, 0, 0, 0, 0, 0, 0, 0, 0, 0, 0, 0]) (sj_if (et_w (ew_and (et_cmp (o_eq hr.units) dEq_nx (eb_ix (eb_var (n := 2) (i := 9) rfl (.inl (by kernel_rfl)) (by decide)) (EO.up (k := 0) (n := 0) eo_int)) (EO.up (k := 0) (n := 1) eo_str) (nomark _)) (ew_and1 (et_w (ew_or (et_cmp o_isNot dIsNot_nx (EO.up (k := 0) (n := 1) (eo_call (G__law_fault base) (hr.mono (by decide)) (gl_of (by kernel_rfl)) T.g__law_fault k__law_fault b__law_fault.b (takes_of rfl rfl rfl rfl) (ea_cons (eb_var (n := 0) (i := 2) rfl (.inl (by kernel_rfl)) (by decide)) (ea_cons (eb_ix (eb_var (n := 1) (i := 9) rfl (.inl (by kernel_rfl)) (by decide)) (EO.up (k := 0) (n := 0) eo_int)) ea_nil)))) (EO.up (k := 0) (n := 1) eo_non) (nomark _)) (ew_or1 (et_cmp (o_ne hr.units) dNe_nx (EO.up (k := 0) (n := 1) (eo_call (G_row_behind base) (hr.mono (by decide)) (gl_of (by kernel_rfl)) T.g_row_behind k_row_behind b_row_behind.b (takes_of rfl rfl rfl rfl) (ea_cons (eb_var (n := 0) (i := 2) rfl (.inl (by kernel_rfl)) (by decide)) (ea_cons (eb_ix (eb_var (n := 1) (i := 9) rfl (.inl (by kernel_rfl)) (by decide)) (EO.up (k := 0) (n := 0) eo_int)) ea_nil)))) (eb_var (n := 1) (i := 4) rfl (.inl (by kernel_rfl)) (by decide)) (nomark _)))))))) (sjs_one (sj_ret eo_bl)) sjs_nil)
  (sjs_kill [9] sjs_nil)))
  (sjs_kill [9] (sjs_cons (L1 := [0, 0, 0, 0, 0, 0, 0, 0, 0, 0, 0, 0, 0, 0, 0, 0, 0]) (sj_if (et_w (ew_and (et_cmp (o_eq hr.units) dEq_nx (eb_ix (eb_var (n := 2) (i := 7) rfl (.inl (by kernel_rfl)) (by decide)) (EO.up (k := 0) (n := 0) eo_int)) (EO.up (k := 0) (n := 1) eo_str) (nomark _)) (ew_and (et_cmp (o_ne hr.units) dNe_nx (eb_ix (EO.up (k := 0) (n := 2) (eo_call (G_to_front base) (hr.mono (by decide)) (gl_of (by kernel_rfl)) T.g_to_front k_to_front b_to_front.b (takes_of rfl rfl rfl rfl) (ea_cons (eb_ix (eb_var (n := 1) (i := 7) rfl (.inl (by kernel_rfl)) (by decide)) (EO.up (k := 0) (n := 0) eo_int)) (ea_cons (EO.up (k := 0) (n := 0) (eo_op o_sub dSub_nx (EO.up (k := 0) (n := 0) (eo_callB c_len fLen_nx (gl_of (by kernel_rfl)) T.z_len (by decide +kernel) (ea_cons (eb_var (n := 1) (i := 3) rfl (.inr (.inl (by kernel_rfl))) (by decide)) ea_nil))) (EO.up (k := 0) (n := 0) eo_int))) ea_nil)))) (EO.up (k := 0) (n := 0) eo_int)) (EO.up (k := 0) (n := 1) eo_str) (nomark _)) (ew_and1 (et_cmp (o_eq hr.units) dEq_nx (eb_var (n := 1) (i := 6) rfl (.inl (by kernel_rfl)) (by decide)) (EO.up (k := 0) (n := 1) eo_int) (nomark _)))))) (sjs_one (sj_ret eo_bl)) sjs_nil)
  (sjs_cons (L1 := [0, 0, 0, 0, 0, 0, 0, 0, 0, 0, 0, 0, 0, 0, 0, 0, 0]) (sj_if (et_cmp o_lt dCmpI_nx (EO.up (k := 1) (n := 0) (eo_op o_add dAdd_nx (eb_var (n := 1) (i := 6) rfl (.inl (by kernel_rfl)) (by decide)) (EO.up (k := 0) (n := 1) eo_int))) (EO.up (k := 0) (n := 0) (eo_callB c_len fLen_nx (gl_of (by kernel_rfl)) T.z_len (by decide +kernel) (ea_cons (eb_var (n := 1) (i := 3) rfl (.inr (.inl (by kernel_rfl))) (by decide)) ea_nil))) (nomark _)) (sjs_cons (L1 := [0, 0, 0, 0, 0, 0, 0, 0, 0, 0, 0, 0, 0, 0, 0, 0, 0]) (sj_par2 (i := 10) (j := 9) (k1 := 0) (k2 := 0) rfl sc_law.nd rfl rfl (by decide) (by kernel_rfl) (by kernel_rfl) (eo_call (G__law_swapped base) (hr.mono (by decide)) (gl_of (by kernel_rfl)) T.g__law_swapped k__law_swapped b__law_swapped.b (takes_of rfl rfl rfl rfl) (ea_cons (eb_ix (eb_var (n := 1) (i := 3) rfl (.inr (.inl (by kernel_rfl))) (by decide)) (eb_var (n := 0) (i := 6) rfl (.inl (by kernel_rfl)) (by decide))) (ea_cons (eb_ix (eb_var (n := 1) (i := 3) rfl (.inr (.inl (by kernel_rfl))) (by decide)) (EO.up (k := 1) (n := 0) (eo_op o_add dAdd_nx (eb_var (n := 1) (i := 6) rfl (.inl (by kernel_rfl)) (by decide)) (EO.up (k := 0) (n := 1) eo_int)))) ea_nil))) (eo_call (G_exchanged base) (hr.mono (by decide)) (gl_of (by kernel_rfl)) T.g_exchanged k_exchanged b_exchanged.b (takes_of rfl rfl rfl rfl) (ea_cons (eb_var (n := 0) (i := 3) rfl (.inr (.inl (by kernel_rfl))) (by decide)) (ea_cons (eb_var (n := 0) (i := 6) rfl (.inl (by kernel_rfl)) (by decide)) ea_nil))) (by decide) (by decide) (by kernel_rfl))
  (sjs_one (sj_if (et_w (ew_or (et_w (ew_and (et_cmp o_is dIs_nx (eb_var (n := 1) (i := 10) rfl (.inl (by kernel_rfl)) (by decide)) (EO.up (k := 0) (n := 1) eo_non) (nomark _)) (ew_and1 (et_cmp (o_ne hr.units) dNe_nx (eb_var (n := 1) (i := 9) rfl (.inl (by kernel_rfl)) (by decide)) (EO.up (k := 0) (n := 1) (eo_call (G_commuted base) (hr.mono (by decide)) (gl_of (by kernel_rfl)) T.g_commuted k_commuted b_commuted.b (takes_of rfl rfl rfl rfl) (ea_cons (eb_ix (eb_var (n := 1) (i := 3) rfl (.inr (.inl (by kernel_rfl))) (by decide)) (eb_var (n := 0) (i := 6) rfl (.inl (by kernel_rfl)) (by decide))) (ea_cons (eb_ix (eb_var (n := 1) (i := 3) rfl (.inr (.inl (by kernel_rfl))) (by decide)) (EO.up (k := 1) (n := 0) (eo_op o_add dAdd_nx (eb_var (n := 1) (i := 6) rfl (.inl (by kernel_rfl)) (by decide)) (EO.up (k := 0) (n := 1) eo_int)))) ea_nil)))) (nomark _))))) (ew_or1 (et_w (ew_and (et_cmp o_isNot dIsNot_nx (eb_var (n := 1) (i := 10) rfl (.inl (by kernel_rfl)) (by decide)) (EO.up (k := 0) (n := 1) eo_non) (nomark _)) (ew_and1 (et_cmp (o_ne hr.units) dNe_nx (eb_var (n := 1) (i := 9) rfl (.inl (by kernel_rfl)) (by decide)) (EO.up (k := 0) (n := 1) (eo_tup (ea_cons (EO.up (k := 0) (n := 0) eo_str) (ea_cons (EO.up (k := 1) (n := 0) (eo_op o_add dAdd_nx (EO.up (k := 1) (n := 1) (eo_op o_add dAdd_nx (EO.up (k := 1) (n := 1) (eo_sl (eb_var (n := 1) (i := 3) rfl (.inr (.inl (by kernel_rfl))) (by decide)) ep_none (ep_some (eb_var (n := 0) (i := 6) rfl (.inl (by kernel_rfl)) (by decide))))) (eb_var (n := 1) (i := 10) rfl (.inl (by kernel_rfl)) (by decide)))) (EO.up (k := 1) (n := 1) (eo_sl (eb_var (n := 1) (i := 3) rfl (.inr (.inl (by kernel_rfl))) (by decide)) (ep_some (EO.up (k := 1) (n := 0) (eo_op o_add dAdd_nx (eb_var (n := 1) (i := 6) rfl (.inl (by kernel_rfl)) (by decide)) (EO.up (k := 0) (n := 1) eo_int)))) ep_none)))) ea_nil)))) (nomark _)))))))) (sjs_one (sj_ret eo_bl)) sjs_nil))) sjs_nil)
  (sjs_kill [6, 7, 8, 9, 10] sjs_nil)))))))))
  (sjs_kill [6, 7, 8, 9, 10] (sjs_cons (L1 := [0, 0, 0, 0, 0, 0, 0, 0, 0, 0, 0, 0, 0, 0, 0, 0, 0]) (sj_set (i := 11) (k := 0) sc_law.nd rfl (.inl (by kernel_rfl)) (eo_call (G__law_text base) (hr.mono (by decide)) (gl_of (by kernel_rfl)) T.g__law_text k__law_text b__law_text.b (takes_of rfl rfl rfl rfl) (ea_cons (eb_var (n := 0) (i := 1) rfl (.inl (by kernel_rfl)) (by decide)) (ea_cons (EO.up (k := 0) (n := 0) eo_int) (ea_cons (EO.up (k := 0) (n := 0) eo_int) ea_nil)))) (by decide) rfl (.inl rfl))
  (sjs_cons (L1 := [0, 0, 0, 0, 0, 0, 0, 0, 0, 0, 0, 0, 0, 0, 0, 0, 0]) (sj_for (passes_of rfl) rfl (ei_seq (EO.up (k := 0) (n := 0) (eo_tup (ea_cons (EO.up (k := 0) (n := 0) (eo_tup (ea_cons (eb_var (n := 0) (i := 11) rfl (.inl (by kernel_rfl)) (by decide)) (ea_cons (eb_var (n := 0) (i := 3) rfl (.inr (.inl (by kernel_rfl))) (by decide)) ea_nil)))) (ea_cons (EO.up (k := 0) (n := 0) (eo_tup (ea_cons (eb_var (n := 0) (i := 2) rfl (.inl (by kernel_rfl)) (by decide)) (ea_cons (EO.up (k := 1) (n := 0) (eo_rev (eb_var (n := 1) (i := 3) rfl (.inr (.inl (by kernel_rfl))) (by decide)))) ea_nil)))) (ea_cons (EO.up (k := 0) (n := 0) (eo_tup (ea_cons (eb_var (n := 0) (i := 2) rfl (.inl (by kernel_rfl)) (by decide)) (ea_cons (EO.up (k := 1) (n := 0) (eo_op o_add dAdd_nx (eb_var (n := 1) (i := 3) rfl (.inr (.inl (by kernel_rfl))) (by decide)) (EO.up (k := 1) (n := 1) (eo_sl (eb_var (n := 1) (i := 3) rfl (.inr (.inl (by kernel_rfl))) (by decide)) ep_none (ep_some (EO.up (k := 0) (n := 0) eo_int)))))) ea_nil)))) (ea_cons (EO.up (k := 0) (n := 0) (eo_tup (ea_cons (eb_var (n := 0) (i := 2) rfl (.inl (by kernel_rfl)) (by decide)) (ea_cons (EO.up (k := 1) (n := 0) (eo_callTy c_list fList_nx (gl_of (by kernel_rfl)) T.z_list (by decide +kernel) (ea_cons (eb_var (n := 1) (i := 3) rfl (.inr (.inl (by kernel_rfl))) (by decide)) ea_nil))) ea_nil)))) (ea_cons (EO.up (k := 0) (n := 0) (eo_tup (ea_cons (eb_var (n := 0) (i := 2) rfl (.inl (by kernel_rfl)) (by decide)) (ea_cons (EO.up (k := 0) (n := 0) eo_non) ea_nil)))) (ea_cons (EO.up (k := 0) (n := 0) (eo_tup (ea_cons (eb_var (n := 0) (i := 2) rfl (.inl (by kernel_rfl)) (by decide)) (ea_cons (EO.up (k := 1) (n := 0) (eo_op o_add dAdd_nx (eb_var (n := 1) (i := 3) rfl (.inr (.inl (by kernel_rfl))) (by decide)) (EO.up (k := 0) (n := 1) (eo_tup (ea_cons (EO.up (k := 0) (n := 0) eo_non) ea_nil))))) ea_nil)))) (ea_cons (EO.up (k := 0) (n := 0) (eo_tup (ea_cons (eb_var (n := 0) (i := 2) rfl (.inl (by kernel_rfl)) (by decide)) (ea_cons (EO.up (k := 0) (n := 0) (eo_tup ea_nil)) ea_nil)))) ea_nil)))))))))) (pg_tup rfl (pgs_cons (pg_name (i := 12) sc_law.nd rfl (.inl (by kernel_rfl)) (.inl rfl)) (pgs_cons (pg_name (i := 13) sc_law.nd rfl (.inl (by kernel_rfl)) (.inl rfl)) pgs_nil))) (gs_tup [12, 13]) (by decide)
  (sjs_cons (L1 := [0, 0, 0, 0, 0, 0, 0, 0, 0, 0, 0, 0, 0, 0, 0, 0, 0]) (sj_set (i := 14) (k := 0) sc_law.nd rfl (.inl (by kernel_rfl)) (eo_call (G__law_fault base) (hr.mono (by decide)) (gl_of (by kernel_rfl)) T.g__law_fault k__law_fault b__law_fault.b (takes_of rfl rfl rfl rfl) (ea_cons (eb_var (n := 0) (i := 12) rfl (.inl (by kernel_rfl)) (by decide)) (ea_cons (eb_var (n := 0) (i := 13) rfl (.inl (by kernel_rfl)) (by decide)) ea_nil))) (by decide) rfl (.inl rfl))
  (sjs_cons (L1 := [0, 0, 0, 0, 0, 0, 0, 0, 0, 0, 0, 0, 0, 0, 0, 0, 0]) (sj_if (et_w (ew_or (et_cmp (o_ne hr.units) dNe_nx (EO.up (k := 0) (n := 1) (eo_call (G_row_fault base) (hr.mono (by decide)) (gl_of (by kernel_rfl)) T.g_row_fault k_row_fault b_row_fault.b (takes_of rfl rfl rfl rfl) (ea_cons (eb_var (n := 0) (i := 12) rfl (.inl (by kernel_rfl)) (by decide)) (ea_cons (eb_var (n := 0) (i := 13) rfl (.inl (by kernel_rfl)) (by decide)) ea_nil)))) (eb_var (n := 1) (i := 14) rfl (.inl (by kernel_rfl)) (by decide)) (nomark _)) (ew_or (et_w (ew_and (et_cmp (o_ne hr.units) dNe_nx (eb_var (n := 1) (i := 14) rfl (.inl (by kernel_rfl)) (by decide)) (EO.up (k := 0) (n := 1) (eo_un o_neg dNeg_nx (EO.up (k := 0) (n := 0) eo_int))) (nomark _)) (ew_and1 (et_cmp (o_ne hr.units) dNe_nx (EO.up (k := 0) (n := 1) (eo_cmp (o_eq hr.units) dEq_nx (EO.up (k := 0) (n := 1) (eo_call (G__law_error base) (hr.mono (by decide)) (gl_of (by kernel_rfl)) T.g__law_error k__law_error b__law_error.b (takes_of rfl rfl rfl rfl) (ea_cons (EO.up (k := 0) (n := 0) eo_int) (ea_cons (eb_var (n := 0) (i := 12) rfl (.inl (by kernel_rfl)) (by decide)) (ea_cons (eb_var (n := 0) (i := 13) rfl (.inl (by kernel_rfl)) (by decide)) ea_nil))))) (EO.up (k := 0) (n := 1) eo_str) (nomark _))) (EO.up (k := 0) (n := 1) (eo_cmp o_isNot dIsNot_nx (eb_var (n := 1) (i := 14) rfl (.inl (by kernel_rfl)) (by decide)) (EO.up (k := 0) (n := 1) eo_non) (nomark _))) (nomark _))))) (ew_or1 (et_w (ew_and (et_cmp (o_eq hr.units) dEq_nx (eb_var (n := 1) (i := 14) rfl (.inl (by kernel_rfl)) (by decide)) (EO.up (k := 0) (n := 1) (eo_un o_neg dNeg_nx (EO.up (k := 0) (n := 0) eo_int))) (nomark _)) (ew_and1 (et_cmp (o_ne hr.units) dNe_nx (EO.up (k := 0) (n := 1) (eo_call (G__law_error base) (hr.mono (by decide)) (gl_of (by kernel_rfl)) T.g__law_error k__law_error b__law_error.b (takes_of rfl rfl rfl rfl) (ea_cons (EO.up (k := 0) (n := 0) eo_int) (ea_cons (eb_var (n := 0) (i := 12) rfl (.inl (by kernel_rfl)) (by decide)) (ea_cons (eb_var (n := 0) (i := 13) rfl (.inl (by kernel_rfl)) (by decide)) ea_nil))))) (EO.up (k := 0) (n := 1) eo_str) (nomark _))))))))) (sjs_one (sj_ret eo_bl)) sjs_nil)
  (sjs_kill [12, 13, 14] sjs_nil))))
  (sjs_kill [12, 13, 14] (sjs_cons (L1 := [0, 0, 0, 0, 0, 0, 0, 0, 0, 0, 0, 0, 0, 0, 0, 0, 0]) (sj_for (passes_of rfl) rfl (ei_seq (EO.up (k := 0) (n := 0) (eo_tup (ea_cons (EO.up (k := 0) (n := 0) eo_non) (ea_cons (EO.up (k := 1) (n := 0) (eo_callTy c_list fList_nx (gl_of (by kernel_rfl)) T.z_list (by decide +kernel) (ea_cons (eb_var (n := 1) (i := 3) rfl (.inr (.inl (by kernel_rfl))) (by decide)) ea_nil))) (ea_cons (EO.up (k := 1) (n := 0) (eo_op o_add dAdd_nx (eb_var (n := 1) (i := 3) rfl (.inr (.inl (by kernel_rfl))) (by decide)) (EO.up (k := 0) (n := 1) (eo_tup (ea_cons (EO.up (k := 0) (n := 0) (eo_tup (ea_cons (EO.up (k := 0) (n := 0) (eo_tup (ea_cons (EO.up (k := 0) (n := 0) eo_int) (ea_cons (EO.up (k := 0) (n := 0) (eo_tup ea_nil)) (ea_cons (EO.up (k := 0) (n := 0) (eo_tup ea_nil)) ea_nil))))) ea_nil))) ea_nil))))) (ea_cons (EO.up (k := 0) (n := 0) (eo_tup (ea_cons (EO.up (k := 0) (n := 0) eo_int) ea_nil))) ea_nil))))))) (pg_name (i := 15) sc_law.nd rfl (.inr (by kernel_rfl)) (.inl rfl)) (gs_name 15) (by decide)
  (sjs_cons (L1 := [0, 0, 0, 0, 0, 0, 0, 0, 0, 0, 0, 0, 0, 0, 0, 0, 0]) (sj_if (et_cmp (o_ne hr.units) dNe_nx (EO.up (k := 1) (n := 1) (eo_lc (own := [("call", 16)]) rfl sc_law.nd (ei_seq (EO.up (k := 0) (n := 1) (eo_tup (ea_cons (EO.up (k := 0) (n := 0) eo_int) (ea_cons (EO.up (k := 0) (n := 0) eo_int) (ea_cons (EO.up (k := 0) (n := 0) eo_int) (ea_cons (EO.up (k := 0) (n := 0) eo_int) ea_nil))))))) (blkOk_by (by kernel_rfl)) (fun _ _ _ _ _ => (pg_name (i := 16) sc_law.nd rfl (.inl (by kernel_rfl)) (.inr (by kernel_rfl)))) (fun _ _ _ _ _ => ets_nil) (fun _ _ _ _ _ => (eo_call (G__law_error base) (hr.mono (by decide)) (gl_of (by kernel_rfl)) T.g__law_error k__law_error b__law_error.b takes0 (ea_cons (eb_var (n := 0) (i := 16) rfl (.inl (by kernel_rfl)) (by decide)) (ea_cons (eb_var (n := 0) (i := 15) rfl (.inr (.inl (by kernel_rfl))) (by decide)) (ea_cons (EO.up (k := 0) (n := 0) eo_non) ea_nil))))) (gs_name 16) (by decide) (by decide))) (EO.up (k := 1) (n := 1) (eo_rep (eo_lst (ea_cons (EO.up (k := 0) (n := 0) eo_str) ea_nil)) (EO.up (k := 0) (n := 0) eo_int))) (nomark _)) (sjs_one (sj_ret eo_bl)) sjs_nil)
  (sjs_kill [15] sjs_nil)))
  (sjs_kill [15] (sjs_cons (L1 := [0, 0, 0, 0, 0, 0, 0, 0, 0, 0, 0, 0, 0, 0, 0, 0, 0]) (sj_for (passes_of rfl) rfl (ei_seq (EO.up (k := 0) (n := 0) (eo_tup (ea_cons (EO.up (k := 0) (n := 0) (eo_un o_neg dNeg_nx (EO.up (k := 0) (n := 0) eo_int))) (ea_cons (EO.up (k := 0) (n := 0) (eo_callB c_len fLen_nx (gl_of (by kernel_rfl)) T.z_len (by decide +kernel) (ea_cons (eb_var (n := 1) (i := 3) rfl (.inr (.inl (by kernel_rfl))) (by decide)) ea_nil))) (ea_cons (EO.up (k := 0) (n := 0) eo_bl) (ea_cons (EO.up (k := 0) (n := 0) eo_non) (ea_cons (EO.up (k := 0) (n := 0) eo_str) ea_nil)))))))) (pg_name (i := 15) sc_law.nd rfl (.inr (by kernel_rfl)) (.inl rfl)) (gs_name 15) (by decide)
  (sjs_cons (L1 := [0, 0, 0, 0, 0, 0, 0, 0, 0, 0, 0, 0, 0, 0, 0, 0, 0]) (sj_if (et_cmp (o_ne hr.units) dNe_nx (EO.up (k := 1) (n := 1) (eo_lc (own := [("call", 16)]) rfl sc_law.nd (ei_seq (EO.up (k := 0) (n := 1) (eo_tup (ea_cons (EO.up (k := 0) (n := 0) eo_int) (ea_cons (EO.up (k := 0) (n := 0) eo_int) (ea_cons (EO.up (k := 0) (n := 0) eo_int) (ea_cons (EO.up (k := 0) (n := 0) eo_int) ea_nil))))))) (blkOk_by (by kernel_rfl)) (fun _ _ _ _ _ => (pg_name (i := 16) sc_law.nd rfl (.inl (by kernel_rfl)) (.inr (by kernel_rfl)))) (fun _ _ _ _ _ => ets_nil) (fun _ _ _ _ _ => (eo_call (G__law_error base) (hr.mono (by decide)) (gl_of (by kernel_rfl)) T.g__law_error k__law_error b__law_error.b takes0 (ea_cons (eb_var (n := 0) (i := 16) rfl (.inl (by kernel_rfl)) (by decide)) (ea_cons (eb_var (n := 0) (i := 3) rfl (.inr (.inl (by kernel_rfl))) (by decide)) (ea_cons (eb_var (n := 0) (i := 15) rfl (.inr (.inl (by kernel_rfl))) (by decide)) ea_nil))))) (gs_name 16) (by decide) (by decide))) (EO.up (k := 1) (n := 1) (eo_rep (eo_lst (ea_cons (EO.up (k := 0) (n := 0) eo_str) ea_nil)) (EO.up (k := 0) (n := 0) eo_int))) (nomark _)) (sjs_one (sj_ret eo_bl)) sjs_nil)
  (sjs_kill [15] sjs_nil)))
  (sjs_kill [15] (sjs_one (sj_ret (EB.o (eb_and (EO.up (k := 0) (n := 0) (eo_cmp (o_eq hr.units) dEq_nx (EO.up (k := 0) (n := 1) (eo_call (G__law_error base) (hr.mono (by decide)) (gl_of (by kernel_rfl)) T.g__law_error k__law_error b__law_error.b (takes_of rfl rfl rfl rfl) (ea_cons (EO.up (k := 0) (n := 0) eo_int) (ea_cons (eb_var (n := 0) (i := 3) rfl (.inr (.inl (by kernel_rfl))) (by decide)) (ea_cons (EO.up (k := 0) (n := 0) (eo_op o_sub dSub_nx (EO.up (k := 0) (n := 0) (eo_callB c_len fLen_nx (gl_of (by kernel_rfl)) T.z_len (by decide +kernel) (ea_cons (eb_var (n := 1) (i := 3) rfl (.inr (.inl (by kernel_rfl))) (by decide)) ea_nil))) (EO.up (k := 0) (n := 0) eo_int))) ea_nil))))) (EO.up (k := 0) (n := 1) eo_str) (nomark _))) (eb_one (EO.up (k := 0) (n := 0) (eo_cmp (o_eq hr.units) dEq_nx (eb_ix (EO.up (k := 1) (n := 2) (eo_lc (own := [("call", 16)]) rfl sc_law.nd (ei_seq (EO.up (k := 0) (n := 1) (eo_tup (ea_cons (EO.up (k := 0) (n := 0) eo_int) (ea_cons (EO.up (k := 0) (n := 0) eo_int) ea_nil))))) (blkOk_by (by kernel_rfl)) (fun _ _ _ _ _ => (pg_name (i := 16) sc_law.nd rfl (.inl (by kernel_rfl)) (.inr (by kernel_rfl)))) (fun _ _ _ _ _ => ets_nil) (fun _ _ _ _ _ => (eo_call (G__law_error base) (hr.mono (by decide)) (gl_of (by kernel_rfl)) T.g__law_error k__law_error b__law_error.b takes0 (ea_cons (eb_var (n := 0) (i := 16) rfl (.inl (by kernel_rfl)) (by decide)) (ea_cons (EO.up (k := 1) (n := 0) (eo_lst (ea_cons (EO.up (k := 0) (n := 0) eo_str) ea_nil))) (ea_cons (eb_var (n := 0) (i := 3) rfl (.inr (.inl (by kernel_rfl))) (by decide)) ea_nil))))) (gs_name 16) (by decide) (by decide))) (EO.up (k := 0) (n := 0) eo_int)) (EO.up (k := 0) (n := 1) eo_str) (nomark _))))))))))))))))))))))))), b, F.kp⟩
end
end K
namespace K
open PySem PySem.Spec PyProof.Rows L2 Px
def fa_0 : List He.Fa := [.keep "_law_draws", .glo "_law_draws", .keep "_law_text", .glo "_law_text", .keep "_law_patch", .glo "_law_patch", .keep "_law_behind", .glo "_law_behind", .keep "_law_row", .glo "_law_row", .keep "_law_fits", .glo "_law_fits", .keep "_law_is_text", .glo "_law_is_text", .keep "_law_is_patch", .glo "_law_is_patch", .keep "_law_fault", .glo "_law_fault", .keep "is_line", .glo "is_line", .keep "is_text", .glo "is_text", .keep "check_texts", .glo "check_texts", .keep "is_whole", .glo "is_whole", .keep "_is_hunk", .glo "_is_hunk", .keep "is_patch", .glo "is_patch"]
def fa_1 : List He.Fa := [.keep "is_row", .glo "is_row", .keep "applied", .glo "applied", .keep "fault", .glo "fault", .keep "row_fault", .glo "row_fault", .keep "check_row", .glo "check_row", .keep "row_behind", .glo "row_behind", .keep "_law_swapped", .glo "_law_swapped", .keep "_law_to_end", .glo "_law_to_end", .keep "_law_to_front", .glo "_law_to_front", .keep "_check_place", .glo "_check_place", .keep "reverse", .glo "reverse", .keep "touch", .glo "touch", .keep "_first_touch", .glo "_first_touch", .keep "_spans", .glo "_spans", .keep "shifted", .glo "shifted"]
def fa_2 : List He.Fa := [.keep "commuting", .glo "commuting", .keep "_to_end", .glo "_to_end", .keep "without", .glo "without", .keep "exchanged", .glo "exchanged", .keep "to_end", .glo "to_end", .keep "to_front", .glo "to_front", .keep "_law_error", .glo "_law_error", .keep "check_patches", .glo "check_patches", .keep "commuted", .glo "commuted", .keep "law", .glo "law", .free "abs", .free "int", .free "range", .free "len", .free "tuple", .free "all", .free "isinstance", .free "str", .free "bool", .free "zip"]
def fa_3 : List He.Fa := [.free "enumerate", .free "any", .free "sum", .free "list", .str "END" "\n", .glo "BadText", .exc "BadText", .glo "BadPatch", .exc "BadPatch", .glo "NoFit", .exc "NoFit", .glo "BadPlace", .exc "BadPlace", .exm "BadPatch" "BadText" false, .exm "BadPlace" "BadText" false, .exm "BadText" "BadText" true, .exm "NoFit" "BadText" false, .exm "BadPatch" "BadPatch" true, .exm "BadPlace" "BadPatch" false, .exm "BadText" "BadPatch" false, .exm "NoFit" "BadPatch" false, .exm "BadPatch" "BadPlace" false, .exm "BadPlace" "BadPlace" true, .exm "BadText" "BadPlace" false, .exm "NoFit" "BadPlace" false, .exm "BadPatch" "NoFit" false, .exm "BadPlace" "NoFit" false, .exm "BadText" "NoFit" false, .exm "NoFit" "NoFit" true]
def fa : List He.Fa := fa_0 ++ fa_1 ++ fa_2 ++ fa_3
def fn_0 : List He.FnD := [⟨("_law_draws", none), "_law_draws", "_law_draws", defArgs s__law_draws, defBody s__law_draws, defScope s__law_draws⟩, ⟨("_law_text", none), "_law_text", "_law_text", defArgs s__law_text, defBody s__law_text, defScope s__law_text⟩, ⟨("_law_patch", none), "_law_patch", "_law_patch", defArgs s__law_patch, defBody s__law_patch, defScope s__law_patch⟩, ⟨("_law_behind", none), "_law_behind", "_law_behind", defArgs s__law_behind, defBody s__law_behind, defScope s__law_behind⟩, ⟨("_law_row", none), "_law_row", "_law_row", defArgs s__law_row, defBody s__law_row, defScope s__law_row⟩, ⟨("_law_fits", none), "_law_fits", "_law_fits", defArgs s__law_fits, defBody s__law_fits, defScope s__law_fits⟩, ⟨("_law_is_text", none), "_law_is_text", "_law_is_text", defArgs s__law_is_text, defBody s__law_is_text, defScope s__law_is_text⟩, ⟨("_law_is_patch", none), "_law_is_patch", "_law_is_patch", defArgs s__law_is_patch, defBody s__law_is_patch, defScope s__law_is_patch⟩, ⟨("_law_fault", none), "_law_fault", "_law_fault", defArgs s__law_fault, defBody s__law_fault, defScope s__law_fault⟩, ⟨("is_line", none), "is_line", "is_line", defArgs s_is_line, defBody s_is_line, defScope s_is_line⟩, ⟨("is_text", none), "is_text", "is_text", defArgs s_is_text, defBody s_is_text, defScope s_is_text⟩, ⟨("check_texts", none), "check_texts", "check_texts", defArgs s_check_texts, defBody s_check_texts, defScope s_check_texts⟩, ⟨("is_whole", none), "is_whole", "is_whole", defArgs s_is_whole, defBody s_is_whole, defScope s_is_whole⟩, ⟨("_is_hunk", none), "_is_hunk", "_is_hunk", defArgs s__is_hunk, defBody s__is_hunk, defScope s__is_hunk⟩, ⟨("is_patch", none), "is_patch", "is_patch", defArgs s_is_patch, defBody s_is_patch, defScope s_is_patch⟩, ⟨("is_row", none), "is_row", "is_row", defArgs s_is_row, defBody s_is_row, defScope s_is_row⟩, ⟨("applied", none), "applied", "applied", defArgs s_applied, defBody s_applied, defScope s_applied⟩, ⟨("fault", none), "fault", "fault", defArgs s_fault, defBody s_fault, defScope s_fault⟩, ⟨("row_fault", none), "row_fault", "row_fault", defArgs s_row_fault, defBody s_row_fault, defScope s_row_fault⟩, ⟨("check_row", none), "check_row", "check_row", defArgs s_check_row, defBody s_check_row, defScope s_check_row⟩, ⟨("row_behind", none), "row_behind", "row_behind", defArgs s_row_behind, defBody s_row_behind, defScope s_row_behind⟩, ⟨("_law_swapped", none), "_law_swapped", "_law_swapped", defArgs s__law_swapped, defBody s__law_swapped, defScope s__law_swapped⟩, ⟨("_law_to_end", none), "_law_to_end", "_law_to_end", defArgs s__law_to_end, defBody s__law_to_end, defScope s__law_to_end⟩, ⟨("_law_to_front", none), "_law_to_front", "_law_to_front", defArgs s__law_to_front, defBody s__law_to_front, defScope s__law_to_front⟩, ⟨("_check_place", none), "_check_place", "_check_place", defArgs s__check_place, defBody s__check_place, defScope s__check_place⟩, ⟨("reverse", none), "reverse", "reverse", defArgs s_reverse, defBody s_reverse, defScope s_reverse⟩, ⟨("touch", none), "touch", "touch", defArgs s_touch, defBody s_touch, defScope s_touch⟩, ⟨("_first_touch", none), "_first_touch", "_first_touch", defArgs s__first_touch, defBody s__first_touch, defScope s__first_touch⟩, ⟨("_spans", none), "_spans", "_spans", defArgs s__spans, defBody s__spans, defScope s__spans⟩, ⟨("shifted", none), "shifted", "shifted", defArgs s_shifted, defBody s_shifted, defScope s_shifted⟩]
def fn_1 : List He.FnD := [⟨("commuting", none), "commuting", "commuting", defArgs s_commuting, defBody s_commuting, defScope s_commuting⟩, ⟨("_to_end", none), "_to_end", "_to_end", defArgs s__to_end, defBody s__to_end, defScope s__to_end⟩, ⟨("without", none), "without", "without", defArgs s_without, defBody s_without, defScope s_without⟩, ⟨("exchanged", none), "exchanged", "exchanged", defArgs s_exchanged, defBody s_exchanged, defScope s_exchanged⟩, ⟨("to_end", none), "to_end", "to_end", defArgs s_to_end, defBody s_to_end, defScope s_to_end⟩, ⟨("to_front", none), "to_front", "to_front", defArgs s_to_front, defBody s_to_front, defScope s_to_front⟩, ⟨("_law_error", none), "_law_error", "_law_error", defArgs s__law_error, defBody s__law_error, defScope s__law_error⟩, ⟨("check_patches", none), "check_patches", "check_patches", defArgs s_check_patches, defBody s_check_patches, defScope s_check_patches⟩, ⟨("commuted", none), "commuted", "commuted", defArgs s_commuted, defBody s_commuted, defScope s_commuted⟩, ⟨("law", none), "law", "law", defArgs s_law, defBody s_law, defScope s_law⟩]
def fn : List He.FnD := fn_0 ++ fn_1
def loose_0 : List Str := ["PatchError", "BadText", "BadPatch", "NoFit", "BadPlace", "END", "is_whole", "is_line", "is_text", "_is_hunk", "is_patch", "check_texts", "check_patches", "fault", "applied", "reverse", "_spans", "touch", "_first_touch", "shifted", "commuting", "commuted", "is_row", "row_fault", "row_behind", "check_row", "_check_place", "exchanged", "_to_end", "to_end"]
def loose_1 : List Str := ["without", "to_front", "_law_draws", "_law_text", "_law_patch", "_law_behind", "_law_fits", "_law_marks", "_law_is_text", "_law_is_patch", "_law_row", "_law_swapped", "_law_to_end", "_law_to_front", "_law_fault", "_law_error"]
def loose : List Str := loose_0 ++ loose_1
abbrev R_ : PySem.W.OpenRow := PySem.W.OpenLaw.row PySem.Challenge.rw_patchwright_k15_whole_rows_of_patches
abbrev hk : PySem.W.Hook := He.hookE 4 fa fn
def ob (s : PySem.W.SharedT) : He.Al := He.obsG 4 fa fn (HandSHeadRun.getT s)
theorem ob_eq (s : PySem.W.SharedT) : ob s = hk.obs s.abs := He.obsG_eq (HandSHeadRun.getT_eq s)
theorem run (w : World) : HandSHeadRun.RunEq R_ (PySem.W.view R_.prog [51]) hk ob 4000 loose w := by
  intro os
  kernel_rfl
theorem txt {K : PySem.W.Frag} {h : Heap} {mg : Str → Option Value} (X : K.In h) (G : h.Ns mainGlobals mg) (c : He.SaysE fa fn K) : Txt K mg :=
  ⟨(txt_fun c 0 0 rfl rfl fun _ _ _ _ _ _ us hl => match us, hl with | [_, _], _ => rfl),
   (He.glo_ok X G (c.fact 1 rfl)),
   (txt_fun c 1 2 rfl rfl fun _ _ _ _ _ _ us hl => match us, hl with | [_, _, _], _ => rfl),
   (He.glo_ok X G (c.fact 3 rfl)),
   (txt_fun c 2 4 rfl rfl fun _ _ _ _ _ _ us hl => match us, hl with | [_, _, _, _], _ => rfl),
   (He.glo_ok X G (c.fact 5 rfl)),
   (txt_fun c 3 6 rfl rfl fun _ _ _ _ _ _ us hl => match us, hl with | [_, _], _ => rfl),
   (He.glo_ok X G (c.fact 7 rfl)),
   (txt_fun c 4 8 rfl rfl fun _ _ _ _ _ _ us hl => match us, hl with | [_, _, _], _ => rfl),
   (He.glo_ok X G (c.fact 9 rfl)),
   (txt_fun c 5 10 rfl rfl fun _ _ _ _ _ _ us hl => match us, hl with | [_, _], _ => rfl),
   (He.glo_ok X G (c.fact 11 rfl)),
   (txt_fun c 6 12 rfl rfl fun _ _ _ _ _ _ us hl => match us, hl with | [_], _ => rfl),
   (He.glo_ok X G (c.fact 13 rfl)),
   (txt_fun c 7 14 rfl rfl fun _ _ _ _ _ _ us hl => match us, hl with | [_], _ => rfl),
   (He.glo_ok X G (c.fact 15 rfl)),
   (txt_fun c 8 16 rfl rfl fun _ _ _ _ _ _ us hl => match us, hl with | [_, _], _ => rfl),
   (He.glo_ok X G (c.fact 17 rfl)),
   (txt_fun c 9 18 rfl rfl fun _ _ _ _ _ _ us hl => match us, hl with | [_], _ => rfl),
   (He.glo_ok X G (c.fact 19 rfl)),
   (txt_fun c 10 20 rfl rfl fun _ _ _ _ _ _ us hl => match us, hl with | [_], _ => rfl),
   (He.glo_ok X G (c.fact 21 rfl)),
   (txt_fun c 11 22 rfl rfl fun _ _ _ _ _ _ us hl => match us, hl with | [_], _ => rfl),
   (He.glo_ok X G (c.fact 23 rfl)),
   (txt_fun c 12 24 rfl rfl fun _ _ _ _ _ _ us hl => match us, hl with | [_], _ => rfl),
   (He.glo_ok X G (c.fact 25 rfl)),
   (txt_fun c 13 26 rfl rfl fun _ _ _ _ _ _ us hl => match us, hl with | [_], _ => rfl),
   (He.glo_ok X G (c.fact 27 rfl)),
   (txt_fun c 14 28 rfl rfl fun _ _ _ _ _ _ us hl => match us, hl with | [_], _ => rfl),
   (He.glo_ok X G (c.fact 29 rfl)),
   (txt_fun c 15 30 rfl rfl fun _ _ _ _ _ _ us hl => match us, hl with | [_], _ => rfl),
   (He.glo_ok X G (c.fact 31 rfl)),
   (txt_fun c 16 32 rfl rfl fun _ _ _ _ _ _ us hl => match us, hl with | [_, _], _ => rfl),
   (He.glo_ok X G (c.fact 33 rfl)),
   (txt_fun c 17 34 rfl rfl fun _ _ _ _ _ _ us hl => match us, hl with | [_, _], _ => rfl),
   (He.glo_ok X G (c.fact 35 rfl)),
   (txt_fun c 18 36 rfl rfl fun _ _ _ _ _ _ us hl => match us, hl with | [_, _], _ => rfl),
   (He.glo_ok X G (c.fact 37 rfl)),
   (txt_fun c 19 38 rfl rfl fun _ _ _ _ _ _ us hl => match us, hl with | [_], _ => rfl),
   (He.glo_ok X G (c.fact 39 rfl)),
   (txt_fun c 20 40 rfl rfl fun _ _ _ _ _ _ us hl => match us, hl with | [_, _], _ => rfl),
   (He.glo_ok X G (c.fact 41 rfl)),
   (txt_fun c 21 42 rfl rfl fun _ _ _ _ _ _ us hl => match us, hl with | [_, _], _ => rfl),
   (He.glo_ok X G (c.fact 43 rfl)),
   (txt_fun c 22 44 rfl rfl fun _ _ _ _ _ _ us hl => match us, hl with | [_, _], _ => rfl),
   (He.glo_ok X G (c.fact 45 rfl)),
   (txt_fun c 23 46 rfl rfl fun _ _ _ _ _ _ us hl => match us, hl with | [_, _], _ => rfl),
   (He.glo_ok X G (c.fact 47 rfl)),
   (txt_fun c 24 48 rfl rfl fun _ _ _ _ _ _ us hl => match us, hl with | [_, _], _ => rfl),
   (He.glo_ok X G (c.fact 49 rfl)),
   (txt_fun c 25 50 rfl rfl fun _ _ _ _ _ _ us hl => match us, hl with | [_], _ => rfl),
   (He.glo_ok X G (c.fact 51 rfl)),
   (txt_fun c 26 52 rfl rfl fun _ _ _ _ _ _ us hl => match us, hl with | [_, _], _ => rfl),
   (He.glo_ok X G (c.fact 53 rfl)),
   (txt_fun c 27 54 rfl rfl fun _ _ _ _ _ _ us hl => match us, hl with | [_, _], _ => rfl),
   (He.glo_ok X G (c.fact 55 rfl)),
   (txt_fun c 28 56 rfl rfl fun _ _ _ _ _ _ us hl => match us, hl with | [_], _ => rfl),
   (He.glo_ok X G (c.fact 57 rfl)),
   (txt_fun c 29 58 rfl rfl fun _ _ _ _ _ _ us hl => match us, hl with | [_, _], _ => rfl),
   (He.glo_ok X G (c.fact 59 rfl)),
   (txt_fun c 30 60 rfl rfl fun _ _ _ _ _ _ us hl => match us, hl with | [_, _], _ => rfl),
   (He.glo_ok X G (c.fact 61 rfl)),
   (txt_fun c 31 62 rfl rfl fun _ _ _ _ _ _ us hl => match us, hl with | [_, _], _ => rfl),
   (He.glo_ok X G (c.fact 63 rfl)),
   (txt_fun c 32 64 rfl rfl fun _ _ _ _ _ _ us hl => match us, hl with | [_, _], _ => rfl),
   (He.glo_ok X G (c.fact 65 rfl)),
   (txt_fun c 33 66 rfl rfl fun _ _ _ _ _ _ us hl => match us, hl with | [_, _], _ => rfl),
   (He.glo_ok X G (c.fact 67 rfl)),
   (txt_fun c 34 68 rfl rfl fun _ _ _ _ _ _ us hl => match us, hl with | [_, _], _ => rfl),
   (He.glo_ok X G (c.fact 69 rfl)),
   (txt_fun c 35 70 rfl rfl fun _ _ _ _ _ _ us hl => match us, hl with | [_, _], _ => rfl),
   (He.glo_ok X G (c.fact 71 rfl)),
   (txt_fun c 36 72 rfl rfl fun _ _ _ _ _ _ us hl => match us, hl with | [_, _, _], _ => rfl),
   (He.glo_ok X G (c.fact 73 rfl)),
   (txt_fun c 37 74 rfl rfl fun _ _ _ _ _ _ us hl => match us, hl with | [_], _ => rfl),
   (He.glo_ok X G (c.fact 75 rfl)),
   (txt_fun c 38 76 rfl rfl fun _ _ _ _ _ _ us hl => match us, hl with | [_, _], _ => rfl),
   (He.glo_ok X G (c.fact 77 rfl)),
   (txt_fun c 39 78 rfl rfl fun _ _ _ _ _ _ us hl => match us, hl with | [_], _ => rfl),
   (He.glo_ok X G (c.fact 79 rfl)),
   (He.free_ok X G (c.fact 80 rfl)),
   (He.free_ok X G (c.fact 81 rfl)),
   (He.free_ok X G (c.fact 82 rfl)),
   (He.free_ok X G (c.fact 83 rfl)),
   (He.free_ok X G (c.fact 84 rfl)),
   (He.free_ok X G (c.fact 85 rfl)),
   (He.free_ok X G (c.fact 86 rfl)),
   (He.free_ok X G (c.fact 87 rfl)),
   (He.free_ok X G (c.fact 88 rfl)),
   (He.free_ok X G (c.fact 89 rfl)),
   (He.free_ok X G (c.fact 90 rfl)),
   (He.free_ok X G (c.fact 91 rfl)),
   (He.free_ok X G (c.fact 92 rfl)),
   (He.free_ok X G (c.fact 93 rfl)),
   (He.str_ok X G (c.fact 94 rfl)),
   (txt_exc X G c 95 96 rfl rfl),
   (txt_exc X G c 97 98 rfl rfl),
   (txt_exc X G c 99 100 rfl rfl),
   (txt_exc X G c 101 102 rfl rfl),
   (He.exm_ok (c.fact 103 rfl)),
   (He.exm_ok (c.fact 104 rfl)),
   (He.exm_ok (c.fact 105 rfl)),
   (He.exm_ok (c.fact 106 rfl)),
   (He.exm_ok (c.fact 107 rfl)),
   (He.exm_ok (c.fact 108 rfl)),
   (He.exm_ok (c.fact 109 rfl)),
   (He.exm_ok (c.fact 110 rfl)),
   (He.exm_ok (c.fact 111 rfl)),
   (He.exm_ok (c.fact 112 rfl)),
   (He.exm_ok (c.fact 113 rfl)),
   (He.exm_ok (c.fact 114 rfl)),
   (He.exm_ok (c.fact 115 rfl)),
   (He.exm_ok (c.fact 116 rfl)),
   (He.exm_ok (c.fact 117 rfl)),
   (He.exm_ok (c.fact 118 rfl))⟩
theorem top (pure : ∀ ns : List Int, ns.length ≤ 63 → C_law [.lst (ns.map .int)] = .ok (.bl true)) : PySem.Challenge.rw_patchwright_k15_whole_rows_of_patches.Holds := by
  w_on; o_law
  refine HandSHeadRun.head_any (r := PySem.W.OpenLaw.row PySem.Challenge.rw_patchwright_k15_whole_rows_of_patches) (q := PySem.W.view (PySem.W.OpenLaw.row PySem.Challenge.rw_patchwright_k15_whole_rows_of_patches).prog [51]) (H := hk) (ob := ob) (M := 4000) (loose := loose) (d := HandSHeadRun.topDef (PySem.W.OpenLaw.row PySem.Challenge.rw_patchwright_k15_whole_rows_of_patches).prog 51) (kwd := []) ob_eq
    (by kernel_rfl) (fun s => by kernel_rfl) run (by kernel_rfl) (by kernel_rfl) (by kernel_rfl) (by rfl) (by first | assumption | decide +kernel) (by decide +kernel) ⟨rfl, rfl, rfl, rfl, rfl, by decide +kernel⟩ ?hw ?hc
  case hw => w_witness2
  case hc =>
    refine walk_px (l := PySem.Challenge.rw_patchwright_k15_whole_rows_of_patches) (n := 63) (k := 9) (x := "script") rfl (by decide) (by kernel_rfl) ⟨rfl, by decide, by decide⟩ ?F
    intro w mg fa h Y G hmg0
    obtain ⟨K, KX, c⟩ := Y
    have T := txt KX G c
    have hmg : mg ("law" : PySem.Str) = some (.ref fa) := by
      have e : (HandSHeadRun.topDef (PySem.W.OpenLaw.row PySem.Challenge.rw_patchwright_k15_whole_rows_of_patches).prog 51).name = ("law" : PySem.Str) := by kernel_rfl
      rw [← e]
      exact hmg0
    have e := hmg.symm.trans T.g_law
    cases e
    obtain ⟨fd, Fl, b, kp⟩ := ok_law (P := (PySem.Challenge.rw_patchwright_k15_whole_rows_of_patches).prog) (w := w) T
    exact ⟨K, fd, Spec K mg 1 0 C_law, KX, fun s v => b s [v] rfl, fun H a ns hl _ _ hS => spec_law (pure ns hl) (Nat.le_trans hl (by decide)) hS, fun base _ _ => Fl base⟩
end K
namespace K
open PySem PySem.Spec PyProof.Rows L2 Px
/-! ### the law's draws -/
theorem dr_inner (sc : D) (many seed : Int) (cell : D) (ds : List Int) (num : Int) (k : D) (hl : ds.length < 16777216) (hd : ∀ d ∈ ds, 0 ≤ d ∧ d < 65521) :
    ∃ (ds' : List Int) (num' : Int), B__law_draws_2 [some sc, some (.int many), some (.lst (ds.map .int)), some (.int seed), some cell, some (.int num), some k] = .next [some sc, some (.int many), some (.lst (ds'.map .int)), some (.int seed), some cell, some (.int num'), none] ∧ ds'.length ≤ ds.length + 1 ∧ ∀ d ∈ ds', 0 ≤ d ∧ d < 65521 := by
  unfold B__law_draws_2
  by_cases h : 0 < num
  · refine ⟨ds ++ [num % 1009], num / 1009, ?_, by simp, ?_⟩
    · simp [h, sAppend, sl_eq, hl]
    · intro d hm
      rcases List.mem_append.mp hm with hm | hm
      · exact hd d hm
      · simp at hm
        omega
  · exact ⟨ds, num, by simp [h], by omega, hd⟩
theorem dr_outer (sc : D) (many seed : Int) (c : Int) (a b k : Option D) (ds : List Int) (hl : ds.length + 60 < 16777216) (hd : ∀ d ∈ ds, 0 ≤ d ∧ d < 65521) :
    ∃ (ds' : List Int) (seed' : Int), B__law_draws_1 [some sc, some (.int many), some (.lst (ds.map .int)), some (.int seed), some (.int c), a, b] = .next [some sc, some (.int many), some (.lst (ds'.map .int)), some (.int seed'), none, none, none] ∧ ds'.length ≤ ds.length + 60 ∧ ∀ d ∈ ds', 0 ≤ d ∧ d < 65521 := by
  unfold B__law_draws_1
  generalize hn : (if c < 0 then -c else c) = num
  by_cases h : 10 ^ 18 ≤ num
  · obtain ⟨ρ', e, p⟩ := for_inv (gf := gfName 6) (F := B__law_draws_2) (ds := (List.range 60).map fun i => .int (i : Nat)) (n := 0)
      (ρ := [some sc, some (.int many), some (.lst (ds.map .int)), some (.int ((seed * 48271 + num + 11) % 2147483647)), some (.int c), some (.int num), b])
      (P := fun m ρ => ∃ (ds' : List Int) (num' : Int) (k : Option D), ρ = [some sc, some (.int many), some (.lst (ds'.map .int)), some (.int ((seed * 48271 + num + 11) % 2147483647)), some (.int c), some (.int num'), k] ∧ ds'.length ≤ ds.length + m ∧ ∀ d ∈ ds', 0 ≤ d ∧ d < 65521)
      ⟨ds, num, b, rfl, by omega, hd⟩ (fun i d hi ρ hp => by
        obtain ⟨ds1, num1, k1, rfl, hl1, hd1⟩ := hp
        have hi2 : i < 60 := by
          have := (List.getElem?_eq_some_iff.mp hi).1
          simpa using this
        obtain ⟨ds2, num2, e2, hl2, hd2⟩ := dr_inner sc many ((seed * 48271 + num + 11) % 2147483647) (.int c) ds1 num1 d (by omega) hd1
        exact ⟨_, _, rfl, .inl e2, ds2, num2, none, rfl, by omega, hd2⟩)
    obtain ⟨ds', num', k', rfl, hl', hd'⟩ := p
    refine ⟨ds', (seed * 48271 + num + 11) % 2147483647, ?_, by simpa using hl', hd'⟩
    have hm : mulOk seed 48271 = true := mulOk_r _ _ (by decide)
    have e0 := dRng1_nat 60 (by omega)
    have e0 : dRng1 [.int 60] = .ok ((List.range 60).map fun i => .int (i : Nat)) := e0
    have h' : (1000000000000000000 : Int) ≤ num := h
    simp [hn, hm, h', x_sFor, e0, e]
  · refine ⟨ds ++ [((seed * 48271 + num + 11) % 2147483647 * 16807 + 5) / 3 % 65521], (seed * 48271 + num + 11) % 2147483647, ?_, by simp, ?_⟩
    · have hm : mulOk seed 48271 = true := mulOk_r _ _ (by decide)
      have hm2 : mulOk ((seed * 48271 + num + 11) % 2147483647) 16807 = true := mulOk_r _ _ (by decide)
      have h' : ¬ (1000000000000000000 : Int) ≤ num := h
      simp [hn, hm, hm2, h', sAppend, sl_eq, show ds.length < 16777216 by omega]
    · intro d hm
      rcases List.mem_append.mp hm with hm | hm
      · exact hd d hm
      · simp at hm
        omega
theorem dr_more (sc : D) (many : Nat) (seed : Int) (j : Nat) (ds : List Int) (hl : ds.length < 16777216) (hd : ∀ d ∈ ds, 0 ≤ d ∧ d < 65521) :
    ∃ (ds' : List Int) (seed' : Int), B__law_draws_3 [some sc, some (.int many), some (.lst (ds.map .int)), some (.int seed), none, none, some (.int (j : Nat))] = .next [some sc, some (.int many), some (.lst (ds'.map .int)), some (.int seed'), none, none, none] ∧ (∀ d ∈ ds', 0 ≤ d ∧ d < 65521) ∧
      (many ≤ ds.length → ds'.length = ds.length) ∧ (ds.length < many → ds'.length = ds.length + 1) := by
  unfold B__law_draws_3
  by_cases h : ds.length < many
  · have hm : mulOk seed 69621 = true := mulOk_r _ _ (by decide)
    refine ⟨ds ++ [(seed * 69621 + j + 1) % 2147483647 / 7 % 65521], (seed * 69621 + j + 1) % 2147483647, ?_, ?_, by omega, by simp⟩
    · simp [h, hm, sAppend, sl_eq, hl]
    · intro d hm
      rcases List.mem_append.mp hm with hm | hm
      · exact hd d hm
      · simp at hm
        omega
  · exact ⟨ds, seed, by simp [h], hd, fun _ => rfl, fun z => absurd z h⟩
theorem draws_ok (ns : List Int) (hn : ns.length ≤ 63) (many : Nat) (hm : many ≤ 1000) : ∃ ds : List Int, ds.length = many ∧ (∀ d ∈ ds, 0 ≤ d ∧ d < 65521) ∧ C__law_draws [.lst (ns.map .int), .int many] = .ok (.lst (ds.map .int)) := by
  obtain ⟨ρ1, e1, ds1, seed1, a1, b1, k1, rfl, hl1, hd1⟩ := for_inv (gf := gfName 4) (F := B__law_draws_1) (ds := (ns.map D.int).take 63) (n := 0)
      (ρ := [some (.lst (ns.map .int)), some (.int many), some (.lst []), some (.int 7), none, none, none])
      (P := fun m ρ => ∃ (ds' : List Int) (seed : Int) (a b c : Option D), ρ = [some (.lst (ns.map .int)), some (.int many), some (.lst (ds'.map .int)), some (.int seed), a, b, c] ∧ ds'.length ≤ 60 * m ∧ ∀ d ∈ ds', 0 ≤ d ∧ d < 65521)
      ⟨[], 7, none, none, none, rfl, by simp, by simp⟩ (fun i d hi ρ hp => by
        obtain ⟨ds1, seed, a, b, c, rfl, hl1, hd1⟩ := hp
        have hi2 := (List.getElem?_eq_some_iff.mp hi).1
        have hmem := List.mem_of_getElem? hi
        obtain ⟨z, hz, rfl⟩ := List.mem_map.mp (List.mem_of_mem_take hmem)
        simp at hi2
        obtain ⟨ds2, seed2, e2, hl2, hd2⟩ := dr_outer (.lst (ns.map .int)) many seed z b c none ds1 (by omega) hd1
        exact ⟨_, _, rfl, .inl e2, ds2, seed2, none, none, none, rfl, by omega, hd2⟩)
  have hl1' : ds1.length ≤ 60 * 63 := by
    simp at hl1
    omega
  obtain ⟨ρ2, e2, ds2, seed2, c2, rfl, hd2, hl2, hg2⟩ := for_inv (gf := gfName 6) (F := B__law_draws_3) (ds := (List.range many).map fun i => .int (i : Nat)) (n := 0)
      (ρ := [some (.lst (ns.map .int)), some (.int many), some (.lst (ds1.map .int)), some (.int seed1), none, none, none])
      (P := fun m ρ => ∃ (ds' : List Int) (seed : Int) (c : Option D), ρ = [some (.lst (ns.map .int)), some (.int many), some (.lst (ds'.map .int)), some (.int seed), none, none, c] ∧ (∀ d ∈ ds', 0 ≤ d ∧ d < 65521) ∧ ds'.length ≤ 60 * 63 + m ∧ (m ≤ ds'.length ∨ many ≤ ds'.length))
      ⟨ds1, seed1, none, rfl, hd1, by omega, .inl (by omega)⟩ (fun i d hi ρ hp => by
        obtain ⟨ds3, seed3, c3, rfl, hd3, hl3, hg3⟩ := hp
        have hi2 := (List.getElem?_eq_some_iff.mp hi).1
        simp at hi2
        have hd : d = .int (i : Nat) := by
          rw [List.getElem?_map, List.getElem?_range hi2] at hi
          exact (Option.some.inj hi).symm
        subst hd
        obtain ⟨ds4, seed4, e4, hd4, n4, y4⟩ := dr_more (.lst (ns.map .int)) many seed3 i ds3 (by omega) hd3
        refine ⟨_, _, rfl, .inl e4, ds4, seed4, none, rfl, hd4, ?_, ?_⟩
        · by_cases q : ds3.length < many
          · rw [y4 q]; omega
          · rw [n4 (by omega)]; omega
        · by_cases q : ds3.length < many
          · rw [y4 q]; omega
          · rw [n4 (by omega)]; omega)
  simp only [List.length_map, List.length_range, Nat.zero_add] at hl2 hg2
  refine ⟨ds2.take many, by simp; omega, fun d h => hd2 d (List.mem_of_mem_take h), ?_⟩
  have e0 := dRng1_nat many (by omega)
  have ec : cut (ns.map D.int) none (some 63) = (ns.map D.int).take 63 := cut_hi _ 63
  simp [C__law_draws, fnE, startE, F__law_draws, x_sFor, ec, e1, e0, e2, cut_hi]
/-- the draws as numbers from nought on -/
theorem drawsN (ns : List Int) (hn : ns.length ≤ 63) (many : Nat) (hm : many ≤ 1000) : ∃ ds : List Nat, ds.length = many ∧ (∀ d ∈ ds, d < 65521) ∧ C__law_draws [.lst (ns.map .int), .int many] = .ok (.lst (ds.map dN)) := by
  obtain ⟨ds, h1, h2, e⟩ := draws_ok ns hn many hm
  refine ⟨ds.map Int.toNat, by rw [List.length_map]; exact h1, fun d h => ?_, ?_⟩
  · obtain ⟨z, hz, rfl⟩ := List.mem_map.mp h
    have := h2 z hz
    omega
  · rw [e, List.map_map]
    congr 2
    refine List.map_congr_left fun z hz => ?_
    have := h2 z hz
    show D.int z = D.int ((z.toNat : Nat) : Int)
    rw [Int.toNat_of_nonneg this.1]
/-! ### patches, plain -/
abbrev Hunk := Int × List Nat × List Nat
abbrev Patch := List Hunk
def hEnd (h : Hunk) : Int := h.1 + h.2.1.length
def hDel (h : Hunk) : Int := (h.2.2.length : Int) - h.2.1.length
def Dl : Patch → Int → Int
  | [], _ => 0
  | h :: r, x => (if hEnd h < x then hDel h else 0) + Dl r x
def shf (Q P : Patch) : Patch := Q.map fun q => (q.1 + Dl P q.1, q.2)
def rev : Int → Patch → Patch
  | _, [] => []
  | m, h :: r => (h.1 + m, h.2.2, h.2.1) :: rev (m + hDel h) r
def Ap (q p : Hunk) : Prop := hEnd q < p.1 ∨ hEnd p < q.1
def Apart (Q P : Patch) : Prop := ∀ q ∈ Q, ∀ p ∈ P, Ap q p
def Ch : Int → Patch → Prop
  | _, [] => True
  | lo, h :: r => lo < h.1 ∧ Ch (hEnd h) r
def FreeL (P : Patch) (x : Int) : Prop := ∀ p ∈ P, hEnd p < x ∨ x ≤ p.1
theorem hEnd_ge (h : Hunk) : h.1 ≤ hEnd h := by unfold hEnd; omega
theorem Ch.mono : ∀ {P : Patch} {lo lo' : Int}, Ch lo P → lo' ≤ lo → Ch lo' P
  | [], _, _, _, _ => trivial
  | h :: r, lo, lo', c, hl => ⟨by have := c.1; omega, c.2⟩
theorem Ch.gt : ∀ {P : Patch} {lo : Int}, Ch lo P → ∀ p ∈ P, lo < p.1
  | h :: r, lo, c, p, hp => by
    rcases List.mem_cons.mp hp with rfl | hp
    · exact c.1
    · have := Ch.gt c.2 p hp
      have := hEnd_ge h
      have := c.1
      omega
theorem Dl_zero : ∀ {P : Patch} {lo x : Int}, Ch lo P → x ≤ lo + 1 → Dl P x = 0
  | [], _, _, _, _ => rfl
  | h :: r, lo, x, c, hx => by
    have h1 := hEnd_ge h
    have h2 := c.1
    rw [Dl, if_neg (by omega), Dl_zero c.2 (by omega)]
    rfl
theorem FreeL.tail {h : Hunk} {r : Patch} {x : Int} (f : FreeL (h :: r) x) : FreeL r x := fun p hp => f p (List.mem_cons_of_mem _ hp)
theorem free_lo {P : Patch} {lo : Int} (c : Ch lo P) : FreeL P lo := fun p hp => .inr (by have := c.gt p hp; omega)
theorem Dl_mono : ∀ {P : Patch} {lo x y : Int}, Ch lo P → FreeL P x → FreeL P y → x < y → x + Dl P x < y + Dl P y
  | [], _, x, y, _, _, _, h => by simpa [Dl] using h
  | p :: r, lo, x, y, c, fx, fy, h => by
    have ih := Dl_mono c.2 fx.tail fy.tail h
    have hx := fx p List.mem_cons_self
    have hy := fy p List.mem_cons_self
    have he := hEnd_ge p
    rw [Dl, Dl]
    by_cases h1 : hEnd p < x
    · rw [if_pos h1, if_pos (by omega)]
      omega
    · rw [if_neg h1]
      by_cases h2 : hEnd p < y
      · rw [if_pos h2]
        have hx : x ≤ p.1 := by omega
        have z : Dl r x = 0 := Dl_zero c.2 (by omega)
        have ih2 := Dl_mono c.2 (free_lo c.2) fy.tail h2
        have z2 : Dl r (hEnd p) = 0 := Dl_zero c.2 (by omega)
        have e1 : hEnd p = p.1 + p.2.1.length := rfl
        have e2 : hDel p = (p.2.2.length : Int) - p.2.1.length := rfl
        omega
      · rw [if_neg h2]
        omega
theorem Dl_apart : ∀ {P : Patch} {q : Hunk}, (∀ p ∈ P, Ap q p) → Dl P (hEnd q) = Dl P q.1
  | [], _, _ => rfl
  | p :: r, q, h => by
    have h1 := h p List.mem_cons_self
    have hq := hEnd_ge q
    have hp := hEnd_ge p
    rw [Dl, Dl, Dl_apart fun p hp => h p (List.mem_cons_of_mem _ hp)]
    congr 1
    rcases h1 with h1 | h1
    · rw [if_neg (by omega), if_neg (by omega)]
    · rw [if_pos (by omega), if_pos (by omega)]
theorem free_at {P : Patch} {q : Hunk} (h : ∀ p ∈ P, Ap q p) : FreeL P q.1 := fun p hp => by
  have h1 := h p hp
  have hq := hEnd_ge q
  rcases h1 with h1 | h1
  · right; omega
  · left; omega
theorem free_end {P : Patch} {q : Hunk} (h : ∀ p ∈ P, Ap q p) : FreeL P (hEnd q) := fun p hp => by
  have h1 := h p hp
  have hq := hEnd_ge q
  rcases h1 with h1 | h1
  · right; omega
  · left; omega
theorem shf_nil (P : Patch) : shf [] P = [] := rfl
theorem shf_cons (q : Hunk) (Q P : Patch) : shf (q :: Q) P = (q.1 + Dl P q.1, q.2) :: shf Q P := rfl
theorem hEnd_shift (q : Hunk) (m : Int) : hEnd (q.1 + m, q.2) = hEnd q + m := by unfold hEnd; dsimp only; omega
theorem hDel_shift (q : Hunk) (m : Int) : hDel (q.1 + m, q.2) = hDel q := rfl
theorem ch_shf {P : Patch} {b : Int} (cp : Ch b P) : ∀ {Q : Patch} {lo : Int}, Ch lo Q → FreeL P lo → Apart Q P → Ch (lo + Dl P lo) (shf Q P)
  | [], _, _, _, _ => trivial
  | q :: Q, lo, c, f, a => by
    have aq := a q List.mem_cons_self
    refine ⟨Dl_mono cp f (free_at aq) c.1, ?_⟩
    rw [hEnd_shift, ← Dl_apart aq]
    exact ch_shf cp c.2 (free_end aq) fun q hq => a q (List.mem_cons_of_mem _ hq)
theorem ch_rev : ∀ {P : Patch} {lo m : Int}, Ch lo P → Ch (lo + m) (rev m P)
  | [], _, _, _ => trivial
  | p :: r, lo, m, c => by
    refine ⟨by have := c.1; dsimp only; omega, ?_⟩
    have := ch_rev (m := m + hDel p) c.2
    refine this.mono ?_
    unfold hEnd hDel
    dsimp only
    omega
theorem rev_rev : ∀ (P : Patch) (m : Int), rev (-m) (rev m P) = P
  | [], _ => rfl
  | p :: r, m => by
    rw [rev, rev]
    have e : -m + hDel (p.1 + m, p.2.2, p.2.1) = -(m + hDel p) := by unfold hDel; dsimp only; omega
    rw [e, rev_rev r]
    congr 1
    have : p.1 + m + -m = p.1 := by omega
    dsimp only
    rw [this]
theorem rev_rev0 (P : Patch) : rev 0 (rev 0 P) = P := rev_rev P 0
theorem Dl_rev : ∀ {P : Patch} {lo x m : Int}, Ch lo P → FreeL P x → Dl (rev m P) (x + m + Dl P x) = - Dl P x
  | [], _, _, _, _, _ => rfl
  | p :: r, lo, x, m, c, f => by
    have hp := f p List.mem_cons_self
    have he := hEnd_ge p
    have e1 : hEnd p = p.1 + p.2.1.length := rfl
    have e2 : hDel p = (p.2.2.length : Int) - p.2.1.length := rfl
    have e3 : hEnd (p.1 + m, p.2.2, p.2.1) = p.1 + m + p.2.2.length := rfl
    have e4 : hDel (p.1 + m, p.2.2, p.2.1) = - hDel p := by unfold hDel; dsimp only; omega
    rw [rev, Dl, Dl]
    by_cases h1 : hEnd p < x
    · rw [if_pos h1]
      have ih := Dl_rev (m := m + hDel p) c.2 f.tail
      have hm := Dl_mono c.2 (free_lo c.2) f.tail h1
      rw [Dl_zero c.2 (by omega)] at hm
      rw [show x + m + (hDel p + Dl r x) = x + (m + hDel p) + Dl r x by omega, ih, if_pos (by omega), e4]
      omega
    · rw [if_neg h1]
      have hx : x ≤ p.1 := by omega
      have z : Dl r x = 0 := Dl_zero c.2 (by omega)
      rw [z, if_neg (by omega)]
      have cr := ch_rev (m := m + hDel p) c.2
      rw [Dl_zero cr (by omega)]
      rfl
theorem shf_rev {P : Patch} {lo : Int} (c : Ch lo P) : ∀ {Q : Patch}, Apart Q P → shf (shf Q P) (rev 0 P) = Q
  | [], _ => rfl
  | q :: Q, a => by
    have ih := shf_rev c (Q := Q) fun q hq => a q (List.mem_cons_of_mem _ hq)
    have e := Dl_rev (m := 0) c (free_at (a q List.mem_cons_self))
    rw [Int.add_zero] at e
    rw [shf_cons, shf_cons, ih]
    dsimp only
    rw [e]
    congr 1
    have : q.1 + Dl P q.1 + -Dl P q.1 = q.1 := by omega
    rw [this]
theorem apart_rev1 : ∀ {P : Patch} {lo m : Int} {q : Hunk}, Ch lo P → (∀ p ∈ P, Ap q p) → ∀ p' ∈ rev m P, Ap (q.1 + m + Dl P q.1, q.2) p'
  | p :: r, lo, m, q, c, a, p', hp' => by
    have hp := a p List.mem_cons_self
    have he := hEnd_ge p
    have hq := hEnd_ge q
    have e1 : hEnd p = p.1 + p.2.1.length := rfl
    have e2 : hDel p = (p.2.2.length : Int) - p.2.1.length := rfl
    have ar : ∀ p ∈ r, Ap q p := fun p hp => a p (List.mem_cons_of_mem _ hp)
    by_cases h1 : hEnd p < q.1
    · have ed : Dl (p :: r) q.1 = hDel p + Dl r q.1 := by rw [Dl, if_pos h1]
      rw [rev] at hp'
      rcases List.mem_cons.mp hp' with rfl | hp'
      · right
        have hm := Dl_mono c.2 (free_lo c.2) (free_at ar) h1
        rw [Dl_zero c.2 (by omega)] at hm
        have e3 : hEnd (p.1 + m, p.2.2, p.2.1) = p.1 + m + p.2.2.length := rfl
        rw [ed]
        dsimp only
        omega
      · have ih := apart_rev1 (m := m + hDel p) c.2 ar p' hp'
        rw [ed, show q.1 + m + (hDel p + Dl r q.1) = q.1 + (m + hDel p) + Dl r q.1 by omega]
        exact ih
    · have h2 : hEnd q < p.1 := by rcases hp with h | h <;> omega
      have ed : Dl (p :: r) q.1 = 0 := by rw [Dl, if_neg h1, Dl_zero c.2 (by omega)]; rfl
      left
      rw [ed, Int.add_zero, hEnd_shift]
      rw [rev] at hp'
      rcases List.mem_cons.mp hp' with rfl | hp'
      · dsimp only; omega
      · have := (ch_rev (m := m + hDel p) c.2).gt p' hp'
        omega
theorem apart_rev {P : Patch} {lo : Int} (c : Ch lo P) {Q : Patch} (a : Apart Q P) : Apart (shf Q P) (rev 0 P) := fun q' hq' p' hp' => by
  obtain ⟨q, hq, rfl⟩ := List.mem_map.mp hq'
  have := apart_rev1 (m := 0) c (a q hq) p' hp'
  rw [Int.add_zero] at this
  exact this
/-- the other way round: from behind to ahead -/
theorem back_apart {P : Patch} {lo : Int} (c : Ch lo P) {Q : Patch} (a : Apart Q (rev 0 P)) : Apart (shf Q (rev 0 P)) P := by
  have := apart_rev (ch_rev (m := 0) c) a
  rw [rev_rev0] at this
  exact this
theorem back_shf {P : Patch} {lo : Int} (c : Ch lo P) {Q : Patch} (a : Apart Q (rev 0 P)) : shf (shf Q (rev 0 P)) P = Q := by
  have := shf_rev (ch_rev (m := 0) c) a
  rw [rev_rev0] at this
  exact this
theorem Apart.symm {Q P : Patch} (a : Apart Q P) : Apart P Q := fun p hp q hq => by
  rcases a q hq p hp with h | h
  · exact .inr h
  · exact .inl h
theorem ch_shf0 {P Q : Patch} (cp : Ch (-1) P) (cq : Ch (-1) Q) (a : Apart Q P) : Ch (-1) (shf Q P) := by
  have := ch_shf cp cq (free_lo cp) a
  rw [Dl_zero cp (by omega)] at this
  exact this
theorem ch_rev0 {P : Patch} {lo : Int} (c : Ch lo P) : Ch lo (rev 0 P) := by
  have := ch_rev (m := 0) c
  rw [Int.add_zero] at this
  exact this
/-! ### what a patch makes of a text (s stands at the place b) -/
def app (s : List Nat) (b : Int) : Patch → List Nat
  | [] => s
  | h :: r => s.take (h.1 - b).toNat ++ (h.2.2 ++ app (s.drop (hEnd h - b).toNat) (hEnd h) r)
def Fit (s : List Nat) (b : Int) : Patch → Prop
  | [] => True
  | h :: r => b ≤ h.1 ∧ hEnd h - b ≤ s.length ∧ (s.drop (h.1 - b).toNat).take h.2.1.length = h.2.1 ∧ Fit (s.drop (hEnd h - b).toNat) (hEnd h) r
def mA (s : List Nat) (b : Int) : Patch → Patch → List Nat
  | [], Q => app s b Q
  | p :: P, [] => app s b (p :: P)
  | p :: P, q :: Q => if hEnd p < q.1 then s.take (p.1 - b).toNat ++ (p.2.2 ++ mA (s.drop (hEnd p - b).toNat) (hEnd p) P (q :: Q)) else s.take (q.1 - b).toNat ++ (q.2.2 ++ mA (s.drop (hEnd q - b).toNat) (hEnd q) (p :: P) Q)
termination_by P Q => P.length + Q.length
theorem mA_symm : ∀ (P Q : Patch) (s : List Nat) (b : Int), Apart Q P → mA s b P Q = mA s b Q P
  | [], [], s, b, _ => by rw [mA]
  | [], q :: Q, s, b, _ => by rw [mA, mA]
  | p :: P, [], s, b, _ => by rw [mA, mA]
  | p :: P, q :: Q, s, b, a => by
    have h := a q List.mem_cons_self p List.mem_cons_self
    have hp := hEnd_ge p
    have hq := hEnd_ge q
    rw [mA, mA]
    by_cases h1 : hEnd p < q.1
    · rw [if_pos h1, if_neg (by omega), mA_symm P (q :: Q) _ _ fun x hx y hy => a x hx y (List.mem_cons_of_mem _ hy)]
    · have h2 : hEnd q < p.1 := by rcases h with h | h <;> omega
      rw [if_neg h1, if_pos h2, mA_symm (p :: P) Q _ _ fun x hx y hy => a x (List.mem_cons_of_mem _ hx) y hy]
termination_by P Q => P.length + Q.length
def mv (c : Int) (Q P : Patch) : Patch := Q.map fun q => (q.1 + c + Dl P q.1, q.2)
theorem app_pre : ∀ (Q : Patch) (A S : List Nat) (b : Int), Ch (b + A.length - 1) Q → app (A ++ S) b Q = A ++ app S (b + A.length) Q
  | [], A, S, b, _ => rfl
  | q :: Q, A, S, b, c => by
    have h1 := c.1
    have hq := hEnd_ge q
    rw [app, app]
    have e1 : (q.1 - b).toNat = A.length + (q.1 - (b + A.length)).toNat := by omega
    have e2 : (hEnd q - b).toNat = A.length + (hEnd q - (b + A.length)).toNat := by omega
    rw [e1, e2, List.take_length_add_append, List.drop_length_add_append, List.append_assoc]
theorem fit_pre : ∀ (Q : Patch) (A S : List Nat) (b : Int), Ch (b + A.length - 1) Q → Fit S (b + A.length) Q → Fit (A ++ S) b Q
  | [], A, S, b, _, _ => trivial
  | q :: Q, A, S, b, c, f => by
    have h1 := c.1
    have hq := hEnd_ge q
    obtain ⟨f1, f2, f3, f4⟩ := f
    have e1 : (q.1 - b).toNat = A.length + (q.1 - (b + A.length)).toNat := by omega
    have e2 : (hEnd q - b).toNat = A.length + (hEnd q - (b + A.length)).toNat := by omega
    refine ⟨by omega, by rw [List.length_append]; omega, ?_, ?_⟩
    · rw [e1, List.drop_length_add_append]; exact f3
    · rw [e2, List.drop_length_add_append]; exact f4
theorem app_mv : ∀ (Q : Patch) (s : List Nat) (b c : Int), app s (b + c) (mv c Q []) = app s b Q
  | [], _, _, _ => rfl
  | q :: Q, s, b, c => by
    have ih := app_mv Q (s.drop (hEnd q - b).toNat) (hEnd q) c
    have e : mv c (q :: Q) [] = (q.1 + c + 0, q.2) :: mv c Q [] := rfl
    rw [e, app, app, Int.add_zero, hEnd_shift]
    rw [show (q.1 + c, q.2).1 - (b + c) = q.1 - b by dsimp only; omega, show hEnd q + c - (b + c) = hEnd q - b by omega, ih]
theorem fit_mv : ∀ (Q : Patch) (s : List Nat) (b c : Int), Fit s b Q → Fit s (b + c) (mv c Q [])
  | [], _, _, _, _ => trivial
  | q :: Q, s, b, c, f => by
    obtain ⟨f1, f2, f3, f4⟩ := f
    have ih := fit_mv Q (s.drop (hEnd q - b).toNat) (hEnd q) c f4
    have e : mv c (q :: Q) [] = (q.1 + c + 0, q.2) :: mv c Q [] := rfl
    rw [e, Int.add_zero]
    refine ⟨by dsimp only; omega, ?_, ?_, ?_⟩
    · rw [hEnd_shift]; omega
    · rw [show (q.1 + c, q.2).1 - (b + c) = q.1 - b by dsimp only; omega]; exact f3
    · rw [hEnd_shift, show hEnd q + c - (b + c) = hEnd q - b by omega]; exact ih
theorem mv_tail {c : Int} {p : Hunk} {P Q : Patch} {lo : Int} (h : ∀ q ∈ Q, hEnd p < q.1) : mv c Q (p :: P) = mv (c + hDel p) Q P := by
  unfold mv
  refine List.map_congr_left fun q hq => ?_
  rw [Dl, if_pos (h q hq), show q.1 + c + (hDel p + Dl P q.1) = q.1 + (c + hDel p) + Dl P q.1 by omega]
theorem ch_mv {P : Patch} {b : Int} (cp : Ch b P) {Q : Patch} {lo c : Int} (cq : Ch lo Q) (f : FreeL P lo) (a : Apart Q P) : Ch (lo + c + Dl P lo) (mv c Q P) := by
  have h := ch_shf cp cq f a
  have e : mv c Q P = (shf Q P).map fun q => (q.1 + c, q.2) := by
    unfold mv shf
    rw [List.map_map]
    refine List.map_congr_left fun q hq => ?_
    show (q.1 + c + Dl P q.1, q.2) = (q.1 + Dl P q.1 + c, q.2)
    rw [show q.1 + c + Dl P q.1 = q.1 + Dl P q.1 + c by omega]
  have key : ∀ (R : Patch) (x : Int), Ch x R → Ch (x + c) (R.map fun q => (q.1 + c, q.2)) := fun R => by
    induction R with
    | nil => exact fun _ _ => trivial
    | cons r R ih =>
      intro x hc
      exact ⟨by have := hc.1; dsimp only; omega, by rw [hEnd_shift]; exact ih _ hc.2⟩
  rw [e]
  exact (key _ _ h).mono (by omega)
theorem both : ∀ (P Q : Patch) (s : List Nat) (b c : Int), Ch (b - 1) P → Ch (b - 1) Q → Apart Q P → Fit s b P → Fit s b Q → Fit (app s b P) (b + c) (mv c Q P) ∧ app (app s b P) (b + c) (mv c Q P) = mA s b P Q
  | [], Q, s, b, c, cp, cq, a, fp, fq => ⟨fit_mv Q s b c fq, by rw [app, app_mv, mA]⟩
  | p :: P, [], s, b, c, cp, cq, a, fp, fq => ⟨trivial, by rw [mA]; rfl⟩
  | p :: P, q :: Q, s, b, c, cp, cq, a, fp, fq => by
    have hap := a q List.mem_cons_self p List.mem_cons_self
    have hp := hEnd_ge p
    have hq := hEnd_ge q
    have e1 : hEnd p = p.1 + p.2.1.length := rfl
    have e2 : hDel p = (p.2.2.length : Int) - p.2.1.length := rfl
    obtain ⟨fp1, fp2, fp3, fp4⟩ := fp
    obtain ⟨fq1, fq2, fq3, fq4⟩ := id fq
    by_cases h1 : hEnd p < q.1
    · -- p is ahead
      have hall : ∀ x ∈ q :: Q, hEnd p < x.1 := fun x hx => by
        rcases List.mem_cons.mp hx with rfl | hx
        · exact h1
        · have := cq.2.gt x hx; omega
      have aP : Apart (q :: Q) P := fun x hx y hy => a x hx y (List.mem_cons_of_mem _ hy)
      have cq' : Ch (hEnd p - 1) (q :: Q) := ⟨by omega, cq.2⟩
      have fq' : Fit (s.drop (hEnd p - b).toNat) (hEnd p) (q :: Q) := by
        refine ⟨by omega, by rw [List.length_drop]; omega, ?_, ?_⟩
        · rw [List.drop_drop, show (hEnd p - b).toNat + (q.1 - hEnd p).toNat = (q.1 - b).toNat by omega]; exact fq3
        · rw [List.drop_drop, show (hEnd p - b).toNat + (hEnd q - hEnd p).toNat = (hEnd q - b).toNat by omega]; exact fq4
      obtain ⟨i1, i2⟩ := both P (q :: Q) (s.drop (hEnd p - b).toNat) (hEnd p) (c + hDel p) (cp.2.mono (by omega)) cq' aP fp4 fq'
      have ht : (s.take (p.1 - b).toNat).length = (p.1 - b).toNat := by rw [List.length_take]; omega
      have hA : ((s.take (p.1 - b).toNat ++ p.2.2).length : Int) = p.1 - b + p.2.2.length := by rw [List.length_append, ht]; omega
      have hb : b + c + ((s.take (p.1 - b).toNat ++ p.2.2).length : Int) = hEnd p + (c + hDel p) := by rw [hA]; omega
      have cm : Ch (hEnd p + (c + hDel p) - 1) (mv (c + hDel p) (q :: Q) P) := by
        have cq2 : Ch (hEnd p) (q :: Q) := ⟨h1, cq.2⟩
        have := ch_mv (c := c + hDel p) cp.2 cq2 (free_lo cp.2) aP
        rw [Dl_zero cp.2 (by omega)] at this
        exact this.mono (by omega)
      rw [mv_tail (lo := 0) hall, app, ← List.append_assoc]
      rw [mA, if_pos h1]
      constructor
      · refine fit_pre _ _ _ _ (by rw [hb]; exact cm) (by rw [hb]; exact i1)
      · rw [app_pre _ _ _ _ (by rw [hb]; exact cm), hb, i2, List.append_assoc]
    · -- q is ahead
      have h2 : hEnd q < p.1 := by rcases hap with h | h <;> omega
      have hz : Dl (p :: P) q.1 = 0 := by
        rw [Dl, if_neg h1, Dl_zero cp.2 (by omega)]; rfl
      have aQ : Apart Q (p :: P) := fun x hx y hy => a x (List.mem_cons_of_mem _ hx) y hy
      have cp' : Ch (hEnd q - 1) (p :: P) := ⟨by omega, cp.2⟩
      have fp' : Fit (s.drop (hEnd q - b).toNat) (hEnd q) (p :: P) := by
        refine ⟨by omega, by rw [List.length_drop]; omega, ?_, ?_⟩
        · rw [List.drop_drop, show (hEnd q - b).toNat + (p.1 - hEnd q).toNat = (p.1 - b).toNat by omega]; exact fp3
        · rw [List.drop_drop, show (hEnd q - b).toNat + (hEnd p - hEnd q).toNat = (hEnd p - b).toNat by omega]; exact fp4
      obtain ⟨i1, i2⟩ := both (p :: P) Q (s.drop (hEnd q - b).toNat) (hEnd q) c cp' (cq.2.mono (by omega)) aQ fp' fq4
      have em : mv c (q :: Q) (p :: P) = (q.1 + c, q.2) :: mv c Q (p :: P) := by
        show (q.1 + c + Dl (p :: P) q.1, q.2) :: _ = _
        rw [hz, Int.add_zero]
        rfl
      have ht : (s.take (p.1 - b).toNat).length = (p.1 - b).toNat := by rw [List.length_take]; omega
      have ea : app s b (p :: P) = s.take (hEnd q - b).toNat ++ app (s.drop (hEnd q - b).toNat) (hEnd q) (p :: P) := by
        rw [app, app, List.drop_drop, show (hEnd q - b).toNat + (hEnd p - hEnd q).toNat = (hEnd p - b).toNat by omega, show (p.1 - b).toNat = (hEnd q - b).toNat + (p.1 - hEnd q).toNat by omega, List.take_add, List.append_assoc]
      have hl : (s.take (hEnd q - b).toNat).length = (hEnd q - b).toNat := by rw [List.length_take]; omega
      have d1 : ∀ S : List Nat, (s.take (hEnd q - b).toNat ++ S).drop (hEnd q - b).toNat = S := fun S => by
        have := List.drop_left (l₁ := s.take (hEnd q - b).toNat) (l₂ := S)
        rw [hl] at this
        exact this
      have d2 : ∀ S : List Nat, (s.take (hEnd q - b).toNat ++ S).take (q.1 - b).toNat = s.take (q.1 - b).toNat := fun S => by
        rw [List.take_append_of_le_length (by rw [hl]; omega), List.take_take]
        congr 1
        omega
      have d3 : ∀ S : List Nat, ((s.take (hEnd q - b).toNat ++ S).drop (q.1 - b).toNat).take q.2.1.length = q.2.1 := fun S => by
        have e : hEnd q = q.1 + q.2.1.length := rfl
        rw [List.drop_append_of_le_length (by rw [hl]; omega), List.take_append_of_le_length (by rw [List.length_drop, hl]; omega), List.drop_take, List.take_take]
        rw [show min q.2.1.length ((hEnd q - b).toNat - (q.1 - b).toNat) = q.2.1.length by omega]
        exact fq3
      rw [em, mA, if_neg h1, ea]
      constructor
      · refine ⟨by dsimp only; omega, ?_, ?_, ?_⟩
        · rw [hEnd_shift, List.length_append, hl]; omega
        · rw [show (q.1 + c, q.2).1 - (b + c) = q.1 - b by dsimp only; omega]; exact d3 _
        · rw [hEnd_shift, show hEnd q + c - (b + c) = hEnd q - b by omega, d1]; exact i1
      · rw [app, hEnd_shift, show (q.1 + c, q.2).1 - (b + c) = q.1 - b by dsimp only; omega, show hEnd q + c - (b + c) = hEnd q - b by omega, d1, d2, i2]
termination_by P Q => P.length + Q.length
theorem mv0 (Q P : Patch) : mv 0 Q P = shf Q P := by
  unfold mv shf
  refine List.map_congr_left fun q _ => ?_
  rw [Int.add_zero]
/-- two patches of one text, apart: each behind the other one fits, and both ways lead to one text -/
theorem diamond {P Q : Patch} {t : List Nat} (cp : Ch (-1) P) (cq : Ch (-1) Q) (a : Apart Q P) (fp : Fit t 0 P) (fq : Fit t 0 Q) : Fit (app t 0 P) 0 (shf Q P) ∧ app (app t 0 P) 0 (shf Q P) = app (app t 0 Q) 0 (shf P Q) := by
  obtain ⟨f1, e1⟩ := both P Q t 0 0 cp cq a fp fq
  obtain ⟨f2, e2⟩ := both Q P t 0 0 cq cp a.symm fq fp
  rw [mv0, Int.add_zero] at f1 e1 e2
  exact ⟨f1, by rw [e1, e2, mA_symm P Q t 0 a]⟩
/-! ### patches as the program's data -/
abbrev lnD (c : Nat) : D := .str (sOf [c])
abbrev txD (t : List Nat) : D := .tup (t.map lnD)
abbrev hkD (h : Hunk) : D := .tup [.int h.1, txD h.2.1, txD h.2.2]
abbrev ptD (P : Patch) : D := .tup (P.map hkD)
def LOk (t : List Nat) : Prop := ∀ c ∈ t, 97 ≤ c ∧ c ≤ 122
structure Vp (P : Patch) : Prop where
  ch : Ch (-1) P
  ne : ∀ h ∈ P, h.2.1 ≠ h.2.2
  ln : ∀ h ∈ P, LOk h.2.1 ∧ LOk h.2.2
  sz : ∀ h ∈ P, h.2.1.length ≤ 100 ∧ h.2.2.length ≤ 100
  few : P.length ≤ 100
theorem Vp.shf {Q P : Patch} (q : Vp Q) (p : Vp P) (a : Apart Q P) : Vp (shf Q P) := by
  refine ⟨ch_shf0 p.ch q.ch a, fun h hh => ?_, fun h hh => ?_, fun h hh => ?_, by unfold K.shf; rw [List.length_map]; exact q.few⟩ <;>
  obtain ⟨x, hx, rfl⟩ := List.mem_map.mp hh
  · exact q.ne x hx
  · exact q.ln x hx
  · exact q.sz x hx
theorem mem_rev : ∀ {P : Patch} {m : Int} {h : Hunk}, h ∈ rev m P → ∃ x ∈ P, h.2 = (x.2.2, x.2.1)
  | p :: r, m, h, hh => by
    rw [rev] at hh
    rcases List.mem_cons.mp hh with rfl | hh
    · exact ⟨p, List.mem_cons_self, rfl⟩
    · obtain ⟨x, hx, e⟩ := mem_rev hh
      exact ⟨x, List.mem_cons_of_mem _ hx, e⟩
theorem rev_len : ∀ (P : Patch) (m : Int), (rev m P).length = P.length
  | [], _ => rfl
  | p :: r, m => by rw [rev, List.length_cons, rev_len r, List.length_cons]
theorem Vp.rev {P : Patch} (p : Vp P) : Vp (rev 0 P) := by
  refine ⟨ch_rev0 p.ch, fun h hh => ?_, fun h hh => ?_, fun h hh => ?_, by rw [rev_len]; exact p.few⟩ <;>
  obtain ⟨x, hx, e⟩ := mem_rev hh <;> rw [e]
  · exact fun z => p.ne x hx z.symm
  · exact ⟨(p.ln x hx).2, (p.ln x hx).1⟩
  · exact ⟨(p.sz x hx).2, (p.sz x hx).1⟩
theorem ln_nl {c : Nat} (h : 97 ≤ c ∧ c ≤ 122) : dNotIn (.str "\n") (lnD c) = .ok (.bl true) := by
  rw [show (("\n" : Str)) = sOf [10] by decide +kernel, s_notIn, decide_eq_false]
  · rfl
  · intro q
    have := List.mem_singleton.mp q
    omega
theorem isline_ok {c : Nat} (h : 97 ≤ c ∧ c ≤ 122) : C_is_line [lnD c] = .ok (.bl true) := by
  simp [C_is_line, fnE, startE, F_is_line, ln_nl h]
theorem istext_ok {t : List Nat} (h : LOk t) : C_is_text [txD t] = .ok (.bl true) := by
  have hb := lc_fun (gf := gfName 1) (f := eCall C_is_line (aCons (eVar 1) aNil)) (ρ := [some (txD t), none]) (e := lnD) (g := fun _ => .bl true) (xs := t) fun c hc => ⟨_, rfl, by simp [isline_ok (h c hc)]⟩
  simp [C_is_text, fnE, startE, F_is_text, eLc, hb]
theorem whole_ok {i : Int} (h : 0 ≤ i) : C_is_whole [.int i] = .ok (.bl true) := by
  simp [C_is_whole, fnE, startE, F_is_whole, h]
theorem ln_okN {k c : Nat} (h : 97 ≤ c ∧ c ≤ 122) : okN k (lnD c) = true := by
  rw [ok_str, s_ok]
  simp
  omega
theorem tx_okN {k : Nat} {t : List Nat} (h : LOk t) : okN (k + 1) (txD t) = true := okN_tup fun x hx => by
  obtain ⟨c, hc, rfl⟩ := List.mem_map.mp hx
  exact ln_okN (h c hc)
theorem tx_eqD (a b : List Nat) : eqD (txD a) (txD b) = decide (a = b) := by
  rw [eqD, eqDL_map (f := lnD)]
  intro x y
  rw [s_eqD]
  simp
theorem tx_ne {a b : List Nat} (ha : LOk a) (hb : LOk b) : dNe (txD a) (txD b) = .ok (.bl (!decide (a = b))) := by
  unfold dNe
  rw [tx_okN ha, tx_okN hb, tx_eqD]
  rfl
theorem tx_eq {a b : List Nat} (ha : LOk a) (hb : LOk b) : dEq (txD a) (txD b) = .ok (.bl (decide (a = b))) := by
  unfold dEq
  rw [tx_okN ha, tx_okN hb, tx_eqD]
  rfl
theorem hk0 (h : Hunk) : dIx (hkD h) (.int 0) = .ok (.int h.1) := rfl
theorem hk1 (h : Hunk) : dIx (hkD h) (.int 1) = .ok (txD h.2.1) := rfl
theorem hk2 (h : Hunk) : dIx (hkD h) (.int 2) = .ok (txD h.2.2) := rfl
theorem hk_len (h : Hunk) : fLen [hkD h] = .ok (.int 3) := rfl
theorem tx_len (t : List Nat) : fLen [txD t] = .ok (.int t.length) := by rw [x_len_t, List.length_map]
theorem ishunk_ok {h : Hunk} (h0 : 0 ≤ h.1) (h1 : LOk h.2.1) (h2 : LOk h.2.2) (hn : h.2.1 ≠ h.2.2) : C__is_hunk [hkD h] = .ok (.bl true) := by
  have e := tx_ne h1 h2
  rw [decide_eq_false hn] at e
  have z : (((3 : Nat) : Int) == 3) = true := rfl
  simp only [sSeq_x, x_sSet, x_sIf, x_sRet, x_sRetN, x_sPar, x_sUnp, resF_ok, x_sDrop, x_sNext, x_sBreak, x_sCont, x_sRaise, x_sAug, augK_ok, x_sFor, x_sWhile, sKill_x, x_wipe0, x_wipe1, x_evL0, x_evL1, x_setL0, x_setL1, x_eVar, x_eC, x_eOp, x_eUn, x_eCall, x_eMS, x_asStr, x_aNil, x_aCons, x_eTup, x_eLst, x_eIf, x_eNot, x_eAnd, x_eOr, x_bAnd, x_bOr, x_bNot, x_bYes, x_eSl, x_oNone, x_oSome, asI_int, x_iSeq, x_iCall, x_gfName, x_gfTup, eLc, noX_is, Res.bind_ok, Res.bind_exc, flow_ok, flow_exc, seqK_next, seqK_ret, seqK_exc, seqK_brk, seqK_cont, loopK_next, loopK_cont, loopK_brk, loopK_ret, loopK_exc, must_ok, List.set_cons_succ, List.set_cons_zero, List.getD_cons_succ, List.getD_cons_zero, vD_some, if_true, if_false, Bool.false_eq_true, reduceIte, List.map_cons, List.map_nil, List.length_cons, List.length_nil, List.cons_append, List.nil_append, List.replicate, Nat.reduceSub, Nat.reduceAdd, x_add, x_sub, x_cmp, x_eq_ii, x_ne_ii, x_int_i, x_len_t, x_len_l, x_tup_l, x_tup_t, x_list_l, x_list_t, x_dSl_t, x_dSl_l, x_items_t, x_items_l, x_tru_n, x_tru_b, x_tru_i, x_tru_t, x_tru_l, x_asB, x_is_n, x_isNot_n, isNon_n, isNon_i, isNon_s, isNon_t, isNon_l, isNon_b, Bool.not_true, Bool.not_false, List.length_map, fnE, startE, C__is_hunk, F__is_hunk, isi_t, k_tt, hk_len, hk0, hk1, hk2, whole_ok h0, istext_ok h1, istext_ok h2, e, z]
theorem hk_okN {k : Nat} {h : Hunk} (h1 : LOk h.2.1) (h2 : LOk h.2.2) : okN (k + 2) (hkD h) = true := okN_tup fun x hx => by
  rcases List.mem_cons.mp hx with rfl | hx
  · exact ok_int _ _
  · rcases List.mem_cons.mp hx with rfl | hx
    · exact tx_okN h1
    · rw [List.mem_singleton.mp hx]
      exact tx_okN h2
theorem pt_okN {k : Nat} {P : Patch} (p : Vp P) : okN (k + 3) (ptD P) = true := okN_tup fun x hx => by
  obtain ⟨h, hh, rfl⟩ := List.mem_map.mp hx
  exact hk_okN (p.ln h hh).1 (p.ln h hh).2
theorem ch_zip : ∀ {P : Patch} {lo : Int}, Ch lo P → ∀ p ∈ P.zip (P.drop 1), hEnd p.1 < p.2.1
  | [], _, _, p, h => by simp at h
  | [a], _, _, p, h => by simp at h
  | a :: b :: r, lo, c, p, h => by
    have h : p ∈ (a, b) :: (b :: r).zip ((b :: r).drop 1) := h
    rcases List.mem_cons.mp h with rfl | h
    · exact c.2.1
    · exact ch_zip c.2 p h
theorem ispatch_ok {P : Patch} (p : Vp P) : C_is_patch [ptD P] = .ok (.bl true) := by
  have h1 := lc_fun (gf := gfName 1) (f := eCall C__is_hunk (aCons (eVar 1) aNil)) (ρ := [some (ptD P), none, none]) (e := hkD) (g := fun _ => .bl true) (xs := P) fun h hh => ⟨_, rfl, by
    have := p.ch.gt h hh
    simp [ishunk_ok (by omega) (p.ln h hh).1 (p.ln h hh).2 (p.ne h hh)]⟩
  have h2 := lc_fun (gf := gfTup [1, 2]) (f := eOp (dCmpI iLt) (eOp dAdd (eOp dIx (eVar 1) (eC (.int 0))) (eCall fLen (aCons (eOp dIx (eVar 1) (eC (.int 1))) aNil))) (eOp dIx (eVar 2) (eC (.int 0)))) (ρ := [some (ptD P), none, none]) (e := fun p : Hunk × Hunk => .tup [hkD p.1, hkD p.2]) (g := fun _ => .bl true) (xs := P.zip (P.drop 1)) fun q hq => ⟨_, rfl, by
    have := ch_zip p.ch q hq
    have e : iLt (q.1.1 + (q.1.2.1.length : Int)) q.2.1 = true := decide_eq_true this
    simp only [sSeq_x, x_sSet, x_sIf, x_sRet, x_sRetN, x_sPar, x_sUnp, resF_ok, x_sDrop, x_sNext, x_sBreak, x_sCont, x_sRaise, x_sAug, augK_ok, x_sFor, x_sWhile, sKill_x, x_wipe0, x_wipe1, x_evL0, x_evL1, x_setL0, x_setL1, x_eVar, x_eC, x_eOp, x_eUn, x_eCall, x_eMS, x_asStr, x_aNil, x_aCons, x_eTup, x_eLst, x_eIf, x_eNot, x_eAnd, x_eOr, x_bAnd, x_bOr, x_bNot, x_bYes, x_eSl, x_oNone, x_oSome, asI_int, x_iSeq, x_iCall, x_gfName, x_gfTup, eLc, noX_is, Res.bind_ok, Res.bind_exc, flow_ok, flow_exc, seqK_next, seqK_ret, seqK_exc, seqK_brk, seqK_cont, loopK_next, loopK_cont, loopK_brk, loopK_ret, loopK_exc, must_ok, List.set_cons_succ, List.set_cons_zero, List.getD_cons_succ, List.getD_cons_zero, vD_some, if_true, if_false, Bool.false_eq_true, reduceIte, List.map_cons, List.map_nil, List.length_cons, List.length_nil, List.cons_append, List.nil_append, List.replicate, Nat.reduceSub, Nat.reduceAdd, x_add, x_sub, x_cmp, x_eq_ii, x_ne_ii, x_int_i, x_len_t, x_len_l, x_tup_l, x_tup_t, x_list_l, x_list_t, x_dSl_t, x_dSl_l, x_items_t, x_items_l, x_tru_n, x_tru_b, x_tru_i, x_tru_t, x_tru_l, x_asB, x_is_n, x_isNot_n, isNon_n, isNon_i, isNon_s, isNon_t, isNon_l, isNon_b, Bool.not_true, Bool.not_false, List.length_map, fnE, startE, hk0, hk1, tx_len, e]⟩
  have ez : zipL (P.map hkD) ((P.drop 1).map hkD) = (P.zip (P.drop 1)).map fun p : Hunk × Hunk => D.tup [hkD p.1, hkD p.2] := by
    unfold zipL
    rw [List.zip_map, List.map_map]
    rfl
  have ec : cut (P.map hkD) (some 1) none = (P.drop 1).map hkD := by
    rw [List.map_drop]
    exact cut_lo (P.map hkD) 1
  have t1 : ∀ (α : Type) (xs : List α), fAll [.lst (xs.map fun _ => D.bl true)] = .ok (.bl true) := fun α xs => by
    rw [x_all_f (fun _ => true) xs]
    simp
  simp only [sSeq_x, x_sSet, x_sIf, x_sRet, x_sRetN, x_sPar, x_sUnp, resF_ok, x_sDrop, x_sNext, x_sBreak, x_sCont, x_sRaise, x_sAug, augK_ok, x_sFor, x_sWhile, sKill_x, x_wipe0, x_wipe1, x_evL0, x_evL1, x_setL0, x_setL1, x_eVar, x_eC, x_eOp, x_eUn, x_eCall, x_eMS, x_asStr, x_aNil, x_aCons, x_eTup, x_eLst, x_eIf, x_eNot, x_eAnd, x_eOr, x_bAnd, x_bOr, x_bNot, x_bYes, x_eSl, x_oNone, x_oSome, asI_int, x_iSeq, x_iCall, x_gfName, x_gfTup, eLc, noX_is, Res.bind_ok, Res.bind_exc, flow_ok, flow_exc, seqK_next, seqK_ret, seqK_exc, seqK_brk, seqK_cont, loopK_next, loopK_cont, loopK_brk, loopK_ret, loopK_exc, must_ok, List.set_cons_succ, List.set_cons_zero, List.getD_cons_succ, List.getD_cons_zero, vD_some, if_true, if_false, Bool.false_eq_true, reduceIte, List.map_cons, List.map_nil, List.length_cons, List.length_nil, List.cons_append, List.nil_append, List.replicate, Nat.reduceSub, Nat.reduceAdd, x_add, x_sub, x_cmp, x_eq_ii, x_ne_ii, x_int_i, x_len_t, x_len_l, x_tup_l, x_tup_t, x_list_l, x_list_t, x_dSl_t, x_dSl_l, x_items_t, x_items_l, x_tru_n, x_tru_b, x_tru_i, x_tru_t, x_tru_l, x_asB, x_is_n, x_isNot_n, isNon_n, isNon_i, isNon_s, isNon_t, isNon_l, isNon_b, Bool.not_true, Bool.not_false, List.length_map, fnE, startE, C_is_patch, F_is_patch, isi_t, k_tt, h1, t1, ec, x_dZip, ez, h2]
theorem chpt_ok {P : Patch} (p : Vp P) : C_check_patches [.lst [ptD P]] = .ok .non := by
  have hb := lc_fun (gf := gfName 1) (f := eCall C_is_patch (aCons (eVar 1) aNil)) (ρ := [some (.lst [ptD P]), none]) (e := ptD) (g := fun _ => .bl true) (xs := [P]) fun x hx => ⟨_, rfl, by
    rw [List.mem_singleton.mp hx]
    simp [ispatch_ok p]⟩
  have e := x_all [true]
  simp only [List.map_cons, List.map_nil, List.all_cons, List.all_nil, Bool.and_true] at e hb
  simp only [sSeq_x, x_sSet, x_sIf, x_sRet, x_sRetN, x_sPar, x_sUnp, resF_ok, x_sDrop, x_sNext, x_sBreak, x_sCont, x_sRaise, x_sAug, augK_ok, x_sFor, x_sWhile, sKill_x, x_wipe0, x_wipe1, x_evL0, x_evL1, x_setL0, x_setL1, x_eVar, x_eC, x_eOp, x_eUn, x_eCall, x_eMS, x_asStr, x_aNil, x_aCons, x_eTup, x_eLst, x_eIf, x_eNot, x_eAnd, x_eOr, x_bAnd, x_bOr, x_bNot, x_bYes, x_eSl, x_oNone, x_oSome, asI_int, x_iSeq, x_iCall, x_gfName, x_gfTup, eLc, noX_is, Res.bind_ok, Res.bind_exc, flow_ok, flow_exc, seqK_next, seqK_ret, seqK_exc, seqK_brk, seqK_cont, loopK_next, loopK_cont, loopK_brk, loopK_ret, loopK_exc, must_ok, List.set_cons_succ, List.set_cons_zero, List.getD_cons_succ, List.getD_cons_zero, vD_some, if_true, if_false, Bool.false_eq_true, reduceIte, List.map_cons, List.map_nil, List.length_cons, List.length_nil, List.cons_append, List.nil_append, List.replicate, Nat.reduceSub, Nat.reduceAdd, x_add, x_sub, x_cmp, x_eq_ii, x_ne_ii, x_int_i, x_len_t, x_len_l, x_tup_l, x_tup_t, x_list_l, x_list_t, x_dSl_t, x_dSl_l, x_items_t, x_items_l, x_tru_n, x_tru_b, x_tru_i, x_tru_t, x_tru_l, x_asB, x_is_n, x_isNot_n, isNon_n, isNon_i, isNon_s, isNon_t, isNon_l, isNon_b, Bool.not_true, Bool.not_false, List.length_map, fnE, startE, C_check_patches, F_check_patches, hb, e]
theorem chpt2_ok {P Q : Patch} (p : Vp P) (q : Vp Q) : C_check_patches [.lst [ptD P, ptD Q]] = .ok .non := by
  have hb := lc_fun (gf := gfName 1) (f := eCall C_is_patch (aCons (eVar 1) aNil)) (ρ := [some (.lst [ptD P, ptD Q]), none]) (e := ptD) (g := fun _ => .bl true) (xs := [P, Q]) fun x hx => ⟨_, rfl, by
    rcases List.mem_cons.mp hx with rfl | hx
    · simp [ispatch_ok p]
    · rw [List.mem_singleton.mp hx]
      simp [ispatch_ok q]⟩
  have e := x_all [true, true]
  simp only [List.map_cons, List.map_nil, List.all_cons, List.all_nil, Bool.and_true] at e hb
  simp only [sSeq_x, x_sSet, x_sIf, x_sRet, x_sRetN, x_sPar, x_sUnp, resF_ok, x_sDrop, x_sNext, x_sBreak, x_sCont, x_sRaise, x_sAug, augK_ok, x_sFor, x_sWhile, sKill_x, x_wipe0, x_wipe1, x_evL0, x_evL1, x_setL0, x_setL1, x_eVar, x_eC, x_eOp, x_eUn, x_eCall, x_eMS, x_asStr, x_aNil, x_aCons, x_eTup, x_eLst, x_eIf, x_eNot, x_eAnd, x_eOr, x_bAnd, x_bOr, x_bNot, x_bYes, x_eSl, x_oNone, x_oSome, asI_int, x_iSeq, x_iCall, x_gfName, x_gfTup, eLc, noX_is, Res.bind_ok, Res.bind_exc, flow_ok, flow_exc, seqK_next, seqK_ret, seqK_exc, seqK_brk, seqK_cont, loopK_next, loopK_cont, loopK_brk, loopK_ret, loopK_exc, must_ok, List.set_cons_succ, List.set_cons_zero, List.getD_cons_succ, List.getD_cons_zero, vD_some, if_true, if_false, Bool.false_eq_true, reduceIte, List.map_cons, List.map_nil, List.length_cons, List.length_nil, List.cons_append, List.nil_append, List.replicate, Nat.reduceSub, Nat.reduceAdd, x_add, x_sub, x_cmp, x_eq_ii, x_ne_ii, x_int_i, x_len_t, x_len_l, x_tup_l, x_tup_t, x_list_l, x_list_t, x_dSl_t, x_dSl_l, x_items_t, x_items_l, x_tru_n, x_tru_b, x_tru_i, x_tru_t, x_tru_l, x_asB, x_is_n, x_isNot_n, isNon_n, isNon_i, isNon_s, isNon_t, isNon_l, isNon_b, Bool.not_true, Bool.not_false, List.length_map, fnE, startE, C_check_patches, F_check_patches, hb, e]
/-! spans, touching -/
abbrev spD (h : Hunk) : D := .tup [.int h.1, .int (hEnd h)]
theorem spans_ok (P : Patch) : C__spans [ptD P] = .ok (.tup (P.map spD)) := by
  have hb := lc_fun (gf := gfTup [1, 2, 3]) (f := eTup (aCons (eVar 1) (aCons (eOp dAdd (eVar 1) (eCall fLen (aCons (eVar 2) aNil))) aNil))) (ρ := [some (ptD P), none, none, none]) (e := hkD) (g := spD) (xs := P) fun h hh => ⟨_, rfl, by
    simp only [sSeq_x, x_sSet, x_sIf, x_sRet, x_sRetN, x_sPar, x_sUnp, resF_ok, x_sDrop, x_sNext, x_sBreak, x_sCont, x_sRaise, x_sAug, augK_ok, x_sFor, x_sWhile, sKill_x, x_wipe0, x_wipe1, x_evL0, x_evL1, x_setL0, x_setL1, x_eVar, x_eC, x_eOp, x_eUn, x_eCall, x_eMS, x_asStr, x_aNil, x_aCons, x_eTup, x_eLst, x_eIf, x_eNot, x_eAnd, x_eOr, x_bAnd, x_bOr, x_bNot, x_bYes, x_eSl, x_oNone, x_oSome, asI_int, x_iSeq, x_iCall, x_gfName, x_gfTup, eLc, noX_is, Res.bind_ok, Res.bind_exc, flow_ok, flow_exc, seqK_next, seqK_ret, seqK_exc, seqK_brk, seqK_cont, loopK_next, loopK_cont, loopK_brk, loopK_ret, loopK_exc, must_ok, List.set_cons_succ, List.set_cons_zero, List.getD_cons_succ, List.getD_cons_zero, vD_some, if_true, if_false, Bool.false_eq_true, reduceIte, List.map_cons, List.map_nil, List.length_cons, List.length_nil, List.cons_append, List.nil_append, List.replicate, Nat.reduceSub, Nat.reduceAdd, x_add, x_sub, x_cmp, x_eq_ii, x_ne_ii, x_int_i, x_len_t, x_len_l, x_tup_l, x_tup_t, x_list_l, x_list_t, x_dSl_t, x_dSl_l, x_items_t, x_items_l, x_tru_n, x_tru_b, x_tru_i, x_tru_t, x_tru_l, x_asB, x_is_n, x_isNot_n, isNon_n, isNon_i, isNon_s, isNon_t, isNon_l, isNon_b, Bool.not_true, Bool.not_false, List.length_map, fnE, startE, tx_len]
    rfl⟩
  simp only [sSeq_x, x_sSet, x_sIf, x_sRet, x_sRetN, x_sPar, x_sUnp, resF_ok, x_sDrop, x_sNext, x_sBreak, x_sCont, x_sRaise, x_sAug, augK_ok, x_sFor, x_sWhile, sKill_x, x_wipe0, x_wipe1, x_evL0, x_evL1, x_setL0, x_setL1, x_eVar, x_eC, x_eOp, x_eUn, x_eCall, x_eMS, x_asStr, x_aNil, x_aCons, x_eTup, x_eLst, x_eIf, x_eNot, x_eAnd, x_eOr, x_bAnd, x_bOr, x_bNot, x_bYes, x_eSl, x_oNone, x_oSome, asI_int, x_iSeq, x_iCall, x_gfName, x_gfTup, eLc, noX_is, Res.bind_ok, Res.bind_exc, flow_ok, flow_exc, seqK_next, seqK_ret, seqK_exc, seqK_brk, seqK_cont, loopK_next, loopK_cont, loopK_brk, loopK_ret, loopK_exc, must_ok, List.set_cons_succ, List.set_cons_zero, List.getD_cons_succ, List.getD_cons_zero, vD_some, if_true, if_false, Bool.false_eq_true, reduceIte, List.map_cons, List.map_nil, List.length_cons, List.length_nil, List.cons_append, List.nil_append, List.replicate, Nat.reduceSub, Nat.reduceAdd, x_add, x_sub, x_cmp, x_eq_ii, x_ne_ii, x_int_i, x_len_t, x_len_l, x_tup_l, x_tup_t, x_list_l, x_list_t, x_dSl_t, x_dSl_l, x_items_t, x_items_l, x_tru_n, x_tru_b, x_tru_i, x_tru_t, x_tru_l, x_asB, x_is_n, x_isNot_n, isNon_n, isNon_i, isNon_s, isNon_t, isNon_l, isNon_b, Bool.not_true, Bool.not_false, List.length_map, fnE, startE, C__spans, F__spans, hb]
def tch (q p : Hunk) : Bool := decide (q.1 ≤ hEnd p) && decide (p.1 ≤ hEnd q)
theorem touch_ok (q p : Hunk) : C_touch [spD q, spD p] = .ok (.bl (tch q p)) := by
  have i0 : ∀ h : Hunk, dIx (spD h) (.int 0) = .ok (.int h.1) := fun _ => rfl
  have i1 : ∀ h : Hunk, dIx (spD h) (.int 1) = .ok (.int (hEnd h)) := fun _ => rfl
  cases h : decide (q.1 ≤ hEnd p) <;> simp only [sSeq_x, x_sSet, x_sIf, x_sRet, x_sRetN, x_sPar, x_sUnp, resF_ok, x_sDrop, x_sNext, x_sBreak, x_sCont, x_sRaise, x_sAug, augK_ok, x_sFor, x_sWhile, sKill_x, x_wipe0, x_wipe1, x_evL0, x_evL1, x_setL0, x_setL1, x_eVar, x_eC, x_eOp, x_eUn, x_eCall, x_eMS, x_asStr, x_aNil, x_aCons, x_eTup, x_eLst, x_eIf, x_eNot, x_eAnd, x_eOr, x_bAnd, x_bOr, x_bNot, x_bYes, x_eSl, x_oNone, x_oSome, asI_int, x_iSeq, x_iCall, x_gfName, x_gfTup, eLc, noX_is, Res.bind_ok, Res.bind_exc, flow_ok, flow_exc, seqK_next, seqK_ret, seqK_exc, seqK_brk, seqK_cont, loopK_next, loopK_cont, loopK_brk, loopK_ret, loopK_exc, must_ok, List.set_cons_succ, List.set_cons_zero, List.getD_cons_succ, List.getD_cons_zero, vD_some, if_true, if_false, Bool.false_eq_true, reduceIte, List.map_cons, List.map_nil, List.length_cons, List.length_nil, List.cons_append, List.nil_append, List.replicate, Nat.reduceSub, Nat.reduceAdd, x_add, x_sub, x_cmp, x_eq_ii, x_ne_ii, x_int_i, x_len_t, x_len_l, x_tup_l, x_tup_t, x_list_l, x_list_t, x_dSl_t, x_dSl_l, x_items_t, x_items_l, x_tru_n, x_tru_b, x_tru_i, x_tru_t, x_tru_l, x_asB, x_is_n, x_isNot_n, isNon_n, isNon_i, isNon_s, isNon_t, isNon_l, isNon_b, Bool.not_true, Bool.not_false, List.length_map, fnE, startE, C_touch, F_touch, i0, i1, tch, h, Bool.true_and, Bool.false_and]
theorem tch_ap {q p : Hunk} : tch q p = false ↔ Ap q p := by
  unfold tch Ap
  rw [Bool.and_eq_false_iff, decide_eq_false_iff_not, decide_eq_false_iff_not]
  omega
def ftI (q : Hunk) : Patch → Nat → Option Nat
  | [], _ => none
  | p :: P, j => if tch q p = true then some j else ftI q P (j + 1)
def ftO (P : Patch) : Patch → Nat → Option (Nat × Nat)
  | [], _ => none
  | q :: Q, i => match ftI q P 0 with
    | some j => some (i, j)
    | none => ftO P Q (i + 1)
def ft (Q P : Patch) : Option (Nat × Nat) := ftO P Q 0
theorem ftI_none {q : Hunk} : ∀ {P : Patch} {j : Nat}, ftI q P j = none ↔ ∀ p ∈ P, Ap q p
  | [], _ => ⟨fun _ p h => (nomatch h), fun _ => rfl⟩
  | p :: P, j => by
    rw [ftI]
    by_cases h : tch q p = true
    · rw [if_pos h]
      refine ⟨fun z => (nomatch z), fun z => ?_⟩
      rw [tch_ap.mpr (z p List.mem_cons_self)] at h
      cases h
    · rw [if_neg h, ftI_none]
      have h2 := tch_ap.mp (Bool.eq_false_iff.mpr h)
      exact ⟨fun z x hx => by
        rcases List.mem_cons.mp hx with rfl | hx
        · exact h2
        · exact z x hx, fun z x hx => z x (List.mem_cons_of_mem _ hx)⟩
theorem ftO_none {P : Patch} : ∀ {Q : Patch} {i : Nat}, ftO P Q i = none ↔ Apart Q P
  | [], _ => ⟨fun _ p h => (nomatch h), fun _ => rfl⟩
  | q :: Q, i => by
    rw [ftO]
    cases h : ftI q P 0 with
    | some j =>
      refine ⟨fun z => (nomatch z), fun z => ?_⟩
      have := ftI_none (j := 0).mpr (z q List.mem_cons_self)
      rw [h] at this
      cases this
    | none =>
      dsimp only
      rw [ftO_none]
      have h2 := ftI_none.mp h
      exact ⟨fun z x hx => by
        rcases List.mem_cons.mp hx with rfl | hx
        · exact h2
        · exact z x hx, fun z x hx => z x (List.mem_cons_of_mem _ hx)⟩
theorem ft_none {Q P : Patch} : ft Q P = none ↔ Apart Q P := ftO_none
def ftD : Option (Nat × Nat) → D
  | none => .non
  | some (i, j) => .tup [dN i, dN j]
/-- enumerate, from a number on -/
def enD (xs : List D) (i : Nat) : List D := (xs.zipIdx i).map fun p => .tup [.int (p.2 : Nat), p.1]
theorem enumL_en (xs : List D) : enumL xs = enD xs 0 := rfl
theorem enD_cons (x : D) (xs : List D) (i : Nat) : enD (x :: xs) i = .tup [dN i, x] :: enD xs (i + 1) := rfl
theorem ft_in (a b : Option D) (i : Nat) (q : Hunk) : ∀ (P : Patch) (j : Nat), forE (gfTup [4, 5]) B__first_touch_2 (enD (P.map spD) j) [a, b, some (dN i), some (spD q), none, none] =
    match ftI q P j with
    | some j => .ret (.tup [dN i, dN j])
    | none => .next [a, b, some (dN i), some (spD q), none, none]
  | [], j => rfl
  | p :: P, j => by
    have ih := ft_in a b i q P (j + 1)
    have e := touch_ok q p
    rw [List.map_cons, enD_cons, forE_cons, ftI]
    by_cases h : tch q p = true
    · rw [if_pos h]
      rw [h] at e
      simp only [sSeq_x, x_sSet, x_sIf, x_sRet, x_sRetN, x_sPar, x_sUnp, resF_ok, x_sDrop, x_sNext, x_sBreak, x_sCont, x_sRaise, x_sAug, augK_ok, x_sFor, x_sWhile, sKill_x, x_wipe0, x_wipe1, x_evL0, x_evL1, x_setL0, x_setL1, x_eVar, x_eC, x_eOp, x_eUn, x_eCall, x_eMS, x_asStr, x_aNil, x_aCons, x_eTup, x_eLst, x_eIf, x_eNot, x_eAnd, x_eOr, x_bAnd, x_bOr, x_bNot, x_bYes, x_eSl, x_oNone, x_oSome, asI_int, x_iSeq, x_iCall, x_gfName, x_gfTup, eLc, noX_is, Res.bind_ok, Res.bind_exc, flow_ok, flow_exc, seqK_next, seqK_ret, seqK_exc, seqK_brk, seqK_cont, loopK_next, loopK_cont, loopK_brk, loopK_ret, loopK_exc, must_ok, List.set_cons_succ, List.set_cons_zero, List.getD_cons_succ, List.getD_cons_zero, vD_some, if_true, if_false, Bool.false_eq_true, reduceIte, List.map_cons, List.map_nil, List.length_cons, List.length_nil, List.cons_append, List.nil_append, List.replicate, Nat.reduceSub, Nat.reduceAdd, x_add, x_sub, x_cmp, x_eq_ii, x_ne_ii, x_int_i, x_len_t, x_len_l, x_tup_l, x_tup_t, x_list_l, x_list_t, x_dSl_t, x_dSl_l, x_items_t, x_items_l, x_tru_n, x_tru_b, x_tru_i, x_tru_t, x_tru_l, x_asB, x_is_n, x_isNot_n, isNon_n, isNon_i, isNon_s, isNon_t, isNon_l, isNon_b, Bool.not_true, Bool.not_false, List.length_map, fnE, startE, B__first_touch_2, e]
    · rw [if_neg h, ← ih]
      rw [Bool.eq_false_iff.mpr h] at e
      simp only [sSeq_x, x_sSet, x_sIf, x_sRet, x_sRetN, x_sPar, x_sUnp, resF_ok, x_sDrop, x_sNext, x_sBreak, x_sCont, x_sRaise, x_sAug, augK_ok, x_sFor, x_sWhile, sKill_x, x_wipe0, x_wipe1, x_evL0, x_evL1, x_setL0, x_setL1, x_eVar, x_eC, x_eOp, x_eUn, x_eCall, x_eMS, x_asStr, x_aNil, x_aCons, x_eTup, x_eLst, x_eIf, x_eNot, x_eAnd, x_eOr, x_bAnd, x_bOr, x_bNot, x_bYes, x_eSl, x_oNone, x_oSome, asI_int, x_iSeq, x_iCall, x_gfName, x_gfTup, eLc, noX_is, Res.bind_ok, Res.bind_exc, flow_ok, flow_exc, seqK_next, seqK_ret, seqK_exc, seqK_brk, seqK_cont, loopK_next, loopK_cont, loopK_brk, loopK_ret, loopK_exc, must_ok, List.set_cons_succ, List.set_cons_zero, List.getD_cons_succ, List.getD_cons_zero, vD_some, if_true, if_false, Bool.false_eq_true, reduceIte, List.map_cons, List.map_nil, List.length_cons, List.length_nil, List.cons_append, List.nil_append, List.replicate, Nat.reduceSub, Nat.reduceAdd, x_add, x_sub, x_cmp, x_eq_ii, x_ne_ii, x_int_i, x_len_t, x_len_l, x_tup_l, x_tup_t, x_list_l, x_list_t, x_dSl_t, x_dSl_l, x_items_t, x_items_l, x_tru_n, x_tru_b, x_tru_i, x_tru_t, x_tru_l, x_asB, x_is_n, x_isNot_n, isNon_n, isNon_i, isNon_s, isNon_t, isNon_l, isNon_b, Bool.not_true, Bool.not_false, List.length_map, fnE, startE, B__first_touch_2, e]
theorem ft_out (P : Patch) (a : Option D) : ∀ (Q : Patch) (i : Nat), forE (gfTup [2, 3]) B__first_touch_1 (enD (Q.map spD) i) [a, some (.tup (P.map spD)), none, none, none, none] =
    match ftO P Q i with
    | some (i, j) => .ret (.tup [dN i, dN j])
    | none => .next [a, some (.tup (P.map spD)), none, none, none, none]
  | [], i => rfl
  | q :: Q, i => by
    have ih := ft_out P a Q (i + 1)
    have e := ft_in a (some (.tup (P.map spD))) i q P 0
    have en : dEnum [.tup (P.map spD)] = .ok (enD (P.map spD) 0) := rfl
    rw [List.map_cons, enD_cons, forE_cons, ftO]
    cases h : ftI q P 0 with
    | some j =>
      rw [h] at e
      dsimp only at e
      simp only [sSeq_x, x_sSet, x_sIf, x_sRet, x_sRetN, x_sPar, x_sUnp, resF_ok, x_sDrop, x_sNext, x_sBreak, x_sCont, x_sRaise, x_sAug, augK_ok, x_sFor, x_sWhile, sKill_x, x_wipe0, x_wipe1, x_evL0, x_evL1, x_setL0, x_setL1, x_eVar, x_eC, x_eOp, x_eUn, x_eCall, x_eMS, x_asStr, x_aNil, x_aCons, x_eTup, x_eLst, x_eIf, x_eNot, x_eAnd, x_eOr, x_bAnd, x_bOr, x_bNot, x_bYes, x_eSl, x_oNone, x_oSome, asI_int, x_iSeq, x_iCall, x_gfName, x_gfTup, eLc, noX_is, Res.bind_ok, Res.bind_exc, flow_ok, flow_exc, seqK_next, seqK_ret, seqK_exc, seqK_brk, seqK_cont, loopK_next, loopK_cont, loopK_brk, loopK_ret, loopK_exc, must_ok, List.set_cons_succ, List.set_cons_zero, List.getD_cons_succ, List.getD_cons_zero, vD_some, if_true, if_false, Bool.false_eq_true, reduceIte, List.map_cons, List.map_nil, List.length_cons, List.length_nil, List.cons_append, List.nil_append, List.replicate, Nat.reduceSub, Nat.reduceAdd, x_add, x_sub, x_cmp, x_eq_ii, x_ne_ii, x_int_i, x_len_t, x_len_l, x_tup_l, x_tup_t, x_list_l, x_list_t, x_dSl_t, x_dSl_l, x_items_t, x_items_l, x_tru_n, x_tru_b, x_tru_i, x_tru_t, x_tru_l, x_asB, x_is_n, x_isNot_n, isNon_n, isNon_i, isNon_s, isNon_t, isNon_l, isNon_b, Bool.not_true, Bool.not_false, List.length_map, fnE, startE, B__first_touch_1, en, e]
    | none =>
      rw [h] at e
      dsimp only at e ⊢
      rw [← ih]
      simp only [sSeq_x, x_sSet, x_sIf, x_sRet, x_sRetN, x_sPar, x_sUnp, resF_ok, x_sDrop, x_sNext, x_sBreak, x_sCont, x_sRaise, x_sAug, augK_ok, x_sFor, x_sWhile, sKill_x, x_wipe0, x_wipe1, x_evL0, x_evL1, x_setL0, x_setL1, x_eVar, x_eC, x_eOp, x_eUn, x_eCall, x_eMS, x_asStr, x_aNil, x_aCons, x_eTup, x_eLst, x_eIf, x_eNot, x_eAnd, x_eOr, x_bAnd, x_bOr, x_bNot, x_bYes, x_eSl, x_oNone, x_oSome, asI_int, x_iSeq, x_iCall, x_gfName, x_gfTup, eLc, noX_is, Res.bind_ok, Res.bind_exc, flow_ok, flow_exc, seqK_next, seqK_ret, seqK_exc, seqK_brk, seqK_cont, loopK_next, loopK_cont, loopK_brk, loopK_ret, loopK_exc, must_ok, List.set_cons_succ, List.set_cons_zero, List.getD_cons_succ, List.getD_cons_zero, vD_some, if_true, if_false, Bool.false_eq_true, reduceIte, List.map_cons, List.map_nil, List.length_cons, List.length_nil, List.cons_append, List.nil_append, List.replicate, Nat.reduceSub, Nat.reduceAdd, x_add, x_sub, x_cmp, x_eq_ii, x_ne_ii, x_int_i, x_len_t, x_len_l, x_tup_l, x_tup_t, x_list_l, x_list_t, x_dSl_t, x_dSl_l, x_items_t, x_items_l, x_tru_n, x_tru_b, x_tru_i, x_tru_t, x_tru_l, x_asB, x_is_n, x_isNot_n, isNon_n, isNon_i, isNon_s, isNon_t, isNon_l, isNon_b, Bool.not_true, Bool.not_false, List.length_map, fnE, startE, B__first_touch_1, en, e]
theorem first_touch_ok (Q P : Patch) : C__first_touch [.tup (Q.map spD), .tup (P.map spD)] = .ok (ftD (ft Q P)) := by
  have e := ft_out P (some (.tup (Q.map spD))) Q 0
  have en : dEnum [.tup (Q.map spD)] = .ok (enD (Q.map spD) 0) := rfl
  unfold ft
  cases h : ftO P Q 0 with
  | some ij =>
    obtain ⟨i, j⟩ := ij
    rw [h] at e
    simp only [sSeq_x, x_sSet, x_sIf, x_sRet, x_sRetN, x_sPar, x_sUnp, resF_ok, x_sDrop, x_sNext, x_sBreak, x_sCont, x_sRaise, x_sAug, augK_ok, x_sFor, x_sWhile, sKill_x, x_wipe0, x_wipe1, x_evL0, x_evL1, x_setL0, x_setL1, x_eVar, x_eC, x_eOp, x_eUn, x_eCall, x_eMS, x_asStr, x_aNil, x_aCons, x_eTup, x_eLst, x_eIf, x_eNot, x_eAnd, x_eOr, x_bAnd, x_bOr, x_bNot, x_bYes, x_eSl, x_oNone, x_oSome, asI_int, x_iSeq, x_iCall, x_gfName, x_gfTup, eLc, noX_is, Res.bind_ok, Res.bind_exc, flow_ok, flow_exc, seqK_next, seqK_ret, seqK_exc, seqK_brk, seqK_cont, loopK_next, loopK_cont, loopK_brk, loopK_ret, loopK_exc, must_ok, List.set_cons_succ, List.set_cons_zero, List.getD_cons_succ, List.getD_cons_zero, vD_some, if_true, if_false, Bool.false_eq_true, reduceIte, List.map_cons, List.map_nil, List.length_cons, List.length_nil, List.cons_append, List.nil_append, List.replicate, Nat.reduceSub, Nat.reduceAdd, x_add, x_sub, x_cmp, x_eq_ii, x_ne_ii, x_int_i, x_len_t, x_len_l, x_tup_l, x_tup_t, x_list_l, x_list_t, x_dSl_t, x_dSl_l, x_items_t, x_items_l, x_tru_n, x_tru_b, x_tru_i, x_tru_t, x_tru_l, x_asB, x_is_n, x_isNot_n, isNon_n, isNon_i, isNon_s, isNon_t, isNon_l, isNon_b, Bool.not_true, Bool.not_false, List.length_map, fnE, startE, C__first_touch, F__first_touch, en, e, ftD]
  | none =>
    rw [h] at e
    simp only [sSeq_x, x_sSet, x_sIf, x_sRet, x_sRetN, x_sPar, x_sUnp, resF_ok, x_sDrop, x_sNext, x_sBreak, x_sCont, x_sRaise, x_sAug, augK_ok, x_sFor, x_sWhile, sKill_x, x_wipe0, x_wipe1, x_evL0, x_evL1, x_setL0, x_setL1, x_eVar, x_eC, x_eOp, x_eUn, x_eCall, x_eMS, x_asStr, x_aNil, x_aCons, x_eTup, x_eLst, x_eIf, x_eNot, x_eAnd, x_eOr, x_bAnd, x_bOr, x_bNot, x_bYes, x_eSl, x_oNone, x_oSome, asI_int, x_iSeq, x_iCall, x_gfName, x_gfTup, eLc, noX_is, Res.bind_ok, Res.bind_exc, flow_ok, flow_exc, seqK_next, seqK_ret, seqK_exc, seqK_brk, seqK_cont, loopK_next, loopK_cont, loopK_brk, loopK_ret, loopK_exc, must_ok, List.set_cons_succ, List.set_cons_zero, List.getD_cons_succ, List.getD_cons_zero, vD_some, if_true, if_false, Bool.false_eq_true, reduceIte, List.map_cons, List.map_nil, List.length_cons, List.length_nil, List.cons_append, List.nil_append, List.replicate, Nat.reduceSub, Nat.reduceAdd, x_add, x_sub, x_cmp, x_eq_ii, x_ne_ii, x_int_i, x_len_t, x_len_l, x_tup_l, x_tup_t, x_list_l, x_list_t, x_dSl_t, x_dSl_l, x_items_t, x_items_l, x_tru_n, x_tru_b, x_tru_i, x_tru_t, x_tru_l, x_asB, x_is_n, x_isNot_n, isNon_n, isNon_i, isNon_s, isNon_t, isNon_l, isNon_b, Bool.not_true, Bool.not_false, List.length_map, fnE, startE, C__first_touch, F__first_touch, en, e, ftD]
/-! ### shifted, reverse, commuting, merged -/
theorem en_rng (xs : List D) : dEnum [.tup xs] = .ok (enD xs 0) := rfl
theorem sh_in (a : Option D) (o n : D) (x : Int) (b f : Option D) (P0 : Patch) : ∀ (P : Patch) (j : Nat) (m : Int), P0.drop j = P → forE (gfTup [8, 9]) B_shifted_2 (enD (P.map spD) j) [a, some (ptD P0), b, f, some (.int x), some o, some n, some (.int m), none, none] =
    .next [a, some (ptD P0), b, f, some (.int x), some o, some n, some (.int (m + Dl P x)), none, none]
  | [], j, m, _ => by rw [Dl, Int.add_zero]; rfl
  | p :: P, j, m, h => by
    have hj : j < P0.length := by
      have := congrArg List.length h
      simp at this
      omega
    have hd := List.drop_eq_getElem_cons hj
    rw [h] at hd
    injection hd with e1 e2
    have ix : dIx (ptD P0) (.int (j : Nat)) = .ok (hkD p) := by
      rw [e1]
      exact dIx_tm (List.getElem?_eq_getElem hj)
    have i1 : dIx (spD p) (.int 1) = .ok (.int (hEnd p)) := rfl
    rw [List.map_cons, enD_cons, forE_cons, Dl]
    by_cases hc : hEnd p < x
    · have ih := sh_in a o n x b f P0 P (j + 1) (m + hDel p) e2.symm
      have h2 : iLt (hEnd p) x = true := decide_eq_true hc
      rw [if_pos hc, show m + (hDel p + Dl P x) = m + hDel p + Dl P x by omega, ← ih]
      simp only [sSeq_x, x_sSet, x_sIf, x_sRet, x_sRetN, x_sPar, x_sUnp, resF_ok, x_sDrop, x_sNext, x_sBreak, x_sCont, x_sRaise, x_sAug, augK_ok, x_sFor, x_sWhile, sKill_x, x_wipe0, x_wipe1, x_evL0, x_evL1, x_setL0, x_setL1, x_eVar, x_eC, x_eOp, x_eUn, x_eCall, x_eMS, x_asStr, x_aNil, x_aCons, x_eTup, x_eLst, x_eIf, x_eNot, x_eAnd, x_eOr, x_bAnd, x_bOr, x_bNot, x_bYes, x_eSl, x_oNone, x_oSome, asI_int, x_iSeq, x_iCall, x_gfName, x_gfTup, eLc, noX_is, Res.bind_ok, Res.bind_exc, flow_ok, flow_exc, seqK_next, seqK_ret, seqK_exc, seqK_brk, seqK_cont, loopK_next, loopK_cont, loopK_brk, loopK_ret, loopK_exc, must_ok, List.set_cons_succ, List.set_cons_zero, List.getD_cons_succ, List.getD_cons_zero, vD_some, if_true, if_false, Bool.false_eq_true, reduceIte, List.map_cons, List.map_nil, List.length_cons, List.length_nil, List.cons_append, List.nil_append, List.replicate, Nat.reduceSub, Nat.reduceAdd, x_add, x_sub, x_cmp, x_eq_ii, x_ne_ii, x_int_i, x_len_t, x_len_l, x_tup_l, x_tup_t, x_list_l, x_list_t, x_dSl_t, x_dSl_l, x_items_t, x_items_l, x_tru_n, x_tru_b, x_tru_i, x_tru_t, x_tru_l, x_asB, x_is_n, x_isNot_n, isNon_n, isNon_i, isNon_s, isNon_t, isNon_l, isNon_b, Bool.not_true, Bool.not_false, List.length_map, fnE, startE, B_shifted_2, i1, h2, ix, hk1, hk2, tx_len, x_addT_i]
      rfl
    · have ih := sh_in a o n x b f P0 P (j + 1) m e2.symm
      have h2 : iLt (hEnd p) x = false := decide_eq_false hc
      rw [if_neg hc, Int.zero_add, ← ih]
      simp only [sSeq_x, x_sSet, x_sIf, x_sRet, x_sRetN, x_sPar, x_sUnp, resF_ok, x_sDrop, x_sNext, x_sBreak, x_sCont, x_sRaise, x_sAug, augK_ok, x_sFor, x_sWhile, sKill_x, x_wipe0, x_wipe1, x_evL0, x_evL1, x_setL0, x_setL1, x_eVar, x_eC, x_eOp, x_eUn, x_eCall, x_eMS, x_asStr, x_aNil, x_aCons, x_eTup, x_eLst, x_eIf, x_eNot, x_eAnd, x_eOr, x_bAnd, x_bOr, x_bNot, x_bYes, x_eSl, x_oNone, x_oSome, asI_int, x_iSeq, x_iCall, x_gfName, x_gfTup, eLc, noX_is, Res.bind_ok, Res.bind_exc, flow_ok, flow_exc, seqK_next, seqK_ret, seqK_exc, seqK_brk, seqK_cont, loopK_next, loopK_cont, loopK_brk, loopK_ret, loopK_exc, must_ok, List.set_cons_succ, List.set_cons_zero, List.getD_cons_succ, List.getD_cons_zero, vD_some, if_true, if_false, Bool.false_eq_true, reduceIte, List.map_cons, List.map_nil, List.length_cons, List.length_nil, List.cons_append, List.nil_append, List.replicate, Nat.reduceSub, Nat.reduceAdd, x_add, x_sub, x_cmp, x_eq_ii, x_ne_ii, x_int_i, x_len_t, x_len_l, x_tup_l, x_tup_t, x_list_l, x_list_t, x_dSl_t, x_dSl_l, x_items_t, x_items_l, x_tru_n, x_tru_b, x_tru_i, x_tru_t, x_tru_l, x_asB, x_is_n, x_isNot_n, isNon_n, isNon_i, isNon_s, isNon_t, isNon_l, isNon_b, Bool.not_true, Bool.not_false, List.length_map, fnE, startE, B_shifted_2, i1, h2]
theorem sh_out (a : Option D) (P : Patch) : ∀ (Q F : Patch), F.length + Q.length ≤ 1000 → forE (gfTup [4, 5, 6]) B_shifted_1 (Q.map hkD) [a, some (ptD P), some (.tup (P.map spD)), some (.lst (F.map hkD)), none, none, none, none, none, none] =
    .next [a, some (ptD P), some (.tup (P.map spD)), some (.lst ((F ++ shf Q P).map hkD)), none, none, none, none, none, none]
  | [], F, _ => by rw [shf_nil, List.append_nil]; rfl
  | q :: Q, F, hl => by
    rw [List.length_cons] at hl
    have ih := sh_out a P Q (F ++ [(q.1 + Dl P q.1, q.2)]) (by simp; omega)
    have e := sh_in a (txD q.2.1) (txD q.2.2) q.1 (some (.tup (P.map spD))) (some (.lst (F.map hkD))) P P 0 0 rfl
    have en := en_rng (P.map spD)
    have hl2 : F.length < 16777216 := by omega
    rw [Int.zero_add] at e
    rw [List.append_assoc, List.singleton_append, ← shf_cons] at ih
    rw [List.map_cons, forE_cons, ← ih]
    simp only [sSeq_x, x_sSet, x_sIf, x_sRet, x_sRetN, x_sPar, x_sUnp, resF_ok, x_sDrop, x_sNext, x_sBreak, x_sCont, x_sRaise, x_sAug, augK_ok, x_sFor, x_sWhile, sKill_x, x_wipe0, x_wipe1, x_evL0, x_evL1, x_setL0, x_setL1, x_eVar, x_eC, x_eOp, x_eUn, x_eCall, x_eMS, x_asStr, x_aNil, x_aCons, x_eTup, x_eLst, x_eIf, x_eNot, x_eAnd, x_eOr, x_bAnd, x_bOr, x_bNot, x_bYes, x_eSl, x_oNone, x_oSome, asI_int, x_iSeq, x_iCall, x_gfName, x_gfTup, eLc, noX_is, Res.bind_ok, Res.bind_exc, flow_ok, flow_exc, seqK_next, seqK_ret, seqK_exc, seqK_brk, seqK_cont, loopK_next, loopK_cont, loopK_brk, loopK_ret, loopK_exc, must_ok, List.set_cons_succ, List.set_cons_zero, List.getD_cons_succ, List.getD_cons_zero, vD_some, if_true, if_false, Bool.false_eq_true, reduceIte, List.map_cons, List.map_nil, List.length_cons, List.length_nil, List.cons_append, List.nil_append, List.replicate, Nat.reduceSub, Nat.reduceAdd, x_add, x_sub, x_cmp, x_eq_ii, x_ne_ii, x_int_i, x_len_t, x_len_l, x_tup_l, x_tup_t, x_list_l, x_list_t, x_dSl_t, x_dSl_l, x_items_t, x_items_l, x_tru_n, x_tru_b, x_tru_i, x_tru_t, x_tru_l, x_asB, x_is_n, x_isNot_n, isNon_n, isNon_i, isNon_s, isNon_t, isNon_l, isNon_b, Bool.not_true, Bool.not_false, List.length_map, fnE, startE, B_shifted_1, en, e, sAppend, sl_eq, hl2, List.map_append]
theorem shifted_ok (Q P : Patch) (hl : Q.length ≤ 100) : C_shifted [ptD Q, ptD P] = .ok (ptD (shf Q P)) := by
  have e := sh_out (some (ptD Q)) P Q [] (by simp; omega)
  have sp := spans_ok P
  rw [List.nil_append, List.map_nil] at e
  simp only [sSeq_x, x_sSet, x_sIf, x_sRet, x_sRetN, x_sPar, x_sUnp, resF_ok, x_sDrop, x_sNext, x_sBreak, x_sCont, x_sRaise, x_sAug, augK_ok, x_sFor, x_sWhile, sKill_x, x_wipe0, x_wipe1, x_evL0, x_evL1, x_setL0, x_setL1, x_eVar, x_eC, x_eOp, x_eUn, x_eCall, x_eMS, x_asStr, x_aNil, x_aCons, x_eTup, x_eLst, x_eIf, x_eNot, x_eAnd, x_eOr, x_bAnd, x_bOr, x_bNot, x_bYes, x_eSl, x_oNone, x_oSome, asI_int, x_iSeq, x_iCall, x_gfName, x_gfTup, eLc, noX_is, Res.bind_ok, Res.bind_exc, flow_ok, flow_exc, seqK_next, seqK_ret, seqK_exc, seqK_brk, seqK_cont, loopK_next, loopK_cont, loopK_brk, loopK_ret, loopK_exc, must_ok, List.set_cons_succ, List.set_cons_zero, List.getD_cons_succ, List.getD_cons_zero, vD_some, if_true, if_false, Bool.false_eq_true, reduceIte, List.map_cons, List.map_nil, List.length_cons, List.length_nil, List.cons_append, List.nil_append, List.replicate, Nat.reduceSub, Nat.reduceAdd, x_add, x_sub, x_cmp, x_eq_ii, x_ne_ii, x_int_i, x_len_t, x_len_l, x_tup_l, x_tup_t, x_list_l, x_list_t, x_dSl_t, x_dSl_l, x_items_t, x_items_l, x_tru_n, x_tru_b, x_tru_i, x_tru_t, x_tru_l, x_asB, x_is_n, x_isNot_n, isNon_n, isNon_i, isNon_s, isNon_t, isNon_l, isNon_b, Bool.not_true, Bool.not_false, List.length_map, fnE, startE, C_shifted, F_shifted, sp, e]
theorem rev_loop (a : Option D) : ∀ (P F : Patch) (m : Int), F.length + P.length ≤ 1000 → ∃ m', forE (gfTup [3, 4, 5]) B_reverse_1 (P.map hkD) [a, some (.lst (F.map hkD)), some (.int m), none, none, none] =
    .next [a, some (.lst ((F ++ rev m P).map hkD)), some (.int m'), none, none, none]
  | [], F, m, _ => ⟨m, by rw [rev, List.append_nil]; rfl⟩
  | p :: P, F, m, hl => by
    rw [List.length_cons] at hl
    obtain ⟨m', ih⟩ := rev_loop a P (F ++ [(p.1 + m, p.2.2, p.2.1)]) (m + hDel p) (by simp; omega)
    have hl2 : F.length < 16777216 := by omega
    refine ⟨m', ?_⟩
    rw [List.append_assoc, List.singleton_append] at ih
    rw [List.map_cons, forE_cons, rev, ← ih]
    simp only [sSeq_x, x_sSet, x_sIf, x_sRet, x_sRetN, x_sPar, x_sUnp, resF_ok, x_sDrop, x_sNext, x_sBreak, x_sCont, x_sRaise, x_sAug, augK_ok, x_sFor, x_sWhile, sKill_x, x_wipe0, x_wipe1, x_evL0, x_evL1, x_setL0, x_setL1, x_eVar, x_eC, x_eOp, x_eUn, x_eCall, x_eMS, x_asStr, x_aNil, x_aCons, x_eTup, x_eLst, x_eIf, x_eNot, x_eAnd, x_eOr, x_bAnd, x_bOr, x_bNot, x_bYes, x_eSl, x_oNone, x_oSome, asI_int, x_iSeq, x_iCall, x_gfName, x_gfTup, eLc, noX_is, Res.bind_ok, Res.bind_exc, flow_ok, flow_exc, seqK_next, seqK_ret, seqK_exc, seqK_brk, seqK_cont, loopK_next, loopK_cont, loopK_brk, loopK_ret, loopK_exc, must_ok, List.set_cons_succ, List.set_cons_zero, List.getD_cons_succ, List.getD_cons_zero, vD_some, if_true, if_false, Bool.false_eq_true, reduceIte, List.map_cons, List.map_nil, List.length_cons, List.length_nil, List.cons_append, List.nil_append, List.replicate, Nat.reduceSub, Nat.reduceAdd, x_add, x_sub, x_cmp, x_eq_ii, x_ne_ii, x_int_i, x_len_t, x_len_l, x_tup_l, x_tup_t, x_list_l, x_list_t, x_dSl_t, x_dSl_l, x_items_t, x_items_l, x_tru_n, x_tru_b, x_tru_i, x_tru_t, x_tru_l, x_asB, x_is_n, x_isNot_n, isNon_n, isNon_i, isNon_s, isNon_t, isNon_l, isNon_b, Bool.not_true, Bool.not_false, List.length_map, fnE, startE, B_reverse_1, sAppend, sl_eq, hl2, List.map_append, tx_len, x_addT_i]
    rfl
theorem reverse_ok (P : Patch) (hl : P.length ≤ 100) : C_reverse [ptD P] = .ok (ptD (rev 0 P)) := by
  obtain ⟨m', e⟩ := rev_loop (some (ptD P)) P [] 0 (by simp; omega)
  rw [List.nil_append, List.map_nil] at e
  simp only [sSeq_x, x_sSet, x_sIf, x_sRet, x_sRetN, x_sPar, x_sUnp, resF_ok, x_sDrop, x_sNext, x_sBreak, x_sCont, x_sRaise, x_sAug, augK_ok, x_sFor, x_sWhile, sKill_x, x_wipe0, x_wipe1, x_evL0, x_evL1, x_setL0, x_setL1, x_eVar, x_eC, x_eOp, x_eUn, x_eCall, x_eMS, x_asStr, x_aNil, x_aCons, x_eTup, x_eLst, x_eIf, x_eNot, x_eAnd, x_eOr, x_bAnd, x_bOr, x_bNot, x_bYes, x_eSl, x_oNone, x_oSome, asI_int, x_iSeq, x_iCall, x_gfName, x_gfTup, eLc, noX_is, Res.bind_ok, Res.bind_exc, flow_ok, flow_exc, seqK_next, seqK_ret, seqK_exc, seqK_brk, seqK_cont, loopK_next, loopK_cont, loopK_brk, loopK_ret, loopK_exc, must_ok, List.set_cons_succ, List.set_cons_zero, List.getD_cons_succ, List.getD_cons_zero, vD_some, if_true, if_false, Bool.false_eq_true, reduceIte, List.map_cons, List.map_nil, List.length_cons, List.length_nil, List.cons_append, List.nil_append, List.replicate, Nat.reduceSub, Nat.reduceAdd, x_add, x_sub, x_cmp, x_eq_ii, x_ne_ii, x_int_i, x_len_t, x_len_l, x_tup_l, x_tup_t, x_list_l, x_list_t, x_dSl_t, x_dSl_l, x_items_t, x_items_l, x_tru_n, x_tru_b, x_tru_i, x_tru_t, x_tru_l, x_asB, x_is_n, x_isNot_n, isNon_n, isNon_i, isNon_s, isNon_t, isNon_l, isNon_b, Bool.not_true, Bool.not_false, List.length_map, fnE, startE, C_reverse, F_reverse, e]
/-- what commuting tells -/
def cmD (P S : Patch) : D := match ft S (rev 0 P) with
  | some (i, j) => .tup [.str "needs", dN i, dN j]
  | none => .tup [.str "commuted", ptD (shf S (rev 0 P)), ptD (shf P (shf S (rev 0 P)))]
theorem commuting_ok (P S : Patch) (hp : P.length ≤ 100) (hs : S.length ≤ 100) : C_commuting [ptD P, ptD S] = .ok (cmD P S) := by
  have e := reverse_ok P hp
  have s1 := spans_ok S
  have s2 := spans_ok (rev 0 P)
  have f := first_touch_ok S (rev 0 P)
  have h1 := shifted_ok S (rev 0 P) hs
  have h2 := shifted_ok P (shf S (rev 0 P)) hp
  have z : ([.str "needs"] : List D).length + 2 ≤ 16777216 := by decide
  unfold cmD
  cases q : ft S (rev 0 P) with
  | some ij =>
    obtain ⟨i, j⟩ := ij
    rw [q] at f
    simp only [sSeq_x, x_sSet, x_sIf, x_sRet, x_sRetN, x_sPar, x_sUnp, resF_ok, x_sDrop, x_sNext, x_sBreak, x_sCont, x_sRaise, x_sAug, augK_ok, x_sFor, x_sWhile, sKill_x, x_wipe0, x_wipe1, x_evL0, x_evL1, x_setL0, x_setL1, x_eVar, x_eC, x_eOp, x_eUn, x_eCall, x_eMS, x_asStr, x_aNil, x_aCons, x_eTup, x_eLst, x_eIf, x_eNot, x_eAnd, x_eOr, x_bAnd, x_bOr, x_bNot, x_bYes, x_eSl, x_oNone, x_oSome, asI_int, x_iSeq, x_iCall, x_gfName, x_gfTup, eLc, noX_is, Res.bind_ok, Res.bind_exc, flow_ok, flow_exc, seqK_next, seqK_ret, seqK_exc, seqK_brk, seqK_cont, loopK_next, loopK_cont, loopK_brk, loopK_ret, loopK_exc, must_ok, List.set_cons_succ, List.set_cons_zero, List.getD_cons_succ, List.getD_cons_zero, vD_some, if_true, if_false, Bool.false_eq_true, reduceIte, List.map_cons, List.map_nil, List.length_cons, List.length_nil, List.cons_append, List.nil_append, List.replicate, Nat.reduceSub, Nat.reduceAdd, x_add, x_sub, x_cmp, x_eq_ii, x_ne_ii, x_int_i, x_len_t, x_len_l, x_tup_l, x_tup_t, x_list_l, x_list_t, x_dSl_t, x_dSl_l, x_items_t, x_items_l, x_tru_n, x_tru_b, x_tru_i, x_tru_t, x_tru_l, x_asB, x_is_n, x_isNot_n, isNon_n, isNon_i, isNon_s, isNon_t, isNon_l, isNon_b, Bool.not_true, Bool.not_false, List.length_map, fnE, startE, C_commuting, F_commuting, e, s1, s2, f, ftD, x_add_t, sl_eq, z]
    rfl
  | none =>
    rw [q] at f
    simp only [sSeq_x, x_sSet, x_sIf, x_sRet, x_sRetN, x_sPar, x_sUnp, resF_ok, x_sDrop, x_sNext, x_sBreak, x_sCont, x_sRaise, x_sAug, augK_ok, x_sFor, x_sWhile, sKill_x, x_wipe0, x_wipe1, x_evL0, x_evL1, x_setL0, x_setL1, x_eVar, x_eC, x_eOp, x_eUn, x_eCall, x_eMS, x_asStr, x_aNil, x_aCons, x_eTup, x_eLst, x_eIf, x_eNot, x_eAnd, x_eOr, x_bAnd, x_bOr, x_bNot, x_bYes, x_eSl, x_oNone, x_oSome, asI_int, x_iSeq, x_iCall, x_gfName, x_gfTup, eLc, noX_is, Res.bind_ok, Res.bind_exc, flow_ok, flow_exc, seqK_next, seqK_ret, seqK_exc, seqK_brk, seqK_cont, loopK_next, loopK_cont, loopK_brk, loopK_ret, loopK_exc, must_ok, List.set_cons_succ, List.set_cons_zero, List.getD_cons_succ, List.getD_cons_zero, vD_some, if_true, if_false, Bool.false_eq_true, reduceIte, List.map_cons, List.map_nil, List.length_cons, List.length_nil, List.cons_append, List.nil_append, List.replicate, Nat.reduceSub, Nat.reduceAdd, x_add, x_sub, x_cmp, x_eq_ii, x_ne_ii, x_int_i, x_len_t, x_len_l, x_tup_l, x_tup_t, x_list_l, x_list_t, x_dSl_t, x_dSl_l, x_items_t, x_items_l, x_tru_n, x_tru_b, x_tru_i, x_tru_t, x_tru_l, x_asB, x_is_n, x_isNot_n, isNon_n, isNon_i, isNon_s, isNon_t, isNon_l, isNon_b, Bool.not_true, Bool.not_false, List.length_map, fnE, startE, C_commuting, F_commuting, e, s1, s2, f, ftD, h1, h2]
theorem commuted_ok {P S : Patch} (p : Vp P) (s : Vp S) : C_commuted [ptD P, ptD S] = .ok (cmD P S) := by
  simp only [sSeq_x, x_sSet, x_sIf, x_sRet, x_sRetN, x_sPar, x_sUnp, resF_ok, x_sDrop, x_sNext, x_sBreak, x_sCont, x_sRaise, x_sAug, augK_ok, x_sFor, x_sWhile, sKill_x, x_wipe0, x_wipe1, x_evL0, x_evL1, x_setL0, x_setL1, x_eVar, x_eC, x_eOp, x_eUn, x_eCall, x_eMS, x_asStr, x_aNil, x_aCons, x_eTup, x_eLst, x_eIf, x_eNot, x_eAnd, x_eOr, x_bAnd, x_bOr, x_bNot, x_bYes, x_eSl, x_oNone, x_oSome, asI_int, x_iSeq, x_iCall, x_gfName, x_gfTup, eLc, noX_is, Res.bind_ok, Res.bind_exc, flow_ok, flow_exc, seqK_next, seqK_ret, seqK_exc, seqK_brk, seqK_cont, loopK_next, loopK_cont, loopK_brk, loopK_ret, loopK_exc, must_ok, List.set_cons_succ, List.set_cons_zero, List.getD_cons_succ, List.getD_cons_zero, vD_some, if_true, if_false, Bool.false_eq_true, reduceIte, List.map_cons, List.map_nil, List.length_cons, List.length_nil, List.cons_append, List.nil_append, List.replicate, Nat.reduceSub, Nat.reduceAdd, x_add, x_sub, x_cmp, x_eq_ii, x_ne_ii, x_int_i, x_len_t, x_len_l, x_tup_l, x_tup_t, x_list_l, x_list_t, x_dSl_t, x_dSl_l, x_items_t, x_items_l, x_tru_n, x_tru_b, x_tru_i, x_tru_t, x_tru_l, x_asB, x_is_n, x_isNot_n, isNon_n, isNon_i, isNon_s, isNon_t, isNon_l, isNon_b, Bool.not_true, Bool.not_false, List.length_map, fnE, startE, C_commuted, F_commuted, chpt2_ok p s, commuting_ok P S p.few s.few]
/-! ### applied, fault -/
theorem cutI {α : Type} (xs : List α) {a b : Int} (ha : 0 ≤ a) (hb : 0 ≤ b) : cut xs (some a) (some b) = (xs.drop a.toNat).take (b.toNat - a.toNat) := by
  have := cut_lh xs a.toNat b.toNat
  rw [Int.toNat_of_nonneg ha, Int.toNat_of_nonneg hb] at this
  exact this
theorem cutI_lo {α : Type} (xs : List α) {a : Int} (ha : 0 ≤ a) : cut xs (some a) none = xs.drop a.toNat := by
  have := cut_lo xs a.toNat
  rw [Int.toNat_of_nonneg ha] at this
  exact this
theorem cutI_hi {α : Type} (xs : List α) {a : Int} (ha : 0 ≤ a) : cut xs none (some a) = xs.take a.toNat := by
  have := cut_hi xs a.toNat
  rw [Int.toNat_of_nonneg ha] at this
  exact this
theorem app_loop (t : List Nat) (a : Option D) : ∀ (P : Patch) (F : List Nat) (b : Int), 0 ≤ b → Ch (b - 1) P → (F ++ app (t.drop b.toNat) b P).length ≤ 100000 → ∃ (F' : List Nat) (b' : Int), 0 ≤ b' ∧ F' ++ t.drop b'.toNat = F ++ app (t.drop b.toNat) b P ∧
    forE (gfTup [4, 5, 6]) B_applied_1 (P.map hkD) [some (txD t), a, some (txD F), some (.int b), none, none, none] = .next [some (txD t), a, some (txD F'), some (.int b'), none, none, none]
  | [], F, b, hb, _, _ => ⟨F, b, hb, rfl, rfl⟩
  | p :: P, F, b, hb, c, hl => by
    have h1 := c.1
    have he := hEnd_ge p
    have hd : (t.drop b.toNat).drop (hEnd p - b).toNat = t.drop (hEnd p).toNat := by rw [List.drop_drop]; congr 1; omega
    have eq1 : F ++ app (t.drop b.toNat) b (p :: P) = (F ++ ((t.drop b.toNat).take (p.1 - b).toNat ++ p.2.2)) ++ app (t.drop (hEnd p).toNat) (hEnd p) P := by
      rw [app, hd, List.append_assoc, List.append_assoc]
    obtain ⟨F', b', hb', e2, e3⟩ := app_loop t a P (F ++ ((t.drop b.toNat).take (p.1 - b).toNat ++ p.2.2)) (hEnd p) (by omega) (c.2.mono (by omega)) (by rw [← eq1]; exact hl)
    refine ⟨F', b', hb', by rw [e2, eq1], ?_⟩
    rw [← e3, List.map_cons, forE_cons]
    have ec : cut (t.map lnD) (some b) (some p.1) = ((t.drop b.toNat).take (p.1 - b).toNat).map lnD := by
      rw [cutI _ hb (by omega), List.map_take, List.map_drop]
      congr 1
      omega
    rw [eq1] at hl
    simp only [List.length_append] at hl
    have z1 : ((t.drop b.toNat).take (p.1 - b).toNat).length + p.2.2.length ≤ 16777216 := by omega
    have z2 : F.length + (((t.drop b.toNat).take (p.1 - b).toNat).map lnD ++ p.2.2.map lnD).length ≤ 16777216 := by rw [List.length_append, List.length_map, List.length_map]; omega
    simp only [sSeq_x, x_sSet, x_sIf, x_sRet, x_sRetN, x_sPar, x_sUnp, resF_ok, x_sDrop, x_sNext, x_sBreak, x_sCont, x_sRaise, x_sAug, augK_ok, x_sFor, x_sWhile, sKill_x, x_wipe0, x_wipe1, x_evL0, x_evL1, x_setL0, x_setL1, x_eVar, x_eC, x_eOp, x_eUn, x_eCall, x_eMS, x_asStr, x_aNil, x_aCons, x_eTup, x_eLst, x_eIf, x_eNot, x_eAnd, x_eOr, x_bAnd, x_bOr, x_bNot, x_bYes, x_eSl, x_oNone, x_oSome, asI_int, x_iSeq, x_iCall, x_gfName, x_gfTup, eLc, noX_is, Res.bind_ok, Res.bind_exc, flow_ok, flow_exc, seqK_next, seqK_ret, seqK_exc, seqK_brk, seqK_cont, loopK_next, loopK_cont, loopK_brk, loopK_ret, loopK_exc, must_ok, List.set_cons_succ, List.set_cons_zero, List.getD_cons_succ, List.getD_cons_zero, vD_some, if_true, if_false, Bool.false_eq_true, reduceIte, List.map_cons, List.map_nil, List.length_cons, List.length_nil, List.cons_append, List.nil_append, List.replicate, Nat.reduceSub, Nat.reduceAdd, x_add, x_sub, x_cmp, x_eq_ii, x_ne_ii, x_int_i, x_len_t, x_len_l, x_tup_l, x_tup_t, x_list_l, x_list_t, x_dSl_t, x_dSl_l, x_items_t, x_items_l, x_tru_n, x_tru_b, x_tru_i, x_tru_t, x_tru_l, x_asB, x_is_n, x_isNot_n, isNon_n, isNon_i, isNon_s, isNon_t, isNon_l, isNon_b, Bool.not_true, Bool.not_false, List.length_map, fnE, startE, B_applied_1, ec, x_add_t, sl_eq, z1, x_addT_t, z2, tx_len, txD, List.map_append]
    rfl
theorem applied_ok {t : List Nat} {P : Patch} (c : Ch (-1) P) (hl : (app t 0 P).length ≤ 100000) : C_applied [txD t, ptD P] = .ok (txD (app t 0 P)) := by
  obtain ⟨F', b', hb', e2, e3⟩ := app_loop t (some (ptD P)) P [] 0 (by omega) c (by rw [List.nil_append]; exact hl)
  rw [List.nil_append] at e2
  have e2 : F' ++ t.drop b'.toNat = app t 0 P := e2
  have e3 : forE (gfTup [4, 5, 6]) B_applied_1 (P.map hkD) [some (txD t), some (ptD P), some (.tup []), some (.int 0), none, none, none] = .next [some (txD t), some (ptD P), some (txD F'), some (.int b'), none, none, none] := e3
  have ec : cut (t.map lnD) (some b') none = (t.drop b'.toNat).map lnD := by rw [cutI_lo _ hb', List.map_drop]
  have z : F'.length + (t.drop b'.toNat).length ≤ 16777216 := by rw [← e2, List.length_append] at hl; omega
  simp only [sSeq_x, x_sSet, x_sIf, x_sRet, x_sRetN, x_sPar, x_sUnp, resF_ok, x_sDrop, x_sNext, x_sBreak, x_sCont, x_sRaise, x_sAug, augK_ok, x_sFor, x_sWhile, sKill_x, x_wipe0, x_wipe1, x_evL0, x_evL1, x_setL0, x_setL1, x_eVar, x_eC, x_eOp, x_eUn, x_eCall, x_eMS, x_asStr, x_aNil, x_aCons, x_eTup, x_eLst, x_eIf, x_eNot, x_eAnd, x_eOr, x_bAnd, x_bOr, x_bNot, x_bYes, x_eSl, x_oNone, x_oSome, asI_int, x_iSeq, x_iCall, x_gfName, x_gfTup, eLc, noX_is, Res.bind_ok, Res.bind_exc, flow_ok, flow_exc, seqK_next, seqK_ret, seqK_exc, seqK_brk, seqK_cont, loopK_next, loopK_cont, loopK_brk, loopK_ret, loopK_exc, must_ok, List.set_cons_succ, List.set_cons_zero, List.getD_cons_succ, List.getD_cons_zero, vD_some, if_true, if_false, Bool.false_eq_true, reduceIte, List.map_cons, List.map_nil, List.length_cons, List.length_nil, List.cons_append, List.nil_append, List.replicate, Nat.reduceSub, Nat.reduceAdd, x_add, x_sub, x_cmp, x_eq_ii, x_ne_ii, x_int_i, x_len_t, x_len_l, x_tup_l, x_tup_t, x_list_l, x_list_t, x_dSl_t, x_dSl_l, x_items_t, x_items_l, x_tru_n, x_tru_b, x_tru_i, x_tru_t, x_tru_l, x_asB, x_is_n, x_isNot_n, isNon_n, isNon_i, isNon_s, isNon_t, isNon_l, isNon_b, Bool.not_true, Bool.not_false, List.length_map, fnE, startE, C_applied, F_applied, e3, ec, x_add_t, sl_eq, z]
  rw [← e2, txD, List.map_append]
def fit1 (t : List Nat) (h : Hunk) : Bool := decide (hEnd h ≤ t.length) && decide ((t.drop h.1.toNat).take h.2.1.length = h.2.1)
def flt (t : List Nat) : Patch → Nat → Option Nat
  | [], _ => none
  | h :: r, j => if fit1 t h = true then flt t r (j + 1) else some j
def onD : Option Nat → D
  | none => .non
  | some k => dN k
theorem flt_none {t : List Nat} : ∀ {P : Patch} {j : Nat}, flt t P j = none ↔ ∀ h ∈ P, fit1 t h = true
  | [], _ => ⟨fun _ p h => (nomatch h), fun _ => rfl⟩
  | p :: P, j => by
    rw [flt]
    by_cases h : fit1 t p = true
    · rw [if_pos h, flt_none]
      exact ⟨fun z x hx => by
        rcases List.mem_cons.mp hx with rfl | hx
        · exact h
        · exact z x hx, fun z x hx => z x (List.mem_cons_of_mem _ hx)⟩
    · rw [if_neg h]
      exact ⟨fun z => (nomatch z), fun z => absurd (z p List.mem_cons_self) h⟩
theorem fit_iff {t : List Nat} : ∀ {P : Patch} {b : Int}, 0 ≤ b → b ≤ t.length → Ch (b - 1) P → (Fit (t.drop b.toNat) b P ↔ (∀ h ∈ P, fit1 t h = true))
  | [], _, _, _, _ => ⟨fun _ p h => (nomatch h), fun _ => trivial⟩
  | p :: P, b, hb, hbl, c => by
    have h1 := c.1
    have he := hEnd_ge p
    have e1 : hEnd p = p.1 + p.2.1.length := rfl
    have hd : (t.drop b.toNat).drop (hEnd p - b).toNat = t.drop (hEnd p).toNat := by rw [List.drop_drop]; congr 1; omega
    have hd2 : (t.drop b.toNat).drop (p.1 - b).toNat = t.drop p.1.toNat := by rw [List.drop_drop]; congr 1; omega
    have ih := fun h => fit_iff (t := t) (P := P) (b := hEnd p) (by omega) h (c.2.mono (by omega))
    rw [Fit, hd, hd2, List.length_drop]
    have e : fit1 t p = true ↔ hEnd p ≤ t.length ∧ (t.drop p.1.toNat).take p.2.1.length = p.2.1 := by
      unfold fit1
      rw [Bool.and_eq_true, decide_eq_true_iff, decide_eq_true_iff]
    constructor
    · rintro ⟨f1, f2, f3, f4⟩ x hx
      have hl : hEnd p ≤ t.length := by omega
      rcases List.mem_cons.mp hx with rfl | hx
      · exact e.mpr ⟨hl, f3⟩
      · exact (ih hl).mp f4 x hx
    · intro z
      have zp := e.mp (z p List.mem_cons_self)
      exact ⟨by omega, by omega, zp.2, (ih zp.1).mpr fun x hx => z x (List.mem_cons_of_mem _ hx)⟩
theorem fit_iff0 {t : List Nat} {P : Patch} (c : Ch (-1) P) : Fit t 0 P ↔ ∀ h ∈ P, fit1 t h = true := fit_iff (t := t) (b := 0) (by omega) (by omega) c
theorem fault_loop (t : List Nat) (a : Option D) (ht : LOk t) : ∀ (P : Patch) (j : Nat), (∀ h ∈ P, 0 ≤ h.1 ∧ LOk h.2.1) → forE (gfT 2 (gfC (gfName 2) (gfC (gfTup [3, 4, 5]) gfN))) B_fault_1 (enD (P.map hkD) j) [some (txD t), a, none, none, none, none] =
    match flt t P j with
    | some k => .ret (dN k)
    | none => .next [some (txD t), a, none, none, none, none]
  | [], j, _ => rfl
  | p :: P, j, c => by
    obtain ⟨h0, h1⟩ := c p List.mem_cons_self
    have he := hEnd_ge p
    have ih := fault_loop t a ht P (j + 1) fun h hh => c h (List.mem_cons_of_mem _ hh)
    have gf : (gfT 2 (gfC (gfName 2) (gfC (gfTup [3, 4, 5]) gfN))) [some (txD t), a, none, none, none, none] (.tup [dN j, hkD p]) = .ok [some (txD t), a, some (dN j), some (.int p.1), some (txD p.2.1), some (txD p.2.2)] := rfl
    have ec : cut (t.map lnD) (some p.1) (some (p.1 + (p.2.1.length : Int))) = ((t.drop p.1.toNat).take p.2.1.length).map lnD := by
      rw [cutI _ h0 (by omega), List.map_take, List.map_drop]
      congr 1
      omega
    have ed := tx_ne (a := (t.drop p.1.toNat).take p.2.1.length) (b := p.2.1) (fun c hc => ht c (List.mem_of_mem_drop (List.mem_of_mem_take hc))) h1
    rw [List.map_cons, enD_cons, forE_cons, flt]
    by_cases hl : hEnd p ≤ t.length
    · have z1 : iGt (p.1 + (p.2.1.length : Int)) (t.length : Int) = false := decide_eq_false (by unfold hEnd at hl; omega)
      by_cases hq : (t.drop p.1.toNat).take p.2.1.length = p.2.1
      · have hf : fit1 t p = true := by unfold fit1; rw [decide_eq_true hl, decide_eq_true hq]; rfl
        rw [decide_eq_true hq] at ed
        rw [if_pos hf, ← ih, gf]
        simp only [sSeq_x, x_sSet, x_sIf, x_sRet, x_sRetN, x_sPar, x_sUnp, resF_ok, x_sDrop, x_sNext, x_sBreak, x_sCont, x_sRaise, x_sAug, augK_ok, x_sFor, x_sWhile, sKill_x, x_wipe0, x_wipe1, x_evL0, x_evL1, x_setL0, x_setL1, x_eVar, x_eC, x_eOp, x_eUn, x_eCall, x_eMS, x_asStr, x_aNil, x_aCons, x_eTup, x_eLst, x_eIf, x_eNot, x_eAnd, x_eOr, x_bAnd, x_bOr, x_bNot, x_bYes, x_eSl, x_oNone, x_oSome, asI_int, x_iSeq, x_iCall, x_gfName, x_gfTup, eLc, noX_is, Res.bind_ok, Res.bind_exc, flow_ok, flow_exc, seqK_next, seqK_ret, seqK_exc, seqK_brk, seqK_cont, loopK_next, loopK_cont, loopK_brk, loopK_ret, loopK_exc, must_ok, List.set_cons_succ, List.set_cons_zero, List.getD_cons_succ, List.getD_cons_zero, vD_some, if_true, if_false, Bool.false_eq_true, reduceIte, List.map_cons, List.map_nil, List.length_cons, List.length_nil, List.cons_append, List.nil_append, List.replicate, Nat.reduceSub, Nat.reduceAdd, x_add, x_sub, x_cmp, x_eq_ii, x_ne_ii, x_int_i, x_len_t, x_len_l, x_tup_l, x_tup_t, x_list_l, x_list_t, x_dSl_t, x_dSl_l, x_items_t, x_items_l, x_tru_n, x_tru_b, x_tru_i, x_tru_t, x_tru_l, x_asB, x_is_n, x_isNot_n, isNon_n, isNon_i, isNon_s, isNon_t, isNon_l, isNon_b, Bool.not_true, Bool.not_false, List.length_map, fnE, startE, B_fault_1, tx_len, z1, ec, ed]
      · have hf : ¬ fit1 t p = true := by unfold fit1; rw [decide_eq_false hq, Bool.and_false]; exact Bool.false_ne_true
        rw [decide_eq_false hq] at ed
        rw [if_neg hf, gf]
        simp only [sSeq_x, x_sSet, x_sIf, x_sRet, x_sRetN, x_sPar, x_sUnp, resF_ok, x_sDrop, x_sNext, x_sBreak, x_sCont, x_sRaise, x_sAug, augK_ok, x_sFor, x_sWhile, sKill_x, x_wipe0, x_wipe1, x_evL0, x_evL1, x_setL0, x_setL1, x_eVar, x_eC, x_eOp, x_eUn, x_eCall, x_eMS, x_asStr, x_aNil, x_aCons, x_eTup, x_eLst, x_eIf, x_eNot, x_eAnd, x_eOr, x_bAnd, x_bOr, x_bNot, x_bYes, x_eSl, x_oNone, x_oSome, asI_int, x_iSeq, x_iCall, x_gfName, x_gfTup, eLc, noX_is, Res.bind_ok, Res.bind_exc, flow_ok, flow_exc, seqK_next, seqK_ret, seqK_exc, seqK_brk, seqK_cont, loopK_next, loopK_cont, loopK_brk, loopK_ret, loopK_exc, must_ok, List.set_cons_succ, List.set_cons_zero, List.getD_cons_succ, List.getD_cons_zero, vD_some, if_true, if_false, Bool.false_eq_true, reduceIte, List.map_cons, List.map_nil, List.length_cons, List.length_nil, List.cons_append, List.nil_append, List.replicate, Nat.reduceSub, Nat.reduceAdd, x_add, x_sub, x_cmp, x_eq_ii, x_ne_ii, x_int_i, x_len_t, x_len_l, x_tup_l, x_tup_t, x_list_l, x_list_t, x_dSl_t, x_dSl_l, x_items_t, x_items_l, x_tru_n, x_tru_b, x_tru_i, x_tru_t, x_tru_l, x_asB, x_is_n, x_isNot_n, isNon_n, isNon_i, isNon_s, isNon_t, isNon_l, isNon_b, Bool.not_true, Bool.not_false, List.length_map, fnE, startE, B_fault_1, tx_len, z1, ec, ed]
    · have z1 : iGt (p.1 + (p.2.1.length : Int)) (t.length : Int) = true := decide_eq_true (by unfold hEnd at hl; omega)
      have hf : ¬ fit1 t p = true := by unfold fit1; rw [decide_eq_false hl, Bool.false_and]; exact Bool.false_ne_true
      rw [if_neg hf, gf]
      simp only [sSeq_x, x_sSet, x_sIf, x_sRet, x_sRetN, x_sPar, x_sUnp, resF_ok, x_sDrop, x_sNext, x_sBreak, x_sCont, x_sRaise, x_sAug, augK_ok, x_sFor, x_sWhile, sKill_x, x_wipe0, x_wipe1, x_evL0, x_evL1, x_setL0, x_setL1, x_eVar, x_eC, x_eOp, x_eUn, x_eCall, x_eMS, x_asStr, x_aNil, x_aCons, x_eTup, x_eLst, x_eIf, x_eNot, x_eAnd, x_eOr, x_bAnd, x_bOr, x_bNot, x_bYes, x_eSl, x_oNone, x_oSome, asI_int, x_iSeq, x_iCall, x_gfName, x_gfTup, eLc, noX_is, Res.bind_ok, Res.bind_exc, flow_ok, flow_exc, seqK_next, seqK_ret, seqK_exc, seqK_brk, seqK_cont, loopK_next, loopK_cont, loopK_brk, loopK_ret, loopK_exc, must_ok, List.set_cons_succ, List.set_cons_zero, List.getD_cons_succ, List.getD_cons_zero, vD_some, if_true, if_false, Bool.false_eq_true, reduceIte, List.map_cons, List.map_nil, List.length_cons, List.length_nil, List.cons_append, List.nil_append, List.replicate, Nat.reduceSub, Nat.reduceAdd, x_add, x_sub, x_cmp, x_eq_ii, x_ne_ii, x_int_i, x_len_t, x_len_l, x_tup_l, x_tup_t, x_list_l, x_list_t, x_dSl_t, x_dSl_l, x_items_t, x_items_l, x_tru_n, x_tru_b, x_tru_i, x_tru_t, x_tru_l, x_asB, x_is_n, x_isNot_n, isNon_n, isNon_i, isNon_s, isNon_t, isNon_l, isNon_b, Bool.not_true, Bool.not_false, List.length_map, fnE, startE, B_fault_1, tx_len, z1]
theorem fault_ok {t : List Nat} {P : Patch} (ht : LOk t) (p : Vp P) : C_fault [txD t, ptD P] = .ok (onD (flt t P 0)) := by
  have e := fault_loop t (some (ptD P)) ht P 0 fun h hh => ⟨by have := p.ch.gt h hh; omega, (p.ln h hh).1⟩
  have en := en_rng (P.map hkD)
  cases q : flt t P 0 with
  | some k =>
    rw [q] at e
    simp only [sSeq_x, x_sSet, x_sIf, x_sRet, x_sRetN, x_sPar, x_sUnp, resF_ok, x_sDrop, x_sNext, x_sBreak, x_sCont, x_sRaise, x_sAug, augK_ok, x_sFor, x_sWhile, sKill_x, x_wipe0, x_wipe1, x_evL0, x_evL1, x_setL0, x_setL1, x_eVar, x_eC, x_eOp, x_eUn, x_eCall, x_eMS, x_asStr, x_aNil, x_aCons, x_eTup, x_eLst, x_eIf, x_eNot, x_eAnd, x_eOr, x_bAnd, x_bOr, x_bNot, x_bYes, x_eSl, x_oNone, x_oSome, asI_int, x_iSeq, x_iCall, x_gfName, x_gfTup, eLc, noX_is, Res.bind_ok, Res.bind_exc, flow_ok, flow_exc, seqK_next, seqK_ret, seqK_exc, seqK_brk, seqK_cont, loopK_next, loopK_cont, loopK_brk, loopK_ret, loopK_exc, must_ok, List.set_cons_succ, List.set_cons_zero, List.getD_cons_succ, List.getD_cons_zero, vD_some, if_true, if_false, Bool.false_eq_true, reduceIte, List.map_cons, List.map_nil, List.length_cons, List.length_nil, List.cons_append, List.nil_append, List.replicate, Nat.reduceSub, Nat.reduceAdd, x_add, x_sub, x_cmp, x_eq_ii, x_ne_ii, x_int_i, x_len_t, x_len_l, x_tup_l, x_tup_t, x_list_l, x_list_t, x_dSl_t, x_dSl_l, x_items_t, x_items_l, x_tru_n, x_tru_b, x_tru_i, x_tru_t, x_tru_l, x_asB, x_is_n, x_isNot_n, isNon_n, isNon_i, isNon_s, isNon_t, isNon_l, isNon_b, Bool.not_true, Bool.not_false, List.length_map, fnE, startE, C_fault, F_fault, en, e, onD]
  | none =>
    rw [q] at e
    simp only [sSeq_x, x_sSet, x_sIf, x_sRet, x_sRetN, x_sPar, x_sUnp, resF_ok, x_sDrop, x_sNext, x_sBreak, x_sCont, x_sRaise, x_sAug, augK_ok, x_sFor, x_sWhile, sKill_x, x_wipe0, x_wipe1, x_evL0, x_evL1, x_setL0, x_setL1, x_eVar, x_eC, x_eOp, x_eUn, x_eCall, x_eMS, x_asStr, x_aNil, x_aCons, x_eTup, x_eLst, x_eIf, x_eNot, x_eAnd, x_eOr, x_bAnd, x_bOr, x_bNot, x_bYes, x_eSl, x_oNone, x_oSome, asI_int, x_iSeq, x_iCall, x_gfName, x_gfTup, eLc, noX_is, Res.bind_ok, Res.bind_exc, flow_ok, flow_exc, seqK_next, seqK_ret, seqK_exc, seqK_brk, seqK_cont, loopK_next, loopK_cont, loopK_brk, loopK_ret, loopK_exc, must_ok, List.set_cons_succ, List.set_cons_zero, List.getD_cons_succ, List.getD_cons_zero, vD_some, if_true, if_false, Bool.false_eq_true, reduceIte, List.map_cons, List.map_nil, List.length_cons, List.length_nil, List.cons_append, List.nil_append, List.replicate, Nat.reduceSub, Nat.reduceAdd, x_add, x_sub, x_cmp, x_eq_ii, x_ne_ii, x_int_i, x_len_t, x_len_l, x_tup_l, x_tup_t, x_list_l, x_list_t, x_dSl_t, x_dSl_l, x_items_t, x_items_l, x_tru_n, x_tru_b, x_tru_i, x_tru_t, x_tru_l, x_asB, x_is_n, x_isNot_n, isNon_n, isNon_i, isNon_s, isNon_t, isNon_l, isNon_b, Bool.not_true, Bool.not_false, List.length_map, fnE, startE, C_fault, F_fault, en, e, onD]
theorem fault_fit {t : List Nat} {P : Patch} (ht : LOk t) (p : Vp P) (f : Fit t 0 P) : C_fault [txD t, ptD P] = .ok .non := by
  rw [fault_ok ht p, flt_none.mpr ((fit_iff0 p.ch).mp f)]
  rfl
theorem chtx_ok {t : List Nat} (h : LOk t) : C_check_texts [.lst [txD t]] = .ok .non := by
  have hb := lc_fun (gf := gfName 1) (f := eCall C_is_text (aCons (eVar 1) aNil)) (ρ := [some (.lst [txD t]), none]) (e := txD) (g := fun _ => .bl true) (xs := [t]) fun cs hc => ⟨_, rfl, by
    rw [List.mem_singleton.mp hc]
    simp [istext_ok h]⟩
  have e := x_all [true]
  simp only [List.map_cons, List.map_nil, List.all_cons, List.all_nil, Bool.and_true] at e hb
  simp only [sSeq_x, x_sSet, x_sIf, x_sRet, x_sRetN, x_sPar, x_sUnp, resF_ok, x_sDrop, x_sNext, x_sBreak, x_sCont, x_sRaise, x_sAug, augK_ok, x_sFor, x_sWhile, sKill_x, x_wipe0, x_wipe1, x_evL0, x_evL1, x_setL0, x_setL1, x_eVar, x_eC, x_eOp, x_eUn, x_eCall, x_eMS, x_asStr, x_aNil, x_aCons, x_eTup, x_eLst, x_eIf, x_eNot, x_eAnd, x_eOr, x_bAnd, x_bOr, x_bNot, x_bYes, x_eSl, x_oNone, x_oSome, asI_int, x_iSeq, x_iCall, x_gfName, x_gfTup, eLc, noX_is, Res.bind_ok, Res.bind_exc, flow_ok, flow_exc, seqK_next, seqK_ret, seqK_exc, seqK_brk, seqK_cont, loopK_next, loopK_cont, loopK_brk, loopK_ret, loopK_exc, must_ok, List.set_cons_succ, List.set_cons_zero, List.getD_cons_succ, List.getD_cons_zero, vD_some, if_true, if_false, Bool.false_eq_true, reduceIte, List.map_cons, List.map_nil, List.length_cons, List.length_nil, List.cons_append, List.nil_append, List.replicate, Nat.reduceSub, Nat.reduceAdd, x_add, x_sub, x_cmp, x_eq_ii, x_ne_ii, x_int_i, x_len_t, x_len_l, x_tup_l, x_tup_t, x_list_l, x_list_t, x_dSl_t, x_dSl_l, x_items_t, x_items_l, x_tru_n, x_tru_b, x_tru_i, x_tru_t, x_tru_l, x_asB, x_is_n, x_isNot_n, isNon_n, isNon_i, isNon_s, isNon_t, isNon_l, isNon_b, Bool.not_true, Bool.not_false, List.length_map, fnE, startE, C_check_texts, F_check_texts, hb, e]
/-! lengths, lines of what is made -/
def nl : Patch → Nat
  | [] => 0
  | h :: r => h.2.2.length + nl r
theorem app_len : ∀ (P : Patch) (s : List Nat) (b : Int), Ch (b - 1) P → (app s b P).length ≤ s.length + nl P
  | [], s, b, _ => by rw [app, nl]; omega
  | p :: P, s, b, c => by
    have h1 := c.1
    have he := hEnd_ge p
    have ih := app_len P (s.drop (hEnd p - b).toNat) (hEnd p) (c.2.mono (by omega))
    rw [app, nl, List.length_append, List.length_append, List.length_take]
    rw [List.length_drop] at ih
    omega
theorem app_LOk : ∀ (P : Patch) (s : List Nat) (b : Int), LOk s → (∀ h ∈ P, LOk h.2.2) → LOk (app s b P)
  | [], s, b, hs, _ => hs
  | p :: P, s, b, hs, hp => by
    have ih := app_LOk P (s.drop (hEnd p - b).toNat) (hEnd p) (fun c hc => hs c (List.mem_of_mem_drop hc)) fun h hh => hp h (List.mem_cons_of_mem _ hh)
    intro c hc
    rw [app] at hc
    rcases List.mem_append.mp hc with hc | hc
    · exact hs c (List.mem_of_mem_take hc)
    · rcases List.mem_append.mp hc with hc | hc
      · exact hp p List.mem_cons_self c hc
      · exact ih c hc
theorem nl_le : ∀ {P : Patch}, (∀ h ∈ P, h.2.2.length ≤ 100) → nl P ≤ 100 * P.length
  | [], _ => by rw [nl]; omega
  | p :: P, h => by
    have := nl_le (P := P) fun x hx => h x (List.mem_cons_of_mem _ hx)
    have h1 := h p List.mem_cons_self
    rw [nl, List.length_cons]
    omega
theorem Vp.nl {P : Patch} (p : Vp P) : nl P ≤ 10000 := by
  have := nl_le fun h hh => (p.sz h hh).2
  have := p.few
  omega
theorem Vp.len {P : Patch} (p : Vp P) (t : List Nat) : (app t 0 P).length ≤ t.length + 10000 := by
  have := app_len P t 0 (p.ch.mono (by omega))
  have := p.nl
  omega
theorem Vp.lok {P : Patch} (p : Vp P) {t : List Nat} (h : LOk t) : LOk (app t 0 P) := app_LOk P t 0 h fun x hx => (p.ln x hx).2
/-! ### from the last hunk to the first one -/
theorem beh_step (t : List Nat) (a : Option D) (p : Hunk) (h0 : 0 ≤ p.1) (hl : t.length + p.2.2.length ≤ 1000000) : B__law_behind_1 [some (txD t), a, some (.int p.1), some (txD p.2.1), some (txD p.2.2)] = .next [some (txD (t.take p.1.toNat ++ (p.2.2 ++ t.drop (hEnd p).toNat))), a, none, none, none] := by
  have he := hEnd_ge p
  have e1 : cut (t.map lnD) none (some p.1) = (t.take p.1.toNat).map lnD := by rw [cutI_hi _ h0, List.map_take]
  have e2 : cut (t.map lnD) (some (p.1 + (p.2.1.length : Int))) none = (t.drop (hEnd p).toNat).map lnD := by
    rw [cutI_lo _ (by omega), List.map_drop]
    rfl
  have z1 : (t.take p.1.toNat).length + p.2.2.length ≤ 16777216 := by rw [List.length_take]; omega
  have z2 : ((t.take p.1.toNat).map lnD ++ p.2.2.map lnD).length + (t.drop (hEnd p).toNat).length ≤ 16777216 := by rw [List.length_append, List.length_map, List.length_map, List.length_take, List.length_drop]; omega
  simp only [sSeq_x, x_sSet, x_sIf, x_sRet, x_sRetN, x_sPar, x_sUnp, resF_ok, x_sDrop, x_sNext, x_sBreak, x_sCont, x_sRaise, x_sAug, augK_ok, x_sFor, x_sWhile, sKill_x, x_wipe0, x_wipe1, x_evL0, x_evL1, x_setL0, x_setL1, x_eVar, x_eC, x_eOp, x_eUn, x_eCall, x_eMS, x_asStr, x_aNil, x_aCons, x_eTup, x_eLst, x_eIf, x_eNot, x_eAnd, x_eOr, x_bAnd, x_bOr, x_bNot, x_bYes, x_eSl, x_oNone, x_oSome, asI_int, x_iSeq, x_iCall, x_gfName, x_gfTup, eLc, noX_is, Res.bind_ok, Res.bind_exc, flow_ok, flow_exc, seqK_next, seqK_ret, seqK_exc, seqK_brk, seqK_cont, loopK_next, loopK_cont, loopK_brk, loopK_ret, loopK_exc, must_ok, List.set_cons_succ, List.set_cons_zero, List.getD_cons_succ, List.getD_cons_zero, vD_some, if_true, if_false, Bool.false_eq_true, reduceIte, List.map_cons, List.map_nil, List.length_cons, List.length_nil, List.cons_append, List.nil_append, List.replicate, Nat.reduceSub, Nat.reduceAdd, x_add, x_sub, x_cmp, x_eq_ii, x_ne_ii, x_int_i, x_len_t, x_len_l, x_tup_l, x_tup_t, x_list_l, x_list_t, x_dSl_t, x_dSl_l, x_items_t, x_items_l, x_tru_n, x_tru_b, x_tru_i, x_tru_t, x_tru_l, x_asB, x_is_n, x_isNot_n, isNon_n, isNon_i, isNon_s, isNon_t, isNon_l, isNon_b, Bool.not_true, Bool.not_false, List.length_map, fnE, startE, B__law_behind_1, e1, e2, tx_len, x_add_t, sl_eq, z1, z2, txD, List.map_append, List.append_assoc]
theorem beh_loop (a : Option D) : ∀ (P : Patch) (t : List Nat) (b : Int) (rest : List D), 0 ≤ b → b ≤ t.length → Ch (b - 1) P → Fit (t.drop b.toNat) b P → t.length + nl P ≤ 100000 →
    forE (gfTup [2, 3, 4]) B__law_behind_1 ((P.map hkD).reverse ++ rest) [some (txD t), a, none, none, none] = forE (gfTup [2, 3, 4]) B__law_behind_1 rest [some (txD (t.take b.toNat ++ app (t.drop b.toNat) b P)), a, none, none, none]
  | [], t, b, rest, _, _, _, _, _ => by rw [app, List.take_append_drop]; rfl
  | p :: P, t, b, rest, hb, hbl, c, f, hl => by
    have h1 := c.1
    have he := hEnd_ge p
    have e1 : hEnd p = p.1 + p.2.1.length := rfl
    have hd : (t.drop b.toNat).drop (hEnd p - b).toNat = t.drop (hEnd p).toNat := by rw [List.drop_drop]; congr 1; omega
    obtain ⟨f1, f2, f3, f4⟩ := f
    rw [hd] at f4
    rw [List.length_drop] at f2
    rw [nl] at hl
    have ih := beh_loop a P t (hEnd p) (hkD p :: rest) (by omega) (by omega) (c.2.mono (by omega)) f4 (by omega)
    have hln := app_len P (t.drop (hEnd p).toNat) (hEnd p) (c.2.mono (by omega))
    rw [List.length_drop] at hln
    have st := beh_step (t.take (hEnd p).toNat ++ app (t.drop (hEnd p).toNat) (hEnd p) P) a p (by omega) (by rw [List.length_append, List.length_take]; omega)
    have hlt : (t.take (hEnd p).toNat).length = (hEnd p).toNat := by rw [List.length_take]; omega
    have d1 : (t.take (hEnd p).toNat ++ app (t.drop (hEnd p).toNat) (hEnd p) P).drop (hEnd p).toNat = app (t.drop (hEnd p).toNat) (hEnd p) P := by
      have := List.drop_left (l₁ := t.take (hEnd p).toNat) (l₂ := app (t.drop (hEnd p).toNat) (hEnd p) P)
      rw [hlt] at this
      exact this
    have d2 : (t.take (hEnd p).toNat ++ app (t.drop (hEnd p).toNat) (hEnd p) P).take p.1.toNat = t.take p.1.toNat := by
      rw [List.take_append_of_le_length (by rw [hlt]; omega), List.take_take]
      congr 1
      omega
    rw [d1, d2] at st
    have et : t.take b.toNat ++ (t.drop b.toNat).take (p.1 - b).toNat = t.take p.1.toNat := by
      rw [← List.take_add]
      congr 1
      omega
    rw [List.map_cons, List.reverse_cons, List.append_assoc, List.singleton_append, ih, forE_cons, app, hd, ← List.append_assoc, et]
    simp only [sSeq_x, x_sSet, x_sIf, x_sRet, x_sRetN, x_sPar, x_sUnp, resF_ok, x_sDrop, x_sNext, x_sBreak, x_sCont, x_sRaise, x_sAug, augK_ok, x_sFor, x_sWhile, sKill_x, x_wipe0, x_wipe1, x_evL0, x_evL1, x_setL0, x_setL1, x_eVar, x_eC, x_eOp, x_eUn, x_eCall, x_eMS, x_asStr, x_aNil, x_aCons, x_eTup, x_eLst, x_eIf, x_eNot, x_eAnd, x_eOr, x_bAnd, x_bOr, x_bNot, x_bYes, x_eSl, x_oNone, x_oSome, asI_int, x_iSeq, x_iCall, x_gfName, x_gfTup, eLc, noX_is, Res.bind_ok, Res.bind_exc, flow_ok, flow_exc, seqK_next, seqK_ret, seqK_exc, seqK_brk, seqK_cont, loopK_next, loopK_cont, loopK_brk, loopK_ret, loopK_exc, must_ok, List.set_cons_succ, List.set_cons_zero, List.getD_cons_succ, List.getD_cons_zero, vD_some, if_true, if_false, Bool.false_eq_true, reduceIte, List.map_cons, List.map_nil, List.length_cons, List.length_nil, List.cons_append, List.nil_append, List.replicate, Nat.reduceSub, Nat.reduceAdd, x_add, x_sub, x_cmp, x_eq_ii, x_ne_ii, x_int_i, x_len_t, x_len_l, x_tup_l, x_tup_t, x_list_l, x_list_t, x_dSl_t, x_dSl_l, x_items_t, x_items_l, x_tru_n, x_tru_b, x_tru_i, x_tru_t, x_tru_l, x_asB, x_is_n, x_isNot_n, isNon_n, isNon_i, isNon_s, isNon_t, isNon_l, isNon_b, Bool.not_true, Bool.not_false, List.length_map, fnE, startE, st]
theorem behind_ok {t : List Nat} {P : Patch} (hl : t.length ≤ 90000) (p : Vp P) (f : Fit t 0 P) : C__law_behind [txD t, ptD P] = .ok (txD (app t 0 P)) := by
  have e := beh_loop (some (ptD P)) P t 0 [] (by omega) (by omega) (p.ch.mono (by omega)) f (by have := p.nl; omega)
  have r : dRev (ptD P) = .ok (.tup ((P.map hkD).reverse)) := rfl
  rw [List.append_nil] at e
  have e : forE (gfTup [2, 3, 4]) B__law_behind_1 ((P.map hkD).reverse) [some (txD t), some (ptD P), none, none, none] = .next [some (txD (app t 0 P)), some (ptD P), none, none, none] := e
  simp only [sSeq_x, x_sSet, x_sIf, x_sRet, x_sRetN, x_sPar, x_sUnp, resF_ok, x_sDrop, x_sNext, x_sBreak, x_sCont, x_sRaise, x_sAug, augK_ok, x_sFor, x_sWhile, sKill_x, x_wipe0, x_wipe1, x_evL0, x_evL1, x_setL0, x_setL1, x_eVar, x_eC, x_eOp, x_eUn, x_eCall, x_eMS, x_asStr, x_aNil, x_aCons, x_eTup, x_eLst, x_eIf, x_eNot, x_eAnd, x_eOr, x_bAnd, x_bOr, x_bNot, x_bYes, x_eSl, x_oNone, x_oSome, asI_int, x_iSeq, x_iCall, x_gfName, x_gfTup, eLc, noX_is, Res.bind_ok, Res.bind_exc, flow_ok, flow_exc, seqK_next, seqK_ret, seqK_exc, seqK_brk, seqK_cont, loopK_next, loopK_cont, loopK_brk, loopK_ret, loopK_exc, must_ok, List.set_cons_succ, List.set_cons_zero, List.getD_cons_succ, List.getD_cons_zero, vD_some, if_true, if_false, Bool.false_eq_true, reduceIte, List.map_cons, List.map_nil, List.length_cons, List.length_nil, List.cons_append, List.nil_append, List.replicate, Nat.reduceSub, Nat.reduceAdd, x_add, x_sub, x_cmp, x_eq_ii, x_ne_ii, x_int_i, x_len_t, x_len_l, x_tup_l, x_tup_t, x_list_l, x_list_t, x_dSl_t, x_dSl_l, x_items_t, x_items_l, x_tru_n, x_tru_b, x_tru_i, x_tru_t, x_tru_l, x_asB, x_is_n, x_isNot_n, isNon_n, isNon_i, isNon_s, isNon_t, isNon_l, isNon_b, Bool.not_true, Bool.not_false, List.length_map, fnE, startE, C__law_behind, F__law_behind, r, e]
/-! ### rows -/
abbrev rwD (R : List Patch) : D := .tup (R.map ptD)
theorem isrow_ok {R : List Patch} (h : ∀ P ∈ R, Vp P) : C_is_row [rwD R] = .ok (.bl true) := by
  have hb := lc_fun (gf := gfName 1) (f := eCall C_is_patch (aCons (eVar 1) aNil)) (ρ := [some (rwD R), none]) (e := ptD) (g := fun _ => .bl true) (xs := R) fun x hx => ⟨_, rfl, by simp [ispatch_ok (h x hx)]⟩
  have t1 : ∀ (α : Type) (xs : List α), fAll [.lst (xs.map fun _ => D.bl true)] = .ok (.bl true) := fun α xs => by
    rw [x_all_f (fun _ => true) xs]
    simp
  simp only [sSeq_x, x_sSet, x_sIf, x_sRet, x_sRetN, x_sPar, x_sUnp, resF_ok, x_sDrop, x_sNext, x_sBreak, x_sCont, x_sRaise, x_sAug, augK_ok, x_sFor, x_sWhile, sKill_x, x_wipe0, x_wipe1, x_evL0, x_evL1, x_setL0, x_setL1, x_eVar, x_eC, x_eOp, x_eUn, x_eCall, x_eMS, x_asStr, x_aNil, x_aCons, x_eTup, x_eLst, x_eIf, x_eNot, x_eAnd, x_eOr, x_bAnd, x_bOr, x_bNot, x_bYes, x_eSl, x_oNone, x_oSome, asI_int, x_iSeq, x_iCall, x_gfName, x_gfTup, eLc, noX_is, Res.bind_ok, Res.bind_exc, flow_ok, flow_exc, seqK_next, seqK_ret, seqK_exc, seqK_brk, seqK_cont, loopK_next, loopK_cont, loopK_brk, loopK_ret, loopK_exc, must_ok, List.set_cons_succ, List.set_cons_zero, List.getD_cons_succ, List.getD_cons_zero, vD_some, if_true, if_false, Bool.false_eq_true, reduceIte, List.map_cons, List.map_nil, List.length_cons, List.length_nil, List.cons_append, List.nil_append, List.replicate, Nat.reduceSub, Nat.reduceAdd, x_add, x_sub, x_cmp, x_eq_ii, x_ne_ii, x_int_i, x_len_t, x_len_l, x_tup_l, x_tup_t, x_list_l, x_list_t, x_dSl_t, x_dSl_l, x_items_t, x_items_l, x_tru_n, x_tru_b, x_tru_i, x_tru_t, x_tru_l, x_asB, x_is_n, x_isNot_n, isNon_n, isNon_i, isNon_s, isNon_t, isNon_l, isNon_b, Bool.not_true, Bool.not_false, List.length_map, fnE, startE, C_is_row, F_is_row, isi_t, k_tt, hb, t1]
theorem chrow_ok {R : List Patch} (h : ∀ P ∈ R, Vp P) : C_check_row [rwD R] = .ok .non := by
  simp only [sSeq_x, x_sSet, x_sIf, x_sRet, x_sRetN, x_sPar, x_sUnp, resF_ok, x_sDrop, x_sNext, x_sBreak, x_sCont, x_sRaise, x_sAug, augK_ok, x_sFor, x_sWhile, sKill_x, x_wipe0, x_wipe1, x_evL0, x_evL1, x_setL0, x_setL1, x_eVar, x_eC, x_eOp, x_eUn, x_eCall, x_eMS, x_asStr, x_aNil, x_aCons, x_eTup, x_eLst, x_eIf, x_eNot, x_eAnd, x_eOr, x_bAnd, x_bOr, x_bNot, x_bYes, x_eSl, x_oNone, x_oSome, asI_int, x_iSeq, x_iCall, x_gfName, x_gfTup, eLc, noX_is, Res.bind_ok, Res.bind_exc, flow_ok, flow_exc, seqK_next, seqK_ret, seqK_exc, seqK_brk, seqK_cont, loopK_next, loopK_cont, loopK_brk, loopK_ret, loopK_exc, must_ok, List.set_cons_succ, List.set_cons_zero, List.getD_cons_succ, List.getD_cons_zero, vD_some, if_true, if_false, Bool.false_eq_true, reduceIte, List.map_cons, List.map_nil, List.length_cons, List.length_nil, List.cons_append, List.nil_append, List.replicate, Nat.reduceSub, Nat.reduceAdd, x_add, x_sub, x_cmp, x_eq_ii, x_ne_ii, x_int_i, x_len_t, x_len_l, x_tup_l, x_tup_t, x_list_l, x_list_t, x_dSl_t, x_dSl_l, x_items_t, x_items_l, x_tru_n, x_tru_b, x_tru_i, x_tru_t, x_tru_l, x_asB, x_is_n, x_isNot_n, isNon_n, isNon_i, isNon_s, isNon_t, isNon_l, isNon_b, Bool.not_true, Bool.not_false, List.length_map, fnE, startE, C_check_row, F_check_row, isrow_ok h]
def rb (t : List Nat) : List Patch → List Nat
  | [] => t
  | P :: R => rb (app t 0 P) R
def RFit (t : List Nat) : List Patch → Prop
  | [] => True
  | P :: R => Fit t 0 P ∧ RFit (app t 0 P) R
theorem rb_app : ∀ (A B : List Patch) (t : List Nat), rb t (A ++ B) = rb (rb t A) B
  | [], _, _ => rfl
  | P :: A, B, t => rb_app A B (app t 0 P)
theorem rf_loop (r : Option D) : ∀ (R : List Patch) (t : List Nat) (j : Nat), (∀ P ∈ R, Vp P) → LOk t → t.length + 10000 * R.length ≤ 90000 → RFit t R → ∃ t', forE (gfTup [2, 3]) B_row_fault_1 (enD (R.map ptD) j) [some (txD t), r, none, none] = .next [some (txD t'), r, none, none]
  | [], t, j, _, _, _, _ => ⟨t, rfl⟩
  | P :: R, t, j, h, ht, hl, f => by
    have p := h P List.mem_cons_self
    rw [List.length_cons] at hl
    have hpl := p.len t
    obtain ⟨t', ih⟩ := rf_loop r R (app t 0 P) (j + 1) (fun Q hq => h Q (List.mem_cons_of_mem _ hq)) (p.lok ht) (by omega) f.2
    refine ⟨t', ?_⟩
    have e1 := fault_fit ht p f.1
    have e2 := applied_ok (t := t) p.ch (by omega)
    rw [List.map_cons, enD_cons, forE_cons, ← ih]
    simp only [sSeq_x, x_sSet, x_sIf, x_sRet, x_sRetN, x_sPar, x_sUnp, resF_ok, x_sDrop, x_sNext, x_sBreak, x_sCont, x_sRaise, x_sAug, augK_ok, x_sFor, x_sWhile, sKill_x, x_wipe0, x_wipe1, x_evL0, x_evL1, x_setL0, x_setL1, x_eVar, x_eC, x_eOp, x_eUn, x_eCall, x_eMS, x_asStr, x_aNil, x_aCons, x_eTup, x_eLst, x_eIf, x_eNot, x_eAnd, x_eOr, x_bAnd, x_bOr, x_bNot, x_bYes, x_eSl, x_oNone, x_oSome, asI_int, x_iSeq, x_iCall, x_gfName, x_gfTup, eLc, noX_is, Res.bind_ok, Res.bind_exc, flow_ok, flow_exc, seqK_next, seqK_ret, seqK_exc, seqK_brk, seqK_cont, loopK_next, loopK_cont, loopK_brk, loopK_ret, loopK_exc, must_ok, List.set_cons_succ, List.set_cons_zero, List.getD_cons_succ, List.getD_cons_zero, vD_some, if_true, if_false, Bool.false_eq_true, reduceIte, List.map_cons, List.map_nil, List.length_cons, List.length_nil, List.cons_append, List.nil_append, List.replicate, Nat.reduceSub, Nat.reduceAdd, x_add, x_sub, x_cmp, x_eq_ii, x_ne_ii, x_int_i, x_len_t, x_len_l, x_tup_l, x_tup_t, x_list_l, x_list_t, x_dSl_t, x_dSl_l, x_items_t, x_items_l, x_tru_n, x_tru_b, x_tru_i, x_tru_t, x_tru_l, x_asB, x_is_n, x_isNot_n, isNon_n, isNon_i, isNon_s, isNon_t, isNon_l, isNon_b, Bool.not_true, Bool.not_false, List.length_map, fnE, startE, B_row_fault_1, e1, e2]
theorem rowfault_ok {R : List Patch} {t : List Nat} (h : ∀ P ∈ R, Vp P) (ht : LOk t) (hl : t.length + 10000 * R.length ≤ 90000) (f : RFit t R) : C_row_fault [txD t, rwD R] = .ok .non := by
  obtain ⟨t', e⟩ := rf_loop (some (rwD R)) R t 0 h ht hl f
  have en := en_rng (R.map ptD)
  simp only [sSeq_x, x_sSet, x_sIf, x_sRet, x_sRetN, x_sPar, x_sUnp, resF_ok, x_sDrop, x_sNext, x_sBreak, x_sCont, x_sRaise, x_sAug, augK_ok, x_sFor, x_sWhile, sKill_x, x_wipe0, x_wipe1, x_evL0, x_evL1, x_setL0, x_setL1, x_eVar, x_eC, x_eOp, x_eUn, x_eCall, x_eMS, x_asStr, x_aNil, x_aCons, x_eTup, x_eLst, x_eIf, x_eNot, x_eAnd, x_eOr, x_bAnd, x_bOr, x_bNot, x_bYes, x_eSl, x_oNone, x_oSome, asI_int, x_iSeq, x_iCall, x_gfName, x_gfTup, eLc, noX_is, Res.bind_ok, Res.bind_exc, flow_ok, flow_exc, seqK_next, seqK_ret, seqK_exc, seqK_brk, seqK_cont, loopK_next, loopK_cont, loopK_brk, loopK_ret, loopK_exc, must_ok, List.set_cons_succ, List.set_cons_zero, List.getD_cons_succ, List.getD_cons_zero, vD_some, if_true, if_false, Bool.false_eq_true, reduceIte, List.map_cons, List.map_nil, List.length_cons, List.length_nil, List.cons_append, List.nil_append, List.replicate, Nat.reduceSub, Nat.reduceAdd, x_add, x_sub, x_cmp, x_eq_ii, x_ne_ii, x_int_i, x_len_t, x_len_l, x_tup_l, x_tup_t, x_list_l, x_list_t, x_dSl_t, x_dSl_l, x_items_t, x_items_l, x_tru_n, x_tru_b, x_tru_i, x_tru_t, x_tru_l, x_asB, x_is_n, x_isNot_n, isNon_n, isNon_i, isNon_s, isNon_t, isNon_l, isNon_b, Bool.not_true, Bool.not_false, List.length_map, fnE, startE, C_row_fault, F_row_fault, chtx_ok ht, isrow_ok h, en, e]
theorem rbh_loop (r : Option D) : ∀ (R : List Patch) (t : List Nat), (∀ P ∈ R, Vp P) → t.length + 10000 * R.length ≤ 90000 → forE (gfName 2) B_row_behind_1 (R.map ptD) [some (txD t), r, none] = .next [some (txD (rb t R)), r, none]
  | [], t, _, _ => rfl
  | P :: R, t, h, hl => by
    have p := h P List.mem_cons_self
    rw [List.length_cons] at hl
    have hpl := p.len t
    have ih := rbh_loop r R (app t 0 P) (fun Q hq => h Q (List.mem_cons_of_mem _ hq)) (by omega)
    have e2 := applied_ok (t := t) p.ch (by omega)
    rw [List.map_cons, forE_cons, rb, ← ih]
    simp only [sSeq_x, x_sSet, x_sIf, x_sRet, x_sRetN, x_sPar, x_sUnp, resF_ok, x_sDrop, x_sNext, x_sBreak, x_sCont, x_sRaise, x_sAug, augK_ok, x_sFor, x_sWhile, sKill_x, x_wipe0, x_wipe1, x_evL0, x_evL1, x_setL0, x_setL1, x_eVar, x_eC, x_eOp, x_eUn, x_eCall, x_eMS, x_asStr, x_aNil, x_aCons, x_eTup, x_eLst, x_eIf, x_eNot, x_eAnd, x_eOr, x_bAnd, x_bOr, x_bNot, x_bYes, x_eSl, x_oNone, x_oSome, asI_int, x_iSeq, x_iCall, x_gfName, x_gfTup, eLc, noX_is, Res.bind_ok, Res.bind_exc, flow_ok, flow_exc, seqK_next, seqK_ret, seqK_exc, seqK_brk, seqK_cont, loopK_next, loopK_cont, loopK_brk, loopK_ret, loopK_exc, must_ok, List.set_cons_succ, List.set_cons_zero, List.getD_cons_succ, List.getD_cons_zero, vD_some, if_true, if_false, Bool.false_eq_true, reduceIte, List.map_cons, List.map_nil, List.length_cons, List.length_nil, List.cons_append, List.nil_append, List.replicate, Nat.reduceSub, Nat.reduceAdd, x_add, x_sub, x_cmp, x_eq_ii, x_ne_ii, x_int_i, x_len_t, x_len_l, x_tup_l, x_tup_t, x_list_l, x_list_t, x_dSl_t, x_dSl_l, x_items_t, x_items_l, x_tru_n, x_tru_b, x_tru_i, x_tru_t, x_tru_l, x_asB, x_is_n, x_isNot_n, isNon_n, isNon_i, isNon_s, isNon_t, isNon_l, isNon_b, Bool.not_true, Bool.not_false, List.length_map, fnE, startE, B_row_behind_1, e2]
theorem rowbehind_ok {R : List Patch} {t : List Nat} (h : ∀ P ∈ R, Vp P) (ht : LOk t) (hl : t.length + 10000 * R.length ≤ 90000) (f : RFit t R) : C_row_behind [txD t, rwD R] = .ok (txD (rb t R)) := by
  have e := rbh_loop (some (rwD R)) R t h hl
  simp only [sSeq_x, x_sSet, x_sIf, x_sRet, x_sRetN, x_sPar, x_sUnp, resF_ok, x_sDrop, x_sNext, x_sBreak, x_sCont, x_sRaise, x_sAug, augK_ok, x_sFor, x_sWhile, sKill_x, x_wipe0, x_wipe1, x_evL0, x_evL1, x_setL0, x_setL1, x_eVar, x_eC, x_eOp, x_eUn, x_eCall, x_eMS, x_asStr, x_aNil, x_aCons, x_eTup, x_eLst, x_eIf, x_eNot, x_eAnd, x_eOr, x_bAnd, x_bOr, x_bNot, x_bYes, x_eSl, x_oNone, x_oSome, asI_int, x_iSeq, x_iCall, x_gfName, x_gfTup, eLc, noX_is, Res.bind_ok, Res.bind_exc, flow_ok, flow_exc, seqK_next, seqK_ret, seqK_exc, seqK_brk, seqK_cont, loopK_next, loopK_cont, loopK_brk, loopK_ret, loopK_exc, must_ok, List.set_cons_succ, List.set_cons_zero, List.getD_cons_succ, List.getD_cons_zero, vD_some, if_true, if_false, Bool.false_eq_true, reduceIte, List.map_cons, List.map_nil, List.length_cons, List.length_nil, List.cons_append, List.nil_append, List.replicate, Nat.reduceSub, Nat.reduceAdd, x_add, x_sub, x_cmp, x_eq_ii, x_ne_ii, x_int_i, x_len_t, x_len_l, x_tup_l, x_tup_t, x_list_l, x_list_t, x_dSl_t, x_dSl_l, x_items_t, x_items_l, x_tru_n, x_tru_b, x_tru_i, x_tru_t, x_tru_l, x_asB, x_is_n, x_isNot_n, isNon_n, isNon_i, isNon_s, isNon_t, isNon_l, isNon_b, Bool.not_true, Bool.not_false, List.length_map, fnE, startE, C_row_behind, F_row_behind, chrow_ok h, rowfault_ok h ht hl f, e]
/-! ### what is drawn -/
def abN (n : Nat) : Nat := [97, 98, 99, 120, 121, 122].getD n 97
theorem ab_ok (n : Nat) : 97 ≤ abN n ∧ abN n ≤ 122 := by
  unfold abN
  match n with
  | 0 | 1 | 2 | 3 | 4 | 5 => exact ⟨by decide, by decide⟩
  | n + 6 =>
    have e : [97, 98, 99, 120, 121, 122].getD (n + 6) 97 = 97 := rfl
    rw [e]
    exact ⟨by decide, by decide⟩
theorem abc5 {n : Nat} (h : n < 5) : dIx (.str "abcxy") (.int (n : Nat)) = .ok (lnD (abN n)) := by
  match n, h with
  | 0, _ => kernel_rfl
  | 1, _ => kernel_rfl
  | 2, _ => kernel_rfl
  | 3, _ => kernel_rfl
  | 4, _ => kernel_rfl
theorem abc6 {n : Nat} (h : n < 6) : dIx (.str "abcxyz") (.int (n : Nat)) = .ok (lnD (abN n)) := by
  match n, h with
  | 0, _ => kernel_rfl
  | 1, _ => kernel_rfl
  | 2, _ => kernel_rfl
  | 3, _ => kernel_rfl
  | 4, _ => kernel_rfl
  | 5, _ => kernel_rfl
theorem dr_ix {ds : List Nat} {n : Nat} (h : n < ds.length) : dIx (.lst (ds.map dN)) (.int (n : Nat)) = .ok (dN (ds.getD n 0)) := by
  rw [List.getD_eq_getElem?_getD, List.getElem?_eq_getElem h]
  exact dIx_lm (List.getElem?_eq_getElem h)
theorem ltext_ok (ds : List Nat) (a most : Nat) (hl : a + 1 + most < ds.length) (hm : most ≤ 100) : ∃ t : List Nat, t.length ≤ most ∧ LOk t ∧ C__law_text [.lst (ds.map dN), dN a, dN most] = .ok (txD t) := by
  have i0 := dr_ix (ds := ds) (n := a) (by omega)
  have hpos : (0 : Int) < (most : Int) + 1 := by omega
  have em : ((ds.getD a 0 : Nat) : Int) % ((most : Int) + 1) = ((ds.getD a 0 % (most + 1) : Nat) : Int) := by simp
  have hs : ds.getD a 0 % (most + 1) ≤ most := by have := Nat.mod_lt (ds.getD a 0) (show 0 < most + 1 by omega); omega
  generalize ds.getD a 0 % (most + 1) = s at em hs
  have e0 := dRng1_nat s (by omega)
  refine ⟨(List.range s).map fun k => abN (ds.getD (a + 1 + k) 0 % 5), by simp; omega, fun c hc => ?_, ?_⟩
  · obtain ⟨k, _, rfl⟩ := List.mem_map.mp hc
    exact ab_ok _
  · have hb := lc_fun (gf := gfName 3) (f := eOp dIx (eC (.str "abcxy")) (eOp dMod (eCall fInt (aCons (eOp dIx (eVar 0) (eOp dAdd (eOp dAdd (eVar 1) (eC (.int 1))) (eVar 3))) aNil)) (eC (.int 5)))) (ρ := [some (.lst (ds.map dN)), some (dN a), some (dN most), none])
      (e := fun i : Nat => D.int (i : Nat)) (g := fun k => lnD (abN (ds.getD (a + 1 + k) 0 % 5))) (xs := List.range s) fun k hk => ⟨_, rfl, by
        have hk := List.mem_range.mp hk
        have i1 : dIx (.lst (ds.map dN)) (.int ((a : Int) + 1 + k)) = .ok (dN (ds.getD (a + 1 + k) 0)) := dr_ix (n := a + 1 + k) (by omega)
        have hx := abc5 (n := ds.getD (a + 1 + k) 0 % 5) (by omega)
        simp only [Int.natCast_emod, Int.cast_ofNat_Int] at hx
        simp only [sSeq_x, x_sSet, x_sIf, x_sRet, x_sRetN, x_sPar, x_sUnp, resF_ok, x_sDrop, x_sNext, x_sBreak, x_sCont, x_sRaise, x_sAug, augK_ok, x_sFor, x_sWhile, sKill_x, x_wipe0, x_wipe1, x_evL0, x_evL1, x_setL0, x_setL1, x_eVar, x_eC, x_eOp, x_eUn, x_eCall, x_eMS, x_asStr, x_aNil, x_aCons, x_eTup, x_eLst, x_eIf, x_eNot, x_eAnd, x_eOr, x_bAnd, x_bOr, x_bNot, x_bYes, x_eSl, x_oNone, x_oSome, asI_int, x_iSeq, x_iCall, x_gfName, x_gfTup, eLc, noX_is, Res.bind_ok, Res.bind_exc, flow_ok, flow_exc, seqK_next, seqK_ret, seqK_exc, seqK_brk, seqK_cont, loopK_next, loopK_cont, loopK_brk, loopK_ret, loopK_exc, must_ok, List.set_cons_succ, List.set_cons_zero, List.getD_cons_succ, List.getD_cons_zero, vD_some, if_true, if_false, Bool.false_eq_true, reduceIte, List.map_cons, List.map_nil, List.length_cons, List.length_nil, List.cons_append, List.nil_append, List.replicate, Nat.reduceSub, Nat.reduceAdd, x_add, x_sub, x_cmp, x_eq_ii, x_ne_ii, x_int_i, x_len_t, x_len_l, x_tup_l, x_tup_t, x_list_l, x_list_t, x_dSl_t, x_dSl_l, x_items_t, x_items_l, x_tru_n, x_tru_b, x_tru_i, x_tru_t, x_tru_l, x_asB, x_is_n, x_isNot_n, isNon_n, isNon_i, isNon_s, isNon_t, isNon_l, isNon_b, Bool.not_true, Bool.not_false, List.length_map, fnE, startE, i1, x_mod _ 5 (by decide), hx]⟩
    simp only [sSeq_x, x_sSet, x_sIf, x_sRet, x_sRetN, x_sPar, x_sUnp, resF_ok, x_sDrop, x_sNext, x_sBreak, x_sCont, x_sRaise, x_sAug, augK_ok, x_sFor, x_sWhile, sKill_x, x_wipe0, x_wipe1, x_evL0, x_evL1, x_setL0, x_setL1, x_eVar, x_eC, x_eOp, x_eUn, x_eCall, x_eMS, x_asStr, x_aNil, x_aCons, x_eTup, x_eLst, x_eIf, x_eNot, x_eAnd, x_eOr, x_bAnd, x_bOr, x_bNot, x_bYes, x_eSl, x_oNone, x_oSome, asI_int, x_iSeq, x_iCall, x_gfName, x_gfTup, eLc, noX_is, Res.bind_ok, Res.bind_exc, flow_ok, flow_exc, seqK_next, seqK_ret, seqK_exc, seqK_brk, seqK_cont, loopK_next, loopK_cont, loopK_brk, loopK_ret, loopK_exc, must_ok, List.set_cons_succ, List.set_cons_zero, List.getD_cons_succ, List.getD_cons_zero, vD_some, if_true, if_false, Bool.false_eq_true, reduceIte, List.map_cons, List.map_nil, List.length_cons, List.length_nil, List.cons_append, List.nil_append, List.replicate, Nat.reduceSub, Nat.reduceAdd, x_add, x_sub, x_cmp, x_eq_ii, x_ne_ii, x_int_i, x_len_t, x_len_l, x_tup_l, x_tup_t, x_list_l, x_list_t, x_dSl_t, x_dSl_l, x_items_t, x_items_l, x_tru_n, x_tru_b, x_tru_i, x_tru_t, x_tru_l, x_asB, x_is_n, x_isNot_n, isNon_n, isNon_i, isNon_s, isNon_t, isNon_l, isNon_b, Bool.not_true, Bool.not_false, List.length_map, fnE, startE, C__law_text, F__law_text, i0, x_mod _ _ hpos, em, e0, hb]
    rw [txD, List.map_map]
    rfl
theorem lnew_ok (v : Nat) {j : Nat} (hj : j < 3) : (do let b ← dIx (.lst [.int 1, .int 6, .int 36]) (.int (j : Nat)); dDiv (.int (v : Nat)) b) = .ok (dN (v / [1, 6, 36].getD j 1)) := by
  match j, hj with
  | 0, _ => rfl
  | 1, _ => rfl
  | 2, _ => rfl
theorem ne_of_D {a b : List Nat} (ha : LOk a) (hb : LOk b) : dNe (txD a) (txD b) = .ok (.bl (!decide (a = b))) := tx_ne ha hb
theorem ch_snoc : ∀ {P : Patch} {lo : Int} {h : Hunk}, Ch lo P → lo < h.1 → (∀ p ∈ P, hEnd p < h.1) → Ch lo (P ++ [h])
  | [], lo, h, _, hl, _ => ⟨hl, trivial⟩
  | p :: P, lo, h, c, hl, a => ⟨c.1, ch_snoc c.2 (a p List.mem_cons_self) fun q hq => a q (List.mem_cons_of_mem _ hq)⟩
/-- so far: found, the place -/
structure Dr (t : List Nat) (P : Patch) (pl : Nat) (k : Nat) : Prop where
  ch : Ch (-1) P
  ne : ∀ h ∈ P, h.2.1 ≠ h.2.2
  ln : ∀ h ∈ P, LOk h.2.1 ∧ LOk h.2.2
  sz : ∀ h ∈ P, h.2.1.length ≤ 2 ∧ h.2.2.length ≤ 2
  few : P.length ≤ k
  bel : ∀ h ∈ P, hEnd h < pl
  fit : ∀ h ∈ P, fit1 t h = true
theorem lp_step (ds t : List Nat) (ht : LOk t) (hd : ∀ d ∈ ds, d < 65521) (hl : t.length ≤ 10000) (a most : Nat) (P : Patch) (pl k : Nat) (ha : a + 5 + 4 * k < ds.length) (hk : k ≤ 10) (h : Dr t P pl k) (g1 g2 g3 : Option D) :
    ∃ P' pl', Dr t P' pl' (k + 1) ∧ B__law_patch_1 [some (.lst (ds.map dN)), some (dN a), some (txD t), some (dN most), some (.lst (P.map hkD)), some (dN pl), some (dN k), none, none, none] = .next [some (.lst (ds.map dN)), some (dN a), some (txD t), some (dN most), some (.lst (P'.map hkD)), some (dN pl'), none, none, none, none] := by
  have m4 : mulOk 4 (k : Int) = true := mulOk_l _ _ (by decide)
  have i2 : dIx (.lst (ds.map dN)) (.int ((a : Int) + 2 + 4 * k)) = .ok (dN (ds.getD (a + 2 + 4 * k) 0)) := dr_ix (n := a + 2 + 4 * k) (by omega)
  have i3 : dIx (.lst (ds.map dN)) (.int ((a : Int) + 3 + 4 * k)) = .ok (dN (ds.getD (a + 3 + 4 * k) 0)) := dr_ix (n := a + 3 + 4 * k) (by omega)
  have i4 : dIx (.lst (ds.map dN)) (.int ((a : Int) + 4 + 4 * k)) = .ok (dN (ds.getD (a + 4 + 4 * k) 0)) := dr_ix (n := a + 4 + 4 * k) (by omega)
  have i5 : dIx (.lst (ds.map dN)) (.int ((a : Int) + 5 + 4 * k)) = .ok (dN (ds.getD (a + 5 + 4 * k) 0)) := dr_ix (n := a + 5 + 4 * k) (by omega)
  generalize ds.getD (a + 2 + 4 * k) 0 = d2 at i2
  generalize ds.getD (a + 3 + 4 * k) 0 = d3 at i3
  generalize ds.getD (a + 4 + 4 * k) 0 = d4 at i4
  generalize ds.getD (a + 5 + 4 * k) 0 = d5 at i5
  have ec : cut (t.map lnD) (some (pl : Int)) (some ((pl : Int) + (d2 : Int) % 3)) = ((t.drop pl).take (d2 % 3)).map lnD := by
    have := cut_lh (t.map lnD) pl (pl + d2 % 3)
    rw [show pl + d2 % 3 - pl = d2 % 3 by omega] at this
    rw [List.map_take, List.map_drop, ← this]
    simp
  have e4 : ((d4 : Int) % 3) = ((d4 % 3 : Nat) : Int) := by omega
  have e5 : ((pl : Int) + 1 + (d5 : Int) % 3) = ((pl + 1 + d5 % 3 : Nat) : Int) := by omega
  have h43 : d4 % 3 < 3 := by omega
  generalize d4 % 3 = m at e4 h43
  have e0 := dRng1_nat m (by omega)
  have hold : LOk ((t.drop pl).take (d2 % 3)) := fun c hc => ht c (List.mem_of_mem_drop (List.mem_of_mem_take hc))
  generalize hO : (t.drop pl).take (d2 % 3) = o at ec hold
  obtain ⟨nw, hnw, lnw, eN⟩ : ∃ nw : List Nat, LOk nw ∧ nw.length ≤ 2 ∧ ∀ ρ9 : Px.Env, ρ9 = [some (.lst (ds.map dN)), some (dN a), some (txD t), some (dN most), some (.lst (P.map hkD)), some (dN pl), some (dN k), some (txD o), none, none] →
      lcE (gfName 9) bYes (eOp dIx (eC (.str "abcxyz")) (eOp dMod (eOp dDiv (eCall fInt (aCons (eOp dIx (eVar 0) (eOp dAdd (eOp dAdd (eVar 1) (eC (.int 3))) (eOp dMul (eC (.int 4)) (eVar 6)))) aNil)) (eOp dIx (eLst (aCons (eC (.int 1)) (aCons (eC (.int 6)) (aCons (eC (.int 36)) aNil)))) (eVar 9))) (eC (.int 6)))) ρ9 ((List.range m).map fun i => .int (i : Nat)) = .ok (nw.map lnD) := by
    refine ⟨(List.range m).map fun j => abN (d3 / [1, 6, 36].getD j 1 % 6), fun c hc => ?_, by simp; omega, fun ρ9 h9 => ?_⟩
    · obtain ⟨j, _, rfl⟩ := List.mem_map.mp hc
      exact ab_ok _
    · subst h9
      rw [List.map_map]
      refine lc_fun (e := fun i : Nat => D.int (i : Nat)) (g := fun j => lnD (abN (d3 / [1, 6, 36].getD j 1 % 6))) fun j hj => ⟨_, rfl, ?_⟩
      have hj := List.mem_range.mp hj
      have ln := lnew_ok d3 (j := j) (by omega)
      have hx := abc6 (n := d3 / [1, 6, 36].getD j 1 % 6) (by omega)
      simp only [Int.natCast_emod, Int.cast_ofNat_Int] at hx
      cases q : dIx (.lst [.int 1, .int 6, .int 36]) (.int (j : Nat)) with
      | ok b =>
        rw [q, Res.bind_ok] at ln
        simp only [sSeq_x, x_sSet, x_sIf, x_sRet, x_sRetN, x_sPar, x_sUnp, resF_ok, x_sDrop, x_sNext, x_sBreak, x_sCont, x_sRaise, x_sAug, augK_ok, x_sFor, x_sWhile, sKill_x, x_wipe0, x_wipe1, x_evL0, x_evL1, x_setL0, x_setL1, x_eVar, x_eC, x_eOp, x_eUn, x_eCall, x_eMS, x_asStr, x_aNil, x_aCons, x_eTup, x_eLst, x_eIf, x_eNot, x_eAnd, x_eOr, x_bAnd, x_bOr, x_bNot, x_bYes, x_eSl, x_oNone, x_oSome, asI_int, x_iSeq, x_iCall, x_gfName, x_gfTup, eLc, noX_is, Res.bind_ok, Res.bind_exc, flow_ok, flow_exc, seqK_next, seqK_ret, seqK_exc, seqK_brk, seqK_cont, loopK_next, loopK_cont, loopK_brk, loopK_ret, loopK_exc, must_ok, List.set_cons_succ, List.set_cons_zero, List.getD_cons_succ, List.getD_cons_zero, vD_some, if_true, if_false, Bool.false_eq_true, reduceIte, List.map_cons, List.map_nil, List.length_cons, List.length_nil, List.cons_append, List.nil_append, List.replicate, Nat.reduceSub, Nat.reduceAdd, x_add, x_sub, x_cmp, x_eq_ii, x_ne_ii, x_int_i, x_len_t, x_len_l, x_tup_l, x_tup_t, x_list_l, x_list_t, x_dSl_t, x_dSl_l, x_items_t, x_items_l, x_tru_n, x_tru_b, x_tru_i, x_tru_t, x_tru_l, x_asB, x_is_n, x_isNot_n, isNon_n, isNon_i, isNon_s, isNon_t, isNon_l, isNon_b, Bool.not_true, Bool.not_false, List.length_map, fnE, startE, dMul_i _ _ m4, i3, q, ln, x_mod _ 6 (by decide), hx]
      | exc c => rw [q] at ln; cases ln
      | err => rw [q] at ln; cases ln
  have eN := eN _ rfl
  have hne := tx_ne hold hnw
  have lenO : o.length ≤ 2 := by rw [← hO, List.length_take]; omega
  by_cases hp : pl ≤ t.length
  · have z1 : iLe (pl : Int) (t.length : Int) = true := decide_eq_true (by omega)
    by_cases hq : o = nw
    · rw [decide_eq_true hq] at hne
      refine ⟨P, pl + 1 + d5 % 3, ⟨h.ch, h.ne, h.ln, h.sz, by have := h.few; omega, fun x hx => by have := h.bel x hx; omega, h.fit⟩, ?_⟩
      simp only [sSeq_x, x_sSet, x_sIf, x_sRet, x_sRetN, x_sPar, x_sUnp, resF_ok, x_sDrop, x_sNext, x_sBreak, x_sCont, x_sRaise, x_sAug, augK_ok, x_sFor, x_sWhile, sKill_x, x_wipe0, x_wipe1, x_evL0, x_evL1, x_setL0, x_setL1, x_eVar, x_eC, x_eOp, x_eUn, x_eCall, x_eMS, x_asStr, x_aNil, x_aCons, x_eTup, x_eLst, x_eIf, x_eNot, x_eAnd, x_eOr, x_bAnd, x_bOr, x_bNot, x_bYes, x_eSl, x_oNone, x_oSome, asI_int, x_iSeq, x_iCall, x_gfName, x_gfTup, eLc, noX_is, Res.bind_ok, Res.bind_exc, flow_ok, flow_exc, seqK_next, seqK_ret, seqK_exc, seqK_brk, seqK_cont, loopK_next, loopK_cont, loopK_brk, loopK_ret, loopK_exc, must_ok, List.set_cons_succ, List.set_cons_zero, List.getD_cons_succ, List.getD_cons_zero, vD_some, if_true, if_false, Bool.false_eq_true, reduceIte, List.map_cons, List.map_nil, List.length_cons, List.length_nil, List.cons_append, List.nil_append, List.replicate, Nat.reduceSub, Nat.reduceAdd, x_add, x_sub, x_cmp, x_eq_ii, x_ne_ii, x_int_i, x_len_t, x_len_l, x_tup_l, x_tup_t, x_list_l, x_list_t, x_dSl_t, x_dSl_l, x_items_t, x_items_l, x_tru_n, x_tru_b, x_tru_i, x_tru_t, x_tru_l, x_asB, x_is_n, x_isNot_n, isNon_n, isNon_i, isNon_s, isNon_t, isNon_l, isNon_b, Bool.not_true, Bool.not_false, List.length_map, fnE, startE, B__law_patch_1, dMul_i _ _ m4, i2, i4, i5, x_mod _ 3 (by decide), ec, e4, e0, eN, tx_len, z1, hne, e5]
    · rw [decide_eq_false hq] at hne
      have lenO2 : (pl : Int) + o.length ≤ t.length := by rw [← hO, List.length_take, List.length_drop]; omega
      refine ⟨P ++ [((pl : Int), o, nw)], pl + o.length + 1 + d5 % 3, ⟨ch_snoc h.ch (by dsimp only; omega) (fun p hp => h.bel p hp), ?_, ?_, ?_, by rw [List.length_append, List.length_singleton]; have := h.few; omega, ?_, ?_⟩, ?_⟩
      · intro x hx
        rcases List.mem_append.mp hx with hx | hx
        · exact h.ne x hx
        · rw [List.mem_singleton.mp hx]; exact hq
      · intro x hx
        rcases List.mem_append.mp hx with hx | hx
        · exact h.ln x hx
        · rw [List.mem_singleton.mp hx]; exact ⟨hold, hnw⟩
      · intro x hx
        rcases List.mem_append.mp hx with hx | hx
        · exact h.sz x hx
        · rw [List.mem_singleton.mp hx]; exact ⟨lenO, lnw⟩
      · intro x hx
        rcases List.mem_append.mp hx with hx | hx
        · have := h.bel x hx; omega
        · rw [List.mem_singleton.mp hx]; unfold hEnd; dsimp only; omega
      · intro x hx
        rcases List.mem_append.mp hx with hx | hx
        · exact h.fit x hx
        · rw [List.mem_singleton.mp hx]
          unfold fit1 hEnd
          dsimp only
          rw [decide_eq_true lenO2, decide_eq_true]
          · rfl
          · rw [Int.toNat_natCast]
            rw [← hO, List.length_take, List.length_drop]
            have : min (d2 % 3) (t.length - pl) ≤ d2 % 3 := by omega
            rw [List.take_eq_take_iff, List.length_drop]
            omega
      · have hl2 : P.length < 16777216 := by have := h.few; omega
        have e5' : ((pl : Int) + (o.length : Int) + 1 + (d5 : Int) % 3) = ((pl + o.length + 1 + d5 % 3 : Nat) : Int) := by omega
        simp only [sSeq_x, x_sSet, x_sIf, x_sRet, x_sRetN, x_sPar, x_sUnp, resF_ok, x_sDrop, x_sNext, x_sBreak, x_sCont, x_sRaise, x_sAug, augK_ok, x_sFor, x_sWhile, sKill_x, x_wipe0, x_wipe1, x_evL0, x_evL1, x_setL0, x_setL1, x_eVar, x_eC, x_eOp, x_eUn, x_eCall, x_eMS, x_asStr, x_aNil, x_aCons, x_eTup, x_eLst, x_eIf, x_eNot, x_eAnd, x_eOr, x_bAnd, x_bOr, x_bNot, x_bYes, x_eSl, x_oNone, x_oSome, asI_int, x_iSeq, x_iCall, x_gfName, x_gfTup, eLc, noX_is, Res.bind_ok, Res.bind_exc, flow_ok, flow_exc, seqK_next, seqK_ret, seqK_exc, seqK_brk, seqK_cont, loopK_next, loopK_cont, loopK_brk, loopK_ret, loopK_exc, must_ok, List.set_cons_succ, List.set_cons_zero, List.getD_cons_succ, List.getD_cons_zero, vD_some, if_true, if_false, Bool.false_eq_true, reduceIte, List.map_cons, List.map_nil, List.length_cons, List.length_nil, List.cons_append, List.nil_append, List.replicate, Nat.reduceSub, Nat.reduceAdd, x_add, x_sub, x_cmp, x_eq_ii, x_ne_ii, x_int_i, x_len_t, x_len_l, x_tup_l, x_tup_t, x_list_l, x_list_t, x_dSl_t, x_dSl_l, x_items_t, x_items_l, x_tru_n, x_tru_b, x_tru_i, x_tru_t, x_tru_l, x_asB, x_is_n, x_isNot_n, isNon_n, isNon_i, isNon_s, isNon_t, isNon_l, isNon_b, Bool.not_true, Bool.not_false, List.length_map, fnE, startE, B__law_patch_1, dMul_i _ _ m4, i2, i4, i5, x_mod _ 3 (by decide), ec, e4, e0, eN, tx_len, z1, hne, sAppend, sl_eq, hl2, e5', List.map_append]
  · have z1 : iLe (pl : Int) (t.length : Int) = false := decide_eq_false (by omega)
    refine ⟨P, pl + 1 + d5 % 3, ⟨h.ch, h.ne, h.ln, h.sz, by have := h.few; omega, fun x hx => by have := h.bel x hx; omega, h.fit⟩, ?_⟩
    simp only [sSeq_x, x_sSet, x_sIf, x_sRet, x_sRetN, x_sPar, x_sUnp, resF_ok, x_sDrop, x_sNext, x_sBreak, x_sCont, x_sRaise, x_sAug, augK_ok, x_sFor, x_sWhile, sKill_x, x_wipe0, x_wipe1, x_evL0, x_evL1, x_setL0, x_setL1, x_eVar, x_eC, x_eOp, x_eUn, x_eCall, x_eMS, x_asStr, x_aNil, x_aCons, x_eTup, x_eLst, x_eIf, x_eNot, x_eAnd, x_eOr, x_bAnd, x_bOr, x_bNot, x_bYes, x_eSl, x_oNone, x_oSome, asI_int, x_iSeq, x_iCall, x_gfName, x_gfTup, eLc, noX_is, Res.bind_ok, Res.bind_exc, flow_ok, flow_exc, seqK_next, seqK_ret, seqK_exc, seqK_brk, seqK_cont, loopK_next, loopK_cont, loopK_brk, loopK_ret, loopK_exc, must_ok, List.set_cons_succ, List.set_cons_zero, List.getD_cons_succ, List.getD_cons_zero, vD_some, if_true, if_false, Bool.false_eq_true, reduceIte, List.map_cons, List.map_nil, List.length_cons, List.length_nil, List.cons_append, List.nil_append, List.replicate, Nat.reduceSub, Nat.reduceAdd, x_add, x_sub, x_cmp, x_eq_ii, x_ne_ii, x_int_i, x_len_t, x_len_l, x_tup_l, x_tup_t, x_list_l, x_list_t, x_dSl_t, x_dSl_l, x_items_t, x_items_l, x_tru_n, x_tru_b, x_tru_i, x_tru_t, x_tru_l, x_asB, x_is_n, x_isNot_n, isNon_n, isNon_i, isNon_s, isNon_t, isNon_l, isNon_b, Bool.not_true, Bool.not_false, List.length_map, fnE, startE, B__law_patch_1, dMul_i _ _ m4, i2, i4, i5, x_mod _ 3 (by decide), ec, e4, e0, eN, tx_len, z1, e5]
/-- a drawn patch -/
structure Dp (t : List Nat) (P : Patch) : Prop where
  vp : Vp P
  fit : Fit t 0 P
  sz : ∀ h ∈ P, h.2.1.length ≤ 2 ∧ h.2.2.length ≤ 2
  few : P.length ≤ 4
theorem lpatch_ok (ds t : List Nat) (ht : LOk t) (hd : ∀ d ∈ ds, d < 65521) (hl : t.length ≤ 10000) (a most : Nat) (ha : a + 5 + 4 * most < ds.length) (hm : most ≤ 4) : ∃ P : Patch, Dp t P ∧ C__law_patch [.lst (ds.map dN), dN a, txD t, dN most] = .ok (ptD P) := by
  have i0 := dr_ix (ds := ds) (n := a) (by omega)
  have i1 : dIx (.lst (ds.map dN)) (.int ((a : Int) + 1)) = .ok (dN (ds.getD (a + 1) 0)) := dr_ix (n := a + 1) (by omega)
  have hpos : (0 : Int) < (most : Int) + 1 := by omega
  have em : ((ds.getD (a + 1) 0 : Nat) : Int) % ((most : Int) + 1) = ((ds.getD (a + 1) 0 % (most + 1) : Nat) : Int) := by simp
  have hs : ds.getD (a + 1) 0 % (most + 1) ≤ most := by have := Nat.mod_lt (ds.getD (a + 1) 0) (show 0 < most + 1 by omega); omega
  generalize ds.getD (a + 1) 0 % (most + 1) = s at em hs
  have e3 : ((ds.getD a 0 : Nat) : Int) % 3 = ((ds.getD a 0 % 3 : Nat) : Int) := by omega
  generalize ds.getD a 0 % 3 = pl0 at e3
  have e0 := dRng1_nat s (by omega)
  obtain ⟨ρ, f, P, pl, dr, rfl⟩ := for_inv (gf := gfName 6) (F := B__law_patch_1) (ds := (List.range s).map fun i => D.int (i : Nat)) (n := 0) (ρ := [some (.lst (ds.map dN)), some (dN a), some (txD t), some (dN most), some (.lst []), some (dN pl0), none, none, none, none])
    (P := fun k ρ => ∃ P pl, Dr t P pl k ∧ ρ = [some (.lst (ds.map dN)), some (dN a), some (txD t), some (dN most), some (.lst (P.map hkD)), some (dN pl), none, none, none, none])
    ⟨[], pl0, ⟨trivial, fun h hh => (nomatch hh), fun h hh => (nomatch hh), fun h hh => (nomatch hh), by simp, fun h hh => (nomatch hh), fun h hh => (nomatch hh)⟩, rfl⟩ (fun i d hi ρ hp => by
      obtain ⟨P, pl, dr, rfl⟩ := hp
      have hi2 : i < s := by have := (List.getElem?_eq_some_iff.mp hi).1; simpa using this
      have hd2 : d = dN i := by
        rw [List.getElem?_map, List.getElem?_range hi2] at hi
        exact (Option.some.inj hi).symm
      subst hd2
      rw [Nat.zero_add] at dr ⊢
      obtain ⟨P', pl', dr', e⟩ := lp_step ds t ht hd hl a most P pl i (by omega) (by omega) dr none none none
      exact ⟨_, _, rfl, .inl e, P', pl', dr', rfl⟩)
  have few : P.length ≤ 4 := by have := dr.few; simp at this; omega
  refine ⟨P, ⟨⟨dr.ch, dr.ne, dr.ln, fun h hh => ⟨by have := (dr.sz h hh).1; omega, by have := (dr.sz h hh).2; omega⟩, by omega⟩, (fit_iff0 dr.ch).mpr dr.fit, dr.sz, few⟩, ?_⟩
  simp only [sSeq_x, x_sSet, x_sIf, x_sRet, x_sRetN, x_sPar, x_sUnp, resF_ok, x_sDrop, x_sNext, x_sBreak, x_sCont, x_sRaise, x_sAug, augK_ok, x_sFor, x_sWhile, sKill_x, x_wipe0, x_wipe1, x_evL0, x_evL1, x_setL0, x_setL1, x_eVar, x_eC, x_eOp, x_eUn, x_eCall, x_eMS, x_asStr, x_aNil, x_aCons, x_eTup, x_eLst, x_eIf, x_eNot, x_eAnd, x_eOr, x_bAnd, x_bOr, x_bNot, x_bYes, x_eSl, x_oNone, x_oSome, asI_int, x_iSeq, x_iCall, x_gfName, x_gfTup, eLc, noX_is, Res.bind_ok, Res.bind_exc, flow_ok, flow_exc, seqK_next, seqK_ret, seqK_exc, seqK_brk, seqK_cont, loopK_next, loopK_cont, loopK_brk, loopK_ret, loopK_exc, must_ok, List.set_cons_succ, List.set_cons_zero, List.getD_cons_succ, List.getD_cons_zero, vD_some, if_true, if_false, Bool.false_eq_true, reduceIte, List.map_cons, List.map_nil, List.length_cons, List.length_nil, List.cons_append, List.nil_append, List.replicate, Nat.reduceSub, Nat.reduceAdd, x_add, x_sub, x_cmp, x_eq_ii, x_ne_ii, x_int_i, x_len_t, x_len_l, x_tup_l, x_tup_t, x_list_l, x_list_t, x_dSl_t, x_dSl_l, x_items_t, x_items_l, x_tru_n, x_tru_b, x_tru_i, x_tru_t, x_tru_l, x_asB, x_is_n, x_isNot_n, isNon_n, isNon_i, isNon_s, isNon_t, isNon_l, isNon_b, Bool.not_true, Bool.not_false, List.length_map, fnE, startE, C__law_patch, F__law_patch, i0, i1, x_mod _ 3 (by decide), x_mod _ _ hpos, em, e3, e0, f]
theorem Dp.len {t : List Nat} {P : Patch} (d : Dp t P) : (app t 0 P).length ≤ t.length + 8 := by
  have h := app_len P t 0 (d.vp.ch.mono (by omega))
  have key : ∀ P : Patch, (∀ h ∈ P, h.2.1.length ≤ 2 ∧ h.2.2.length ≤ 2) → nl P ≤ 2 * P.length := fun P => by
    induction P with
    | nil => intro _; rw [nl]; omega
    | cons p P ih =>
      intro hp
      have := ih fun x hx => hp x (List.mem_cons_of_mem _ hx)
      have := (hp p List.mem_cons_self).2
      rw [nl, List.length_cons]
      omega
  have := key P d.sz
  have := d.few
  omega
/-! ### two patches in the other order -/
def cmO (P S : Patch) : Option (Patch × Patch) := match ft S (rev 0 P) with
  | some _ => none
  | none => some (shf S (rev 0 P), shf P (shf S (rev 0 P)))
theorem lc_filter {α : Type} {gf : Px.Env → D → Res Px.Env} {tt : Px.Env → Res Bool} {f : EF} {ρ : Px.Env} {e : α → D} {p : α → Bool} {g : α → D} : ∀ {xs : List α}, (∀ x ∈ xs, ∃ ρ1, gf ρ (e x) = .ok ρ1 ∧ tt ρ1 = .ok (p x) ∧ f ρ1 = .ok (g x)) → lcE gf tt f ρ (xs.map e) = .ok ((xs.filter p).map g)
  | [], _ => rfl
  | x :: xs, h => by
    obtain ⟨ρ1, e1, e2, e3⟩ := h x List.mem_cons_self
    have ih := lc_filter (xs := xs) fun y hy => h y (List.mem_cons_of_mem _ hy)
    rw [List.map_cons, List.filter_cons]
    cases hp : p x with
    | true =>
      rw [hp] at e2
      simp only [lcE, e1, e2, e3, ih, noX_is, Res.bind_ok, if_true, List.map_cons]
    | false =>
      rw [hp] at e2
      simp [lcE, e1, e2, e3, ih]
theorem sum_ints (l : List Int) : fSum [.lst (l.map .int)] = .ok (.int l.sum) := by
  show (match nums (l.map .int) with | some bs => Res.ok (D.int bs.sum) | none => .err) = _
  rw [nums_map]
theorem Dl_sum : ∀ (P : Patch) (x : Int), ((P.filter fun h => decide (hEnd h < x)).map hDel).sum = Dl P x
  | [], _ => rfl
  | p :: P, x => by
    rw [List.filter_cons, Dl]
    by_cases h : hEnd p < x
    · rw [if_pos (decide_eq_true h), if_pos h, List.map_cons, List.sum_cons, Dl_sum P x]
    · rw [if_neg (by simpa using h), if_neg h, Dl_sum P x, Int.zero_add]
theorem Dl_sum_neg (P : Patch) (x : Int) : ((P.filter fun h => decide (hEnd h < x)).map fun h => -hDel h).sum = -Dl P x := by
  rw [← Dl_sum P x]
  generalize P.filter (fun h => decide (hEnd h < x)) = l
  induction l with
  | nil => rfl
  | cons a l ih => rw [List.map_cons, List.map_cons, List.sum_cons, List.sum_cons, ih]; omega
abbrev mdD (h : Hunk) : D := .tup [.int h.1, .int (hEnd h), .int (-hDel h)]
theorem sw1_loop (a b : Option D) (g7 g8 g9 g10 g11 g12 : Option D) : ∀ (P F : Patch) (m : Int), F.length + P.length ≤ 1000 → ∃ m', forE (gfTup [4, 5, 6]) B__law_swapped_1 (P.map hkD) [a, b, some (.lst (F.map mdD)), some (.int m), none, none, none, g7, g8, g9, g10, g11, g12] = .next [a, b, some (.lst ((F ++ rev m P).map mdD)), some (.int m'), none, none, none, g7, g8, g9, g10, g11, g12]
  | [], F, m, _ => ⟨m, by rw [rev, List.append_nil]; rfl⟩
  | p :: P, F, m, hl => by
    rw [List.length_cons] at hl
    obtain ⟨m', ih⟩ := sw1_loop a b g7 g8 g9 g10 g11 g12 P (F ++ [(p.1 + m, p.2.2, p.2.1)]) (m + hDel p) (by simp; omega)
    have hl2 : F.length < 16777216 := by omega
    refine ⟨m', ?_⟩
    rw [List.append_assoc, List.singleton_append] at ih
    have e1 : mdD (p.1 + m, p.2.2, p.2.1) = .tup [.int (p.1 + m), .int (p.1 + m + (p.2.2.length : Int)), .int ((p.2.2.length : Int) - p.2.1.length)] := by
      show D.tup [_, _, D.int (-(((p.2.1.length : Int)) - p.2.2.length))] = _
      rw [show -((p.2.1.length : Int) - p.2.2.length) = (p.2.2.length : Int) - p.2.1.length by omega]
      rfl
    have e2 : m + (p.2.2.length : Int) - p.2.1.length = m + hDel p := by unfold hDel; omega
    rw [List.map_cons, forE_cons, rev, ← ih]
    simp only [sSeq_x, x_sSet, x_sIf, x_sRet, x_sRetN, x_sPar, x_sUnp, resF_ok, x_sDrop, x_sNext, x_sBreak, x_sCont, x_sRaise, x_sAug, augK_ok, x_sFor, x_sWhile, sKill_x, x_wipe0, x_wipe1, x_evL0, x_evL1, x_setL0, x_setL1, x_eVar, x_eC, x_eOp, x_eUn, x_eCall, x_eMS, x_asStr, x_aNil, x_aCons, x_eTup, x_eLst, x_eIf, x_eNot, x_eAnd, x_eOr, x_bAnd, x_bOr, x_bNot, x_bYes, x_eSl, x_oNone, x_oSome, asI_int, x_iSeq, x_iCall, x_gfName, x_gfTup, eLc, noX_is, Res.bind_ok, Res.bind_exc, flow_ok, flow_exc, seqK_next, seqK_ret, seqK_exc, seqK_brk, seqK_cont, loopK_next, loopK_cont, loopK_brk, loopK_ret, loopK_exc, must_ok, List.set_cons_succ, List.set_cons_zero, List.getD_cons_succ, List.getD_cons_zero, vD_some, if_true, if_false, Bool.false_eq_true, reduceIte, List.map_cons, List.map_nil, List.length_cons, List.length_nil, List.cons_append, List.nil_append, List.replicate, Nat.reduceSub, Nat.reduceAdd, x_add, x_sub, x_cmp, x_eq_ii, x_ne_ii, x_int_i, x_len_t, x_len_l, x_tup_l, x_tup_t, x_list_l, x_list_t, x_dSl_t, x_dSl_l, x_items_t, x_items_l, x_tru_n, x_tru_b, x_tru_i, x_tru_t, x_tru_l, x_asB, x_is_n, x_isNot_n, isNon_n, isNon_i, isNon_s, isNon_t, isNon_l, isNon_b, Bool.not_true, Bool.not_false, List.length_map, fnE, startE, B__law_swapped_1, sAppend, sl_eq, hl2, List.map_append, tx_len, e1, e2]
theorem sw2_step (a b x3 : Option D) (R F : Patch) (q : Hunk) (hl : F.length < 1000) : B__law_swapped_2 [a, b, some (.lst (R.map mdD)), x3, some (.int q.1), some (txD q.2.1), some (txD q.2.2), some (.lst (F.map hkD)), none, none, none, none, none] =
    if (R.any fun h => tch q h) = true then .ret .non else .next [a, b, some (.lst (R.map mdD)), x3, none, none, none, some (.lst ((F ++ [(q.1 + Dl R q.1, q.2)]).map hkD)), none, none, none, none, none] := by
  have h1 := lc_fun (gf := gfTup [9, 10, 11]) (f := eNot (eOr (eOp (dCmpI iLt) (eOp dAdd (eVar 4) (eCall fLen (aCons (eVar 5) aNil))) (eVar 9)) (eOp (dCmpI iLt) (eVar 10) (eVar 4)))) (ρ := [a, b, some (.lst (R.map mdD)), x3, some (.int q.1), some (txD q.2.1), some (txD q.2.2), some (.lst (F.map hkD)), none, none, none, none, none]) (e := mdD) (g := fun h => .bl (tch q h)) (xs := R) fun h hh => ⟨_, rfl, by
    have t : tch q h = !(decide (q.1 + (q.2.1.length : Int) < h.1) || decide (hEnd h < q.1)) := by
      unfold tch hEnd
      by_cases c1 : q.1 + (q.2.1.length : Int) < h.1
      · rw [decide_eq_true c1, decide_eq_false (show ¬ h.1 ≤ q.1 + (q.2.1.length : Int) by omega)]; simp
      · rw [decide_eq_false c1, decide_eq_true (show h.1 ≤ q.1 + (q.2.1.length : Int) by omega)]
        by_cases c2 : h.1 + (h.2.1.length : Int) < q.1
        · rw [decide_eq_true c2, decide_eq_false (show ¬ q.1 ≤ h.1 + (h.2.1.length : Int) by omega)]; rfl
        · rw [decide_eq_false c2, decide_eq_true (show q.1 ≤ h.1 + (h.2.1.length : Int) by omega)]; rfl
    rw [t]
    cases c1 : decide (q.1 + (q.2.1.length : Int) < h.1) <;> simp only [sSeq_x, x_sSet, x_sIf, x_sRet, x_sRetN, x_sPar, x_sUnp, resF_ok, x_sDrop, x_sNext, x_sBreak, x_sCont, x_sRaise, x_sAug, augK_ok, x_sFor, x_sWhile, sKill_x, x_wipe0, x_wipe1, x_evL0, x_evL1, x_setL0, x_setL1, x_eVar, x_eC, x_eOp, x_eUn, x_eCall, x_eMS, x_asStr, x_aNil, x_aCons, x_eTup, x_eLst, x_eIf, x_eNot, x_eAnd, x_eOr, x_bAnd, x_bOr, x_bNot, x_bYes, x_eSl, x_oNone, x_oSome, asI_int, x_iSeq, x_iCall, x_gfName, x_gfTup, eLc, noX_is, Res.bind_ok, Res.bind_exc, flow_ok, flow_exc, seqK_next, seqK_ret, seqK_exc, seqK_brk, seqK_cont, loopK_next, loopK_cont, loopK_brk, loopK_ret, loopK_exc, must_ok, List.set_cons_succ, List.set_cons_zero, List.getD_cons_succ, List.getD_cons_zero, vD_some, if_true, if_false, Bool.false_eq_true, reduceIte, List.map_cons, List.map_nil, List.length_cons, List.length_nil, List.cons_append, List.nil_append, List.replicate, Nat.reduceSub, Nat.reduceAdd, x_add, x_sub, x_cmp, x_eq_ii, x_ne_ii, x_int_i, x_len_t, x_len_l, x_tup_l, x_tup_t, x_list_l, x_list_t, x_dSl_t, x_dSl_l, x_items_t, x_items_l, x_tru_n, x_tru_b, x_tru_i, x_tru_t, x_tru_l, x_asB, x_is_n, x_isNot_n, isNon_n, isNon_i, isNon_s, isNon_t, isNon_l, isNon_b, Bool.not_true, Bool.not_false, List.length_map, fnE, startE, tx_len, c1, Bool.true_or, Bool.false_or]⟩
  have h2 := lc_filter (gf := gfTup [9, 10, 11]) (tt := eUn asB (eOp (dCmpI iLt) (eVar 10) (eVar 4))) (f := eVar 11) (ρ := [a, b, some (.lst (R.map mdD)), x3, some (.int q.1), some (txD q.2.1), some (txD q.2.2), some (.lst (F.map hkD)), none, none, none, none, none]) (e := mdD) (p := fun h => decide (hEnd h < q.1)) (g := fun h => .int (-hDel h)) (xs := R) fun h hh => ⟨_, rfl, rfl, rfl⟩
  have h3 := sum_ints ((R.filter fun h => decide (hEnd h < q.1)).map fun h => -hDel h)
  rw [List.map_map, Dl_sum_neg] at h3
  have h3 : fSum [.lst ((R.filter fun h => decide (hEnd h < q.1)).map fun h => D.int (-hDel h))] = .ok (.int (-Dl R q.1)) := h3
  have h4 := x_any_f (fun h => tch q h) R
  have hl2 : F.length < 16777216 := by omega
  have e4 : q.1 - -Dl R q.1 = q.1 + Dl R q.1 := by omega
  cases c : R.any (fun h => tch q h) with
  | true =>
    rw [c] at h4
    simp only [sSeq_x, x_sSet, x_sIf, x_sRet, x_sRetN, x_sPar, x_sUnp, resF_ok, x_sDrop, x_sNext, x_sBreak, x_sCont, x_sRaise, x_sAug, augK_ok, x_sFor, x_sWhile, sKill_x, x_wipe0, x_wipe1, x_evL0, x_evL1, x_setL0, x_setL1, x_eVar, x_eC, x_eOp, x_eUn, x_eCall, x_eMS, x_asStr, x_aNil, x_aCons, x_eTup, x_eLst, x_eIf, x_eNot, x_eAnd, x_eOr, x_bAnd, x_bOr, x_bNot, x_bYes, x_eSl, x_oNone, x_oSome, asI_int, x_iSeq, x_iCall, x_gfName, x_gfTup, eLc, noX_is, Res.bind_ok, Res.bind_exc, flow_ok, flow_exc, seqK_next, seqK_ret, seqK_exc, seqK_brk, seqK_cont, loopK_next, loopK_cont, loopK_brk, loopK_ret, loopK_exc, must_ok, List.set_cons_succ, List.set_cons_zero, List.getD_cons_succ, List.getD_cons_zero, vD_some, if_true, if_false, Bool.false_eq_true, reduceIte, List.map_cons, List.map_nil, List.length_cons, List.length_nil, List.cons_append, List.nil_append, List.replicate, Nat.reduceSub, Nat.reduceAdd, x_add, x_sub, x_cmp, x_eq_ii, x_ne_ii, x_int_i, x_len_t, x_len_l, x_tup_l, x_tup_t, x_list_l, x_list_t, x_dSl_t, x_dSl_l, x_items_t, x_items_l, x_tru_n, x_tru_b, x_tru_i, x_tru_t, x_tru_l, x_asB, x_is_n, x_isNot_n, isNon_n, isNon_i, isNon_s, isNon_t, isNon_l, isNon_b, Bool.not_true, Bool.not_false, List.length_map, fnE, startE, B__law_swapped_2, h1, h4]
  | false =>
    rw [c] at h4
    simp only [sSeq_x, x_sSet, x_sIf, x_sRet, x_sRetN, x_sPar, x_sUnp, resF_ok, x_sDrop, x_sNext, x_sBreak, x_sCont, x_sRaise, x_sAug, augK_ok, x_sFor, x_sWhile, sKill_x, x_wipe0, x_wipe1, x_evL0, x_evL1, x_setL0, x_setL1, x_eVar, x_eC, x_eOp, x_eUn, x_eCall, x_eMS, x_asStr, x_aNil, x_aCons, x_eTup, x_eLst, x_eIf, x_eNot, x_eAnd, x_eOr, x_bAnd, x_bOr, x_bNot, x_bYes, x_eSl, x_oNone, x_oSome, asI_int, x_iSeq, x_iCall, x_gfName, x_gfTup, eLc, noX_is, Res.bind_ok, Res.bind_exc, flow_ok, flow_exc, seqK_next, seqK_ret, seqK_exc, seqK_brk, seqK_cont, loopK_next, loopK_cont, loopK_brk, loopK_ret, loopK_exc, must_ok, List.set_cons_succ, List.set_cons_zero, List.getD_cons_succ, List.getD_cons_zero, vD_some, if_true, if_false, Bool.false_eq_true, reduceIte, List.map_cons, List.map_nil, List.length_cons, List.length_nil, List.cons_append, List.nil_append, List.replicate, Nat.reduceSub, Nat.reduceAdd, x_add, x_sub, x_cmp, x_eq_ii, x_ne_ii, x_int_i, x_len_t, x_len_l, x_tup_l, x_tup_t, x_list_l, x_list_t, x_dSl_t, x_dSl_l, x_items_t, x_items_l, x_tru_n, x_tru_b, x_tru_i, x_tru_t, x_tru_l, x_asB, x_is_n, x_isNot_n, isNon_n, isNon_i, isNon_s, isNon_t, isNon_l, isNon_b, Bool.not_true, Bool.not_false, List.length_map, fnE, startE, B__law_swapped_2, h1, h4, h2, h3, e4, sAppend, sl_eq, hl2, List.map_append]
theorem any_tch {R : Patch} {q : Hunk} : (R.any fun h => tch q h) = false ↔ ∀ h ∈ R, Ap q h := by
  rw [List.any_eq_false]
  constructor
  · intro z h hh
    exact tch_ap.mp (Bool.eq_false_iff.mpr (z h hh))
  · intro z h hh w
    rw [tch_ap.mpr (z h hh)] at w
    cases w
theorem sw2_loop (a b x3 : Option D) (R : Patch) : ∀ (S F : Patch), F.length + S.length ≤ 1000 →
    (Apart S R → forE (gfTup [4, 5, 6]) B__law_swapped_2 (S.map hkD) [a, b, some (.lst (R.map mdD)), x3, none, none, none, some (.lst (F.map hkD)), none, none, none, none, none] = .next [a, b, some (.lst (R.map mdD)), x3, none, none, none, some (.lst ((F ++ shf S R).map hkD)), none, none, none, none, none]) ∧
    (¬ Apart S R → forE (gfTup [4, 5, 6]) B__law_swapped_2 (S.map hkD) [a, b, some (.lst (R.map mdD)), x3, none, none, none, some (.lst (F.map hkD)), none, none, none, none, none] = .ret .non)
  | [], F, _ => ⟨fun _ => by rw [shf_nil, List.append_nil]; rfl, fun h => absurd (fun q hq => absurd hq List.not_mem_nil) h⟩
  | q :: S, F, hl => by
    rw [List.length_cons] at hl
    obtain ⟨i1, i2⟩ := sw2_loop a b x3 R S (F ++ [(q.1 + Dl R q.1, q.2)]) (by simp; omega)
    have st := sw2_step a b x3 R F q (by omega)
    by_cases hq : ∀ h ∈ R, Ap q h
    · rw [any_tch.mpr hq, if_neg Bool.false_ne_true] at st
      have hA : Apart (q :: S) R ↔ Apart S R := ⟨fun z x hx => z x (List.mem_cons_of_mem _ hx), fun z x hx => by
        rcases List.mem_cons.mp hx with rfl | hx
        · exact hq
        · exact z x hx⟩
      rw [hA]
      rw [List.append_assoc, List.singleton_append, ← shf_cons] at i1
      refine ⟨fun z => ?_, fun z => ?_⟩
      · rw [← i1 z, List.map_cons, forE_cons]
        simp only [sSeq_x, x_sSet, x_sIf, x_sRet, x_sRetN, x_sPar, x_sUnp, resF_ok, x_sDrop, x_sNext, x_sBreak, x_sCont, x_sRaise, x_sAug, augK_ok, x_sFor, x_sWhile, sKill_x, x_wipe0, x_wipe1, x_evL0, x_evL1, x_setL0, x_setL1, x_eVar, x_eC, x_eOp, x_eUn, x_eCall, x_eMS, x_asStr, x_aNil, x_aCons, x_eTup, x_eLst, x_eIf, x_eNot, x_eAnd, x_eOr, x_bAnd, x_bOr, x_bNot, x_bYes, x_eSl, x_oNone, x_oSome, asI_int, x_iSeq, x_iCall, x_gfName, x_gfTup, eLc, noX_is, Res.bind_ok, Res.bind_exc, flow_ok, flow_exc, seqK_next, seqK_ret, seqK_exc, seqK_brk, seqK_cont, loopK_next, loopK_cont, loopK_brk, loopK_ret, loopK_exc, must_ok, List.set_cons_succ, List.set_cons_zero, List.getD_cons_succ, List.getD_cons_zero, vD_some, if_true, if_false, Bool.false_eq_true, reduceIte, List.map_cons, List.map_nil, List.length_cons, List.length_nil, List.cons_append, List.nil_append, List.replicate, Nat.reduceSub, Nat.reduceAdd, x_add, x_sub, x_cmp, x_eq_ii, x_ne_ii, x_int_i, x_len_t, x_len_l, x_tup_l, x_tup_t, x_list_l, x_list_t, x_dSl_t, x_dSl_l, x_items_t, x_items_l, x_tru_n, x_tru_b, x_tru_i, x_tru_t, x_tru_l, x_asB, x_is_n, x_isNot_n, isNon_n, isNon_i, isNon_s, isNon_t, isNon_l, isNon_b, Bool.not_true, Bool.not_false, List.length_map, fnE, startE, st]
      · rw [← i2 z, List.map_cons, forE_cons]
        simp only [sSeq_x, x_sSet, x_sIf, x_sRet, x_sRetN, x_sPar, x_sUnp, resF_ok, x_sDrop, x_sNext, x_sBreak, x_sCont, x_sRaise, x_sAug, augK_ok, x_sFor, x_sWhile, sKill_x, x_wipe0, x_wipe1, x_evL0, x_evL1, x_setL0, x_setL1, x_eVar, x_eC, x_eOp, x_eUn, x_eCall, x_eMS, x_asStr, x_aNil, x_aCons, x_eTup, x_eLst, x_eIf, x_eNot, x_eAnd, x_eOr, x_bAnd, x_bOr, x_bNot, x_bYes, x_eSl, x_oNone, x_oSome, asI_int, x_iSeq, x_iCall, x_gfName, x_gfTup, eLc, noX_is, Res.bind_ok, Res.bind_exc, flow_ok, flow_exc, seqK_next, seqK_ret, seqK_exc, seqK_brk, seqK_cont, loopK_next, loopK_cont, loopK_brk, loopK_ret, loopK_exc, must_ok, List.set_cons_succ, List.set_cons_zero, List.getD_cons_succ, List.getD_cons_zero, vD_some, if_true, if_false, Bool.false_eq_true, reduceIte, List.map_cons, List.map_nil, List.length_cons, List.length_nil, List.cons_append, List.nil_append, List.replicate, Nat.reduceSub, Nat.reduceAdd, x_add, x_sub, x_cmp, x_eq_ii, x_ne_ii, x_int_i, x_len_t, x_len_l, x_tup_l, x_tup_t, x_list_l, x_list_t, x_dSl_t, x_dSl_l, x_items_t, x_items_l, x_tru_n, x_tru_b, x_tru_i, x_tru_t, x_tru_l, x_asB, x_is_n, x_isNot_n, isNon_n, isNon_i, isNon_s, isNon_t, isNon_l, isNon_b, Bool.not_true, Bool.not_false, List.length_map, fnE, startE, st]
    · have c : (R.any fun h => tch q h) = true := by
        cases c : R.any (fun h => tch q h) with
        | true => rfl
        | false => exact absurd (any_tch.mp c) hq
      rw [c, if_pos rfl] at st
      refine ⟨fun z => absurd (z q List.mem_cons_self) hq, fun _ => ?_⟩
      rw [List.map_cons, forE_cons]
      simp only [sSeq_x, x_sSet, x_sIf, x_sRet, x_sRetN, x_sPar, x_sUnp, resF_ok, x_sDrop, x_sNext, x_sBreak, x_sCont, x_sRaise, x_sAug, augK_ok, x_sFor, x_sWhile, sKill_x, x_wipe0, x_wipe1, x_evL0, x_evL1, x_setL0, x_setL1, x_eVar, x_eC, x_eOp, x_eUn, x_eCall, x_eMS, x_asStr, x_aNil, x_aCons, x_eTup, x_eLst, x_eIf, x_eNot, x_eAnd, x_eOr, x_bAnd, x_bOr, x_bNot, x_bYes, x_eSl, x_oNone, x_oSome, asI_int, x_iSeq, x_iCall, x_gfName, x_gfTup, eLc, noX_is, Res.bind_ok, Res.bind_exc, flow_ok, flow_exc, seqK_next, seqK_ret, seqK_exc, seqK_brk, seqK_cont, loopK_next, loopK_cont, loopK_brk, loopK_ret, loopK_exc, must_ok, List.set_cons_succ, List.set_cons_zero, List.getD_cons_succ, List.getD_cons_zero, vD_some, if_true, if_false, Bool.false_eq_true, reduceIte, List.map_cons, List.map_nil, List.length_cons, List.length_nil, List.cons_append, List.nil_append, List.replicate, Nat.reduceSub, Nat.reduceAdd, x_add, x_sub, x_cmp, x_eq_ii, x_ne_ii, x_int_i, x_len_t, x_len_l, x_tup_l, x_tup_t, x_list_l, x_list_t, x_dSl_t, x_dSl_l, x_items_t, x_items_l, x_tru_n, x_tru_b, x_tru_i, x_tru_t, x_tru_l, x_asB, x_is_n, x_isNot_n, isNon_n, isNon_i, isNon_s, isNon_t, isNon_l, isNon_b, Bool.not_true, Bool.not_false, List.length_map, fnE, startE, st]
theorem sw3_loop (a b c x3 : Option D) (A : Patch) : ∀ (P F : Patch), F.length + P.length ≤ 1000 → forE (gfTup [4, 5, 6]) B__law_swapped_3 (P.map hkD) [a, b, c, x3, none, none, none, some (.lst (A.map hkD)), some (.lst (F.map hkD)), none, none, none, none] = .next [a, b, c, x3, none, none, none, some (.lst (A.map hkD)), some (.lst ((F ++ shf P A).map hkD)), none, none, none, none]
  | [], F, _ => by rw [shf_nil, List.append_nil]; rfl
  | p :: P, F, hl => by
    rw [List.length_cons] at hl
    have ih := sw3_loop a b c x3 A P (F ++ [(p.1 + Dl A p.1, p.2)]) (by simp; omega)
    have h2 := lc_filter (gf := gfName 12) (tt := eUn asB (eOp (dCmpI iLt) (eOp dAdd (eOp dIx (eVar 12) (eC (.int 0))) (eCall fLen (aCons (eOp dIx (eVar 12) (eC (.int 1))) aNil))) (eVar 4))) (f := eOp dSub (eCall fLen (aCons (eOp dIx (eVar 12) (eC (.int 2))) aNil)) (eCall fLen (aCons (eOp dIx (eVar 12) (eC (.int 1))) aNil))) (ρ := [a, b, c, x3, some (.int p.1), some (txD p.2.1), some (txD p.2.2), some (.lst (A.map hkD)), some (.lst (F.map hkD)), none, none, none, none]) (e := hkD) (p := fun h => decide (hEnd h < p.1)) (g := fun h => .int (hDel h)) (xs := A) fun h hh => ⟨_, rfl, by
      simp only [sSeq_x, x_sSet, x_sIf, x_sRet, x_sRetN, x_sPar, x_sUnp, resF_ok, x_sDrop, x_sNext, x_sBreak, x_sCont, x_sRaise, x_sAug, augK_ok, x_sFor, x_sWhile, sKill_x, x_wipe0, x_wipe1, x_evL0, x_evL1, x_setL0, x_setL1, x_eVar, x_eC, x_eOp, x_eUn, x_eCall, x_eMS, x_asStr, x_aNil, x_aCons, x_eTup, x_eLst, x_eIf, x_eNot, x_eAnd, x_eOr, x_bAnd, x_bOr, x_bNot, x_bYes, x_eSl, x_oNone, x_oSome, asI_int, x_iSeq, x_iCall, x_gfName, x_gfTup, eLc, noX_is, Res.bind_ok, Res.bind_exc, flow_ok, flow_exc, seqK_next, seqK_ret, seqK_exc, seqK_brk, seqK_cont, loopK_next, loopK_cont, loopK_brk, loopK_ret, loopK_exc, must_ok, List.set_cons_succ, List.set_cons_zero, List.getD_cons_succ, List.getD_cons_zero, vD_some, if_true, if_false, Bool.false_eq_true, reduceIte, List.map_cons, List.map_nil, List.length_cons, List.length_nil, List.cons_append, List.nil_append, List.replicate, Nat.reduceSub, Nat.reduceAdd, x_add, x_sub, x_cmp, x_eq_ii, x_ne_ii, x_int_i, x_len_t, x_len_l, x_tup_l, x_tup_t, x_list_l, x_list_t, x_dSl_t, x_dSl_l, x_items_t, x_items_l, x_tru_n, x_tru_b, x_tru_i, x_tru_t, x_tru_l, x_asB, x_is_n, x_isNot_n, isNon_n, isNon_i, isNon_s, isNon_t, isNon_l, isNon_b, Bool.not_true, Bool.not_false, List.length_map, fnE, startE, hk0, hk1, tx_len]
      rfl, by
      simp only [sSeq_x, x_sSet, x_sIf, x_sRet, x_sRetN, x_sPar, x_sUnp, resF_ok, x_sDrop, x_sNext, x_sBreak, x_sCont, x_sRaise, x_sAug, augK_ok, x_sFor, x_sWhile, sKill_x, x_wipe0, x_wipe1, x_evL0, x_evL1, x_setL0, x_setL1, x_eVar, x_eC, x_eOp, x_eUn, x_eCall, x_eMS, x_asStr, x_aNil, x_aCons, x_eTup, x_eLst, x_eIf, x_eNot, x_eAnd, x_eOr, x_bAnd, x_bOr, x_bNot, x_bYes, x_eSl, x_oNone, x_oSome, asI_int, x_iSeq, x_iCall, x_gfName, x_gfTup, eLc, noX_is, Res.bind_ok, Res.bind_exc, flow_ok, flow_exc, seqK_next, seqK_ret, seqK_exc, seqK_brk, seqK_cont, loopK_next, loopK_cont, loopK_brk, loopK_ret, loopK_exc, must_ok, List.set_cons_succ, List.set_cons_zero, List.getD_cons_succ, List.getD_cons_zero, vD_some, if_true, if_false, Bool.false_eq_true, reduceIte, List.map_cons, List.map_nil, List.length_cons, List.length_nil, List.cons_append, List.nil_append, List.replicate, Nat.reduceSub, Nat.reduceAdd, x_add, x_sub, x_cmp, x_eq_ii, x_ne_ii, x_int_i, x_len_t, x_len_l, x_tup_l, x_tup_t, x_list_l, x_list_t, x_dSl_t, x_dSl_l, x_items_t, x_items_l, x_tru_n, x_tru_b, x_tru_i, x_tru_t, x_tru_l, x_asB, x_is_n, x_isNot_n, isNon_n, isNon_i, isNon_s, isNon_t, isNon_l, isNon_b, Bool.not_true, Bool.not_false, List.length_map, fnE, startE, hk1, hk2, tx_len]
      rfl⟩
    have h3 := sum_ints ((A.filter fun h => decide (hEnd h < p.1)).map hDel)
    rw [List.map_map, Dl_sum] at h3
    have h3 : fSum [.lst ((A.filter fun h => decide (hEnd h < p.1)).map fun h => D.int (hDel h))] = .ok (.int (Dl A p.1)) := h3
    have hl2 : F.length < 16777216 := by omega
    rw [List.append_assoc, List.singleton_append, ← shf_cons] at ih
    rw [List.map_cons, forE_cons, ← ih]
    simp only [sSeq_x, x_sSet, x_sIf, x_sRet, x_sRetN, x_sPar, x_sUnp, resF_ok, x_sDrop, x_sNext, x_sBreak, x_sCont, x_sRaise, x_sAug, augK_ok, x_sFor, x_sWhile, sKill_x, x_wipe0, x_wipe1, x_evL0, x_evL1, x_setL0, x_setL1, x_eVar, x_eC, x_eOp, x_eUn, x_eCall, x_eMS, x_asStr, x_aNil, x_aCons, x_eTup, x_eLst, x_eIf, x_eNot, x_eAnd, x_eOr, x_bAnd, x_bOr, x_bNot, x_bYes, x_eSl, x_oNone, x_oSome, asI_int, x_iSeq, x_iCall, x_gfName, x_gfTup, eLc, noX_is, Res.bind_ok, Res.bind_exc, flow_ok, flow_exc, seqK_next, seqK_ret, seqK_exc, seqK_brk, seqK_cont, loopK_next, loopK_cont, loopK_brk, loopK_ret, loopK_exc, must_ok, List.set_cons_succ, List.set_cons_zero, List.getD_cons_succ, List.getD_cons_zero, vD_some, if_true, if_false, Bool.false_eq_true, reduceIte, List.map_cons, List.map_nil, List.length_cons, List.length_nil, List.cons_append, List.nil_append, List.replicate, Nat.reduceSub, Nat.reduceAdd, x_add, x_sub, x_cmp, x_eq_ii, x_ne_ii, x_int_i, x_len_t, x_len_l, x_tup_l, x_tup_t, x_list_l, x_list_t, x_dSl_t, x_dSl_l, x_items_t, x_items_l, x_tru_n, x_tru_b, x_tru_i, x_tru_t, x_tru_l, x_asB, x_is_n, x_isNot_n, isNon_n, isNon_i, isNon_s, isNon_t, isNon_l, isNon_b, Bool.not_true, Bool.not_false, List.length_map, fnE, startE, B__law_swapped_3, h2, h3, sAppend, sl_eq, hl2, List.map_append]
def swD : Option (Patch × Patch) → D
  | none => .non
  | some (A, B) => .tup [ptD A, ptD B]
theorem swapped_ok {P S : Patch} (hp : P.length ≤ 100) (hs : S.length ≤ 100) : C__law_swapped [ptD P, ptD S] = .ok (swD (cmO P S)) := by
  obtain ⟨m', l1⟩ := sw1_loop (some (ptD P)) (some (ptD S)) none none none none none none P [] 0 (by simp; omega)
  obtain ⟨i1, i2⟩ := sw2_loop (some (ptD P)) (some (ptD S)) none (rev 0 P) S [] (by simp; omega)
  rw [List.nil_append, List.map_nil] at l1 i1
  rw [List.map_nil] at i2
  unfold cmO
  cases q : ft S (rev 0 P) with
  | some ij =>
    have na : ¬ Apart S (rev 0 P) := fun z => by
      rw [ft_none.mpr z] at q
      cases q
    simp only [sSeq_x, x_sSet, x_sIf, x_sRet, x_sRetN, x_sPar, x_sUnp, resF_ok, x_sDrop, x_sNext, x_sBreak, x_sCont, x_sRaise, x_sAug, augK_ok, x_sFor, x_sWhile, sKill_x, x_wipe0, x_wipe1, x_evL0, x_evL1, x_setL0, x_setL1, x_eVar, x_eC, x_eOp, x_eUn, x_eCall, x_eMS, x_asStr, x_aNil, x_aCons, x_eTup, x_eLst, x_eIf, x_eNot, x_eAnd, x_eOr, x_bAnd, x_bOr, x_bNot, x_bYes, x_eSl, x_oNone, x_oSome, asI_int, x_iSeq, x_iCall, x_gfName, x_gfTup, eLc, noX_is, Res.bind_ok, Res.bind_exc, flow_ok, flow_exc, seqK_next, seqK_ret, seqK_exc, seqK_brk, seqK_cont, loopK_next, loopK_cont, loopK_brk, loopK_ret, loopK_exc, must_ok, List.set_cons_succ, List.set_cons_zero, List.getD_cons_succ, List.getD_cons_zero, vD_some, if_true, if_false, Bool.false_eq_true, reduceIte, List.map_cons, List.map_nil, List.length_cons, List.length_nil, List.cons_append, List.nil_append, List.replicate, Nat.reduceSub, Nat.reduceAdd, x_add, x_sub, x_cmp, x_eq_ii, x_ne_ii, x_int_i, x_len_t, x_len_l, x_tup_l, x_tup_t, x_list_l, x_list_t, x_dSl_t, x_dSl_l, x_items_t, x_items_l, x_tru_n, x_tru_b, x_tru_i, x_tru_t, x_tru_l, x_asB, x_is_n, x_isNot_n, isNon_n, isNon_i, isNon_s, isNon_t, isNon_l, isNon_b, Bool.not_true, Bool.not_false, List.length_map, fnE, startE, C__law_swapped, F__law_swapped, l1, i2 na, swD]
  | none =>
    have a := ft_none.mp q
    have l3 := sw3_loop (some (ptD P)) (some (ptD S)) (some (.lst ((rev 0 P).map mdD))) none (shf S (rev 0 P)) P [] (by simp; omega)
    rw [List.nil_append, List.map_nil] at l3
    simp only [sSeq_x, x_sSet, x_sIf, x_sRet, x_sRetN, x_sPar, x_sUnp, resF_ok, x_sDrop, x_sNext, x_sBreak, x_sCont, x_sRaise, x_sAug, augK_ok, x_sFor, x_sWhile, sKill_x, x_wipe0, x_wipe1, x_evL0, x_evL1, x_setL0, x_setL1, x_eVar, x_eC, x_eOp, x_eUn, x_eCall, x_eMS, x_asStr, x_aNil, x_aCons, x_eTup, x_eLst, x_eIf, x_eNot, x_eAnd, x_eOr, x_bAnd, x_bOr, x_bNot, x_bYes, x_eSl, x_oNone, x_oSome, asI_int, x_iSeq, x_iCall, x_gfName, x_gfTup, eLc, noX_is, Res.bind_ok, Res.bind_exc, flow_ok, flow_exc, seqK_next, seqK_ret, seqK_exc, seqK_brk, seqK_cont, loopK_next, loopK_cont, loopK_brk, loopK_ret, loopK_exc, must_ok, List.set_cons_succ, List.set_cons_zero, List.getD_cons_succ, List.getD_cons_zero, vD_some, if_true, if_false, Bool.false_eq_true, reduceIte, List.map_cons, List.map_nil, List.length_cons, List.length_nil, List.cons_append, List.nil_append, List.replicate, Nat.reduceSub, Nat.reduceAdd, x_add, x_sub, x_cmp, x_eq_ii, x_ne_ii, x_int_i, x_len_t, x_len_l, x_tup_l, x_tup_t, x_list_l, x_list_t, x_dSl_t, x_dSl_l, x_items_t, x_items_l, x_tru_n, x_tru_b, x_tru_i, x_tru_t, x_tru_l, x_asB, x_is_n, x_isNot_n, isNon_n, isNon_i, isNon_s, isNon_t, isNon_l, isNon_b, Bool.not_true, Bool.not_false, List.length_map, fnE, startE, C__law_swapped, F__law_swapped, l1, i1 a, l3, swD]
/-! ### of commuting alone -/
theorem undo : ∀ (P : Patch) (s : List Nat) (b m : Int), Ch (b - 1) P → Fit s b P → Fit (app s b P) (b + m) (rev m P) ∧ app (app s b P) (b + m) (rev m P) = s
  | [], s, b, m, _, _ => ⟨trivial, rfl⟩
  | p :: P, s, b, m, c, f => by
    have h1 := c.1
    have he := hEnd_ge p
    have e1 : hEnd p = p.1 + p.2.1.length := rfl
    have e2 : hDel p = (p.2.2.length : Int) - p.2.1.length := rfl
    have e3 : hEnd (p.1 + m, p.2.2, p.2.1) = p.1 + m + p.2.2.length := rfl
    obtain ⟨f1, f2, f3, f4⟩ := f
    obtain ⟨i1, i2⟩ := undo P (s.drop (hEnd p - b).toNat) (hEnd p) (m + hDel p) (c.2.mono (by omega)) f4
    have ht : (s.take (p.1 - b).toNat).length = (p.1 - b).toNat := by rw [List.length_take]; omega
    have hA : (s.take (p.1 - b).toNat ++ p.2.2).length = (p.1 - b).toNat + p.2.2.length := by rw [List.length_append, ht]
    have d1 : ∀ S : List Nat, (s.take (p.1 - b).toNat ++ (p.2.2 ++ S)).take (p.1 - b).toNat = s.take (p.1 - b).toNat := fun S => by
      have := List.take_left (l₁ := s.take (p.1 - b).toNat) (l₂ := p.2.2 ++ S)
      rw [ht] at this
      exact this
    have d2 : ∀ S : List Nat, ((s.take (p.1 - b).toNat ++ (p.2.2 ++ S)).drop (p.1 - b).toNat).take p.2.2.length = p.2.2 := fun S => by
      have := List.drop_left (l₁ := s.take (p.1 - b).toNat) (l₂ := p.2.2 ++ S)
      rw [ht] at this
      rw [this, List.take_left]
    have d3 : ∀ S : List Nat, (s.take (p.1 - b).toNat ++ (p.2.2 ++ S)).drop ((p.1 - b).toNat + p.2.2.length) = S := fun S => by
      rw [← List.append_assoc]
      have := List.drop_left (l₁ := s.take (p.1 - b).toNat ++ p.2.2) (l₂ := S)
      rw [hA] at this
      exact this
    have z1 : ((p.1 + m, p.2.2, p.2.1) : Hunk).1 - (b + m) = p.1 - b := by dsimp only; omega
    have z2 : (hEnd (p.1 + m, p.2.2, p.2.1) - (b + m)).toNat = (p.1 - b).toNat + p.2.2.length := by omega
    have z3 : hEnd (p.1 + m, p.2.2, p.2.1) = hEnd p + (m + hDel p) := by omega
    rw [rev, app]
    constructor
    · refine ⟨by dsimp only; omega, ?_, ?_, ?_⟩
      · rw [List.length_append, List.length_append, ht]; omega
      · rw [z1]; exact d2 _
      · rw [z2, d3, z3]; exact i1
    · rw [app, z1, z2, d1, d3, z3, i2]
      show s.take (p.1 - b).toNat ++ (p.2.1 ++ _) = s
      rw [← List.append_assoc]
      have : s.take (p.1 - b).toNat ++ p.2.1 = s.take (hEnd p - b).toNat := by
        rw [show (hEnd p - b).toNat = (p.1 - b).toNat + p.2.1.length by omega, List.take_add, f3]
      rw [this, List.take_append_drop]
theorem undo0 {P : Patch} {t : List Nat} (c : Ch (-1) P) (f : Fit t 0 P) : Fit (app t 0 P) 0 (rev 0 P) ∧ app (app t 0 P) 0 (rev 0 P) = t := undo P t 0 0 c f
theorem cm_some {P S A B : Patch} (h : cmO P S = some (A, B)) : Apart S (rev 0 P) ∧ A = shf S (rev 0 P) ∧ B = shf P A := by
  unfold cmO at h
  cases q : ft S (rev 0 P) with
  | some ij => rw [q] at h; cases h
  | none =>
    rw [q] at h
    cases h
    exact ⟨ft_none.mp q, rfl, rfl⟩
theorem cm_vp {P S A B : Patch} (p : Vp P) (s : Vp S) (h : cmO P S = some (A, B)) : Vp A ∧ Vp B := by
  obtain ⟨a, rfl, rfl⟩ := cm_some h
  have va := s.shf p.rev a
  exact ⟨va, p.shf va (back_apart p.ch a).symm⟩
theorem cm_fit {P S A B : Patch} {t : List Nat} (p : Vp P) (s : Vp S) (h : cmO P S = some (A, B)) (fp : Fit t 0 P) (fs : Fit (app t 0 P) 0 S) : Fit t 0 A ∧ Fit (app t 0 A) 0 B ∧ app (app t 0 A) 0 B = app (app t 0 P) 0 S := by
  obtain ⟨a, rfl, rfl⟩ := cm_some h
  obtain ⟨u1, u2⟩ := undo0 p.ch fp
  have va := s.shf p.rev a
  have fa := (diamond p.rev.ch s.ch a u1 fs).1
  rw [u2] at fa
  have ba := back_apart p.ch a
  have d := diamond p.ch va.ch ba fp fa
  have d2 := diamond va.ch p.ch ba.symm fa fp
  rw [back_shf p.ch a] at d
  exact ⟨fa, d2.1, d.2.symm⟩
theorem cm_inv {P S A B : Patch} (p : Vp P) (s : Vp S) (h : cmO P S = some (A, B)) : cmO A B = some (P, S) := by
  obtain ⟨a, rfl, rfl⟩ := cm_some h
  have va := s.shf p.rev a
  have ba := back_apart p.ch a
  unfold cmO
  rw [ft_none.mpr (apart_rev va.ch ba.symm)]
  dsimp only
  rw [shf_rev va.ch ba.symm, back_shf p.ch a]
/-! ### rows: to the end, to the front -/
inductive Mv where
  | no (k : Nat)
  | row (X : List Patch)
def te : List Patch → Patch → List Patch → Mv
  | pre, P, [] => .row (pre ++ [P])
  | pre, P, S :: rest => match cmO P S with
    | none => .no (pre.length + 1)
    | some (A, B) => te (pre ++ [A]) B rest
/-- pr: the row ahead, from its end -/
def tf : List Patch → Patch → List Patch → Mv
  | [], P, rest => .row (P :: rest)
  | Q :: pr, P, rest => match cmO Q P with
    | none => .no pr.length
    | some (A, B) => tf pr A (B :: rest)
def mvD (w : Str) : Mv → D
  | .no k => .tup [.str w, dN k]
  | .row X => .tup [.str "row", rwD X]
def dnP : Nat → List D
  | 0 => []
  | n + 1 => dN (n + 1) :: dnP n
theorem dnP_eq : ∀ n : Nat, dnP n = (List.range n).map fun i => D.int ((n : Int) + (i : Nat) * (-1))
  | 0 => rfl
  | n + 1 => by
    rw [dnP, dnP_eq n, List.range_succ_eq_map, List.map_cons, List.map_map]
    congr 1
    refine List.map_congr_left fun i _ => ?_
    show D.int _ = D.int _
    congr 1
    simp only [Nat.succ_eq_add_one]
    omega
theorem downP_ok {n : Nat} (h : n ≤ 1000) : dRng3 [.int (n : Int), .int 0, .int (-1)] = .ok (dnP n) := by
  show (if _ then _ else _) = _
  rw [if_pos ⟨rfl, by omega, by omega, by omega, by omega, by omega⟩, dnP_eq]
  unfold rngC
  rw [show ((n : Int) - 0).toNat = n by omega]
def ups (j n : Nat) : List D := (List.range' j n).map fun i => D.int (i : Nat)
theorem ups_cons (j n : Nat) : ups j (n + 1) = dN j :: ups (j + 1) n := by
  unfold ups
  rw [List.range'_succ, List.map_cons]
theorem ups0 (n : Nat) : ((List.range n).map fun i => D.int (i : Nat)) = ups 0 n := by
  unfold ups
  rw [List.range_eq_range']
theorem ups_rng2 {j n : Nat} (h : j + n ≤ 1000) : dRng2 [.int (j : Int), .int (((j + n : Nat)) : Int)] = .ok (ups j n) := by
  show (if _ then _ else _) = _
  rw [if_pos ⟨by omega, by omega, by omega, by omega, by omega⟩]
  unfold rng ups
  rw [show (((j + n : Nat) : Int) - j).toNat = n by omega, List.range'_eq_map_range, List.map_map]
  rfl
theorem sp_ix (A B : List Patch) (X : Patch) : dIx (rwD (A ++ X :: B)) (.int (A.length : Nat)) = .ok (ptD X) := dIx_tm (by rw [List.getElem?_append_right (Nat.le_refl _), Nat.sub_self]; rfl)
theorem sp_ix1 (A B : List Patch) (X Y : Patch) : dIx (rwD (A ++ X :: Y :: B)) (.int ((A.length : Nat) + 1 : Int)) = .ok (ptD Y) := dIx_tm (n := A.length + 1) (by rw [List.getElem?_append_right (by omega), show A.length + 1 - A.length = 1 by omega]; rfl)
theorem sp_hi (A B : List Patch) : cut ((A ++ B).map ptD) none (some ((A.length : Nat) : Int)) = A.map ptD := by rw [cut_hi, ← List.map_take, List.take_left]
theorem sp_lo (A B : List Patch) (X : Patch) : cut ((A ++ X :: B).map ptD) (some ((A.length : Nat) + 1 : Int)) none = B.map ptD := by
  have := cut_lo ((A ++ X :: B).map ptD) (A.length + 1)
  rw [← List.map_drop, show A ++ X :: B = (A ++ [X]) ++ B by simp, show A.length + 1 = (A ++ [X]).length by simp, List.drop_left] at this
  rw [← this]
  simp
theorem sp_lo2 (A B : List Patch) (X Y : Patch) : cut ((A ++ X :: Y :: B).map ptD) (some ((A.length : Nat) + 2 : Int)) none = B.map ptD := by
  have := cut_lo ((A ++ X :: Y :: B).map ptD) (A.length + 2)
  rw [← List.map_drop, show A ++ X :: Y :: B = (A ++ [X, Y]) ++ B by simp, show A.length + 2 = (A ++ [X, Y]).length by simp, List.drop_left] at this
  rw [← this]
  simp
theorem nd_cm : dEq (.str "needs") (.str "needs") = .ok (.bl true) ∧ dEq (.str "commuted") (.str "needs") = .ok (.bl false) := ⟨by kernel_rfl, by kernel_rfl⟩
theorem cmD_none {P S : Patch} (h : cmO P S = none) : ∃ i j, cmD P S = .tup [.str "needs", dN i, dN j] := by
  unfold cmO at h
  unfold cmD
  cases q : ft S (rev 0 P) with
  | some ij =>
    obtain ⟨i, j⟩ := ij
    exact ⟨i, j, rfl⟩
  | none => rw [q] at h; cases h
theorem cmD_some {P S A B : Patch} (h : cmO P S = some (A, B)) : cmD P S = .tup [.str "commuted", ptD A, ptD B] := by
  unfold cmO at h
  unfold cmD
  cases q : ft S (rev 0 P) with
  | some ij => rw [q] at h; cases h
  | none => rw [q] at h; cases h; rfl
theorem lte_loop (pl : Option D) : ∀ (rest pre : List Patch) (P : Patch), Vp P → (∀ Q ∈ rest, Vp Q) → pre.length + rest.length ≤ 900 → forE (gfName 2) B__law_to_end_1 (ups pre.length rest.length) [some (rwD (pre ++ P :: rest)), pl, none, none] = match te pre P rest with
    | .no k => .ret (.tup [.str "needed", dN k])
    | .row X => .next [some (rwD X), pl, none, none]
  | [], pre, P, _, _, _ => rfl
  | S :: rest, pre, P, p, rv, hl => by
    rw [List.length_cons] at hl
    have s := rv S List.mem_cons_self
    have i0 := sp_ix pre (S :: rest) P
    have i1 := sp_ix1 pre rest P S
    have sw := swapped_ok p.few s.few
    rw [List.length_cons, ups_cons, forE_cons, te]
    cases h : cmO P S with
    | none =>
      rw [h] at sw
      simp only [sSeq_x, x_sSet, x_sIf, x_sRet, x_sRetN, x_sPar, x_sUnp, resF_ok, x_sDrop, x_sNext, x_sBreak, x_sCont, x_sRaise, x_sAug, augK_ok, x_sFor, x_sWhile, sKill_x, x_wipe0, x_wipe1, x_evL0, x_evL1, x_setL0, x_setL1, x_eVar, x_eC, x_eOp, x_eUn, x_eCall, x_eMS, x_asStr, x_aNil, x_aCons, x_eTup, x_eLst, x_eIf, x_eNot, x_eAnd, x_eOr, x_bAnd, x_bOr, x_bNot, x_bYes, x_eSl, x_oNone, x_oSome, asI_int, x_iSeq, x_iCall, x_gfName, x_gfTup, eLc, noX_is, Res.bind_ok, Res.bind_exc, flow_ok, flow_exc, seqK_next, seqK_ret, seqK_exc, seqK_brk, seqK_cont, loopK_next, loopK_cont, loopK_brk, loopK_ret, loopK_exc, must_ok, List.set_cons_succ, List.set_cons_zero, List.getD_cons_succ, List.getD_cons_zero, vD_some, if_true, if_false, Bool.false_eq_true, reduceIte, List.map_cons, List.map_nil, List.length_cons, List.length_nil, List.cons_append, List.nil_append, List.replicate, Nat.reduceSub, Nat.reduceAdd, x_add, x_sub, x_cmp, x_eq_ii, x_ne_ii, x_int_i, x_len_t, x_len_l, x_tup_l, x_tup_t, x_list_l, x_list_t, x_dSl_t, x_dSl_l, x_items_t, x_items_l, x_tru_n, x_tru_b, x_tru_i, x_tru_t, x_tru_l, x_asB, x_is_n, x_isNot_n, isNon_n, isNon_i, isNon_s, isNon_t, isNon_l, isNon_b, Bool.not_true, Bool.not_false, List.length_map, fnE, startE, B__law_to_end_1, i0, i1, sw, swD]
      rfl
    | some AB =>
      obtain ⟨A, B⟩ := AB
      obtain ⟨va, vb⟩ := cm_vp p s h
      rw [h] at sw
      have ih := lte_loop pl rest (pre ++ [A]) B vb (fun Q hq => rv Q (List.mem_cons_of_mem _ hq)) (by simp; omega)
      rw [List.length_append, List.length_singleton, List.append_assoc, List.singleton_append] at ih
      have ch := sp_hi pre (P :: S :: rest)
      have cl := sp_lo2 pre rest P S
      have z1 : pre.length + 2 ≤ 16777216 := by omega
      have z2 : (pre.map ptD ++ [ptD A, ptD B]).length + rest.length ≤ 16777216 := by simp; omega
      have em : pre.map ptD ++ [ptD A, ptD B] ++ rest.map ptD = (pre ++ A :: B :: rest).map ptD := by simp
      dsimp only
      rw [← ih]
      simp only [sSeq_x, x_sSet, x_sIf, x_sRet, x_sRetN, x_sPar, x_sUnp, resF_ok, x_sDrop, x_sNext, x_sBreak, x_sCont, x_sRaise, x_sAug, augK_ok, x_sFor, x_sWhile, sKill_x, x_wipe0, x_wipe1, x_evL0, x_evL1, x_setL0, x_setL1, x_eVar, x_eC, x_eOp, x_eUn, x_eCall, x_eMS, x_asStr, x_aNil, x_aCons, x_eTup, x_eLst, x_eIf, x_eNot, x_eAnd, x_eOr, x_bAnd, x_bOr, x_bNot, x_bYes, x_eSl, x_oNone, x_oSome, asI_int, x_iSeq, x_iCall, x_gfName, x_gfTup, eLc, noX_is, Res.bind_ok, Res.bind_exc, flow_ok, flow_exc, seqK_next, seqK_ret, seqK_exc, seqK_brk, seqK_cont, loopK_next, loopK_cont, loopK_brk, loopK_ret, loopK_exc, must_ok, List.set_cons_succ, List.set_cons_zero, List.getD_cons_succ, List.getD_cons_zero, vD_some, if_true, if_false, Bool.false_eq_true, reduceIte, List.map_cons, List.map_nil, List.length_cons, List.length_nil, List.cons_append, List.nil_append, List.replicate, Nat.reduceSub, Nat.reduceAdd, x_add, x_sub, x_cmp, x_eq_ii, x_ne_ii, x_int_i, x_len_t, x_len_l, x_tup_l, x_tup_t, x_list_l, x_list_t, x_dSl_t, x_dSl_l, x_items_t, x_items_l, x_tru_n, x_tru_b, x_tru_i, x_tru_t, x_tru_l, x_asB, x_is_n, x_isNot_n, isNon_n, isNon_i, isNon_s, isNon_t, isNon_l, isNon_b, Bool.not_true, Bool.not_false, List.length_map, fnE, startE, B__law_to_end_1, i0, i1, sw, swD, ch, cl, x_add_t, sl_eq, z1, z2, em]
theorem te_loop (pl : Option D) : ∀ (rest pre : List Patch) (P : Patch), Vp P → (∀ Q ∈ rest, Vp Q) → pre.length + rest.length ≤ 900 → forE (gfName 2) B__to_end_1 (ups pre.length rest.length) [some (rwD (pre ++ P :: rest)), pl, none, none] = match te pre P rest with
    | .no k => .ret (.tup [.str "needed", dN k])
    | .row X => .next [some (rwD X), pl, none, none]
  | [], pre, P, _, _, _ => rfl
  | S :: rest, pre, P, p, rv, hl => by
    rw [List.length_cons] at hl
    have s := rv S List.mem_cons_self
    have i0 := sp_ix pre (S :: rest) P
    have i1 := sp_ix1 pre rest P S
    have sw := commuting_ok P S p.few s.few
    rw [List.length_cons, ups_cons, forE_cons, te]
    cases h : cmO P S with
    | none =>
      obtain ⟨x, y, hc⟩ := cmD_none h
      rw [hc] at sw
      have j0 : dIx (.tup [.str "needs", dN x, dN y]) (.int 0) = .ok (.str "needs") := rfl
      simp only [sSeq_x, x_sSet, x_sIf, x_sRet, x_sRetN, x_sPar, x_sUnp, resF_ok, x_sDrop, x_sNext, x_sBreak, x_sCont, x_sRaise, x_sAug, augK_ok, x_sFor, x_sWhile, sKill_x, x_wipe0, x_wipe1, x_evL0, x_evL1, x_setL0, x_setL1, x_eVar, x_eC, x_eOp, x_eUn, x_eCall, x_eMS, x_asStr, x_aNil, x_aCons, x_eTup, x_eLst, x_eIf, x_eNot, x_eAnd, x_eOr, x_bAnd, x_bOr, x_bNot, x_bYes, x_eSl, x_oNone, x_oSome, asI_int, x_iSeq, x_iCall, x_gfName, x_gfTup, eLc, noX_is, Res.bind_ok, Res.bind_exc, flow_ok, flow_exc, seqK_next, seqK_ret, seqK_exc, seqK_brk, seqK_cont, loopK_next, loopK_cont, loopK_brk, loopK_ret, loopK_exc, must_ok, List.set_cons_succ, List.set_cons_zero, List.getD_cons_succ, List.getD_cons_zero, vD_some, if_true, if_false, Bool.false_eq_true, reduceIte, List.map_cons, List.map_nil, List.length_cons, List.length_nil, List.cons_append, List.nil_append, List.replicate, Nat.reduceSub, Nat.reduceAdd, x_add, x_sub, x_cmp, x_eq_ii, x_ne_ii, x_int_i, x_len_t, x_len_l, x_tup_l, x_tup_t, x_list_l, x_list_t, x_dSl_t, x_dSl_l, x_items_t, x_items_l, x_tru_n, x_tru_b, x_tru_i, x_tru_t, x_tru_l, x_asB, x_is_n, x_isNot_n, isNon_n, isNon_i, isNon_s, isNon_t, isNon_l, isNon_b, Bool.not_true, Bool.not_false, List.length_map, fnE, startE, B__to_end_1, i0, i1, sw, j0, nd_cm.1]
      rfl
    | some AB =>
      obtain ⟨A, B⟩ := AB
      obtain ⟨va, vb⟩ := cm_vp p s h
      rw [cmD_some h] at sw
      have ih := te_loop pl rest (pre ++ [A]) B vb (fun Q hq => rv Q (List.mem_cons_of_mem _ hq)) (by simp; omega)
      rw [List.length_append, List.length_singleton, List.append_assoc, List.singleton_append] at ih
      have ch := sp_hi pre (P :: S :: rest)
      have cl := sp_lo2 pre rest P S
      have j0 : dIx (.tup [.str "commuted", ptD A, ptD B]) (.int 0) = .ok (.str "commuted") := rfl
      have c1 : cut [D.str "commuted", ptD A, ptD B] (some 1) none = [ptD A, ptD B] := rfl
      have z1 : pre.length + 2 ≤ 16777216 := by omega
      have z2 : (pre.map ptD ++ [ptD A, ptD B]).length + rest.length ≤ 16777216 := by simp; omega
      have em : pre.map ptD ++ [ptD A, ptD B] ++ rest.map ptD = (pre ++ A :: B :: rest).map ptD := by simp
      dsimp only
      rw [← ih]
      simp only [sSeq_x, x_sSet, x_sIf, x_sRet, x_sRetN, x_sPar, x_sUnp, resF_ok, x_sDrop, x_sNext, x_sBreak, x_sCont, x_sRaise, x_sAug, augK_ok, x_sFor, x_sWhile, sKill_x, x_wipe0, x_wipe1, x_evL0, x_evL1, x_setL0, x_setL1, x_eVar, x_eC, x_eOp, x_eUn, x_eCall, x_eMS, x_asStr, x_aNil, x_aCons, x_eTup, x_eLst, x_eIf, x_eNot, x_eAnd, x_eOr, x_bAnd, x_bOr, x_bNot, x_bYes, x_eSl, x_oNone, x_oSome, asI_int, x_iSeq, x_iCall, x_gfName, x_gfTup, eLc, noX_is, Res.bind_ok, Res.bind_exc, flow_ok, flow_exc, seqK_next, seqK_ret, seqK_exc, seqK_brk, seqK_cont, loopK_next, loopK_cont, loopK_brk, loopK_ret, loopK_exc, must_ok, List.set_cons_succ, List.set_cons_zero, List.getD_cons_succ, List.getD_cons_zero, vD_some, if_true, if_false, Bool.false_eq_true, reduceIte, List.map_cons, List.map_nil, List.length_cons, List.length_nil, List.cons_append, List.nil_append, List.replicate, Nat.reduceSub, Nat.reduceAdd, x_add, x_sub, x_cmp, x_eq_ii, x_ne_ii, x_int_i, x_len_t, x_len_l, x_tup_l, x_tup_t, x_list_l, x_list_t, x_dSl_t, x_dSl_l, x_items_t, x_items_l, x_tru_n, x_tru_b, x_tru_i, x_tru_t, x_tru_l, x_asB, x_is_n, x_isNot_n, isNon_n, isNon_i, isNon_s, isNon_t, isNon_l, isNon_b, Bool.not_true, Bool.not_false, List.length_map, fnE, startE, B__to_end_1, i0, i1, sw, j0, nd_cm.2, c1, ch, cl, x_add_t, sl_eq, z1, z2, em]
theorem sub1 (n : Nat) : ((n + 1 : Nat) : Int) - 1 = (n : Int) := by omega
theorem ltf_loop (pl : Option D) : ∀ (pr rest : List Patch) (P : Patch), Vp P → (∀ Q ∈ pr, Vp Q) → pr.length + rest.length ≤ 900 → forE (gfName 2) B__law_to_front_1 (dnP pr.length) [some (rwD (pr.reverse ++ P :: rest)), pl, none, none] = match tf pr P rest with
    | .no k => .ret (.tup [.str "needs", dN k])
    | .row X => .next [some (rwD X), pl, none, none]
  | [], rest, P, _, _, _ => rfl
  | Q :: pr, rest, P, p, rv, hl => by
    rw [List.length_cons] at hl
    have s := rv Q List.mem_cons_self
    have er : (Q :: pr).reverse ++ P :: rest = pr.reverse ++ Q :: P :: rest := by simp
    have i0 := sp_ix pr.reverse (P :: rest) Q
    have i1 := sp_ix1 pr.reverse rest Q P
    have ch := sp_hi pr.reverse (Q :: P :: rest)
    have cl := sp_lo2 pr.reverse rest Q P
    rw [List.length_reverse] at i0 i1 ch cl
    have i1 : dIx (rwD (pr.reverse ++ Q :: P :: rest)) (dN (pr.length + 1)) = .ok (ptD P) := i1
    have cl : cut ((pr.reverse ++ Q :: P :: rest).map ptD) (some (((pr.length + 1 : Nat) : Int) + 1)) none = rest.map ptD := by
      rw [show ((pr.length + 1 : Nat) : Int) + 1 = (pr.length : Int) + 2 by omega]
      exact cl
    have sw := swapped_ok s.few p.few
    rw [List.length_cons, dnP, forE_cons, tf, er]
    cases h : cmO Q P with
    | none =>
      rw [h] at sw
      simp only [sSeq_x, x_sSet, x_sIf, x_sRet, x_sRetN, x_sPar, x_sUnp, resF_ok, x_sDrop, x_sNext, x_sBreak, x_sCont, x_sRaise, x_sAug, augK_ok, x_sFor, x_sWhile, sKill_x, x_wipe0, x_wipe1, x_evL0, x_evL1, x_setL0, x_setL1, x_eVar, x_eC, x_eOp, x_eUn, x_eCall, x_eMS, x_asStr, x_aNil, x_aCons, x_eTup, x_eLst, x_eIf, x_eNot, x_eAnd, x_eOr, x_bAnd, x_bOr, x_bNot, x_bYes, x_eSl, x_oNone, x_oSome, asI_int, x_iSeq, x_iCall, x_gfName, x_gfTup, eLc, noX_is, Res.bind_ok, Res.bind_exc, flow_ok, flow_exc, seqK_next, seqK_ret, seqK_exc, seqK_brk, seqK_cont, loopK_next, loopK_cont, loopK_brk, loopK_ret, loopK_exc, must_ok, List.set_cons_succ, List.set_cons_zero, List.getD_cons_succ, List.getD_cons_zero, vD_some, if_true, if_false, Bool.false_eq_true, reduceIte, List.map_cons, List.map_nil, List.length_cons, List.length_nil, List.cons_append, List.nil_append, List.replicate, Nat.reduceSub, Nat.reduceAdd, x_add, x_sub, x_cmp, x_eq_ii, x_ne_ii, x_int_i, x_len_t, x_len_l, x_tup_l, x_tup_t, x_list_l, x_list_t, x_dSl_t, x_dSl_l, x_items_t, x_items_l, x_tru_n, x_tru_b, x_tru_i, x_tru_t, x_tru_l, x_asB, x_is_n, x_isNot_n, isNon_n, isNon_i, isNon_s, isNon_t, isNon_l, isNon_b, Bool.not_true, Bool.not_false, List.length_map, fnE, startE, B__law_to_front_1, sub1, i0, i1, sw, swD]
    | some AB =>
      obtain ⟨A, B⟩ := AB
      obtain ⟨va, vb⟩ := cm_vp s p h
      rw [h] at sw
      have ih := ltf_loop pl pr (B :: rest) A va (fun Q hq => rv Q (List.mem_cons_of_mem _ hq)) (by simp; omega)
      have z1 : pr.reverse.length + 2 ≤ 16777216 := by simp; omega
      have z2 : (pr.reverse.map ptD ++ [ptD A, ptD B]).length + rest.length ≤ 16777216 := by simp; omega
      have em : pr.reverse.map ptD ++ [ptD A, ptD B] ++ rest.map ptD = (pr.reverse ++ A :: B :: rest).map ptD := by simp
      dsimp only
      rw [← ih]
      simp only [sSeq_x, x_sSet, x_sIf, x_sRet, x_sRetN, x_sPar, x_sUnp, resF_ok, x_sDrop, x_sNext, x_sBreak, x_sCont, x_sRaise, x_sAug, augK_ok, x_sFor, x_sWhile, sKill_x, x_wipe0, x_wipe1, x_evL0, x_evL1, x_setL0, x_setL1, x_eVar, x_eC, x_eOp, x_eUn, x_eCall, x_eMS, x_asStr, x_aNil, x_aCons, x_eTup, x_eLst, x_eIf, x_eNot, x_eAnd, x_eOr, x_bAnd, x_bOr, x_bNot, x_bYes, x_eSl, x_oNone, x_oSome, asI_int, x_iSeq, x_iCall, x_gfName, x_gfTup, eLc, noX_is, Res.bind_ok, Res.bind_exc, flow_ok, flow_exc, seqK_next, seqK_ret, seqK_exc, seqK_brk, seqK_cont, loopK_next, loopK_cont, loopK_brk, loopK_ret, loopK_exc, must_ok, List.set_cons_succ, List.set_cons_zero, List.getD_cons_succ, List.getD_cons_zero, vD_some, if_true, if_false, Bool.false_eq_true, reduceIte, List.map_cons, List.map_nil, List.length_cons, List.length_nil, List.cons_append, List.nil_append, List.replicate, Nat.reduceSub, Nat.reduceAdd, x_add, x_sub, x_cmp, x_eq_ii, x_ne_ii, x_int_i, x_len_t, x_len_l, x_tup_l, x_tup_t, x_list_l, x_list_t, x_dSl_t, x_dSl_l, x_items_t, x_items_l, x_tru_n, x_tru_b, x_tru_i, x_tru_t, x_tru_l, x_asB, x_is_n, x_isNot_n, isNon_n, isNon_i, isNon_s, isNon_t, isNon_l, isNon_b, Bool.not_true, Bool.not_false, List.length_map, fnE, startE, B__law_to_front_1, sub1, i0, i1, sw, swD, ch, cl, x_add_t, sl_eq, z1, z2, em]
theorem tf_loop (pl : Option D) : ∀ (pr rest : List Patch) (P : Patch), Vp P → (∀ Q ∈ pr, Vp Q) → pr.length + rest.length ≤ 900 → forE (gfName 2) B_to_front_1 (dnP pr.length) [some (rwD (pr.reverse ++ P :: rest)), pl, none, none] = match tf pr P rest with
    | .no k => .ret (.tup [.str "needs", dN k])
    | .row X => .next [some (rwD X), pl, none, none]
  | [], rest, P, _, _, _ => rfl
  | Q :: pr, rest, P, p, rv, hl => by
    rw [List.length_cons] at hl
    have s := rv Q List.mem_cons_self
    have er : (Q :: pr).reverse ++ P :: rest = pr.reverse ++ Q :: P :: rest := by simp
    have i0 := sp_ix pr.reverse (P :: rest) Q
    have i1 := sp_ix1 pr.reverse rest Q P
    have ch := sp_hi pr.reverse (Q :: P :: rest)
    have cl := sp_lo2 pr.reverse rest Q P
    rw [List.length_reverse] at i0 i1 ch cl
    have i1 : dIx (rwD (pr.reverse ++ Q :: P :: rest)) (dN (pr.length + 1)) = .ok (ptD P) := i1
    have cl : cut ((pr.reverse ++ Q :: P :: rest).map ptD) (some (((pr.length + 1 : Nat) : Int) + 1)) none = rest.map ptD := by
      rw [show ((pr.length + 1 : Nat) : Int) + 1 = (pr.length : Int) + 2 by omega]
      exact cl
    have sw := commuting_ok Q P s.few p.few
    rw [List.length_cons, dnP, forE_cons, tf, er]
    cases h : cmO Q P with
    | none =>
      obtain ⟨x, y, hc⟩ := cmD_none h
      rw [hc] at sw
      have j0 : dIx (.tup [.str "needs", dN x, dN y]) (.int 0) = .ok (.str "needs") := rfl
      simp only [sSeq_x, x_sSet, x_sIf, x_sRet, x_sRetN, x_sPar, x_sUnp, resF_ok, x_sDrop, x_sNext, x_sBreak, x_sCont, x_sRaise, x_sAug, augK_ok, x_sFor, x_sWhile, sKill_x, x_wipe0, x_wipe1, x_evL0, x_evL1, x_setL0, x_setL1, x_eVar, x_eC, x_eOp, x_eUn, x_eCall, x_eMS, x_asStr, x_aNil, x_aCons, x_eTup, x_eLst, x_eIf, x_eNot, x_eAnd, x_eOr, x_bAnd, x_bOr, x_bNot, x_bYes, x_eSl, x_oNone, x_oSome, asI_int, x_iSeq, x_iCall, x_gfName, x_gfTup, eLc, noX_is, Res.bind_ok, Res.bind_exc, flow_ok, flow_exc, seqK_next, seqK_ret, seqK_exc, seqK_brk, seqK_cont, loopK_next, loopK_cont, loopK_brk, loopK_ret, loopK_exc, must_ok, List.set_cons_succ, List.set_cons_zero, List.getD_cons_succ, List.getD_cons_zero, vD_some, if_true, if_false, Bool.false_eq_true, reduceIte, List.map_cons, List.map_nil, List.length_cons, List.length_nil, List.cons_append, List.nil_append, List.replicate, Nat.reduceSub, Nat.reduceAdd, x_add, x_sub, x_cmp, x_eq_ii, x_ne_ii, x_int_i, x_len_t, x_len_l, x_tup_l, x_tup_t, x_list_l, x_list_t, x_dSl_t, x_dSl_l, x_items_t, x_items_l, x_tru_n, x_tru_b, x_tru_i, x_tru_t, x_tru_l, x_asB, x_is_n, x_isNot_n, isNon_n, isNon_i, isNon_s, isNon_t, isNon_l, isNon_b, Bool.not_true, Bool.not_false, List.length_map, fnE, startE, B_to_front_1, sub1, i0, i1, sw, j0, nd_cm.1]
    | some AB =>
      obtain ⟨A, B⟩ := AB
      obtain ⟨va, vb⟩ := cm_vp s p h
      rw [cmD_some h] at sw
      have ih := tf_loop pl pr (B :: rest) A va (fun Q hq => rv Q (List.mem_cons_of_mem _ hq)) (by simp; omega)
      have j0 : dIx (.tup [.str "commuted", ptD A, ptD B]) (.int 0) = .ok (.str "commuted") := rfl
      have c1 : cut [D.str "commuted", ptD A, ptD B] (some 1) none = [ptD A, ptD B] := rfl
      have z1 : pr.reverse.length + 2 ≤ 16777216 := by simp; omega
      have z2 : (pr.reverse.map ptD ++ [ptD A, ptD B]).length + rest.length ≤ 16777216 := by simp; omega
      have em : pr.reverse.map ptD ++ [ptD A, ptD B] ++ rest.map ptD = (pr.reverse ++ A :: B :: rest).map ptD := by simp
      dsimp only
      rw [← ih]
      simp only [sSeq_x, x_sSet, x_sIf, x_sRet, x_sRetN, x_sPar, x_sUnp, resF_ok, x_sDrop, x_sNext, x_sBreak, x_sCont, x_sRaise, x_sAug, augK_ok, x_sFor, x_sWhile, sKill_x, x_wipe0, x_wipe1, x_evL0, x_evL1, x_setL0, x_setL1, x_eVar, x_eC, x_eOp, x_eUn, x_eCall, x_eMS, x_asStr, x_aNil, x_aCons, x_eTup, x_eLst, x_eIf, x_eNot, x_eAnd, x_eOr, x_bAnd, x_bOr, x_bNot, x_bYes, x_eSl, x_oNone, x_oSome, asI_int, x_iSeq, x_iCall, x_gfName, x_gfTup, eLc, noX_is, Res.bind_ok, Res.bind_exc, flow_ok, flow_exc, seqK_next, seqK_ret, seqK_exc, seqK_brk, seqK_cont, loopK_next, loopK_cont, loopK_brk, loopK_ret, loopK_exc, must_ok, List.set_cons_succ, List.set_cons_zero, List.getD_cons_succ, List.getD_cons_zero, vD_some, if_true, if_false, Bool.false_eq_true, reduceIte, List.map_cons, List.map_nil, List.length_cons, List.length_nil, List.cons_append, List.nil_append, List.replicate, Nat.reduceSub, Nat.reduceAdd, x_add, x_sub, x_cmp, x_eq_ii, x_ne_ii, x_int_i, x_len_t, x_len_l, x_tup_l, x_tup_t, x_list_l, x_list_t, x_dSl_t, x_dSl_l, x_items_t, x_items_l, x_tru_n, x_tru_b, x_tru_i, x_tru_t, x_tru_l, x_asB, x_is_n, x_isNot_n, isNon_n, isNon_i, isNon_s, isNon_t, isNon_l, isNon_b, Bool.not_true, Bool.not_false, List.length_map, fnE, startE, B_to_front_1, sub1, i0, i1, sw, j0, nd_cm.2, c1, ch, cl, x_add_t, sl_eq, z1, z2, em]
/-! the defs, at a place: R = A ++ P :: B -/
theorem len_row (R : List Patch) : fLen [rwD R] = .ok (.int R.length) := by rw [x_len_t, List.length_map]
section
variable {A B : List Patch} {P : Patch}
theorem vA (rv : ∀ Q ∈ A ++ P :: B, Vp Q) : Vp P ∧ (∀ Q ∈ A, Vp Q) ∧ ∀ Q ∈ B, Vp Q := ⟨rv P (by simp), fun Q h => rv Q (by simp [h]), fun Q h => rv Q (by simp [h])⟩
theorem e1 (A B : List Patch) (P : Patch) : (((A ++ P :: B).length : Nat) : Int) - 1 = ((A.length + B.length : Nat) : Int) := by simp; omega
theorem lte_ok (rv : ∀ Q ∈ A ++ P :: B, Vp Q) (hl : A.length + B.length ≤ 100) : C__law_to_end [rwD (A ++ P :: B), dN A.length] = .ok (mvD "needed" (te A P B)) := by
  obtain ⟨p, va, vb⟩ := vA rv
  have l := lte_loop (some (dN A.length)) B A P p vb (by omega)
  have r := ups_rng2 (j := A.length) (n := B.length) (by omega)
  have ln := len_row (A ++ P :: B)
  have e := e1 A B P
  cases h : te A P B with
  | no k =>
    rw [h] at l
    simp only [sSeq_x, x_sSet, x_sIf, x_sRet, x_sRetN, x_sPar, x_sUnp, resF_ok, x_sDrop, x_sNext, x_sBreak, x_sCont, x_sRaise, x_sAug, augK_ok, x_sFor, x_sWhile, sKill_x, x_wipe0, x_wipe1, x_evL0, x_evL1, x_setL0, x_setL1, x_eVar, x_eC, x_eOp, x_eUn, x_eCall, x_eMS, x_asStr, x_aNil, x_aCons, x_eTup, x_eLst, x_eIf, x_eNot, x_eAnd, x_eOr, x_bAnd, x_bOr, x_bNot, x_bYes, x_eSl, x_oNone, x_oSome, asI_int, x_iSeq, x_iCall, x_gfName, x_gfTup, eLc, noX_is, Res.bind_ok, Res.bind_exc, flow_ok, flow_exc, seqK_next, seqK_ret, seqK_exc, seqK_brk, seqK_cont, loopK_next, loopK_cont, loopK_brk, loopK_ret, loopK_exc, must_ok, List.set_cons_succ, List.set_cons_zero, List.getD_cons_succ, List.getD_cons_zero, vD_some, if_true, if_false, Bool.false_eq_true, reduceIte, List.map_cons, List.map_nil, List.length_cons, List.length_nil, List.cons_append, List.nil_append, List.replicate, Nat.reduceSub, Nat.reduceAdd, x_add, x_sub, x_cmp, x_eq_ii, x_ne_ii, x_int_i, x_len_t, x_len_l, x_tup_l, x_tup_t, x_list_l, x_list_t, x_dSl_t, x_dSl_l, x_items_t, x_items_l, x_tru_n, x_tru_b, x_tru_i, x_tru_t, x_tru_l, x_asB, x_is_n, x_isNot_n, isNon_n, isNon_i, isNon_s, isNon_t, isNon_l, isNon_b, Bool.not_true, Bool.not_false, List.length_map, fnE, startE, C__law_to_end, F__law_to_end, ln, e, r, l, mvD]
  | row X =>
    rw [h] at l
    simp only [sSeq_x, x_sSet, x_sIf, x_sRet, x_sRetN, x_sPar, x_sUnp, resF_ok, x_sDrop, x_sNext, x_sBreak, x_sCont, x_sRaise, x_sAug, augK_ok, x_sFor, x_sWhile, sKill_x, x_wipe0, x_wipe1, x_evL0, x_evL1, x_setL0, x_setL1, x_eVar, x_eC, x_eOp, x_eUn, x_eCall, x_eMS, x_asStr, x_aNil, x_aCons, x_eTup, x_eLst, x_eIf, x_eNot, x_eAnd, x_eOr, x_bAnd, x_bOr, x_bNot, x_bYes, x_eSl, x_oNone, x_oSome, asI_int, x_iSeq, x_iCall, x_gfName, x_gfTup, eLc, noX_is, Res.bind_ok, Res.bind_exc, flow_ok, flow_exc, seqK_next, seqK_ret, seqK_exc, seqK_brk, seqK_cont, loopK_next, loopK_cont, loopK_brk, loopK_ret, loopK_exc, must_ok, List.set_cons_succ, List.set_cons_zero, List.getD_cons_succ, List.getD_cons_zero, vD_some, if_true, if_false, Bool.false_eq_true, reduceIte, List.map_cons, List.map_nil, List.length_cons, List.length_nil, List.cons_append, List.nil_append, List.replicate, Nat.reduceSub, Nat.reduceAdd, x_add, x_sub, x_cmp, x_eq_ii, x_ne_ii, x_int_i, x_len_t, x_len_l, x_tup_l, x_tup_t, x_list_l, x_list_t, x_dSl_t, x_dSl_l, x_items_t, x_items_l, x_tru_n, x_tru_b, x_tru_i, x_tru_t, x_tru_l, x_asB, x_is_n, x_isNot_n, isNon_n, isNon_i, isNon_s, isNon_t, isNon_l, isNon_b, Bool.not_true, Bool.not_false, List.length_map, fnE, startE, C__law_to_end, F__law_to_end, ln, e, r, l, mvD]
theorem te1_ok (rv : ∀ Q ∈ A ++ P :: B, Vp Q) (hl : A.length + B.length ≤ 100) : C__to_end [rwD (A ++ P :: B), dN A.length] = .ok (mvD "needed" (te A P B)) := by
  obtain ⟨p, va, vb⟩ := vA rv
  have l := te_loop (some (dN A.length)) B A P p vb (by omega)
  have r := ups_rng2 (j := A.length) (n := B.length) (by omega)
  have ln := len_row (A ++ P :: B)
  have e := e1 A B P
  cases h : te A P B with
  | no k =>
    rw [h] at l
    simp only [sSeq_x, x_sSet, x_sIf, x_sRet, x_sRetN, x_sPar, x_sUnp, resF_ok, x_sDrop, x_sNext, x_sBreak, x_sCont, x_sRaise, x_sAug, augK_ok, x_sFor, x_sWhile, sKill_x, x_wipe0, x_wipe1, x_evL0, x_evL1, x_setL0, x_setL1, x_eVar, x_eC, x_eOp, x_eUn, x_eCall, x_eMS, x_asStr, x_aNil, x_aCons, x_eTup, x_eLst, x_eIf, x_eNot, x_eAnd, x_eOr, x_bAnd, x_bOr, x_bNot, x_bYes, x_eSl, x_oNone, x_oSome, asI_int, x_iSeq, x_iCall, x_gfName, x_gfTup, eLc, noX_is, Res.bind_ok, Res.bind_exc, flow_ok, flow_exc, seqK_next, seqK_ret, seqK_exc, seqK_brk, seqK_cont, loopK_next, loopK_cont, loopK_brk, loopK_ret, loopK_exc, must_ok, List.set_cons_succ, List.set_cons_zero, List.getD_cons_succ, List.getD_cons_zero, vD_some, if_true, if_false, Bool.false_eq_true, reduceIte, List.map_cons, List.map_nil, List.length_cons, List.length_nil, List.cons_append, List.nil_append, List.replicate, Nat.reduceSub, Nat.reduceAdd, x_add, x_sub, x_cmp, x_eq_ii, x_ne_ii, x_int_i, x_len_t, x_len_l, x_tup_l, x_tup_t, x_list_l, x_list_t, x_dSl_t, x_dSl_l, x_items_t, x_items_l, x_tru_n, x_tru_b, x_tru_i, x_tru_t, x_tru_l, x_asB, x_is_n, x_isNot_n, isNon_n, isNon_i, isNon_s, isNon_t, isNon_l, isNon_b, Bool.not_true, Bool.not_false, List.length_map, fnE, startE, C__to_end, F__to_end, ln, e, r, l, mvD]
  | row X =>
    rw [h] at l
    simp only [sSeq_x, x_sSet, x_sIf, x_sRet, x_sRetN, x_sPar, x_sUnp, resF_ok, x_sDrop, x_sNext, x_sBreak, x_sCont, x_sRaise, x_sAug, augK_ok, x_sFor, x_sWhile, sKill_x, x_wipe0, x_wipe1, x_evL0, x_evL1, x_setL0, x_setL1, x_eVar, x_eC, x_eOp, x_eUn, x_eCall, x_eMS, x_asStr, x_aNil, x_aCons, x_eTup, x_eLst, x_eIf, x_eNot, x_eAnd, x_eOr, x_bAnd, x_bOr, x_bNot, x_bYes, x_eSl, x_oNone, x_oSome, asI_int, x_iSeq, x_iCall, x_gfName, x_gfTup, eLc, noX_is, Res.bind_ok, Res.bind_exc, flow_ok, flow_exc, seqK_next, seqK_ret, seqK_exc, seqK_brk, seqK_cont, loopK_next, loopK_cont, loopK_brk, loopK_ret, loopK_exc, must_ok, List.set_cons_succ, List.set_cons_zero, List.getD_cons_succ, List.getD_cons_zero, vD_some, if_true, if_false, Bool.false_eq_true, reduceIte, List.map_cons, List.map_nil, List.length_cons, List.length_nil, List.cons_append, List.nil_append, List.replicate, Nat.reduceSub, Nat.reduceAdd, x_add, x_sub, x_cmp, x_eq_ii, x_ne_ii, x_int_i, x_len_t, x_len_l, x_tup_l, x_tup_t, x_list_l, x_list_t, x_dSl_t, x_dSl_l, x_items_t, x_items_l, x_tru_n, x_tru_b, x_tru_i, x_tru_t, x_tru_l, x_asB, x_is_n, x_isNot_n, isNon_n, isNon_i, isNon_s, isNon_t, isNon_l, isNon_b, Bool.not_true, Bool.not_false, List.length_map, fnE, startE, C__to_end, F__to_end, ln, e, r, l, mvD]
theorem chpl_ok {n m : Nat} (h : n ≤ m) : C__check_place [dN n, dN m] = .ok .non := by
  have g : iGt (n : Int) (m : Int) = false := decide_eq_false (by omega)
  simp only [sSeq_x, x_sSet, x_sIf, x_sRet, x_sRetN, x_sPar, x_sUnp, resF_ok, x_sDrop, x_sNext, x_sBreak, x_sCont, x_sRaise, x_sAug, augK_ok, x_sFor, x_sWhile, sKill_x, x_wipe0, x_wipe1, x_evL0, x_evL1, x_setL0, x_setL1, x_eVar, x_eC, x_eOp, x_eUn, x_eCall, x_eMS, x_asStr, x_aNil, x_aCons, x_eTup, x_eLst, x_eIf, x_eNot, x_eAnd, x_eOr, x_bAnd, x_bOr, x_bNot, x_bYes, x_eSl, x_oNone, x_oSome, asI_int, x_iSeq, x_iCall, x_gfName, x_gfTup, eLc, noX_is, Res.bind_ok, Res.bind_exc, flow_ok, flow_exc, seqK_next, seqK_ret, seqK_exc, seqK_brk, seqK_cont, loopK_next, loopK_cont, loopK_brk, loopK_ret, loopK_exc, must_ok, List.set_cons_succ, List.set_cons_zero, List.getD_cons_succ, List.getD_cons_zero, vD_some, if_true, if_false, Bool.false_eq_true, reduceIte, List.map_cons, List.map_nil, List.length_cons, List.length_nil, List.cons_append, List.nil_append, List.replicate, Nat.reduceSub, Nat.reduceAdd, x_add, x_sub, x_cmp, x_eq_ii, x_ne_ii, x_int_i, x_len_t, x_len_l, x_tup_l, x_tup_t, x_list_l, x_list_t, x_dSl_t, x_dSl_l, x_items_t, x_items_l, x_tru_n, x_tru_b, x_tru_i, x_tru_t, x_tru_l, x_asB, x_is_n, x_isNot_n, isNon_n, isNon_i, isNon_s, isNon_t, isNon_l, isNon_b, Bool.not_true, Bool.not_false, List.length_map, fnE, startE, C__check_place, F__check_place, whole_ok (Int.natCast_nonneg n), g]
theorem to_end_ok (rv : ∀ Q ∈ A ++ P :: B, Vp Q) (hl : A.length + B.length ≤ 100) : C_to_end [rwD (A ++ P :: B), dN A.length] = .ok (mvD "needed" (te A P B)) := by
  have ln := len_row (A ++ P :: B)
  have e := e1 A B P
  have c := chpl_ok (n := A.length) (m := A.length + B.length) (by omega)
  simp only [sSeq_x, x_sSet, x_sIf, x_sRet, x_sRetN, x_sPar, x_sUnp, resF_ok, x_sDrop, x_sNext, x_sBreak, x_sCont, x_sRaise, x_sAug, augK_ok, x_sFor, x_sWhile, sKill_x, x_wipe0, x_wipe1, x_evL0, x_evL1, x_setL0, x_setL1, x_eVar, x_eC, x_eOp, x_eUn, x_eCall, x_eMS, x_asStr, x_aNil, x_aCons, x_eTup, x_eLst, x_eIf, x_eNot, x_eAnd, x_eOr, x_bAnd, x_bOr, x_bNot, x_bYes, x_eSl, x_oNone, x_oSome, asI_int, x_iSeq, x_iCall, x_gfName, x_gfTup, eLc, noX_is, Res.bind_ok, Res.bind_exc, flow_ok, flow_exc, seqK_next, seqK_ret, seqK_exc, seqK_brk, seqK_cont, loopK_next, loopK_cont, loopK_brk, loopK_ret, loopK_exc, must_ok, List.set_cons_succ, List.set_cons_zero, List.getD_cons_succ, List.getD_cons_zero, vD_some, if_true, if_false, Bool.false_eq_true, reduceIte, List.map_cons, List.map_nil, List.length_cons, List.length_nil, List.cons_append, List.nil_append, List.replicate, Nat.reduceSub, Nat.reduceAdd, x_add, x_sub, x_cmp, x_eq_ii, x_ne_ii, x_int_i, x_len_t, x_len_l, x_tup_l, x_tup_t, x_list_l, x_list_t, x_dSl_t, x_dSl_l, x_items_t, x_items_l, x_tru_n, x_tru_b, x_tru_i, x_tru_t, x_tru_l, x_asB, x_is_n, x_isNot_n, isNon_n, isNon_i, isNon_s, isNon_t, isNon_l, isNon_b, Bool.not_true, Bool.not_false, List.length_map, fnE, startE, C_to_end, F_to_end, chrow_ok rv, ln, e, c, te1_ok rv hl]
theorem needed_eq : dEq (.str "needed") (.str "needed") = .ok (.bl true) ∧ dEq (.str "row") (.str "needed") = .ok (.bl false) ∧ dEq (.str "needed") (.str "row") = .ok (.bl false) ∧ dEq (.str "row") (.str "row") = .ok (.bl true) ∧ dEq (.str "needs") (.str "row") = .ok (.bl false) := ⟨by kernel_rfl, by kernel_rfl, by kernel_rfl, by kernel_rfl, by kernel_rfl⟩
/-- without the last one -/
def wo : Mv → Mv
  | .no k => .no k
  | .row X => .row X.dropLast
theorem cut_last (X : List D) : cut X none (some (-1)) = X.dropLast := by
  unfold cut
  rw [HT.sIx_none, List.drop_zero, Nat.sub_zero, List.dropLast_eq_take]
  congr 1
  unfold HT.sIx
  simp
  omega
theorem without_ok (rv : ∀ Q ∈ A ++ P :: B, Vp Q) (hl : A.length + B.length ≤ 100) : C_without [rwD (A ++ P :: B), dN A.length] = .ok (mvD "needed" (wo (te A P B))) := by
  have ln := len_row (A ++ P :: B)
  have e := e1 A B P
  have c := chpl_ok (n := A.length) (m := A.length + B.length) (by omega)
  have t := te1_ok rv hl
  have ng : dNeg (.int 1) = .ok (.int (-1)) := rfl
  cases h : te A P B with
  | no k =>
    rw [h] at t
    have j0 : dIx (.tup [.str "needed", dN k]) (.int 0) = .ok (.str "needed") := rfl
    simp only [sSeq_x, x_sSet, x_sIf, x_sRet, x_sRetN, x_sPar, x_sUnp, resF_ok, x_sDrop, x_sNext, x_sBreak, x_sCont, x_sRaise, x_sAug, augK_ok, x_sFor, x_sWhile, sKill_x, x_wipe0, x_wipe1, x_evL0, x_evL1, x_setL0, x_setL1, x_eVar, x_eC, x_eOp, x_eUn, x_eCall, x_eMS, x_asStr, x_aNil, x_aCons, x_eTup, x_eLst, x_eIf, x_eNot, x_eAnd, x_eOr, x_bAnd, x_bOr, x_bNot, x_bYes, x_eSl, x_oNone, x_oSome, asI_int, x_iSeq, x_iCall, x_gfName, x_gfTup, eLc, noX_is, Res.bind_ok, Res.bind_exc, flow_ok, flow_exc, seqK_next, seqK_ret, seqK_exc, seqK_brk, seqK_cont, loopK_next, loopK_cont, loopK_brk, loopK_ret, loopK_exc, must_ok, List.set_cons_succ, List.set_cons_zero, List.getD_cons_succ, List.getD_cons_zero, vD_some, if_true, if_false, Bool.false_eq_true, reduceIte, List.map_cons, List.map_nil, List.length_cons, List.length_nil, List.cons_append, List.nil_append, List.replicate, Nat.reduceSub, Nat.reduceAdd, x_add, x_sub, x_cmp, x_eq_ii, x_ne_ii, x_int_i, x_len_t, x_len_l, x_tup_l, x_tup_t, x_list_l, x_list_t, x_dSl_t, x_dSl_l, x_items_t, x_items_l, x_tru_n, x_tru_b, x_tru_i, x_tru_t, x_tru_l, x_asB, x_is_n, x_isNot_n, isNon_n, isNon_i, isNon_s, isNon_t, isNon_l, isNon_b, Bool.not_true, Bool.not_false, List.length_map, fnE, startE, C_without, F_without, chrow_ok rv, ln, e, c, t, mvD, j0, needed_eq.1, wo]
  | row X =>
    rw [h] at t
    have j0 : dIx (.tup [.str "row", rwD X]) (.int 0) = .ok (.str "row") := rfl
    have j1 : dIx (.tup [.str "row", rwD X]) (.int 1) = .ok (rwD X) := rfl
    simp only [sSeq_x, x_sSet, x_sIf, x_sRet, x_sRetN, x_sPar, x_sUnp, resF_ok, x_sDrop, x_sNext, x_sBreak, x_sCont, x_sRaise, x_sAug, augK_ok, x_sFor, x_sWhile, sKill_x, x_wipe0, x_wipe1, x_evL0, x_evL1, x_setL0, x_setL1, x_eVar, x_eC, x_eOp, x_eUn, x_eCall, x_eMS, x_asStr, x_aNil, x_aCons, x_eTup, x_eLst, x_eIf, x_eNot, x_eAnd, x_eOr, x_bAnd, x_bOr, x_bNot, x_bYes, x_eSl, x_oNone, x_oSome, asI_int, x_iSeq, x_iCall, x_gfName, x_gfTup, eLc, noX_is, Res.bind_ok, Res.bind_exc, flow_ok, flow_exc, seqK_next, seqK_ret, seqK_exc, seqK_brk, seqK_cont, loopK_next, loopK_cont, loopK_brk, loopK_ret, loopK_exc, must_ok, List.set_cons_succ, List.set_cons_zero, List.getD_cons_succ, List.getD_cons_zero, vD_some, if_true, if_false, Bool.false_eq_true, reduceIte, List.map_cons, List.map_nil, List.length_cons, List.length_nil, List.cons_append, List.nil_append, List.replicate, Nat.reduceSub, Nat.reduceAdd, x_add, x_sub, x_cmp, x_eq_ii, x_ne_ii, x_int_i, x_len_t, x_len_l, x_tup_l, x_tup_t, x_list_l, x_list_t, x_dSl_t, x_dSl_l, x_items_t, x_items_l, x_tru_n, x_tru_b, x_tru_i, x_tru_t, x_tru_l, x_asB, x_is_n, x_isNot_n, isNon_n, isNon_i, isNon_s, isNon_t, isNon_l, isNon_b, Bool.not_true, Bool.not_false, List.length_map, fnE, startE, C_without, F_without, chrow_ok rv, ln, e, c, t, mvD, j0, j1, needed_eq.2.1, ng, cut_last, wo, ← List.map_dropLast]
theorem ltf_ok (rv : ∀ Q ∈ A ++ P :: B, Vp Q) (hl : A.length + B.length ≤ 100) : C__law_to_front [rwD (A ++ P :: B), dN A.length] = .ok (mvD "needs" (tf A.reverse P B)) := by
  obtain ⟨p, va, vb⟩ := vA rv
  have l := ltf_loop (some (dN A.length)) A.reverse B P p (fun Q h => va Q (List.mem_reverse.mp h)) (by simp; omega)
  rw [List.reverse_reverse, List.length_reverse] at l
  have r := downP_ok (n := A.length) (by omega)
  have ng : dNeg (.int 1) = .ok (.int (-1)) := rfl
  cases h : tf A.reverse P B with
  | no k =>
    rw [h] at l
    simp only [sSeq_x, x_sSet, x_sIf, x_sRet, x_sRetN, x_sPar, x_sUnp, resF_ok, x_sDrop, x_sNext, x_sBreak, x_sCont, x_sRaise, x_sAug, augK_ok, x_sFor, x_sWhile, sKill_x, x_wipe0, x_wipe1, x_evL0, x_evL1, x_setL0, x_setL1, x_eVar, x_eC, x_eOp, x_eUn, x_eCall, x_eMS, x_asStr, x_aNil, x_aCons, x_eTup, x_eLst, x_eIf, x_eNot, x_eAnd, x_eOr, x_bAnd, x_bOr, x_bNot, x_bYes, x_eSl, x_oNone, x_oSome, asI_int, x_iSeq, x_iCall, x_gfName, x_gfTup, eLc, noX_is, Res.bind_ok, Res.bind_exc, flow_ok, flow_exc, seqK_next, seqK_ret, seqK_exc, seqK_brk, seqK_cont, loopK_next, loopK_cont, loopK_brk, loopK_ret, loopK_exc, must_ok, List.set_cons_succ, List.set_cons_zero, List.getD_cons_succ, List.getD_cons_zero, vD_some, if_true, if_false, Bool.false_eq_true, reduceIte, List.map_cons, List.map_nil, List.length_cons, List.length_nil, List.cons_append, List.nil_append, List.replicate, Nat.reduceSub, Nat.reduceAdd, x_add, x_sub, x_cmp, x_eq_ii, x_ne_ii, x_int_i, x_len_t, x_len_l, x_tup_l, x_tup_t, x_list_l, x_list_t, x_dSl_t, x_dSl_l, x_items_t, x_items_l, x_tru_n, x_tru_b, x_tru_i, x_tru_t, x_tru_l, x_asB, x_is_n, x_isNot_n, isNon_n, isNon_i, isNon_s, isNon_t, isNon_l, isNon_b, Bool.not_true, Bool.not_false, List.length_map, fnE, startE, C__law_to_front, F__law_to_front, ng, r, l, mvD]
  | row X =>
    rw [h] at l
    simp only [sSeq_x, x_sSet, x_sIf, x_sRet, x_sRetN, x_sPar, x_sUnp, resF_ok, x_sDrop, x_sNext, x_sBreak, x_sCont, x_sRaise, x_sAug, augK_ok, x_sFor, x_sWhile, sKill_x, x_wipe0, x_wipe1, x_evL0, x_evL1, x_setL0, x_setL1, x_eVar, x_eC, x_eOp, x_eUn, x_eCall, x_eMS, x_asStr, x_aNil, x_aCons, x_eTup, x_eLst, x_eIf, x_eNot, x_eAnd, x_eOr, x_bAnd, x_bOr, x_bNot, x_bYes, x_eSl, x_oNone, x_oSome, asI_int, x_iSeq, x_iCall, x_gfName, x_gfTup, eLc, noX_is, Res.bind_ok, Res.bind_exc, flow_ok, flow_exc, seqK_next, seqK_ret, seqK_exc, seqK_brk, seqK_cont, loopK_next, loopK_cont, loopK_brk, loopK_ret, loopK_exc, must_ok, List.set_cons_succ, List.set_cons_zero, List.getD_cons_succ, List.getD_cons_zero, vD_some, if_true, if_false, Bool.false_eq_true, reduceIte, List.map_cons, List.map_nil, List.length_cons, List.length_nil, List.cons_append, List.nil_append, List.replicate, Nat.reduceSub, Nat.reduceAdd, x_add, x_sub, x_cmp, x_eq_ii, x_ne_ii, x_int_i, x_len_t, x_len_l, x_tup_l, x_tup_t, x_list_l, x_list_t, x_dSl_t, x_dSl_l, x_items_t, x_items_l, x_tru_n, x_tru_b, x_tru_i, x_tru_t, x_tru_l, x_asB, x_is_n, x_isNot_n, isNon_n, isNon_i, isNon_s, isNon_t, isNon_l, isNon_b, Bool.not_true, Bool.not_false, List.length_map, fnE, startE, C__law_to_front, F__law_to_front, ng, r, l, mvD]
theorem to_front_ok (rv : ∀ Q ∈ A ++ P :: B, Vp Q) (hl : A.length + B.length ≤ 100) : C_to_front [rwD (A ++ P :: B), dN A.length] = .ok (mvD "needs" (tf A.reverse P B)) := by
  obtain ⟨p, va, vb⟩ := vA rv
  have l := tf_loop (some (dN A.length)) A.reverse B P p (fun Q h => va Q (List.mem_reverse.mp h)) (by simp; omega)
  rw [List.reverse_reverse, List.length_reverse] at l
  have r := downP_ok (n := A.length) (by omega)
  have ln := len_row (A ++ P :: B)
  have e := e1 A B P
  have c := chpl_ok (n := A.length) (m := A.length + B.length) (by omega)
  have ng : dNeg (.int 1) = .ok (.int (-1)) := rfl
  cases h : tf A.reverse P B with
  | no k =>
    rw [h] at l
    simp only [sSeq_x, x_sSet, x_sIf, x_sRet, x_sRetN, x_sPar, x_sUnp, resF_ok, x_sDrop, x_sNext, x_sBreak, x_sCont, x_sRaise, x_sAug, augK_ok, x_sFor, x_sWhile, sKill_x, x_wipe0, x_wipe1, x_evL0, x_evL1, x_setL0, x_setL1, x_eVar, x_eC, x_eOp, x_eUn, x_eCall, x_eMS, x_asStr, x_aNil, x_aCons, x_eTup, x_eLst, x_eIf, x_eNot, x_eAnd, x_eOr, x_bAnd, x_bOr, x_bNot, x_bYes, x_eSl, x_oNone, x_oSome, asI_int, x_iSeq, x_iCall, x_gfName, x_gfTup, eLc, noX_is, Res.bind_ok, Res.bind_exc, flow_ok, flow_exc, seqK_next, seqK_ret, seqK_exc, seqK_brk, seqK_cont, loopK_next, loopK_cont, loopK_brk, loopK_ret, loopK_exc, must_ok, List.set_cons_succ, List.set_cons_zero, List.getD_cons_succ, List.getD_cons_zero, vD_some, if_true, if_false, Bool.false_eq_true, reduceIte, List.map_cons, List.map_nil, List.length_cons, List.length_nil, List.cons_append, List.nil_append, List.replicate, Nat.reduceSub, Nat.reduceAdd, x_add, x_sub, x_cmp, x_eq_ii, x_ne_ii, x_int_i, x_len_t, x_len_l, x_tup_l, x_tup_t, x_list_l, x_list_t, x_dSl_t, x_dSl_l, x_items_t, x_items_l, x_tru_n, x_tru_b, x_tru_i, x_tru_t, x_tru_l, x_asB, x_is_n, x_isNot_n, isNon_n, isNon_i, isNon_s, isNon_t, isNon_l, isNon_b, Bool.not_true, Bool.not_false, List.length_map, fnE, startE, C_to_front, F_to_front, chrow_ok rv, ln, e, c, ng, r, l, mvD]
  | row X =>
    rw [h] at l
    simp only [sSeq_x, x_sSet, x_sIf, x_sRet, x_sRetN, x_sPar, x_sUnp, resF_ok, x_sDrop, x_sNext, x_sBreak, x_sCont, x_sRaise, x_sAug, augK_ok, x_sFor, x_sWhile, sKill_x, x_wipe0, x_wipe1, x_evL0, x_evL1, x_setL0, x_setL1, x_eVar, x_eC, x_eOp, x_eUn, x_eCall, x_eMS, x_asStr, x_aNil, x_aCons, x_eTup, x_eLst, x_eIf, x_eNot, x_eAnd, x_eOr, x_bAnd, x_bOr, x_bNot, x_bYes, x_eSl, x_oNone, x_oSome, asI_int, x_iSeq, x_iCall, x_gfName, x_gfTup, eLc, noX_is, Res.bind_ok, Res.bind_exc, flow_ok, flow_exc, seqK_next, seqK_ret, seqK_exc, seqK_brk, seqK_cont, loopK_next, loopK_cont, loopK_brk, loopK_ret, loopK_exc, must_ok, List.set_cons_succ, List.set_cons_zero, List.getD_cons_succ, List.getD_cons_zero, vD_some, if_true, if_false, Bool.false_eq_true, reduceIte, List.map_cons, List.map_nil, List.length_cons, List.length_nil, List.cons_append, List.nil_append, List.replicate, Nat.reduceSub, Nat.reduceAdd, x_add, x_sub, x_cmp, x_eq_ii, x_ne_ii, x_int_i, x_len_t, x_len_l, x_tup_l, x_tup_t, x_list_l, x_list_t, x_dSl_t, x_dSl_l, x_items_t, x_items_l, x_tru_n, x_tru_b, x_tru_i, x_tru_t, x_tru_l, x_asB, x_is_n, x_isNot_n, isNon_n, isNon_i, isNon_s, isNon_t, isNon_l, isNon_b, Bool.not_true, Bool.not_false, List.length_map, fnE, startE, C_to_front, F_to_front, chrow_ok rv, ln, e, c, ng, r, l, mvD]
theorem exchanged_ok {S : Patch} (rv : ∀ Q ∈ A ++ P :: S :: B, Vp Q) (hl : A.length + B.length ≤ 100) : C_exchanged [rwD (A ++ P :: S :: B), dN A.length] = .ok (match cmO P S with
    | none => cmD P S
    | some (X, Y) => .tup [.str "row", rwD (A ++ X :: Y :: B)]) := by
  obtain ⟨p, va, vb⟩ := vA rv
  have s := vb S List.mem_cons_self
  have ln := len_row (A ++ P :: S :: B)
  have e : (((A ++ P :: S :: B).length : Nat) : Int) - 2 = ((A.length + B.length : Nat) : Int) := by simp; omega
  have c := chpl_ok (n := A.length) (m := A.length + B.length) (by omega)
  have i0 := sp_ix A (S :: B) P
  have i1 := sp_ix1 A B P S
  have sw := commuting_ok P S p.few s.few
  cases h : cmO P S with
  | none =>
    obtain ⟨x, y, hc⟩ := cmD_none h
    rw [hc] at sw ⊢
    have j0 : dIx (.tup [.str "needs", dN x, dN y]) (.int 0) = .ok (.str "needs") := rfl
    simp only [sSeq_x, x_sSet, x_sIf, x_sRet, x_sRetN, x_sPar, x_sUnp, resF_ok, x_sDrop, x_sNext, x_sBreak, x_sCont, x_sRaise, x_sAug, augK_ok, x_sFor, x_sWhile, sKill_x, x_wipe0, x_wipe1, x_evL0, x_evL1, x_setL0, x_setL1, x_eVar, x_eC, x_eOp, x_eUn, x_eCall, x_eMS, x_asStr, x_aNil, x_aCons, x_eTup, x_eLst, x_eIf, x_eNot, x_eAnd, x_eOr, x_bAnd, x_bOr, x_bNot, x_bYes, x_eSl, x_oNone, x_oSome, asI_int, x_iSeq, x_iCall, x_gfName, x_gfTup, eLc, noX_is, Res.bind_ok, Res.bind_exc, flow_ok, flow_exc, seqK_next, seqK_ret, seqK_exc, seqK_brk, seqK_cont, loopK_next, loopK_cont, loopK_brk, loopK_ret, loopK_exc, must_ok, List.set_cons_succ, List.set_cons_zero, List.getD_cons_succ, List.getD_cons_zero, vD_some, if_true, if_false, Bool.false_eq_true, reduceIte, List.map_cons, List.map_nil, List.length_cons, List.length_nil, List.cons_append, List.nil_append, List.replicate, Nat.reduceSub, Nat.reduceAdd, x_add, x_sub, x_cmp, x_eq_ii, x_ne_ii, x_int_i, x_len_t, x_len_l, x_tup_l, x_tup_t, x_list_l, x_list_t, x_dSl_t, x_dSl_l, x_items_t, x_items_l, x_tru_n, x_tru_b, x_tru_i, x_tru_t, x_tru_l, x_asB, x_is_n, x_isNot_n, isNon_n, isNon_i, isNon_s, isNon_t, isNon_l, isNon_b, Bool.not_true, Bool.not_false, List.length_map, fnE, startE, C_exchanged, F_exchanged, chrow_ok rv, ln, e, c, i0, i1, sw, j0, nd_cm.1]
  | some XY =>
    obtain ⟨X, Y⟩ := XY
    rw [cmD_some h] at sw
    have ch := sp_hi A (P :: S :: B)
    have cl := sp_lo2 A B P S
    have j0 : dIx (.tup [.str "commuted", ptD X, ptD Y]) (.int 0) = .ok (.str "commuted") := rfl
    have c1 : cut [D.str "commuted", ptD X, ptD Y] (some 1) none = [ptD X, ptD Y] := rfl
    have z1 : A.length + 2 ≤ 16777216 := by omega
    have z2 : (A.map ptD ++ [ptD X, ptD Y]).length + B.length ≤ 16777216 := by simp; omega
    have em : A.map ptD ++ [ptD X, ptD Y] ++ B.map ptD = (A ++ X :: Y :: B).map ptD := by simp
    simp only [sSeq_x, x_sSet, x_sIf, x_sRet, x_sRetN, x_sPar, x_sUnp, resF_ok, x_sDrop, x_sNext, x_sBreak, x_sCont, x_sRaise, x_sAug, augK_ok, x_sFor, x_sWhile, sKill_x, x_wipe0, x_wipe1, x_evL0, x_evL1, x_setL0, x_setL1, x_eVar, x_eC, x_eOp, x_eUn, x_eCall, x_eMS, x_asStr, x_aNil, x_aCons, x_eTup, x_eLst, x_eIf, x_eNot, x_eAnd, x_eOr, x_bAnd, x_bOr, x_bNot, x_bYes, x_eSl, x_oNone, x_oSome, asI_int, x_iSeq, x_iCall, x_gfName, x_gfTup, eLc, noX_is, Res.bind_ok, Res.bind_exc, flow_ok, flow_exc, seqK_next, seqK_ret, seqK_exc, seqK_brk, seqK_cont, loopK_next, loopK_cont, loopK_brk, loopK_ret, loopK_exc, must_ok, List.set_cons_succ, List.set_cons_zero, List.getD_cons_succ, List.getD_cons_zero, vD_some, if_true, if_false, Bool.false_eq_true, reduceIte, List.map_cons, List.map_nil, List.length_cons, List.length_nil, List.cons_append, List.nil_append, List.replicate, Nat.reduceSub, Nat.reduceAdd, x_add, x_sub, x_cmp, x_eq_ii, x_ne_ii, x_int_i, x_len_t, x_len_l, x_tup_l, x_tup_t, x_list_l, x_list_t, x_dSl_t, x_dSl_l, x_items_t, x_items_l, x_tru_n, x_tru_b, x_tru_i, x_tru_t, x_tru_l, x_asB, x_is_n, x_isNot_n, isNon_n, isNon_i, isNon_s, isNon_t, isNon_l, isNon_b, Bool.not_true, Bool.not_false, List.length_map, fnE, startE, C_exchanged, F_exchanged, chrow_ok rv, ln, e, c, i0, i1, sw, j0, nd_cm.2, c1, ch, cl, x_add_t, sl_eq, z1, z2, em]
end
/-! of moving alone -/
theorem rb_cons (t : List Nat) (P : Patch) (R : List Patch) : rb t (P :: R) = rb (app t 0 P) R := rfl
theorem rfit_split (A B : List Patch) (t : List Nat) : RFit t (A ++ B) ↔ RFit t A ∧ RFit (rb t A) B := by
  induction A generalizing t with
  | nil => exact ⟨fun h => ⟨trivial, h⟩, fun h => h.2⟩
  | cons P A ih =>
    constructor
    · rintro ⟨h1, h2⟩
      have := (ih _).mp h2
      exact ⟨⟨h1, this.1⟩, this.2⟩
    · rintro ⟨⟨h1, h2⟩, h3⟩
      exact ⟨h1, (ih _).mpr ⟨h2, h3⟩⟩
theorem swap_row {A B : List Patch} {P S X Y : Patch} {t : List Nat} (p : Vp P) (s : Vp S) (h : cmO P S = some (X, Y)) (f : RFit t (A ++ P :: S :: B)) : RFit t (A ++ X :: Y :: B) ∧ rb t (A ++ X :: Y :: B) = rb t (A ++ P :: S :: B) := by
  obtain ⟨f1, f2, f3, f4⟩ := (rfit_split A (P :: S :: B) t).mp f
  obtain ⟨g1, g2, g3⟩ := cm_fit p s h f2 f3
  refine ⟨(rfit_split A (X :: Y :: B) t).mpr ⟨f1, g1, g2, ?_⟩, ?_⟩
  · rw [g3]; exact f4
  · rw [rb_app, rb_app, rb_cons, rb_cons, rb_cons, rb_cons, g3]
theorem te_good (t : List Nat) : ∀ (rest pre : List Patch) (P : Patch) (X : List Patch), (∀ Q ∈ pre ++ P :: rest, Vp Q) → RFit t (pre ++ P :: rest) → te pre P rest = .row X → (∀ Q ∈ X, Vp Q) ∧ RFit t X ∧ rb t X = rb t (pre ++ P :: rest) ∧ X.length = pre.length + 1 + rest.length
  | [], pre, P, X, rv, f, h => by
    rw [te] at h
    cases h
    exact ⟨rv, f, rfl, by simp⟩
  | S :: rest, pre, P, X, rv, f, h => by
    rw [te] at h
    cases q : cmO P S with
    | none => rw [q] at h; cases h
    | some AB =>
      obtain ⟨A, B⟩ := AB
      rw [q] at h
      have p := rv P (by simp)
      have s := rv S (by simp)
      obtain ⟨va, vb⟩ := cm_vp p s q
      obtain ⟨g1, g2⟩ := swap_row p s q f
      have e : (pre ++ [A]) ++ B :: rest = pre ++ A :: B :: rest := by simp
      obtain ⟨r1, r2, r3, r4⟩ := te_good t rest (pre ++ [A]) B X (by
        rw [e]
        intro Q hQ
        simp only [List.mem_append, List.mem_cons] at hQ rv
        rcases hQ with hQ | rfl | rfl | hQ
        · exact rv Q (.inl hQ)
        · exact va
        · exact vb
        · exact rv Q (.inr (.inr (.inr hQ)))) (by rw [e]; exact g1) h
      rw [e, g2] at r3
      exact ⟨r1, r2, r3, by rw [r4]; simp; omega⟩
theorem tf_good (t : List Nat) : ∀ (pr rest : List Patch) (P : Patch) (X : List Patch), (∀ Q ∈ pr.reverse ++ P :: rest, Vp Q) → RFit t (pr.reverse ++ P :: rest) → tf pr P rest = .row X → (∀ Q ∈ X, Vp Q) ∧ RFit t X ∧ rb t X = rb t (pr.reverse ++ P :: rest) ∧ X.length = pr.length + 1 + rest.length
  | [], rest, P, X, rv, f, h => by
    rw [tf] at h
    cases h
    exact ⟨rv, f, rfl, by simp; omega⟩
  | S :: pr, rest, P, X, rv, f, h => by
    rw [tf] at h
    have er : (S :: pr).reverse ++ P :: rest = pr.reverse ++ S :: P :: rest := by simp
    rw [er] at rv f ⊢
    cases q : cmO S P with
    | none => rw [q] at h; cases h
    | some AB =>
      obtain ⟨A, B⟩ := AB
      rw [q] at h
      have p := rv P (by simp)
      have s := rv S (by simp)
      obtain ⟨va, vb⟩ := cm_vp s p q
      obtain ⟨g1, g2⟩ := swap_row s p q f
      obtain ⟨r1, r2, r3, r4⟩ := tf_good t pr (B :: rest) A X (by
        intro Q hQ
        simp only [List.mem_append, List.mem_cons] at hQ rv
        rcases hQ with hQ | rfl | rfl | hQ
        · exact rv Q (.inl hQ)
        · exact va
        · exact vb
        · exact rv Q (.inr (.inr (.inr hQ)))) g1 h
      rw [g2] at r3
      exact ⟨r1, r2, r3, by rw [r4]; simp; omega⟩
theorem te_back : ∀ (rest pre : List Patch) (P : Patch) (X tail : List Patch), Vp P → (∀ Q ∈ rest, Vp Q) → te pre P rest = .row X → ∃ X' B, X = X' ++ [B] ∧ tf X'.reverse B tail = tf pre.reverse P (rest ++ tail)
  | [], pre, P, X, tail, _, _, h => by
    rw [te] at h
    cases h
    exact ⟨pre, P, rfl, rfl⟩
  | S :: rest, pre, P, X, tail, p, rv, h => by
    rw [te] at h
    cases q : cmO P S with
    | none => rw [q] at h; cases h
    | some AB =>
      obtain ⟨A, B⟩ := AB
      rw [q] at h
      have s := rv S List.mem_cons_self
      obtain ⟨va, vb⟩ := cm_vp p s q
      obtain ⟨X', B', e, ih⟩ := te_back rest (pre ++ [A]) B X tail vb (fun Q hQ => rv Q (List.mem_cons_of_mem _ hQ)) h
      refine ⟨X', B', e, ?_⟩
      rw [ih, List.reverse_append, List.reverse_singleton, List.singleton_append, tf, cm_inv p s q]
      rfl
/-! ### rows that fit or don't, and what are none -/
theorem lis_text_ok {t : List Nat} (h : LOk t) : C__law_is_text [txD t] = .ok (.bl true) := by
  have hb := lc_fun (gf := gfName 1) (f := eAnd (eUn (dIsi isStr) (eVar 1)) (eOp dNotIn (eC (.str "\n")) (eVar 1))) (ρ := [some (txD t), none]) (e := lnD) (g := fun _ => .bl true) (xs := t) fun c hc => ⟨_, rfl, by simp [ln_nl (h c hc)]⟩
  have t1 : ∀ (α : Type) (xs : List α), fAll [.lst (xs.map fun _ => D.bl true)] = .ok (.bl true) := fun α xs => by
    rw [x_all_f (fun _ => true) xs]
    simp
  simp only [sSeq_x, x_sSet, x_sIf, x_sRet, x_sRetN, x_sPar, x_sUnp, resF_ok, x_sDrop, x_sNext, x_sBreak, x_sCont, x_sRaise, x_sAug, augK_ok, x_sFor, x_sWhile, sKill_x, x_wipe0, x_wipe1, x_evL0, x_evL1, x_setL0, x_setL1, x_eVar, x_eC, x_eOp, x_eUn, x_eCall, x_eMS, x_asStr, x_aNil, x_aCons, x_eTup, x_eLst, x_eIf, x_eNot, x_eAnd, x_eOr, x_bAnd, x_bOr, x_bNot, x_bYes, x_eSl, x_oNone, x_oSome, asI_int, x_iSeq, x_iCall, x_gfName, x_gfTup, eLc, noX_is, Res.bind_ok, Res.bind_exc, flow_ok, flow_exc, seqK_next, seqK_ret, seqK_exc, seqK_brk, seqK_cont, loopK_next, loopK_cont, loopK_brk, loopK_ret, loopK_exc, must_ok, List.set_cons_succ, List.set_cons_zero, List.getD_cons_succ, List.getD_cons_zero, vD_some, if_true, if_false, Bool.false_eq_true, reduceIte, List.map_cons, List.map_nil, List.length_cons, List.length_nil, List.cons_append, List.nil_append, List.replicate, Nat.reduceSub, Nat.reduceAdd, x_add, x_sub, x_cmp, x_eq_ii, x_ne_ii, x_int_i, x_len_t, x_len_l, x_tup_l, x_tup_t, x_list_l, x_list_t, x_dSl_t, x_dSl_l, x_items_t, x_items_l, x_tru_n, x_tru_b, x_tru_i, x_tru_t, x_tru_l, x_asB, x_is_n, x_isNot_n, isNon_n, isNon_i, isNon_s, isNon_t, isNon_l, isNon_b, Bool.not_true, Bool.not_false, List.length_map, fnE, startE, C__law_is_text, F__law_is_text, isi_t, k_tt, hb, t1]
theorem lip_loop (a : Option D) : ∀ (P : Patch) (lo : Int), Ch lo P → (∀ h ∈ P, h.2.1 ≠ h.2.2) → (∀ h ∈ P, LOk h.2.1 ∧ LOk h.2.2) → ∃ lo', forE (gfName 2) B__law_is_patch_1 (P.map hkD) [a, some (.int lo), none] = .next [a, some (.int lo'), none]
  | [], lo, _, _, _ => ⟨lo, rfl⟩
  | p :: P, lo, c, ne, ln => by
    obtain ⟨lo', ih⟩ := lip_loop a P (hEnd p) c.2 (fun h hh => ne h (List.mem_cons_of_mem _ hh)) fun h hh => ln h (List.mem_cons_of_mem _ hh)
    obtain ⟨l1, l2⟩ := ln p List.mem_cons_self
    have e := tx_eq l1 l2
    rw [decide_eq_false (ne p List.mem_cons_self)] at e
    have z : (((3 : Nat) : Int) == 3) = true := rfl
    have g : iLe p.1 lo = false := decide_eq_false (by have := c.1; omega)
    refine ⟨lo', ?_⟩
    rw [List.map_cons, forE_cons, ← ih]
    simp only [sSeq_x, x_sSet, x_sIf, x_sRet, x_sRetN, x_sPar, x_sUnp, resF_ok, x_sDrop, x_sNext, x_sBreak, x_sCont, x_sRaise, x_sAug, augK_ok, x_sFor, x_sWhile, sKill_x, x_wipe0, x_wipe1, x_evL0, x_evL1, x_setL0, x_setL1, x_eVar, x_eC, x_eOp, x_eUn, x_eCall, x_eMS, x_asStr, x_aNil, x_aCons, x_eTup, x_eLst, x_eIf, x_eNot, x_eAnd, x_eOr, x_bAnd, x_bOr, x_bNot, x_bYes, x_eSl, x_oNone, x_oSome, asI_int, x_iSeq, x_iCall, x_gfName, x_gfTup, eLc, noX_is, Res.bind_ok, Res.bind_exc, flow_ok, flow_exc, seqK_next, seqK_ret, seqK_exc, seqK_brk, seqK_cont, loopK_next, loopK_cont, loopK_brk, loopK_ret, loopK_exc, must_ok, List.set_cons_succ, List.set_cons_zero, List.getD_cons_succ, List.getD_cons_zero, vD_some, if_true, if_false, Bool.false_eq_true, reduceIte, List.map_cons, List.map_nil, List.length_cons, List.length_nil, List.cons_append, List.nil_append, List.replicate, Nat.reduceSub, Nat.reduceAdd, x_add, x_sub, x_cmp, x_eq_ii, x_ne_ii, x_int_i, x_len_t, x_len_l, x_tup_l, x_tup_t, x_list_l, x_list_t, x_dSl_t, x_dSl_l, x_items_t, x_items_l, x_tru_n, x_tru_b, x_tru_i, x_tru_t, x_tru_l, x_asB, x_is_n, x_isNot_n, isNon_n, isNon_i, isNon_s, isNon_t, isNon_l, isNon_b, Bool.not_true, Bool.not_false, List.length_map, fnE, startE, B__law_is_patch_1, isi_t, k_tt, hk_len, z, hk0, hk1, hk2, isi_i, k_ii, k_bi, g, lis_text_ok l1, lis_text_ok l2, e, tx_len]
    rfl
theorem lis_patch_ok {P : Patch} (p : Vp P) : C__law_is_patch [ptD P] = .ok (.bl true) := by
  obtain ⟨lo', e⟩ := lip_loop (some (ptD P)) P (-1) p.ch p.ne p.ln
  have ng : dNeg (.int 1) = .ok (.int (-1)) := rfl
  simp only [sSeq_x, x_sSet, x_sIf, x_sRet, x_sRetN, x_sPar, x_sUnp, resF_ok, x_sDrop, x_sNext, x_sBreak, x_sCont, x_sRaise, x_sAug, augK_ok, x_sFor, x_sWhile, sKill_x, x_wipe0, x_wipe1, x_evL0, x_evL1, x_setL0, x_setL1, x_eVar, x_eC, x_eOp, x_eUn, x_eCall, x_eMS, x_asStr, x_aNil, x_aCons, x_eTup, x_eLst, x_eIf, x_eNot, x_eAnd, x_eOr, x_bAnd, x_bOr, x_bNot, x_bYes, x_eSl, x_oNone, x_oSome, asI_int, x_iSeq, x_iCall, x_gfName, x_gfTup, eLc, noX_is, Res.bind_ok, Res.bind_exc, flow_ok, flow_exc, seqK_next, seqK_ret, seqK_exc, seqK_brk, seqK_cont, loopK_next, loopK_cont, loopK_brk, loopK_ret, loopK_exc, must_ok, List.set_cons_succ, List.set_cons_zero, List.getD_cons_succ, List.getD_cons_zero, vD_some, if_true, if_false, Bool.false_eq_true, reduceIte, List.map_cons, List.map_nil, List.length_cons, List.length_nil, List.cons_append, List.nil_append, List.replicate, Nat.reduceSub, Nat.reduceAdd, x_add, x_sub, x_cmp, x_eq_ii, x_ne_ii, x_int_i, x_len_t, x_len_l, x_tup_l, x_tup_t, x_list_l, x_list_t, x_dSl_t, x_dSl_l, x_items_t, x_items_l, x_tru_n, x_tru_b, x_tru_i, x_tru_t, x_tru_l, x_asB, x_is_n, x_isNot_n, isNon_n, isNon_i, isNon_s, isNon_t, isNon_l, isNon_b, Bool.not_true, Bool.not_false, List.length_map, fnE, startE, C__law_is_patch, F__law_is_patch, isi_t, k_tt, ng, e]
theorem lfits_ok {t : List Nat} {P : Patch} (ht : LOk t) (p : Vp P) : C__law_fits [txD t, ptD P] = .ok (.bl (flt t P 0).isNone) := by
  have hb := lc_fun (gf := gfName 2) (f := eAnd (eOp (dCmpI iLe) (eOp dAdd (eOp dIx (eVar 2) (eC (.int 0))) (eCall fLen (aCons (eOp dIx (eVar 2) (eC (.int 1))) aNil))) (eCall fLen (aCons (eVar 0) aNil))) (eOp dEq (eSl (eVar 0) (oSome (eOp dIx (eVar 2) (eC (.int 0)))) (oSome (eOp dAdd (eOp dIx (eVar 2) (eC (.int 0))) (eCall fLen (aCons (eOp dIx (eVar 2) (eC (.int 1))) aNil))))) (eOp dIx (eVar 2) (eC (.int 1))))) (ρ := [some (txD t), some (ptD P), none]) (e := hkD) (g := fun h => .bl (fit1 t h)) (xs := P) fun h hh => ⟨_, rfl, by
    have h0 : 0 ≤ h.1 := by have := p.ch.gt h hh; omega
    have ec : cut (t.map lnD) (some h.1) (some (h.1 + (h.2.1.length : Int))) = ((t.drop h.1.toNat).take h.2.1.length).map lnD := by
      rw [cutI _ h0 (by omega), List.map_take, List.map_drop]
      congr 1
      omega
    have ed := tx_eq (a := (t.drop h.1.toNat).take h.2.1.length) (b := h.2.1) (fun c hc => ht c (List.mem_of_mem_drop (List.mem_of_mem_take hc))) (p.ln h hh).1
    by_cases hl : hEnd h ≤ t.length
    · have z1 : iLe (h.1 + (h.2.1.length : Int)) (t.length : Int) = true := decide_eq_true hl
      have hf : fit1 t h = decide ((t.drop h.1.toNat).take h.2.1.length = h.2.1) := by unfold fit1; rw [decide_eq_true hl, Bool.true_and]
      rw [hf]
      simp only [sSeq_x, x_sSet, x_sIf, x_sRet, x_sRetN, x_sPar, x_sUnp, resF_ok, x_sDrop, x_sNext, x_sBreak, x_sCont, x_sRaise, x_sAug, augK_ok, x_sFor, x_sWhile, sKill_x, x_wipe0, x_wipe1, x_evL0, x_evL1, x_setL0, x_setL1, x_eVar, x_eC, x_eOp, x_eUn, x_eCall, x_eMS, x_asStr, x_aNil, x_aCons, x_eTup, x_eLst, x_eIf, x_eNot, x_eAnd, x_eOr, x_bAnd, x_bOr, x_bNot, x_bYes, x_eSl, x_oNone, x_oSome, asI_int, x_iSeq, x_iCall, x_gfName, x_gfTup, eLc, noX_is, Res.bind_ok, Res.bind_exc, flow_ok, flow_exc, seqK_next, seqK_ret, seqK_exc, seqK_brk, seqK_cont, loopK_next, loopK_cont, loopK_brk, loopK_ret, loopK_exc, must_ok, List.set_cons_succ, List.set_cons_zero, List.getD_cons_succ, List.getD_cons_zero, vD_some, if_true, if_false, Bool.false_eq_true, reduceIte, List.map_cons, List.map_nil, List.length_cons, List.length_nil, List.cons_append, List.nil_append, List.replicate, Nat.reduceSub, Nat.reduceAdd, x_add, x_sub, x_cmp, x_eq_ii, x_ne_ii, x_int_i, x_len_t, x_len_l, x_tup_l, x_tup_t, x_list_l, x_list_t, x_dSl_t, x_dSl_l, x_items_t, x_items_l, x_tru_n, x_tru_b, x_tru_i, x_tru_t, x_tru_l, x_asB, x_is_n, x_isNot_n, isNon_n, isNon_i, isNon_s, isNon_t, isNon_l, isNon_b, Bool.not_true, Bool.not_false, List.length_map, fnE, startE, hk0, hk1, tx_len, z1, ec, ed]
    · have z1 : iLe (h.1 + (h.2.1.length : Int)) (t.length : Int) = false := decide_eq_false hl
      have hf : fit1 t h = false := by unfold fit1; rw [decide_eq_false hl, Bool.false_and]
      rw [hf]
      simp only [sSeq_x, x_sSet, x_sIf, x_sRet, x_sRetN, x_sPar, x_sUnp, resF_ok, x_sDrop, x_sNext, x_sBreak, x_sCont, x_sRaise, x_sAug, augK_ok, x_sFor, x_sWhile, sKill_x, x_wipe0, x_wipe1, x_evL0, x_evL1, x_setL0, x_setL1, x_eVar, x_eC, x_eOp, x_eUn, x_eCall, x_eMS, x_asStr, x_aNil, x_aCons, x_eTup, x_eLst, x_eIf, x_eNot, x_eAnd, x_eOr, x_bAnd, x_bOr, x_bNot, x_bYes, x_eSl, x_oNone, x_oSome, asI_int, x_iSeq, x_iCall, x_gfName, x_gfTup, eLc, noX_is, Res.bind_ok, Res.bind_exc, flow_ok, flow_exc, seqK_next, seqK_ret, seqK_exc, seqK_brk, seqK_cont, loopK_next, loopK_cont, loopK_brk, loopK_ret, loopK_exc, must_ok, List.set_cons_succ, List.set_cons_zero, List.getD_cons_succ, List.getD_cons_zero, vD_some, if_true, if_false, Bool.false_eq_true, reduceIte, List.map_cons, List.map_nil, List.length_cons, List.length_nil, List.cons_append, List.nil_append, List.replicate, Nat.reduceSub, Nat.reduceAdd, x_add, x_sub, x_cmp, x_eq_ii, x_ne_ii, x_int_i, x_len_t, x_len_l, x_tup_l, x_tup_t, x_list_l, x_list_t, x_dSl_t, x_dSl_l, x_items_t, x_items_l, x_tru_n, x_tru_b, x_tru_i, x_tru_t, x_tru_l, x_asB, x_is_n, x_isNot_n, isNon_n, isNon_i, isNon_s, isNon_t, isNon_l, isNon_b, Bool.not_true, Bool.not_false, List.length_map, fnE, startE, hk0, hk1, tx_len, z1]⟩
  have ea := x_all_f (fun h => fit1 t h) P
  have eb : P.all (fun h => fit1 t h) = (flt t P 0).isNone := by
    cases q : flt t P 0 with
    | none => exact List.all_eq_true.mpr (flt_none.mp q)
    | some k =>
      cases c : P.all (fun h => fit1 t h) with
      | false => rfl
      | true =>
        rw [flt_none.mpr (List.all_eq_true.mp c)] at q
        cases q
  rw [eb] at ea
  simp only [sSeq_x, x_sSet, x_sIf, x_sRet, x_sRetN, x_sPar, x_sUnp, resF_ok, x_sDrop, x_sNext, x_sBreak, x_sCont, x_sRaise, x_sAug, augK_ok, x_sFor, x_sWhile, sKill_x, x_wipe0, x_wipe1, x_evL0, x_evL1, x_setL0, x_setL1, x_eVar, x_eC, x_eOp, x_eUn, x_eCall, x_eMS, x_asStr, x_aNil, x_aCons, x_eTup, x_eLst, x_eIf, x_eNot, x_eAnd, x_eOr, x_bAnd, x_bOr, x_bNot, x_bYes, x_eSl, x_oNone, x_oSome, asI_int, x_iSeq, x_iCall, x_gfName, x_gfTup, eLc, noX_is, Res.bind_ok, Res.bind_exc, flow_ok, flow_exc, seqK_next, seqK_ret, seqK_exc, seqK_brk, seqK_cont, loopK_next, loopK_cont, loopK_brk, loopK_ret, loopK_exc, must_ok, List.set_cons_succ, List.set_cons_zero, List.getD_cons_succ, List.getD_cons_zero, vD_some, if_true, if_false, Bool.false_eq_true, reduceIte, List.map_cons, List.map_nil, List.length_cons, List.length_nil, List.cons_append, List.nil_append, List.replicate, Nat.reduceSub, Nat.reduceAdd, x_add, x_sub, x_cmp, x_eq_ii, x_ne_ii, x_int_i, x_len_t, x_len_l, x_tup_l, x_tup_t, x_list_l, x_list_t, x_dSl_t, x_dSl_l, x_items_t, x_items_l, x_tru_n, x_tru_b, x_tru_i, x_tru_t, x_tru_l, x_asB, x_is_n, x_isNot_n, isNon_n, isNon_i, isNon_s, isNon_t, isNon_l, isNon_b, Bool.not_true, Bool.not_false, List.length_map, fnE, startE, C__law_fits, F__law_fits, hb, ea]
def rft (t : List Nat) : List Patch → Nat → Option Nat
  | [], _ => none
  | P :: R, j => match flt t P 0 with
    | some _ => some j
    | none => rft (app t 0 P) R (j + 1)
theorem rft_none : ∀ {R : List Patch} {t : List Nat} {j : Nat}, (∀ P ∈ R, Vp P) → RFit t R → rft t R j = none
  | [], _, _, _, _ => rfl
  | P :: R, t, j, rv, f => by
    rw [rft, flt_none.mpr ((fit_iff0 (rv P List.mem_cons_self).ch).mp f.1)]
    exact rft_none (fun Q hQ => rv Q (List.mem_cons_of_mem _ hQ)) f.2
theorem rfg_loop (r : Option D) : ∀ (R : List Patch) (t : List Nat) (j : Nat), (∀ P ∈ R, Vp P) → LOk t → t.length + 10000 * R.length ≤ 90000 → match rft t R j with
    | some k => forE (gfTup [2, 3]) B_row_fault_1 (enD (R.map ptD) j) [some (txD t), r, none, none] = .ret (dN k)
    | none => ∃ t', forE (gfTup [2, 3]) B_row_fault_1 (enD (R.map ptD) j) [some (txD t), r, none, none] = .next [some (txD t'), r, none, none]
  | [], t, j, _, _, _ => ⟨t, rfl⟩
  | P :: R, t, j, h, ht, hl => by
    have p := h P List.mem_cons_self
    rw [List.length_cons] at hl
    have hpl := p.len t
    have e1 := fault_ok ht p
    have e2 := applied_ok (t := t) p.ch (by omega)
    rw [List.map_cons, enD_cons, forE_cons, rft]
    cases q : flt t P 0 with
    | some k =>
      rw [q] at e1
      simp only [sSeq_x, x_sSet, x_sIf, x_sRet, x_sRetN, x_sPar, x_sUnp, resF_ok, x_sDrop, x_sNext, x_sBreak, x_sCont, x_sRaise, x_sAug, augK_ok, x_sFor, x_sWhile, sKill_x, x_wipe0, x_wipe1, x_evL0, x_evL1, x_setL0, x_setL1, x_eVar, x_eC, x_eOp, x_eUn, x_eCall, x_eMS, x_asStr, x_aNil, x_aCons, x_eTup, x_eLst, x_eIf, x_eNot, x_eAnd, x_eOr, x_bAnd, x_bOr, x_bNot, x_bYes, x_eSl, x_oNone, x_oSome, asI_int, x_iSeq, x_iCall, x_gfName, x_gfTup, eLc, noX_is, Res.bind_ok, Res.bind_exc, flow_ok, flow_exc, seqK_next, seqK_ret, seqK_exc, seqK_brk, seqK_cont, loopK_next, loopK_cont, loopK_brk, loopK_ret, loopK_exc, must_ok, List.set_cons_succ, List.set_cons_zero, List.getD_cons_succ, List.getD_cons_zero, vD_some, if_true, if_false, Bool.false_eq_true, reduceIte, List.map_cons, List.map_nil, List.length_cons, List.length_nil, List.cons_append, List.nil_append, List.replicate, Nat.reduceSub, Nat.reduceAdd, x_add, x_sub, x_cmp, x_eq_ii, x_ne_ii, x_int_i, x_len_t, x_len_l, x_tup_l, x_tup_t, x_list_l, x_list_t, x_dSl_t, x_dSl_l, x_items_t, x_items_l, x_tru_n, x_tru_b, x_tru_i, x_tru_t, x_tru_l, x_asB, x_is_n, x_isNot_n, isNon_n, isNon_i, isNon_s, isNon_t, isNon_l, isNon_b, Bool.not_true, Bool.not_false, List.length_map, fnE, startE, B_row_fault_1, e1, onD]
    | none =>
      rw [q] at e1
      have ih := rfg_loop r R (app t 0 P) (j + 1) (fun Q hq => h Q (List.mem_cons_of_mem _ hq)) (p.lok ht) (by omega)
      have st : B_row_fault_1 [some (txD t), r, some (dN j), some (ptD P)] = .next [some (txD (app t 0 P)), r, none, none] := by simp only [sSeq_x, x_sSet, x_sIf, x_sRet, x_sRetN, x_sPar, x_sUnp, resF_ok, x_sDrop, x_sNext, x_sBreak, x_sCont, x_sRaise, x_sAug, augK_ok, x_sFor, x_sWhile, sKill_x, x_wipe0, x_wipe1, x_evL0, x_evL1, x_setL0, x_setL1, x_eVar, x_eC, x_eOp, x_eUn, x_eCall, x_eMS, x_asStr, x_aNil, x_aCons, x_eTup, x_eLst, x_eIf, x_eNot, x_eAnd, x_eOr, x_bAnd, x_bOr, x_bNot, x_bYes, x_eSl, x_oNone, x_oSome, asI_int, x_iSeq, x_iCall, x_gfName, x_gfTup, eLc, noX_is, Res.bind_ok, Res.bind_exc, flow_ok, flow_exc, seqK_next, seqK_ret, seqK_exc, seqK_brk, seqK_cont, loopK_next, loopK_cont, loopK_brk, loopK_ret, loopK_exc, must_ok, List.set_cons_succ, List.set_cons_zero, List.getD_cons_succ, List.getD_cons_zero, vD_some, if_true, if_false, Bool.false_eq_true, reduceIte, List.map_cons, List.map_nil, List.length_cons, List.length_nil, List.cons_append, List.nil_append, List.replicate, Nat.reduceSub, Nat.reduceAdd, x_add, x_sub, x_cmp, x_eq_ii, x_ne_ii, x_int_i, x_len_t, x_len_l, x_tup_l, x_tup_t, x_list_l, x_list_t, x_dSl_t, x_dSl_l, x_items_t, x_items_l, x_tru_n, x_tru_b, x_tru_i, x_tru_t, x_tru_l, x_asB, x_is_n, x_isNot_n, isNon_n, isNon_i, isNon_s, isNon_t, isNon_l, isNon_b, Bool.not_true, Bool.not_false, List.length_map, fnE, startE, B_row_fault_1, e1, onD, e2]
      dsimp only
      cases q2 : rft (app t 0 P) R (j + 1) with
      | some k =>
        rw [q2] at ih
        simp only [sSeq_x, x_sSet, x_sIf, x_sRet, x_sRetN, x_sPar, x_sUnp, resF_ok, x_sDrop, x_sNext, x_sBreak, x_sCont, x_sRaise, x_sAug, augK_ok, x_sFor, x_sWhile, sKill_x, x_wipe0, x_wipe1, x_evL0, x_evL1, x_setL0, x_setL1, x_eVar, x_eC, x_eOp, x_eUn, x_eCall, x_eMS, x_asStr, x_aNil, x_aCons, x_eTup, x_eLst, x_eIf, x_eNot, x_eAnd, x_eOr, x_bAnd, x_bOr, x_bNot, x_bYes, x_eSl, x_oNone, x_oSome, asI_int, x_iSeq, x_iCall, x_gfName, x_gfTup, eLc, noX_is, Res.bind_ok, Res.bind_exc, flow_ok, flow_exc, seqK_next, seqK_ret, seqK_exc, seqK_brk, seqK_cont, loopK_next, loopK_cont, loopK_brk, loopK_ret, loopK_exc, must_ok, List.set_cons_succ, List.set_cons_zero, List.getD_cons_succ, List.getD_cons_zero, vD_some, if_true, if_false, Bool.false_eq_true, reduceIte, List.map_cons, List.map_nil, List.length_cons, List.length_nil, List.cons_append, List.nil_append, List.replicate, Nat.reduceSub, Nat.reduceAdd, x_add, x_sub, x_cmp, x_eq_ii, x_ne_ii, x_int_i, x_len_t, x_len_l, x_tup_l, x_tup_t, x_list_l, x_list_t, x_dSl_t, x_dSl_l, x_items_t, x_items_l, x_tru_n, x_tru_b, x_tru_i, x_tru_t, x_tru_l, x_asB, x_is_n, x_isNot_n, isNon_n, isNon_i, isNon_s, isNon_t, isNon_l, isNon_b, Bool.not_true, Bool.not_false, List.length_map, fnE, startE, st]
        exact ih
      | none =>
        rw [q2] at ih
        obtain ⟨t', ih⟩ := ih
        exact ⟨t', by
          simp only [sSeq_x, x_sSet, x_sIf, x_sRet, x_sRetN, x_sPar, x_sUnp, resF_ok, x_sDrop, x_sNext, x_sBreak, x_sCont, x_sRaise, x_sAug, augK_ok, x_sFor, x_sWhile, sKill_x, x_wipe0, x_wipe1, x_evL0, x_evL1, x_setL0, x_setL1, x_eVar, x_eC, x_eOp, x_eUn, x_eCall, x_eMS, x_asStr, x_aNil, x_aCons, x_eTup, x_eLst, x_eIf, x_eNot, x_eAnd, x_eOr, x_bAnd, x_bOr, x_bNot, x_bYes, x_eSl, x_oNone, x_oSome, asI_int, x_iSeq, x_iCall, x_gfName, x_gfTup, eLc, noX_is, Res.bind_ok, Res.bind_exc, flow_ok, flow_exc, seqK_next, seqK_ret, seqK_exc, seqK_brk, seqK_cont, loopK_next, loopK_cont, loopK_brk, loopK_ret, loopK_exc, must_ok, List.set_cons_succ, List.set_cons_zero, List.getD_cons_succ, List.getD_cons_zero, vD_some, if_true, if_false, Bool.false_eq_true, reduceIte, List.map_cons, List.map_nil, List.length_cons, List.length_nil, List.cons_append, List.nil_append, List.replicate, Nat.reduceSub, Nat.reduceAdd, x_add, x_sub, x_cmp, x_eq_ii, x_ne_ii, x_int_i, x_len_t, x_len_l, x_tup_l, x_tup_t, x_list_l, x_list_t, x_dSl_t, x_dSl_l, x_items_t, x_items_l, x_tru_n, x_tru_b, x_tru_i, x_tru_t, x_tru_l, x_asB, x_is_n, x_isNot_n, isNon_n, isNon_i, isNon_s, isNon_t, isNon_l, isNon_b, Bool.not_true, Bool.not_false, List.length_map, fnE, startE, st]
          exact ih⟩
theorem rowfault_g {R : List Patch} {t : List Nat} (h : ∀ P ∈ R, Vp P) (ht : LOk t) (hl : t.length + 10000 * R.length ≤ 90000) : C_row_fault [txD t, rwD R] = .ok (onD (rft t R 0)) := by
  have e := rfg_loop (some (rwD R)) R t 0 h ht hl
  have en := en_rng (R.map ptD)
  cases q : rft t R 0 with
  | some k =>
    rw [q] at e
    simp only [sSeq_x, x_sSet, x_sIf, x_sRet, x_sRetN, x_sPar, x_sUnp, resF_ok, x_sDrop, x_sNext, x_sBreak, x_sCont, x_sRaise, x_sAug, augK_ok, x_sFor, x_sWhile, sKill_x, x_wipe0, x_wipe1, x_evL0, x_evL1, x_setL0, x_setL1, x_eVar, x_eC, x_eOp, x_eUn, x_eCall, x_eMS, x_asStr, x_aNil, x_aCons, x_eTup, x_eLst, x_eIf, x_eNot, x_eAnd, x_eOr, x_bAnd, x_bOr, x_bNot, x_bYes, x_eSl, x_oNone, x_oSome, asI_int, x_iSeq, x_iCall, x_gfName, x_gfTup, eLc, noX_is, Res.bind_ok, Res.bind_exc, flow_ok, flow_exc, seqK_next, seqK_ret, seqK_exc, seqK_brk, seqK_cont, loopK_next, loopK_cont, loopK_brk, loopK_ret, loopK_exc, must_ok, List.set_cons_succ, List.set_cons_zero, List.getD_cons_succ, List.getD_cons_zero, vD_some, if_true, if_false, Bool.false_eq_true, reduceIte, List.map_cons, List.map_nil, List.length_cons, List.length_nil, List.cons_append, List.nil_append, List.replicate, Nat.reduceSub, Nat.reduceAdd, x_add, x_sub, x_cmp, x_eq_ii, x_ne_ii, x_int_i, x_len_t, x_len_l, x_tup_l, x_tup_t, x_list_l, x_list_t, x_dSl_t, x_dSl_l, x_items_t, x_items_l, x_tru_n, x_tru_b, x_tru_i, x_tru_t, x_tru_l, x_asB, x_is_n, x_isNot_n, isNon_n, isNon_i, isNon_s, isNon_t, isNon_l, isNon_b, Bool.not_true, Bool.not_false, List.length_map, fnE, startE, C_row_fault, F_row_fault, chtx_ok ht, isrow_ok h, en, e, onD]
  | none =>
    rw [q] at e
    obtain ⟨t', e⟩ := e
    simp only [sSeq_x, x_sSet, x_sIf, x_sRet, x_sRetN, x_sPar, x_sUnp, resF_ok, x_sDrop, x_sNext, x_sBreak, x_sCont, x_sRaise, x_sAug, augK_ok, x_sFor, x_sWhile, sKill_x, x_wipe0, x_wipe1, x_evL0, x_evL1, x_setL0, x_setL1, x_eVar, x_eC, x_eOp, x_eUn, x_eCall, x_eMS, x_asStr, x_aNil, x_aCons, x_eTup, x_eLst, x_eIf, x_eNot, x_eAnd, x_eOr, x_bAnd, x_bOr, x_bNot, x_bYes, x_eSl, x_oNone, x_oSome, asI_int, x_iSeq, x_iCall, x_gfName, x_gfTup, eLc, noX_is, Res.bind_ok, Res.bind_exc, flow_ok, flow_exc, seqK_next, seqK_ret, seqK_exc, seqK_brk, seqK_cont, loopK_next, loopK_cont, loopK_brk, loopK_ret, loopK_exc, must_ok, List.set_cons_succ, List.set_cons_zero, List.getD_cons_succ, List.getD_cons_zero, vD_some, if_true, if_false, Bool.false_eq_true, reduceIte, List.map_cons, List.map_nil, List.length_cons, List.length_nil, List.cons_append, List.nil_append, List.replicate, Nat.reduceSub, Nat.reduceAdd, x_add, x_sub, x_cmp, x_eq_ii, x_ne_ii, x_int_i, x_len_t, x_len_l, x_tup_l, x_tup_t, x_list_l, x_list_t, x_dSl_t, x_dSl_l, x_items_t, x_items_l, x_tru_n, x_tru_b, x_tru_i, x_tru_t, x_tru_l, x_asB, x_is_n, x_isNot_n, isNon_n, isNon_i, isNon_s, isNon_t, isNon_l, isNon_b, Bool.not_true, Bool.not_false, List.length_map, fnE, startE, C_row_fault, F_row_fault, chtx_ok ht, isrow_ok h, en, e, onD]
theorem lfg_loop (R0 : List Patch) (g3 : Option D) : ∀ (R : List Patch) (t : List Nat) (j : Nat), R0.drop j = R → (∀ P ∈ R, Vp P) → LOk t → t.length + 10000 * R.length ≤ 90000 → match rft t R j with
    | some k => forE (gfName 2) B__law_fault_1 (ups j R.length) [some (txD t), some (rwD R0), none, g3] = .ret (dN k)
    | none => ∃ t', forE (gfName 2) B__law_fault_1 (ups j R.length) [some (txD t), some (rwD R0), none, g3] = .next [some (txD t'), some (rwD R0), none, g3]
  | [], t, j, _, _, _, _ => ⟨t, rfl⟩
  | P :: R, t, j, h0, h, ht, hl => by
    have hj : j < R0.length := by
      have := congrArg List.length h0
      simp at this
      omega
    have hd := List.drop_eq_getElem_cons hj
    rw [h0] at hd
    injection hd with e1 e2
    have ix : dIx (rwD R0) (.int (j : Nat)) = .ok (ptD P) := by
      rw [e1]
      exact dIx_tm (List.getElem?_eq_getElem hj)
    have p := h P List.mem_cons_self
    rw [List.length_cons] at hl
    have hpl := p.len t
    have f1 := lfits_ok ht p
    rw [List.length_cons, ups_cons, forE_cons, rft]
    cases q : flt t P 0 with
    | some k =>
      rw [q] at f1
      have f1 : C__law_fits [txD t, ptD P] = .ok (.bl false) := f1
      simp only [sSeq_x, x_sSet, x_sIf, x_sRet, x_sRetN, x_sPar, x_sUnp, resF_ok, x_sDrop, x_sNext, x_sBreak, x_sCont, x_sRaise, x_sAug, augK_ok, x_sFor, x_sWhile, sKill_x, x_wipe0, x_wipe1, x_evL0, x_evL1, x_setL0, x_setL1, x_eVar, x_eC, x_eOp, x_eUn, x_eCall, x_eMS, x_asStr, x_aNil, x_aCons, x_eTup, x_eLst, x_eIf, x_eNot, x_eAnd, x_eOr, x_bAnd, x_bOr, x_bNot, x_bYes, x_eSl, x_oNone, x_oSome, asI_int, x_iSeq, x_iCall, x_gfName, x_gfTup, eLc, noX_is, Res.bind_ok, Res.bind_exc, flow_ok, flow_exc, seqK_next, seqK_ret, seqK_exc, seqK_brk, seqK_cont, loopK_next, loopK_cont, loopK_brk, loopK_ret, loopK_exc, must_ok, List.set_cons_succ, List.set_cons_zero, List.getD_cons_succ, List.getD_cons_zero, vD_some, if_true, if_false, Bool.false_eq_true, reduceIte, List.map_cons, List.map_nil, List.length_cons, List.length_nil, List.cons_append, List.nil_append, List.replicate, Nat.reduceSub, Nat.reduceAdd, x_add, x_sub, x_cmp, x_eq_ii, x_ne_ii, x_int_i, x_len_t, x_len_l, x_tup_l, x_tup_t, x_list_l, x_list_t, x_dSl_t, x_dSl_l, x_items_t, x_items_l, x_tru_n, x_tru_b, x_tru_i, x_tru_t, x_tru_l, x_asB, x_is_n, x_isNot_n, isNon_n, isNon_i, isNon_s, isNon_t, isNon_l, isNon_b, Bool.not_true, Bool.not_false, List.length_map, fnE, startE, B__law_fault_1, ix, f1]
    | none =>
      rw [q] at f1
      have f1 : C__law_fits [txD t, ptD P] = .ok (.bl true) := f1
      have b := behind_ok (t := t) (P := P) (by omega) p ((fit_iff0 p.ch).mpr (flt_none.mp q))
      have ih := lfg_loop R0 g3 R (app t 0 P) (j + 1) e2.symm (fun Q hq => h Q (List.mem_cons_of_mem _ hq)) (p.lok ht) (by omega)
      have st : B__law_fault_1 [some (txD t), some (rwD R0), some (dN j), g3] = .next [some (txD (app t 0 P)), some (rwD R0), none, g3] := by simp only [sSeq_x, x_sSet, x_sIf, x_sRet, x_sRetN, x_sPar, x_sUnp, resF_ok, x_sDrop, x_sNext, x_sBreak, x_sCont, x_sRaise, x_sAug, augK_ok, x_sFor, x_sWhile, sKill_x, x_wipe0, x_wipe1, x_evL0, x_evL1, x_setL0, x_setL1, x_eVar, x_eC, x_eOp, x_eUn, x_eCall, x_eMS, x_asStr, x_aNil, x_aCons, x_eTup, x_eLst, x_eIf, x_eNot, x_eAnd, x_eOr, x_bAnd, x_bOr, x_bNot, x_bYes, x_eSl, x_oNone, x_oSome, asI_int, x_iSeq, x_iCall, x_gfName, x_gfTup, eLc, noX_is, Res.bind_ok, Res.bind_exc, flow_ok, flow_exc, seqK_next, seqK_ret, seqK_exc, seqK_brk, seqK_cont, loopK_next, loopK_cont, loopK_brk, loopK_ret, loopK_exc, must_ok, List.set_cons_succ, List.set_cons_zero, List.getD_cons_succ, List.getD_cons_zero, vD_some, if_true, if_false, Bool.false_eq_true, reduceIte, List.map_cons, List.map_nil, List.length_cons, List.length_nil, List.cons_append, List.nil_append, List.replicate, Nat.reduceSub, Nat.reduceAdd, x_add, x_sub, x_cmp, x_eq_ii, x_ne_ii, x_int_i, x_len_t, x_len_l, x_tup_l, x_tup_t, x_list_l, x_list_t, x_dSl_t, x_dSl_l, x_items_t, x_items_l, x_tru_n, x_tru_b, x_tru_i, x_tru_t, x_tru_l, x_asB, x_is_n, x_isNot_n, isNon_n, isNon_i, isNon_s, isNon_t, isNon_l, isNon_b, Bool.not_true, Bool.not_false, List.length_map, fnE, startE, B__law_fault_1, ix, f1, b]
      dsimp only
      cases q2 : rft (app t 0 P) R (j + 1) with
      | some k =>
        rw [q2] at ih
        simp only [sSeq_x, x_sSet, x_sIf, x_sRet, x_sRetN, x_sPar, x_sUnp, resF_ok, x_sDrop, x_sNext, x_sBreak, x_sCont, x_sRaise, x_sAug, augK_ok, x_sFor, x_sWhile, sKill_x, x_wipe0, x_wipe1, x_evL0, x_evL1, x_setL0, x_setL1, x_eVar, x_eC, x_eOp, x_eUn, x_eCall, x_eMS, x_asStr, x_aNil, x_aCons, x_eTup, x_eLst, x_eIf, x_eNot, x_eAnd, x_eOr, x_bAnd, x_bOr, x_bNot, x_bYes, x_eSl, x_oNone, x_oSome, asI_int, x_iSeq, x_iCall, x_gfName, x_gfTup, eLc, noX_is, Res.bind_ok, Res.bind_exc, flow_ok, flow_exc, seqK_next, seqK_ret, seqK_exc, seqK_brk, seqK_cont, loopK_next, loopK_cont, loopK_brk, loopK_ret, loopK_exc, must_ok, List.set_cons_succ, List.set_cons_zero, List.getD_cons_succ, List.getD_cons_zero, vD_some, if_true, if_false, Bool.false_eq_true, reduceIte, List.map_cons, List.map_nil, List.length_cons, List.length_nil, List.cons_append, List.nil_append, List.replicate, Nat.reduceSub, Nat.reduceAdd, x_add, x_sub, x_cmp, x_eq_ii, x_ne_ii, x_int_i, x_len_t, x_len_l, x_tup_l, x_tup_t, x_list_l, x_list_t, x_dSl_t, x_dSl_l, x_items_t, x_items_l, x_tru_n, x_tru_b, x_tru_i, x_tru_t, x_tru_l, x_asB, x_is_n, x_isNot_n, isNon_n, isNon_i, isNon_s, isNon_t, isNon_l, isNon_b, Bool.not_true, Bool.not_false, List.length_map, fnE, startE, st]
        exact ih
      | none =>
        rw [q2] at ih
        obtain ⟨t', ih⟩ := ih
        exact ⟨t', by
          simp only [sSeq_x, x_sSet, x_sIf, x_sRet, x_sRetN, x_sPar, x_sUnp, resF_ok, x_sDrop, x_sNext, x_sBreak, x_sCont, x_sRaise, x_sAug, augK_ok, x_sFor, x_sWhile, sKill_x, x_wipe0, x_wipe1, x_evL0, x_evL1, x_setL0, x_setL1, x_eVar, x_eC, x_eOp, x_eUn, x_eCall, x_eMS, x_asStr, x_aNil, x_aCons, x_eTup, x_eLst, x_eIf, x_eNot, x_eAnd, x_eOr, x_bAnd, x_bOr, x_bNot, x_bYes, x_eSl, x_oNone, x_oSome, asI_int, x_iSeq, x_iCall, x_gfName, x_gfTup, eLc, noX_is, Res.bind_ok, Res.bind_exc, flow_ok, flow_exc, seqK_next, seqK_ret, seqK_exc, seqK_brk, seqK_cont, loopK_next, loopK_cont, loopK_brk, loopK_ret, loopK_exc, must_ok, List.set_cons_succ, List.set_cons_zero, List.getD_cons_succ, List.getD_cons_zero, vD_some, if_true, if_false, Bool.false_eq_true, reduceIte, List.map_cons, List.map_nil, List.length_cons, List.length_nil, List.cons_append, List.nil_append, List.replicate, Nat.reduceSub, Nat.reduceAdd, x_add, x_sub, x_cmp, x_eq_ii, x_ne_ii, x_int_i, x_len_t, x_len_l, x_tup_l, x_tup_t, x_list_l, x_list_t, x_dSl_t, x_dSl_l, x_items_t, x_items_l, x_tru_n, x_tru_b, x_tru_i, x_tru_t, x_tru_l, x_asB, x_is_n, x_isNot_n, isNon_n, isNon_i, isNon_s, isNon_t, isNon_l, isNon_b, Bool.not_true, Bool.not_false, List.length_map, fnE, startE, st]
          exact ih⟩
theorem lfault_ok {R : List Patch} {t : List Nat} (h : ∀ P ∈ R, Vp P) (ht : LOk t) (hl : t.length + 10000 * R.length ≤ 90000) : C__law_fault [txD t, rwD R] = .ok (onD (rft t R 0)) := by
  have e := lfg_loop R none R t 0 rfl h ht hl
  have e0 := dRng1_nat R.length (by omega)
  rw [ups0] at e0
  have hb := lc_fun (gf := gfName 3) (f := eCall C__law_is_patch (aCons (eVar 3) aNil)) (ρ := [some (txD t), some (rwD R), none, none]) (e := ptD) (g := fun _ => .bl true) (xs := R) fun x hx => ⟨_, rfl, by simp [lis_patch_ok (h x hx)]⟩
  have t1 : ∀ (α : Type) (xs : List α), fAll [.lst (xs.map fun _ => D.bl true)] = .ok (.bl true) := fun α xs => by
    rw [x_all_f (fun _ => true) xs]
    simp
  cases q : rft t R 0 with
  | some k =>
    rw [q] at e
    simp only [sSeq_x, x_sSet, x_sIf, x_sRet, x_sRetN, x_sPar, x_sUnp, resF_ok, x_sDrop, x_sNext, x_sBreak, x_sCont, x_sRaise, x_sAug, augK_ok, x_sFor, x_sWhile, sKill_x, x_wipe0, x_wipe1, x_evL0, x_evL1, x_setL0, x_setL1, x_eVar, x_eC, x_eOp, x_eUn, x_eCall, x_eMS, x_asStr, x_aNil, x_aCons, x_eTup, x_eLst, x_eIf, x_eNot, x_eAnd, x_eOr, x_bAnd, x_bOr, x_bNot, x_bYes, x_eSl, x_oNone, x_oSome, asI_int, x_iSeq, x_iCall, x_gfName, x_gfTup, eLc, noX_is, Res.bind_ok, Res.bind_exc, flow_ok, flow_exc, seqK_next, seqK_ret, seqK_exc, seqK_brk, seqK_cont, loopK_next, loopK_cont, loopK_brk, loopK_ret, loopK_exc, must_ok, List.set_cons_succ, List.set_cons_zero, List.getD_cons_succ, List.getD_cons_zero, vD_some, if_true, if_false, Bool.false_eq_true, reduceIte, List.map_cons, List.map_nil, List.length_cons, List.length_nil, List.cons_append, List.nil_append, List.replicate, Nat.reduceSub, Nat.reduceAdd, x_add, x_sub, x_cmp, x_eq_ii, x_ne_ii, x_int_i, x_len_t, x_len_l, x_tup_l, x_tup_t, x_list_l, x_list_t, x_dSl_t, x_dSl_l, x_items_t, x_items_l, x_tru_n, x_tru_b, x_tru_i, x_tru_t, x_tru_l, x_asB, x_is_n, x_isNot_n, isNon_n, isNon_i, isNon_s, isNon_t, isNon_l, isNon_b, Bool.not_true, Bool.not_false, List.length_map, fnE, startE, C__law_fault, F__law_fault, isi_t, k_tt, hb, t1, e0, e, onD]
  | none =>
    rw [q] at e
    obtain ⟨t', e⟩ := e
    simp only [sSeq_x, x_sSet, x_sIf, x_sRet, x_sRetN, x_sPar, x_sUnp, resF_ok, x_sDrop, x_sNext, x_sBreak, x_sCont, x_sRaise, x_sAug, augK_ok, x_sFor, x_sWhile, sKill_x, x_wipe0, x_wipe1, x_evL0, x_evL1, x_setL0, x_setL1, x_eVar, x_eC, x_eOp, x_eUn, x_eCall, x_eMS, x_asStr, x_aNil, x_aCons, x_eTup, x_eLst, x_eIf, x_eNot, x_eAnd, x_eOr, x_bAnd, x_bOr, x_bNot, x_bYes, x_eSl, x_oNone, x_oSome, asI_int, x_iSeq, x_iCall, x_gfName, x_gfTup, eLc, noX_is, Res.bind_ok, Res.bind_exc, flow_ok, flow_exc, seqK_next, seqK_ret, seqK_exc, seqK_brk, seqK_cont, loopK_next, loopK_cont, loopK_brk, loopK_ret, loopK_exc, must_ok, List.set_cons_succ, List.set_cons_zero, List.getD_cons_succ, List.getD_cons_zero, vD_some, if_true, if_false, Bool.false_eq_true, reduceIte, List.map_cons, List.map_nil, List.length_cons, List.length_nil, List.cons_append, List.nil_append, List.replicate, Nat.reduceSub, Nat.reduceAdd, x_add, x_sub, x_cmp, x_eq_ii, x_ne_ii, x_int_i, x_len_t, x_len_l, x_tup_l, x_tup_t, x_list_l, x_list_t, x_dSl_t, x_dSl_l, x_items_t, x_items_l, x_tru_n, x_tru_b, x_tru_i, x_tru_t, x_tru_l, x_asB, x_is_n, x_isNot_n, isNon_n, isNon_i, isNon_s, isNon_t, isNon_l, isNon_b, Bool.not_true, Bool.not_false, List.length_map, fnE, startE, C__law_fault, F__law_fault, isi_t, k_tt, hb, t1, e0, e, onD]
/-! what is no row -/
abbrev bhk : D := .tup [.tup [.int 0, .tup [], .tup []]]
structure NoRow (d : D) : Prop where
  is : C_is_row [d] = .ok (.bl false)
  law : ∀ t : List Nat, C__law_fault [txD t, d] = .ok (.int (-1))
theorem neg1 : dNeg (.int 1) = .ok (.int (-1)) := rfl
theorem norow_l (xs : List D) : NoRow (.lst xs) := ⟨by simp only [sSeq_x, x_sSet, x_sIf, x_sRet, x_sRetN, x_sPar, x_sUnp, resF_ok, x_sDrop, x_sNext, x_sBreak, x_sCont, x_sRaise, x_sAug, augK_ok, x_sFor, x_sWhile, sKill_x, x_wipe0, x_wipe1, x_evL0, x_evL1, x_setL0, x_setL1, x_eVar, x_eC, x_eOp, x_eUn, x_eCall, x_eMS, x_asStr, x_aNil, x_aCons, x_eTup, x_eLst, x_eIf, x_eNot, x_eAnd, x_eOr, x_bAnd, x_bOr, x_bNot, x_bYes, x_eSl, x_oNone, x_oSome, asI_int, x_iSeq, x_iCall, x_gfName, x_gfTup, eLc, noX_is, Res.bind_ok, Res.bind_exc, flow_ok, flow_exc, seqK_next, seqK_ret, seqK_exc, seqK_brk, seqK_cont, loopK_next, loopK_cont, loopK_brk, loopK_ret, loopK_exc, must_ok, List.set_cons_succ, List.set_cons_zero, List.getD_cons_succ, List.getD_cons_zero, vD_some, if_true, if_false, Bool.false_eq_true, reduceIte, List.map_cons, List.map_nil, List.length_cons, List.length_nil, List.cons_append, List.nil_append, List.replicate, Nat.reduceSub, Nat.reduceAdd, x_add, x_sub, x_cmp, x_eq_ii, x_ne_ii, x_int_i, x_len_t, x_len_l, x_tup_l, x_tup_t, x_list_l, x_list_t, x_dSl_t, x_dSl_l, x_items_t, x_items_l, x_tru_n, x_tru_b, x_tru_i, x_tru_t, x_tru_l, x_asB, x_is_n, x_isNot_n, isNon_n, isNon_i, isNon_s, isNon_t, isNon_l, isNon_b, Bool.not_true, Bool.not_false, List.length_map, fnE, startE, C_is_row, F_is_row, isi_l, k_tl], fun t => by simp only [sSeq_x, x_sSet, x_sIf, x_sRet, x_sRetN, x_sPar, x_sUnp, resF_ok, x_sDrop, x_sNext, x_sBreak, x_sCont, x_sRaise, x_sAug, augK_ok, x_sFor, x_sWhile, sKill_x, x_wipe0, x_wipe1, x_evL0, x_evL1, x_setL0, x_setL1, x_eVar, x_eC, x_eOp, x_eUn, x_eCall, x_eMS, x_asStr, x_aNil, x_aCons, x_eTup, x_eLst, x_eIf, x_eNot, x_eAnd, x_eOr, x_bAnd, x_bOr, x_bNot, x_bYes, x_eSl, x_oNone, x_oSome, asI_int, x_iSeq, x_iCall, x_gfName, x_gfTup, eLc, noX_is, Res.bind_ok, Res.bind_exc, flow_ok, flow_exc, seqK_next, seqK_ret, seqK_exc, seqK_brk, seqK_cont, loopK_next, loopK_cont, loopK_brk, loopK_ret, loopK_exc, must_ok, List.set_cons_succ, List.set_cons_zero, List.getD_cons_succ, List.getD_cons_zero, vD_some, if_true, if_false, Bool.false_eq_true, reduceIte, List.map_cons, List.map_nil, List.length_cons, List.length_nil, List.cons_append, List.nil_append, List.replicate, Nat.reduceSub, Nat.reduceAdd, x_add, x_sub, x_cmp, x_eq_ii, x_ne_ii, x_int_i, x_len_t, x_len_l, x_tup_l, x_tup_t, x_list_l, x_list_t, x_dSl_t, x_dSl_l, x_items_t, x_items_l, x_tru_n, x_tru_b, x_tru_i, x_tru_t, x_tru_l, x_asB, x_is_n, x_isNot_n, isNon_n, isNon_i, isNon_s, isNon_t, isNon_l, isNon_b, Bool.not_true, Bool.not_false, List.length_map, fnE, startE, C__law_fault, F__law_fault, isi_l, k_tl, neg1]⟩
theorem norow_n : NoRow .non := ⟨by kernel_rfl, fun t => by simp only [sSeq_x, x_sSet, x_sIf, x_sRet, x_sRetN, x_sPar, x_sUnp, resF_ok, x_sDrop, x_sNext, x_sBreak, x_sCont, x_sRaise, x_sAug, augK_ok, x_sFor, x_sWhile, sKill_x, x_wipe0, x_wipe1, x_evL0, x_evL1, x_setL0, x_setL1, x_eVar, x_eC, x_eOp, x_eUn, x_eCall, x_eMS, x_asStr, x_aNil, x_aCons, x_eTup, x_eLst, x_eIf, x_eNot, x_eAnd, x_eOr, x_bAnd, x_bOr, x_bNot, x_bYes, x_eSl, x_oNone, x_oSome, asI_int, x_iSeq, x_iCall, x_gfName, x_gfTup, eLc, noX_is, Res.bind_ok, Res.bind_exc, flow_ok, flow_exc, seqK_next, seqK_ret, seqK_exc, seqK_brk, seqK_cont, loopK_next, loopK_cont, loopK_brk, loopK_ret, loopK_exc, must_ok, List.set_cons_succ, List.set_cons_zero, List.getD_cons_succ, List.getD_cons_zero, vD_some, if_true, if_false, Bool.false_eq_true, reduceIte, List.map_cons, List.map_nil, List.length_cons, List.length_nil, List.cons_append, List.nil_append, List.replicate, Nat.reduceSub, Nat.reduceAdd, x_add, x_sub, x_cmp, x_eq_ii, x_ne_ii, x_int_i, x_len_t, x_len_l, x_tup_l, x_tup_t, x_list_l, x_list_t, x_dSl_t, x_dSl_l, x_items_t, x_items_l, x_tru_n, x_tru_b, x_tru_i, x_tru_t, x_tru_l, x_asB, x_is_n, x_isNot_n, isNon_n, isNon_i, isNon_s, isNon_t, isNon_l, isNon_b, Bool.not_true, Bool.not_false, List.length_map, fnE, startE, C__law_fault, F__law_fault, isi_n, k_tn, neg1]⟩
theorem norow_app {R : List Patch} (rv : ∀ P ∈ R, Vp P) (d : D) (h1 : C_is_patch [d] = .ok (.bl false)) (h2 : C__law_is_patch [d] = .ok (.bl false)) : NoRow (.tup (R.map ptD ++ [d])) := by
  have em : (R.map some ++ [none]).map (fun o : Option Patch => match o with | some P => ptD P | none => d) = R.map ptD ++ [d] := by
    rw [List.map_append, List.map_map]
    rfl
  have ea := x_all_f (fun o : Option Patch => o.isSome) (R.map some ++ [none])
  have ez : (R.map some ++ [none]).all (fun o : Option Patch => o.isSome) = false := by simp
  rw [ez] at ea
  refine ⟨?_, fun t => ?_⟩
  · have hb := lc_fun (gf := gfName 1) (f := eCall C_is_patch (aCons (eVar 1) aNil)) (ρ := [some (.tup (R.map ptD ++ [d])), none]) (e := fun o : Option Patch => match o with | some P => ptD P | none => d) (g := fun o => .bl o.isSome) (xs := R.map some ++ [none]) fun x hx => ⟨_, rfl, by
      rcases List.mem_append.mp hx with hx | hx
      · obtain ⟨P, hP, rfl⟩ := List.mem_map.mp hx
        simp [ispatch_ok (rv P hP)]
      · rw [List.mem_singleton.mp hx]
        simp [h1]⟩
    rw [em] at hb
    simp only [sSeq_x, x_sSet, x_sIf, x_sRet, x_sRetN, x_sPar, x_sUnp, resF_ok, x_sDrop, x_sNext, x_sBreak, x_sCont, x_sRaise, x_sAug, augK_ok, x_sFor, x_sWhile, sKill_x, x_wipe0, x_wipe1, x_evL0, x_evL1, x_setL0, x_setL1, x_eVar, x_eC, x_eOp, x_eUn, x_eCall, x_eMS, x_asStr, x_aNil, x_aCons, x_eTup, x_eLst, x_eIf, x_eNot, x_eAnd, x_eOr, x_bAnd, x_bOr, x_bNot, x_bYes, x_eSl, x_oNone, x_oSome, asI_int, x_iSeq, x_iCall, x_gfName, x_gfTup, eLc, noX_is, Res.bind_ok, Res.bind_exc, flow_ok, flow_exc, seqK_next, seqK_ret, seqK_exc, seqK_brk, seqK_cont, loopK_next, loopK_cont, loopK_brk, loopK_ret, loopK_exc, must_ok, List.set_cons_succ, List.set_cons_zero, List.getD_cons_succ, List.getD_cons_zero, vD_some, if_true, if_false, Bool.false_eq_true, reduceIte, List.map_cons, List.map_nil, List.length_cons, List.length_nil, List.cons_append, List.nil_append, List.replicate, Nat.reduceSub, Nat.reduceAdd, x_add, x_sub, x_cmp, x_eq_ii, x_ne_ii, x_int_i, x_len_t, x_len_l, x_tup_l, x_tup_t, x_list_l, x_list_t, x_dSl_t, x_dSl_l, x_items_t, x_items_l, x_tru_n, x_tru_b, x_tru_i, x_tru_t, x_tru_l, x_asB, x_is_n, x_isNot_n, isNon_n, isNon_i, isNon_s, isNon_t, isNon_l, isNon_b, Bool.not_true, Bool.not_false, List.length_map, fnE, startE, C_is_row, F_is_row, isi_t, k_tt, hb, ea]
  · have hb := lc_fun (gf := gfName 3) (f := eCall C__law_is_patch (aCons (eVar 3) aNil)) (ρ := [some (txD t), some (.tup (R.map ptD ++ [d])), none, none]) (e := fun o : Option Patch => match o with | some P => ptD P | none => d) (g := fun o => .bl o.isSome) (xs := R.map some ++ [none]) fun x hx => ⟨_, rfl, by
      rcases List.mem_append.mp hx with hx | hx
      · obtain ⟨P, hP, rfl⟩ := List.mem_map.mp hx
        simp [lis_patch_ok (rv P hP)]
      · rw [List.mem_singleton.mp hx]
        simp [h2]⟩
    rw [em] at hb
    simp only [sSeq_x, x_sSet, x_sIf, x_sRet, x_sRetN, x_sPar, x_sUnp, resF_ok, x_sDrop, x_sNext, x_sBreak, x_sCont, x_sRaise, x_sAug, augK_ok, x_sFor, x_sWhile, sKill_x, x_wipe0, x_wipe1, x_evL0, x_evL1, x_setL0, x_setL1, x_eVar, x_eC, x_eOp, x_eUn, x_eCall, x_eMS, x_asStr, x_aNil, x_aCons, x_eTup, x_eLst, x_eIf, x_eNot, x_eAnd, x_eOr, x_bAnd, x_bOr, x_bNot, x_bYes, x_eSl, x_oNone, x_oSome, asI_int, x_iSeq, x_iCall, x_gfName, x_gfTup, eLc, noX_is, Res.bind_ok, Res.bind_exc, flow_ok, flow_exc, seqK_next, seqK_ret, seqK_exc, seqK_brk, seqK_cont, loopK_next, loopK_cont, loopK_brk, loopK_ret, loopK_exc, must_ok, List.set_cons_succ, List.set_cons_zero, List.getD_cons_succ, List.getD_cons_zero, vD_some, if_true, if_false, Bool.false_eq_true, reduceIte, List.map_cons, List.map_nil, List.length_cons, List.length_nil, List.cons_append, List.nil_append, List.replicate, Nat.reduceSub, Nat.reduceAdd, x_add, x_sub, x_cmp, x_eq_ii, x_ne_ii, x_int_i, x_len_t, x_len_l, x_tup_l, x_tup_t, x_list_l, x_list_t, x_dSl_t, x_dSl_l, x_items_t, x_items_l, x_tru_n, x_tru_b, x_tru_i, x_tru_t, x_tru_l, x_asB, x_is_n, x_isNot_n, isNon_n, isNon_i, isNon_s, isNon_t, isNon_l, isNon_b, Bool.not_true, Bool.not_false, List.length_map, fnE, startE, C__law_fault, F__law_fault, isi_t, k_tt, hb, ea, neg1]
theorem NoRow.ch {d : D} (h : NoRow d) : C_check_row [d] = .exc "BadPatch" := by
  simp only [sSeq_x, x_sSet, x_sIf, x_sRet, x_sRetN, x_sPar, x_sUnp, resF_ok, x_sDrop, x_sNext, x_sBreak, x_sCont, x_sRaise, x_sAug, augK_ok, x_sFor, x_sWhile, sKill_x, x_wipe0, x_wipe1, x_evL0, x_evL1, x_setL0, x_setL1, x_eVar, x_eC, x_eOp, x_eUn, x_eCall, x_eMS, x_asStr, x_aNil, x_aCons, x_eTup, x_eLst, x_eIf, x_eNot, x_eAnd, x_eOr, x_bAnd, x_bOr, x_bNot, x_bYes, x_eSl, x_oNone, x_oSome, asI_int, x_iSeq, x_iCall, x_gfName, x_gfTup, eLc, noX_is, Res.bind_ok, Res.bind_exc, flow_ok, flow_exc, seqK_next, seqK_ret, seqK_exc, seqK_brk, seqK_cont, loopK_next, loopK_cont, loopK_brk, loopK_ret, loopK_exc, must_ok, List.set_cons_succ, List.set_cons_zero, List.getD_cons_succ, List.getD_cons_zero, vD_some, if_true, if_false, Bool.false_eq_true, reduceIte, List.map_cons, List.map_nil, List.length_cons, List.length_nil, List.cons_append, List.nil_append, List.replicate, Nat.reduceSub, Nat.reduceAdd, x_add, x_sub, x_cmp, x_eq_ii, x_ne_ii, x_int_i, x_len_t, x_len_l, x_tup_l, x_tup_t, x_list_l, x_list_t, x_dSl_t, x_dSl_l, x_items_t, x_items_l, x_tru_n, x_tru_b, x_tru_i, x_tru_t, x_tru_l, x_asB, x_is_n, x_isNot_n, isNon_n, isNon_i, isNon_s, isNon_t, isNon_l, isNon_b, Bool.not_true, Bool.not_false, List.length_map, fnE, startE, C_check_row, F_check_row, h.is]
theorem NoRow.rf {d : D} (h : NoRow d) {t : List Nat} (ht : LOk t) : C_row_fault [txD t, d] = .ok (.int (-1)) := by
  simp only [sSeq_x, x_sSet, x_sIf, x_sRet, x_sRetN, x_sPar, x_sUnp, resF_ok, x_sDrop, x_sNext, x_sBreak, x_sCont, x_sRaise, x_sAug, augK_ok, x_sFor, x_sWhile, sKill_x, x_wipe0, x_wipe1, x_evL0, x_evL1, x_setL0, x_setL1, x_eVar, x_eC, x_eOp, x_eUn, x_eCall, x_eMS, x_asStr, x_aNil, x_aCons, x_eTup, x_eLst, x_eIf, x_eNot, x_eAnd, x_eOr, x_bAnd, x_bOr, x_bNot, x_bYes, x_eSl, x_oNone, x_oSome, asI_int, x_iSeq, x_iCall, x_gfName, x_gfTup, eLc, noX_is, Res.bind_ok, Res.bind_exc, flow_ok, flow_exc, seqK_next, seqK_ret, seqK_exc, seqK_brk, seqK_cont, loopK_next, loopK_cont, loopK_brk, loopK_ret, loopK_exc, must_ok, List.set_cons_succ, List.set_cons_zero, List.getD_cons_succ, List.getD_cons_zero, vD_some, if_true, if_false, Bool.false_eq_true, reduceIte, List.map_cons, List.map_nil, List.length_cons, List.length_nil, List.cons_append, List.nil_append, List.replicate, Nat.reduceSub, Nat.reduceAdd, x_add, x_sub, x_cmp, x_eq_ii, x_ne_ii, x_int_i, x_len_t, x_len_l, x_tup_l, x_tup_t, x_list_l, x_list_t, x_dSl_t, x_dSl_l, x_items_t, x_items_l, x_tru_n, x_tru_b, x_tru_i, x_tru_t, x_tru_l, x_asB, x_is_n, x_isNot_n, isNon_n, isNon_i, isNon_s, isNon_t, isNon_l, isNon_b, Bool.not_true, Bool.not_false, List.length_map, fnE, startE, C_row_fault, F_row_fault, chtx_ok ht, h.is, neg1]
theorem em4 : (("BadPatch" : Str) ∈ (["BadPatch", "BadPlace", "BadText", "NoFit"] : List Str)) ∧ (("BadPlace" : Str) ∈ (["BadPatch", "BadPlace", "BadText", "NoFit"] : List Str)) ∧ (("BadText" : Str) ∈ (["BadPatch", "BadPlace", "BadText", "NoFit"] : List Str)) ∧ (("NoFit" : Str) ∈ (["BadPatch", "BadPlace", "BadText", "NoFit"] : List Str)) := ⟨by decide +kernel, by decide +kernel, by decide +kernel, by decide +kernel⟩
theorem em1 : ¬ (("BadPatch" : Str) ∈ (["BadText"] : List Str)) ∧ ¬ (("BadPlace" : Str) ∈ (["BadText"] : List Str)) ∧ ¬ (("NoFit" : Str) ∈ (["BadText"] : List Str)) ∧ ¬ (("BadPlace" : Str) ∈ (["BadPatch"] : List Str)) ∧ ¬ (("NoFit" : Str) ∈ (["BadPatch"] : List Str)) ∧ ¬ (("NoFit" : Str) ∈ (["BadPlace"] : List Str)) := ⟨by decide +kernel, by decide +kernel, by decide +kernel, by decide +kernel, by decide +kernel, by decide +kernel⟩
theorem em0 : (("BadPatch" : Str) ∈ (["BadPatch"] : List Str)) ∧ (("BadPlace" : Str) ∈ (["BadPlace"] : List Str)) ∧ (("BadText" : Str) ∈ (["BadText"] : List Str)) ∧ (("NoFit" : Str) ∈ (["NoFit"] : List Str)) := ⟨by decide +kernel, by decide +kernel, by decide +kernel, by decide +kernel⟩
theorem ieq (i j : Nat) (h : i ≠ j) : ((i : Int) == (j : Int)) = false := beq_eq_false_iff_ne.mpr (by omega)
theorem z01 : ((0 : Int) == 0) = true ∧ ((1 : Int) == 0) = false ∧ ((1 : Int) == 1) = true ∧ ((2 : Int) == 0) = false ∧ ((2 : Int) == 1) = false ∧ ((2 : Int) == 2) = true ∧ ((3 : Int) == 0) = false ∧ ((3 : Int) == 1) = false ∧ ((3 : Int) == 2) = false ∧ ((3 : Int) == 3) = true ∧ ((4 : Int) == 0) = false ∧ ((4 : Int) == 1) = false ∧ ((4 : Int) == 2) = false ∧ ((4 : Int) == 3) = false ∧ ((4 : Int) == 4) = true ∧ ((5 : Int) == 0) = false ∧ ((5 : Int) == 1) = false ∧ ((5 : Int) == 2) = false ∧ ((5 : Int) == 3) = false ∧ ((5 : Int) == 4) = false := ⟨rfl, rfl, rfl, rfl, rfl, rfl, rfl, rfl, rfl, rfl, rfl, rfl, rfl, rfl, rfl, rfl, rfl, rfl, rfl, rfl⟩
theorem err1_no {d : D} (h : NoRow d) (t : List Nat) : C__law_error [.int 1, txD t, d] = .ok (.str "patch") := by
  have e : C_row_behind [txD t, d] = .exc "BadPatch" := by simp only [sSeq_x, x_sSet, x_sIf, x_sRet, x_sRetN, x_sPar, x_sUnp, resF_ok, x_sDrop, x_sNext, x_sBreak, x_sCont, x_sRaise, x_sAug, augK_ok, x_sFor, x_sWhile, sKill_x, x_wipe0, x_wipe1, x_evL0, x_evL1, x_setL0, x_setL1, x_eVar, x_eC, x_eOp, x_eUn, x_eCall, x_eMS, x_asStr, x_aNil, x_aCons, x_eTup, x_eLst, x_eIf, x_eNot, x_eAnd, x_eOr, x_bAnd, x_bOr, x_bNot, x_bYes, x_eSl, x_oNone, x_oSome, asI_int, x_iSeq, x_iCall, x_gfName, x_gfTup, eLc, noX_is, Res.bind_ok, Res.bind_exc, flow_ok, flow_exc, seqK_next, seqK_ret, seqK_exc, seqK_brk, seqK_cont, loopK_next, loopK_cont, loopK_brk, loopK_ret, loopK_exc, must_ok, List.set_cons_succ, List.set_cons_zero, List.getD_cons_succ, List.getD_cons_zero, vD_some, if_true, if_false, Bool.false_eq_true, reduceIte, List.map_cons, List.map_nil, List.length_cons, List.length_nil, List.cons_append, List.nil_append, List.replicate, Nat.reduceSub, Nat.reduceAdd, x_add, x_sub, x_cmp, x_eq_ii, x_ne_ii, x_int_i, x_len_t, x_len_l, x_tup_l, x_tup_t, x_list_l, x_list_t, x_dSl_t, x_dSl_l, x_items_t, x_items_l, x_tru_n, x_tru_b, x_tru_i, x_tru_t, x_tru_l, x_asB, x_is_n, x_isNot_n, isNon_n, isNon_i, isNon_s, isNon_t, isNon_l, isNon_b, Bool.not_true, Bool.not_false, List.length_map, fnE, startE, C_row_behind, F_row_behind, h.ch]
  simp only [sSeq_x, x_sSet, x_sIf, x_sRet, x_sRetN, x_sPar, x_sUnp, resF_ok, x_sDrop, x_sNext, x_sBreak, x_sCont, x_sRaise, x_sAug, augK_ok, x_sFor, x_sWhile, sKill_x, x_wipe0, x_wipe1, x_evL0, x_evL1, x_setL0, x_setL1, x_eVar, x_eC, x_eOp, x_eUn, x_eCall, x_eMS, x_asStr, x_aNil, x_aCons, x_eTup, x_eLst, x_eIf, x_eNot, x_eAnd, x_eOr, x_bAnd, x_bOr, x_bNot, x_bYes, x_eSl, x_oNone, x_oSome, asI_int, x_iSeq, x_iCall, x_gfName, x_gfTup, eLc, noX_is, Res.bind_ok, Res.bind_exc, flow_ok, flow_exc, seqK_next, seqK_ret, seqK_exc, seqK_brk, seqK_cont, loopK_next, loopK_cont, loopK_brk, loopK_ret, loopK_exc, must_ok, List.set_cons_succ, List.set_cons_zero, List.getD_cons_succ, List.getD_cons_zero, vD_some, if_true, if_false, Bool.false_eq_true, reduceIte, List.map_cons, List.map_nil, List.length_cons, List.length_nil, List.cons_append, List.nil_append, List.replicate, Nat.reduceSub, Nat.reduceAdd, x_add, x_sub, x_cmp, x_eq_ii, x_ne_ii, x_int_i, x_len_t, x_len_l, x_tup_l, x_tup_t, x_list_l, x_list_t, x_dSl_t, x_dSl_l, x_items_t, x_items_l, x_tru_n, x_tru_b, x_tru_i, x_tru_t, x_tru_l, x_asB, x_is_n, x_isNot_n, isNon_n, isNon_i, isNon_s, isNon_t, isNon_l, isNon_b, Bool.not_true, Bool.not_false, List.length_map, fnE, startE, C__law_error, F__law_error, sTry, z01, e, if_pos em4.1, pick, if_neg em1.1, if_pos em0.1, sNx]
theorem err1_row {R : List Patch} {t : List Nat} (h : ∀ P ∈ R, Vp P) (ht : LOk t) (hl : t.length + 10000 * R.length ≤ 90000) : C__law_error [.int 1, txD t, rwD R] = .ok (.str (if rft t R 0 = none then "none" else "fit")) := by
  have rf := rowfault_g h ht hl
  cases q : rft t R 0 with
  | some k =>
    rw [q] at rf
    have e : C_row_behind [txD t, rwD R] = .exc "NoFit" := by simp only [sSeq_x, x_sSet, x_sIf, x_sRet, x_sRetN, x_sPar, x_sUnp, resF_ok, x_sDrop, x_sNext, x_sBreak, x_sCont, x_sRaise, x_sAug, augK_ok, x_sFor, x_sWhile, sKill_x, x_wipe0, x_wipe1, x_evL0, x_evL1, x_setL0, x_setL1, x_eVar, x_eC, x_eOp, x_eUn, x_eCall, x_eMS, x_asStr, x_aNil, x_aCons, x_eTup, x_eLst, x_eIf, x_eNot, x_eAnd, x_eOr, x_bAnd, x_bOr, x_bNot, x_bYes, x_eSl, x_oNone, x_oSome, asI_int, x_iSeq, x_iCall, x_gfName, x_gfTup, eLc, noX_is, Res.bind_ok, Res.bind_exc, flow_ok, flow_exc, seqK_next, seqK_ret, seqK_exc, seqK_brk, seqK_cont, loopK_next, loopK_cont, loopK_brk, loopK_ret, loopK_exc, must_ok, List.set_cons_succ, List.set_cons_zero, List.getD_cons_succ, List.getD_cons_zero, vD_some, if_true, if_false, Bool.false_eq_true, reduceIte, List.map_cons, List.map_nil, List.length_cons, List.length_nil, List.cons_append, List.nil_append, List.replicate, Nat.reduceSub, Nat.reduceAdd, x_add, x_sub, x_cmp, x_eq_ii, x_ne_ii, x_int_i, x_len_t, x_len_l, x_tup_l, x_tup_t, x_list_l, x_list_t, x_dSl_t, x_dSl_l, x_items_t, x_items_l, x_tru_n, x_tru_b, x_tru_i, x_tru_t, x_tru_l, x_asB, x_is_n, x_isNot_n, isNon_n, isNon_i, isNon_s, isNon_t, isNon_l, isNon_b, Bool.not_true, Bool.not_false, List.length_map, fnE, startE, C_row_behind, F_row_behind, chrow_ok h, rf, onD]
    rw [if_neg (fun z => nomatch z)]
    simp only [sSeq_x, x_sSet, x_sIf, x_sRet, x_sRetN, x_sPar, x_sUnp, resF_ok, x_sDrop, x_sNext, x_sBreak, x_sCont, x_sRaise, x_sAug, augK_ok, x_sFor, x_sWhile, sKill_x, x_wipe0, x_wipe1, x_evL0, x_evL1, x_setL0, x_setL1, x_eVar, x_eC, x_eOp, x_eUn, x_eCall, x_eMS, x_asStr, x_aNil, x_aCons, x_eTup, x_eLst, x_eIf, x_eNot, x_eAnd, x_eOr, x_bAnd, x_bOr, x_bNot, x_bYes, x_eSl, x_oNone, x_oSome, asI_int, x_iSeq, x_iCall, x_gfName, x_gfTup, eLc, noX_is, Res.bind_ok, Res.bind_exc, flow_ok, flow_exc, seqK_next, seqK_ret, seqK_exc, seqK_brk, seqK_cont, loopK_next, loopK_cont, loopK_brk, loopK_ret, loopK_exc, must_ok, List.set_cons_succ, List.set_cons_zero, List.getD_cons_succ, List.getD_cons_zero, vD_some, if_true, if_false, Bool.false_eq_true, reduceIte, List.map_cons, List.map_nil, List.length_cons, List.length_nil, List.cons_append, List.nil_append, List.replicate, Nat.reduceSub, Nat.reduceAdd, x_add, x_sub, x_cmp, x_eq_ii, x_ne_ii, x_int_i, x_len_t, x_len_l, x_tup_l, x_tup_t, x_list_l, x_list_t, x_dSl_t, x_dSl_l, x_items_t, x_items_l, x_tru_n, x_tru_b, x_tru_i, x_tru_t, x_tru_l, x_asB, x_is_n, x_isNot_n, isNon_n, isNon_i, isNon_s, isNon_t, isNon_l, isNon_b, Bool.not_true, Bool.not_false, List.length_map, fnE, startE, C__law_error, F__law_error, sTry, z01, e, if_pos em4.2.2.2, pick, if_neg em1.2.2.1, if_neg em1.2.2.2.2.1, if_neg em1.2.2.2.2.2, if_pos em0.2.2.2, sNx]
  | none =>
    rw [q] at rf
    have b := rbh_loop (some (rwD R)) R t h hl
    have e : C_row_behind [txD t, rwD R] = .ok (txD (rb t R)) := by simp only [sSeq_x, x_sSet, x_sIf, x_sRet, x_sRetN, x_sPar, x_sUnp, resF_ok, x_sDrop, x_sNext, x_sBreak, x_sCont, x_sRaise, x_sAug, augK_ok, x_sFor, x_sWhile, sKill_x, x_wipe0, x_wipe1, x_evL0, x_evL1, x_setL0, x_setL1, x_eVar, x_eC, x_eOp, x_eUn, x_eCall, x_eMS, x_asStr, x_aNil, x_aCons, x_eTup, x_eLst, x_eIf, x_eNot, x_eAnd, x_eOr, x_bAnd, x_bOr, x_bNot, x_bYes, x_eSl, x_oNone, x_oSome, asI_int, x_iSeq, x_iCall, x_gfName, x_gfTup, eLc, noX_is, Res.bind_ok, Res.bind_exc, flow_ok, flow_exc, seqK_next, seqK_ret, seqK_exc, seqK_brk, seqK_cont, loopK_next, loopK_cont, loopK_brk, loopK_ret, loopK_exc, must_ok, List.set_cons_succ, List.set_cons_zero, List.getD_cons_succ, List.getD_cons_zero, vD_some, if_true, if_false, Bool.false_eq_true, reduceIte, List.map_cons, List.map_nil, List.length_cons, List.length_nil, List.cons_append, List.nil_append, List.replicate, Nat.reduceSub, Nat.reduceAdd, x_add, x_sub, x_cmp, x_eq_ii, x_ne_ii, x_int_i, x_len_t, x_len_l, x_tup_l, x_tup_t, x_list_l, x_list_t, x_dSl_t, x_dSl_l, x_items_t, x_items_l, x_tru_n, x_tru_b, x_tru_i, x_tru_t, x_tru_l, x_asB, x_is_n, x_isNot_n, isNon_n, isNon_i, isNon_s, isNon_t, isNon_l, isNon_b, Bool.not_true, Bool.not_false, List.length_map, fnE, startE, C_row_behind, F_row_behind, chrow_ok h, rf, onD, b]
    rw [if_pos rfl]
    simp only [sSeq_x, x_sSet, x_sIf, x_sRet, x_sRetN, x_sPar, x_sUnp, resF_ok, x_sDrop, x_sNext, x_sBreak, x_sCont, x_sRaise, x_sAug, augK_ok, x_sFor, x_sWhile, sKill_x, x_wipe0, x_wipe1, x_evL0, x_evL1, x_setL0, x_setL1, x_eVar, x_eC, x_eOp, x_eUn, x_eCall, x_eMS, x_asStr, x_aNil, x_aCons, x_eTup, x_eLst, x_eIf, x_eNot, x_eAnd, x_eOr, x_bAnd, x_bOr, x_bNot, x_bYes, x_eSl, x_oNone, x_oSome, asI_int, x_iSeq, x_iCall, x_gfName, x_gfTup, eLc, noX_is, Res.bind_ok, Res.bind_exc, flow_ok, flow_exc, seqK_next, seqK_ret, seqK_exc, seqK_brk, seqK_cont, loopK_next, loopK_cont, loopK_brk, loopK_ret, loopK_exc, must_ok, List.set_cons_succ, List.set_cons_zero, List.getD_cons_succ, List.getD_cons_zero, vD_some, if_true, if_false, Bool.false_eq_true, reduceIte, List.map_cons, List.map_nil, List.length_cons, List.length_nil, List.cons_append, List.nil_append, List.replicate, Nat.reduceSub, Nat.reduceAdd, x_add, x_sub, x_cmp, x_eq_ii, x_ne_ii, x_int_i, x_len_t, x_len_l, x_tup_l, x_tup_t, x_list_l, x_list_t, x_dSl_t, x_dSl_l, x_items_t, x_items_l, x_tru_n, x_tru_b, x_tru_i, x_tru_t, x_tru_l, x_asB, x_is_n, x_isNot_n, isNon_n, isNon_i, isNon_s, isNon_t, isNon_l, isNon_b, Bool.not_true, Bool.not_false, List.length_map, fnE, startE, C__law_error, F__law_error, sTry, z01, e]
theorem errk_no {d w : D} (h : NoRow d) : C__law_error [.int 2, d, w] = .ok (.str "patch") ∧ C__law_error [.int 3, d, w] = .ok (.str "patch") ∧ C__law_error [.int 4, d, w] = .ok (.str "patch") ∧ C__law_error [.int 5, d, w] = .ok (.str "patch") := by
  have e2 : C_exchanged [d, w] = .exc "BadPatch" := by simp only [sSeq_x, x_sSet, x_sIf, x_sRet, x_sRetN, x_sPar, x_sUnp, resF_ok, x_sDrop, x_sNext, x_sBreak, x_sCont, x_sRaise, x_sAug, augK_ok, x_sFor, x_sWhile, sKill_x, x_wipe0, x_wipe1, x_evL0, x_evL1, x_setL0, x_setL1, x_eVar, x_eC, x_eOp, x_eUn, x_eCall, x_eMS, x_asStr, x_aNil, x_aCons, x_eTup, x_eLst, x_eIf, x_eNot, x_eAnd, x_eOr, x_bAnd, x_bOr, x_bNot, x_bYes, x_eSl, x_oNone, x_oSome, asI_int, x_iSeq, x_iCall, x_gfName, x_gfTup, eLc, noX_is, Res.bind_ok, Res.bind_exc, flow_ok, flow_exc, seqK_next, seqK_ret, seqK_exc, seqK_brk, seqK_cont, loopK_next, loopK_cont, loopK_brk, loopK_ret, loopK_exc, must_ok, List.set_cons_succ, List.set_cons_zero, List.getD_cons_succ, List.getD_cons_zero, vD_some, if_true, if_false, Bool.false_eq_true, reduceIte, List.map_cons, List.map_nil, List.length_cons, List.length_nil, List.cons_append, List.nil_append, List.replicate, Nat.reduceSub, Nat.reduceAdd, x_add, x_sub, x_cmp, x_eq_ii, x_ne_ii, x_int_i, x_len_t, x_len_l, x_tup_l, x_tup_t, x_list_l, x_list_t, x_dSl_t, x_dSl_l, x_items_t, x_items_l, x_tru_n, x_tru_b, x_tru_i, x_tru_t, x_tru_l, x_asB, x_is_n, x_isNot_n, isNon_n, isNon_i, isNon_s, isNon_t, isNon_l, isNon_b, Bool.not_true, Bool.not_false, List.length_map, fnE, startE, C_exchanged, F_exchanged, h.ch]
  have e3 : C_to_end [d, w] = .exc "BadPatch" := by simp only [sSeq_x, x_sSet, x_sIf, x_sRet, x_sRetN, x_sPar, x_sUnp, resF_ok, x_sDrop, x_sNext, x_sBreak, x_sCont, x_sRaise, x_sAug, augK_ok, x_sFor, x_sWhile, sKill_x, x_wipe0, x_wipe1, x_evL0, x_evL1, x_setL0, x_setL1, x_eVar, x_eC, x_eOp, x_eUn, x_eCall, x_eMS, x_asStr, x_aNil, x_aCons, x_eTup, x_eLst, x_eIf, x_eNot, x_eAnd, x_eOr, x_bAnd, x_bOr, x_bNot, x_bYes, x_eSl, x_oNone, x_oSome, asI_int, x_iSeq, x_iCall, x_gfName, x_gfTup, eLc, noX_is, Res.bind_ok, Res.bind_exc, flow_ok, flow_exc, seqK_next, seqK_ret, seqK_exc, seqK_brk, seqK_cont, loopK_next, loopK_cont, loopK_brk, loopK_ret, loopK_exc, must_ok, List.set_cons_succ, List.set_cons_zero, List.getD_cons_succ, List.getD_cons_zero, vD_some, if_true, if_false, Bool.false_eq_true, reduceIte, List.map_cons, List.map_nil, List.length_cons, List.length_nil, List.cons_append, List.nil_append, List.replicate, Nat.reduceSub, Nat.reduceAdd, x_add, x_sub, x_cmp, x_eq_ii, x_ne_ii, x_int_i, x_len_t, x_len_l, x_tup_l, x_tup_t, x_list_l, x_list_t, x_dSl_t, x_dSl_l, x_items_t, x_items_l, x_tru_n, x_tru_b, x_tru_i, x_tru_t, x_tru_l, x_asB, x_is_n, x_isNot_n, isNon_n, isNon_i, isNon_s, isNon_t, isNon_l, isNon_b, Bool.not_true, Bool.not_false, List.length_map, fnE, startE, C_to_end, F_to_end, h.ch]
  have e4 : C_to_front [d, w] = .exc "BadPatch" := by simp only [sSeq_x, x_sSet, x_sIf, x_sRet, x_sRetN, x_sPar, x_sUnp, resF_ok, x_sDrop, x_sNext, x_sBreak, x_sCont, x_sRaise, x_sAug, augK_ok, x_sFor, x_sWhile, sKill_x, x_wipe0, x_wipe1, x_evL0, x_evL1, x_setL0, x_setL1, x_eVar, x_eC, x_eOp, x_eUn, x_eCall, x_eMS, x_asStr, x_aNil, x_aCons, x_eTup, x_eLst, x_eIf, x_eNot, x_eAnd, x_eOr, x_bAnd, x_bOr, x_bNot, x_bYes, x_eSl, x_oNone, x_oSome, asI_int, x_iSeq, x_iCall, x_gfName, x_gfTup, eLc, noX_is, Res.bind_ok, Res.bind_exc, flow_ok, flow_exc, seqK_next, seqK_ret, seqK_exc, seqK_brk, seqK_cont, loopK_next, loopK_cont, loopK_brk, loopK_ret, loopK_exc, must_ok, List.set_cons_succ, List.set_cons_zero, List.getD_cons_succ, List.getD_cons_zero, vD_some, if_true, if_false, Bool.false_eq_true, reduceIte, List.map_cons, List.map_nil, List.length_cons, List.length_nil, List.cons_append, List.nil_append, List.replicate, Nat.reduceSub, Nat.reduceAdd, x_add, x_sub, x_cmp, x_eq_ii, x_ne_ii, x_int_i, x_len_t, x_len_l, x_tup_l, x_tup_t, x_list_l, x_list_t, x_dSl_t, x_dSl_l, x_items_t, x_items_l, x_tru_n, x_tru_b, x_tru_i, x_tru_t, x_tru_l, x_asB, x_is_n, x_isNot_n, isNon_n, isNon_i, isNon_s, isNon_t, isNon_l, isNon_b, Bool.not_true, Bool.not_false, List.length_map, fnE, startE, C_to_front, F_to_front, h.ch]
  have e5 : C_without [d, w] = .exc "BadPatch" := by simp only [sSeq_x, x_sSet, x_sIf, x_sRet, x_sRetN, x_sPar, x_sUnp, resF_ok, x_sDrop, x_sNext, x_sBreak, x_sCont, x_sRaise, x_sAug, augK_ok, x_sFor, x_sWhile, sKill_x, x_wipe0, x_wipe1, x_evL0, x_evL1, x_setL0, x_setL1, x_eVar, x_eC, x_eOp, x_eUn, x_eCall, x_eMS, x_asStr, x_aNil, x_aCons, x_eTup, x_eLst, x_eIf, x_eNot, x_eAnd, x_eOr, x_bAnd, x_bOr, x_bNot, x_bYes, x_eSl, x_oNone, x_oSome, asI_int, x_iSeq, x_iCall, x_gfName, x_gfTup, eLc, noX_is, Res.bind_ok, Res.bind_exc, flow_ok, flow_exc, seqK_next, seqK_ret, seqK_exc, seqK_brk, seqK_cont, loopK_next, loopK_cont, loopK_brk, loopK_ret, loopK_exc, must_ok, List.set_cons_succ, List.set_cons_zero, List.getD_cons_succ, List.getD_cons_zero, vD_some, if_true, if_false, Bool.false_eq_true, reduceIte, List.map_cons, List.map_nil, List.length_cons, List.length_nil, List.cons_append, List.nil_append, List.replicate, Nat.reduceSub, Nat.reduceAdd, x_add, x_sub, x_cmp, x_eq_ii, x_ne_ii, x_int_i, x_len_t, x_len_l, x_tup_l, x_tup_t, x_list_l, x_list_t, x_dSl_t, x_dSl_l, x_items_t, x_items_l, x_tru_n, x_tru_b, x_tru_i, x_tru_t, x_tru_l, x_asB, x_is_n, x_isNot_n, isNon_n, isNon_i, isNon_s, isNon_t, isNon_l, isNon_b, Bool.not_true, Bool.not_false, List.length_map, fnE, startE, C_without, F_without, h.ch]
  refine ⟨?_, ?_, ?_, ?_⟩ <;> simp only [sSeq_x, x_sSet, x_sIf, x_sRet, x_sRetN, x_sPar, x_sUnp, resF_ok, x_sDrop, x_sNext, x_sBreak, x_sCont, x_sRaise, x_sAug, augK_ok, x_sFor, x_sWhile, sKill_x, x_wipe0, x_wipe1, x_evL0, x_evL1, x_setL0, x_setL1, x_eVar, x_eC, x_eOp, x_eUn, x_eCall, x_eMS, x_asStr, x_aNil, x_aCons, x_eTup, x_eLst, x_eIf, x_eNot, x_eAnd, x_eOr, x_bAnd, x_bOr, x_bNot, x_bYes, x_eSl, x_oNone, x_oSome, asI_int, x_iSeq, x_iCall, x_gfName, x_gfTup, eLc, noX_is, Res.bind_ok, Res.bind_exc, flow_ok, flow_exc, seqK_next, seqK_ret, seqK_exc, seqK_brk, seqK_cont, loopK_next, loopK_cont, loopK_brk, loopK_ret, loopK_exc, must_ok, List.set_cons_succ, List.set_cons_zero, List.getD_cons_succ, List.getD_cons_zero, vD_some, if_true, if_false, Bool.false_eq_true, reduceIte, List.map_cons, List.map_nil, List.length_cons, List.length_nil, List.cons_append, List.nil_append, List.replicate, Nat.reduceSub, Nat.reduceAdd, x_add, x_sub, x_cmp, x_eq_ii, x_ne_ii, x_int_i, x_len_t, x_len_l, x_tup_l, x_tup_t, x_list_l, x_list_t, x_dSl_t, x_dSl_l, x_items_t, x_items_l, x_tru_n, x_tru_b, x_tru_i, x_tru_t, x_tru_l, x_asB, x_is_n, x_isNot_n, isNon_n, isNon_i, isNon_s, isNon_t, isNon_l, isNon_b, Bool.not_true, Bool.not_false, List.length_map, fnE, startE, C__law_error, F__law_error, sTry, z01, e2, e3, e4, e5, if_pos em4.1, pick, if_neg em1.1, if_pos em0.1, sNx]
theorem errk_place {R : List Patch} {w : D} (rv : ∀ P ∈ R, Vp P) (h1 : C__check_place [w, .int ((R.length : Int) - 2)] = .exc "BadPlace") : C__law_error [.int 2, rwD R, w] = .ok (.str "place") := by
  have e2 : C_exchanged [rwD R, w] = .exc "BadPlace" := by simp only [sSeq_x, x_sSet, x_sIf, x_sRet, x_sRetN, x_sPar, x_sUnp, resF_ok, x_sDrop, x_sNext, x_sBreak, x_sCont, x_sRaise, x_sAug, augK_ok, x_sFor, x_sWhile, sKill_x, x_wipe0, x_wipe1, x_evL0, x_evL1, x_setL0, x_setL1, x_eVar, x_eC, x_eOp, x_eUn, x_eCall, x_eMS, x_asStr, x_aNil, x_aCons, x_eTup, x_eLst, x_eIf, x_eNot, x_eAnd, x_eOr, x_bAnd, x_bOr, x_bNot, x_bYes, x_eSl, x_oNone, x_oSome, asI_int, x_iSeq, x_iCall, x_gfName, x_gfTup, eLc, noX_is, Res.bind_ok, Res.bind_exc, flow_ok, flow_exc, seqK_next, seqK_ret, seqK_exc, seqK_brk, seqK_cont, loopK_next, loopK_cont, loopK_brk, loopK_ret, loopK_exc, must_ok, List.set_cons_succ, List.set_cons_zero, List.getD_cons_succ, List.getD_cons_zero, vD_some, if_true, if_false, Bool.false_eq_true, reduceIte, List.map_cons, List.map_nil, List.length_cons, List.length_nil, List.cons_append, List.nil_append, List.replicate, Nat.reduceSub, Nat.reduceAdd, x_add, x_sub, x_cmp, x_eq_ii, x_ne_ii, x_int_i, x_len_t, x_len_l, x_tup_l, x_tup_t, x_list_l, x_list_t, x_dSl_t, x_dSl_l, x_items_t, x_items_l, x_tru_n, x_tru_b, x_tru_i, x_tru_t, x_tru_l, x_asB, x_is_n, x_isNot_n, isNon_n, isNon_i, isNon_s, isNon_t, isNon_l, isNon_b, Bool.not_true, Bool.not_false, List.length_map, fnE, startE, C_exchanged, F_exchanged, chrow_ok rv, len_row, h1]
  simp only [sSeq_x, x_sSet, x_sIf, x_sRet, x_sRetN, x_sPar, x_sUnp, resF_ok, x_sDrop, x_sNext, x_sBreak, x_sCont, x_sRaise, x_sAug, augK_ok, x_sFor, x_sWhile, sKill_x, x_wipe0, x_wipe1, x_evL0, x_evL1, x_setL0, x_setL1, x_eVar, x_eC, x_eOp, x_eUn, x_eCall, x_eMS, x_asStr, x_aNil, x_aCons, x_eTup, x_eLst, x_eIf, x_eNot, x_eAnd, x_eOr, x_bAnd, x_bOr, x_bNot, x_bYes, x_eSl, x_oNone, x_oSome, asI_int, x_iSeq, x_iCall, x_gfName, x_gfTup, eLc, noX_is, Res.bind_ok, Res.bind_exc, flow_ok, flow_exc, seqK_next, seqK_ret, seqK_exc, seqK_brk, seqK_cont, loopK_next, loopK_cont, loopK_brk, loopK_ret, loopK_exc, must_ok, List.set_cons_succ, List.set_cons_zero, List.getD_cons_succ, List.getD_cons_zero, vD_some, if_true, if_false, Bool.false_eq_true, reduceIte, List.map_cons, List.map_nil, List.length_cons, List.length_nil, List.cons_append, List.nil_append, List.replicate, Nat.reduceSub, Nat.reduceAdd, x_add, x_sub, x_cmp, x_eq_ii, x_ne_ii, x_int_i, x_len_t, x_len_l, x_tup_l, x_tup_t, x_list_l, x_list_t, x_dSl_t, x_dSl_l, x_items_t, x_items_l, x_tru_n, x_tru_b, x_tru_i, x_tru_t, x_tru_l, x_asB, x_is_n, x_isNot_n, isNon_n, isNon_i, isNon_s, isNon_t, isNon_l, isNon_b, Bool.not_true, Bool.not_false, List.length_map, fnE, startE, C__law_error, F__law_error, sTry, z01, e2, if_pos em4.2.1, pick, if_neg em1.2.1, if_neg em1.2.2.2.1, if_pos em0.2.1, sNx]
theorem errk_place2 {R : List Patch} {w : D} (rv : ∀ P ∈ R, Vp P) (h1 : C__check_place [w, .int ((R.length : Int) - 1)] = .exc "BadPlace") : C__law_error [.int 3, rwD R, w] = .ok (.str "place") ∧ C__law_error [.int 4, rwD R, w] = .ok (.str "place") ∧ C__law_error [.int 5, rwD R, w] = .ok (.str "place") := by
  have e3 : C_to_end [rwD R, w] = .exc "BadPlace" := by simp only [sSeq_x, x_sSet, x_sIf, x_sRet, x_sRetN, x_sPar, x_sUnp, resF_ok, x_sDrop, x_sNext, x_sBreak, x_sCont, x_sRaise, x_sAug, augK_ok, x_sFor, x_sWhile, sKill_x, x_wipe0, x_wipe1, x_evL0, x_evL1, x_setL0, x_setL1, x_eVar, x_eC, x_eOp, x_eUn, x_eCall, x_eMS, x_asStr, x_aNil, x_aCons, x_eTup, x_eLst, x_eIf, x_eNot, x_eAnd, x_eOr, x_bAnd, x_bOr, x_bNot, x_bYes, x_eSl, x_oNone, x_oSome, asI_int, x_iSeq, x_iCall, x_gfName, x_gfTup, eLc, noX_is, Res.bind_ok, Res.bind_exc, flow_ok, flow_exc, seqK_next, seqK_ret, seqK_exc, seqK_brk, seqK_cont, loopK_next, loopK_cont, loopK_brk, loopK_ret, loopK_exc, must_ok, List.set_cons_succ, List.set_cons_zero, List.getD_cons_succ, List.getD_cons_zero, vD_some, if_true, if_false, Bool.false_eq_true, reduceIte, List.map_cons, List.map_nil, List.length_cons, List.length_nil, List.cons_append, List.nil_append, List.replicate, Nat.reduceSub, Nat.reduceAdd, x_add, x_sub, x_cmp, x_eq_ii, x_ne_ii, x_int_i, x_len_t, x_len_l, x_tup_l, x_tup_t, x_list_l, x_list_t, x_dSl_t, x_dSl_l, x_items_t, x_items_l, x_tru_n, x_tru_b, x_tru_i, x_tru_t, x_tru_l, x_asB, x_is_n, x_isNot_n, isNon_n, isNon_i, isNon_s, isNon_t, isNon_l, isNon_b, Bool.not_true, Bool.not_false, List.length_map, fnE, startE, C_to_end, F_to_end, chrow_ok rv, len_row, h1]
  have e4 : C_to_front [rwD R, w] = .exc "BadPlace" := by simp only [sSeq_x, x_sSet, x_sIf, x_sRet, x_sRetN, x_sPar, x_sUnp, resF_ok, x_sDrop, x_sNext, x_sBreak, x_sCont, x_sRaise, x_sAug, augK_ok, x_sFor, x_sWhile, sKill_x, x_wipe0, x_wipe1, x_evL0, x_evL1, x_setL0, x_setL1, x_eVar, x_eC, x_eOp, x_eUn, x_eCall, x_eMS, x_asStr, x_aNil, x_aCons, x_eTup, x_eLst, x_eIf, x_eNot, x_eAnd, x_eOr, x_bAnd, x_bOr, x_bNot, x_bYes, x_eSl, x_oNone, x_oSome, asI_int, x_iSeq, x_iCall, x_gfName, x_gfTup, eLc, noX_is, Res.bind_ok, Res.bind_exc, flow_ok, flow_exc, seqK_next, seqK_ret, seqK_exc, seqK_brk, seqK_cont, loopK_next, loopK_cont, loopK_brk, loopK_ret, loopK_exc, must_ok, List.set_cons_succ, List.set_cons_zero, List.getD_cons_succ, List.getD_cons_zero, vD_some, if_true, if_false, Bool.false_eq_true, reduceIte, List.map_cons, List.map_nil, List.length_cons, List.length_nil, List.cons_append, List.nil_append, List.replicate, Nat.reduceSub, Nat.reduceAdd, x_add, x_sub, x_cmp, x_eq_ii, x_ne_ii, x_int_i, x_len_t, x_len_l, x_tup_l, x_tup_t, x_list_l, x_list_t, x_dSl_t, x_dSl_l, x_items_t, x_items_l, x_tru_n, x_tru_b, x_tru_i, x_tru_t, x_tru_l, x_asB, x_is_n, x_isNot_n, isNon_n, isNon_i, isNon_s, isNon_t, isNon_l, isNon_b, Bool.not_true, Bool.not_false, List.length_map, fnE, startE, C_to_front, F_to_front, chrow_ok rv, len_row, h1]
  have e5 : C_without [rwD R, w] = .exc "BadPlace" := by simp only [sSeq_x, x_sSet, x_sIf, x_sRet, x_sRetN, x_sPar, x_sUnp, resF_ok, x_sDrop, x_sNext, x_sBreak, x_sCont, x_sRaise, x_sAug, augK_ok, x_sFor, x_sWhile, sKill_x, x_wipe0, x_wipe1, x_evL0, x_evL1, x_setL0, x_setL1, x_eVar, x_eC, x_eOp, x_eUn, x_eCall, x_eMS, x_asStr, x_aNil, x_aCons, x_eTup, x_eLst, x_eIf, x_eNot, x_eAnd, x_eOr, x_bAnd, x_bOr, x_bNot, x_bYes, x_eSl, x_oNone, x_oSome, asI_int, x_iSeq, x_iCall, x_gfName, x_gfTup, eLc, noX_is, Res.bind_ok, Res.bind_exc, flow_ok, flow_exc, seqK_next, seqK_ret, seqK_exc, seqK_brk, seqK_cont, loopK_next, loopK_cont, loopK_brk, loopK_ret, loopK_exc, must_ok, List.set_cons_succ, List.set_cons_zero, List.getD_cons_succ, List.getD_cons_zero, vD_some, if_true, if_false, Bool.false_eq_true, reduceIte, List.map_cons, List.map_nil, List.length_cons, List.length_nil, List.cons_append, List.nil_append, List.replicate, Nat.reduceSub, Nat.reduceAdd, x_add, x_sub, x_cmp, x_eq_ii, x_ne_ii, x_int_i, x_len_t, x_len_l, x_tup_l, x_tup_t, x_list_l, x_list_t, x_dSl_t, x_dSl_l, x_items_t, x_items_l, x_tru_n, x_tru_b, x_tru_i, x_tru_t, x_tru_l, x_asB, x_is_n, x_isNot_n, isNon_n, isNon_i, isNon_s, isNon_t, isNon_l, isNon_b, Bool.not_true, Bool.not_false, List.length_map, fnE, startE, C_without, F_without, chrow_ok rv, len_row, h1]
  refine ⟨?_, ?_, ?_⟩ <;> simp only [sSeq_x, x_sSet, x_sIf, x_sRet, x_sRetN, x_sPar, x_sUnp, resF_ok, x_sDrop, x_sNext, x_sBreak, x_sCont, x_sRaise, x_sAug, augK_ok, x_sFor, x_sWhile, sKill_x, x_wipe0, x_wipe1, x_evL0, x_evL1, x_setL0, x_setL1, x_eVar, x_eC, x_eOp, x_eUn, x_eCall, x_eMS, x_asStr, x_aNil, x_aCons, x_eTup, x_eLst, x_eIf, x_eNot, x_eAnd, x_eOr, x_bAnd, x_bOr, x_bNot, x_bYes, x_eSl, x_oNone, x_oSome, asI_int, x_iSeq, x_iCall, x_gfName, x_gfTup, eLc, noX_is, Res.bind_ok, Res.bind_exc, flow_ok, flow_exc, seqK_next, seqK_ret, seqK_exc, seqK_brk, seqK_cont, loopK_next, loopK_cont, loopK_brk, loopK_ret, loopK_exc, must_ok, List.set_cons_succ, List.set_cons_zero, List.getD_cons_succ, List.getD_cons_zero, vD_some, if_true, if_false, Bool.false_eq_true, reduceIte, List.map_cons, List.map_nil, List.length_cons, List.length_nil, List.cons_append, List.nil_append, List.replicate, Nat.reduceSub, Nat.reduceAdd, x_add, x_sub, x_cmp, x_eq_ii, x_ne_ii, x_int_i, x_len_t, x_len_l, x_tup_l, x_tup_t, x_list_l, x_list_t, x_dSl_t, x_dSl_l, x_items_t, x_items_l, x_tru_n, x_tru_b, x_tru_i, x_tru_t, x_tru_l, x_asB, x_is_n, x_isNot_n, isNon_n, isNon_i, isNon_s, isNon_t, isNon_l, isNon_b, Bool.not_true, Bool.not_false, List.length_map, fnE, startE, C__law_error, F__law_error, sTry, z01, e3, e4, e5, if_pos em4.2.1, pick, if_neg em1.2.1, if_neg em1.2.2.2.1, if_pos em0.2.1, sNx]
/-! ### drawn rows -/
theorem rfit_app : ∀ (A B : List Patch) (t : List Nat), RFit t (A ++ B) ↔ RFit t A ∧ RFit (rb t A) B
  | [], B, t => ⟨fun h => ⟨trivial, h⟩, fun h => h.2⟩
  | P :: A, B, t => by
    have ih := rfit_app A B (app t 0 P)
    constructor
    · rintro ⟨h1, h2⟩
      have := ih.mp h2
      exact ⟨⟨h1, this.1⟩, this.2⟩
    · rintro ⟨⟨h1, h2⟩, h3⟩
      exact ⟨h1, ih.mpr ⟨h2, h3⟩⟩
theorem rb_LOk : ∀ {R : List Patch} {t : List Nat}, (∀ P ∈ R, Vp P) → LOk t → LOk (rb t R)
  | [], _, _, h => h
  | P :: R, t, r, h => rb_LOk (R := R) (t := app t 0 P) (fun Q hq => r Q (List.mem_cons_of_mem _ hq)) ((r P List.mem_cons_self).lok h)
structure Rw (t : List Nat) (R : List Patch) (n : Nat) : Prop where
  len : R.length = n
  vp : ∀ P ∈ R, Vp P
  fit : RFit t R
  size : (rb t R).length ≤ t.length + 8 * n
theorem lrow_ok (ds t : List Nat) (ht : LOk t) (hd : ∀ d ∈ ds, d < 65521) (hl : t.length ≤ 1000) (many : Nat) (hm : many ≤ 5) (ha : 18 * many < ds.length) : ∃ R : List Patch, Rw t R many ∧ C__law_row [.lst (ds.map dN), txD t, dN many] = .ok (rwD R) := by
  have e0 := dRng1_nat many (by omega)
  obtain ⟨ρ, f, R, r, rfl⟩ := for_inv (gf := gfName 4) (F := B__law_row_1) (ds := (List.range many).map fun i => D.int (i : Nat)) (n := 0) (ρ := [some (.lst (ds.map dN)), some (txD t), some (dN many), some (.lst []), none, none])
    (P := fun k ρ => ∃ R, Rw t R k ∧ ρ = [some (.lst (ds.map dN)), some (txD (rb t R)), some (dN many), some (.lst (R.map ptD)), none, none])
    ⟨[], ⟨rfl, fun P hP => (nomatch hP), trivial, by rw [rb]; omega⟩, rfl⟩ (fun i d hi ρ hp => by
      obtain ⟨R, r, rfl⟩ := hp
      have hi2 : i < many := by have := (List.getElem?_eq_some_iff.mp hi).1; simpa using this
      have hd2 : d = dN i := by
        rw [List.getElem?_map, List.getElem?_range hi2] at hi
        exact (Option.some.inj hi).symm
      subst hd2
      rw [Nat.zero_add] at r ⊢
      have lok := rb_LOk r.vp ht
      have hsz := r.size
      obtain ⟨P, dp, e⟩ := lpatch_ok ds (rb t R) lok hd (by omega) (18 * i) 2 (by omega) (by omega)
      have b := behind_ok (t := rb t R) (P := P) (by omega) dp.vp dp.fit
      have m : mulOk 18 (i : Int) = true := mulOk_l _ _ (by decide)
      have e : C__law_patch [.lst (ds.map dN), .int ((18 : Int) * i), txD (rb t R), .int 2] = .ok (ptD P) := e
      have hl2 : R.length < 16777216 := by rw [r.len]; omega
      refine ⟨[some (.lst (ds.map dN)), some (txD (rb t R)), some (dN many), some (.lst (R.map ptD)), some (dN i), none], [some (.lst (ds.map dN)), some (txD (rb t (R ++ [P]))), some (dN many), some (.lst ((R ++ [P]).map ptD)), none, none], rfl, .inl ?_, R ++ [P], ⟨by rw [List.length_append, r.len, List.length_singleton], ?_, ?_, ?_⟩, rfl⟩
      · rw [rb_app]
        simp only [sSeq_x, x_sSet, x_sIf, x_sRet, x_sRetN, x_sPar, x_sUnp, resF_ok, x_sDrop, x_sNext, x_sBreak, x_sCont, x_sRaise, x_sAug, augK_ok, x_sFor, x_sWhile, sKill_x, x_wipe0, x_wipe1, x_evL0, x_evL1, x_setL0, x_setL1, x_eVar, x_eC, x_eOp, x_eUn, x_eCall, x_eMS, x_asStr, x_aNil, x_aCons, x_eTup, x_eLst, x_eIf, x_eNot, x_eAnd, x_eOr, x_bAnd, x_bOr, x_bNot, x_bYes, x_eSl, x_oNone, x_oSome, asI_int, x_iSeq, x_iCall, x_gfName, x_gfTup, eLc, noX_is, Res.bind_ok, Res.bind_exc, flow_ok, flow_exc, seqK_next, seqK_ret, seqK_exc, seqK_brk, seqK_cont, loopK_next, loopK_cont, loopK_brk, loopK_ret, loopK_exc, must_ok, List.set_cons_succ, List.set_cons_zero, List.getD_cons_succ, List.getD_cons_zero, vD_some, if_true, if_false, Bool.false_eq_true, reduceIte, List.map_cons, List.map_nil, List.length_cons, List.length_nil, List.cons_append, List.nil_append, List.replicate, Nat.reduceSub, Nat.reduceAdd, x_add, x_sub, x_cmp, x_eq_ii, x_ne_ii, x_int_i, x_len_t, x_len_l, x_tup_l, x_tup_t, x_list_l, x_list_t, x_dSl_t, x_dSl_l, x_items_t, x_items_l, x_tru_n, x_tru_b, x_tru_i, x_tru_t, x_tru_l, x_asB, x_is_n, x_isNot_n, isNon_n, isNon_i, isNon_s, isNon_t, isNon_l, isNon_b, Bool.not_true, Bool.not_false, List.length_map, fnE, startE, B__law_row_1, dMul_i _ _ m, e, sAppend, sl_eq, hl2, b, List.map_append]
        rfl
      · intro Q hq
        rcases List.mem_append.mp hq with hq | hq
        · exact r.vp Q hq
        · rw [List.mem_singleton.mp hq]; exact dp.vp
      · exact (rfit_app R [P] t).mpr ⟨r.fit, dp.fit, trivial⟩
      · rw [rb_app]
        have := dp.len
        show (app (rb t R) 0 P).length ≤ _
        omega)
  rw [List.length_map, List.length_range, Nat.zero_add] at r
  refine ⟨R, r, ?_⟩
  simp only [sSeq_x, x_sSet, x_sIf, x_sRet, x_sRetN, x_sPar, x_sUnp, resF_ok, x_sDrop, x_sNext, x_sBreak, x_sCont, x_sRaise, x_sAug, augK_ok, x_sFor, x_sWhile, sKill_x, x_wipe0, x_wipe1, x_evL0, x_evL1, x_setL0, x_setL1, x_eVar, x_eC, x_eOp, x_eUn, x_eCall, x_eMS, x_asStr, x_aNil, x_aCons, x_eTup, x_eLst, x_eIf, x_eNot, x_eAnd, x_eOr, x_bAnd, x_bOr, x_bNot, x_bYes, x_eSl, x_oNone, x_oSome, asI_int, x_iSeq, x_iCall, x_gfName, x_gfTup, eLc, noX_is, Res.bind_ok, Res.bind_exc, flow_ok, flow_exc, seqK_next, seqK_ret, seqK_exc, seqK_brk, seqK_cont, loopK_next, loopK_cont, loopK_brk, loopK_ret, loopK_exc, must_ok, List.set_cons_succ, List.set_cons_zero, List.getD_cons_succ, List.getD_cons_zero, vD_some, if_true, if_false, Bool.false_eq_true, reduceIte, List.map_cons, List.map_nil, List.length_cons, List.length_nil, List.cons_append, List.nil_append, List.replicate, Nat.reduceSub, Nat.reduceAdd, x_add, x_sub, x_cmp, x_eq_ii, x_ne_ii, x_int_i, x_len_t, x_len_l, x_tup_l, x_tup_t, x_list_l, x_list_t, x_dSl_t, x_dSl_l, x_items_t, x_items_l, x_tru_n, x_tru_b, x_tru_i, x_tru_t, x_tru_l, x_asB, x_is_n, x_isNot_n, isNon_n, isNon_i, isNon_s, isNon_t, isNon_l, isNon_b, Bool.not_true, Bool.not_false, List.length_map, fnE, startE, C__law_row, F__law_row, e0, f]
/-! ### the law -/
theorem mv_okN {w : Str} (hw : PyData.strOk w = true) {m : Mv} (h : ∀ X, m = .row X → ∀ Q ∈ X, Vp Q) : okN 60 (mvD w m) = true := by
  cases m with
  | no k =>
    refine okN_tup fun x hx => ?_
    simp only [List.mem_cons, List.not_mem_nil, or_false] at hx
    rcases hx with rfl | rfl
    · rw [ok_str]; exact hw
    · exact ok_int _ _
  | row X =>
    refine okN_tup fun x hx => ?_
    simp only [List.mem_cons, List.not_mem_nil, or_false] at hx
    rcases hx with rfl | rfl
    · rw [ok_str]; decide +kernel
    · refine okN_tup fun y hy => ?_
      obtain ⟨Q, hQ, rfl⟩ := List.mem_map.mp hy
      exact pt_okN (k := 55) (h X rfl Q hQ)
theorem wd_ok : PyData.strOk "needed" = true ∧ PyData.strOk "needs" = true ∧ PyData.strOk "row" = true ∧ PyData.strOk "commuted" = true := ⟨by decide +kernel, by decide +kernel, by decide +kernel, by decide +kernel⟩
section
variable (sc dsD : D) (t : List Nat) (R : List Patch) (E : List Nat)
abbrev env0 (s6 s7 s8 s9 s10 s11 : Option D) : Px.Env := [some sc, some dsD, some (txD t), some (rwD R), some (txD E), none, s6, s7, s8, s9, s10, s11, none, none, none, none, none]
structure Good (X : List Patch) : Prop where
  vp : ∀ Q ∈ X, Vp Q
  fit : RFit t X
  eq : rb t X = E
  few : X.length ≤ 6
end
section
variable {sc dsD : D} {t : List Nat} {R : List Patch} {E : List Nat}
theorem law3 (ht : LOk t) (hE : LOk E) (tl : t.length ≤ 12) {w : Str} (hw : w = "needed" ∨ w = "needs") {m : Mv} (hm : ∀ X, m = .row X → Good t E X) (s6 s7 s8 s10 : Option D) : B_law_3 (env0 sc dsD t R E s6 s7 s8 (some (mvD w m)) s10 none) = .next (env0 sc dsD t R E s6 s7 s8 none s10 none) := by
  cases m with
  | no k =>
    have i0 : dIx (mvD w (.no k)) (.int 0) = .ok (.str w) := rfl
    have q : dEq (.str w) (.str "row") = .ok (.bl false) := by
      rcases hw with rfl | rfl
      · exact needed_eq.2.2.1
      · exact needed_eq.2.2.2.2
    simp only [sSeq_x, x_sSet, x_sIf, x_sRet, x_sRetN, x_sPar, x_sUnp, resF_ok, x_sDrop, x_sNext, x_sBreak, x_sCont, x_sRaise, x_sAug, augK_ok, x_sFor, x_sWhile, sKill_x, x_wipe0, x_wipe1, x_evL0, x_evL1, x_setL0, x_setL1, x_eVar, x_eC, x_eOp, x_eUn, x_eCall, x_eMS, x_asStr, x_aNil, x_aCons, x_eTup, x_eLst, x_eIf, x_eNot, x_eAnd, x_eOr, x_bAnd, x_bOr, x_bNot, x_bYes, x_eSl, x_oNone, x_oSome, asI_int, x_iSeq, x_iCall, x_gfName, x_gfTup, eLc, noX_is, Res.bind_ok, Res.bind_exc, flow_ok, flow_exc, seqK_next, seqK_ret, seqK_exc, seqK_brk, seqK_cont, loopK_next, loopK_cont, loopK_brk, loopK_ret, loopK_exc, must_ok, List.set_cons_succ, List.set_cons_zero, List.getD_cons_succ, List.getD_cons_zero, vD_some, if_true, if_false, Bool.false_eq_true, reduceIte, List.map_cons, List.map_nil, List.length_cons, List.length_nil, List.cons_append, List.nil_append, List.replicate, Nat.reduceSub, Nat.reduceAdd, x_add, x_sub, x_cmp, x_eq_ii, x_ne_ii, x_int_i, x_len_t, x_len_l, x_tup_l, x_tup_t, x_list_l, x_list_t, x_dSl_t, x_dSl_l, x_items_t, x_items_l, x_tru_n, x_tru_b, x_tru_i, x_tru_t, x_tru_l, x_asB, x_is_n, x_isNot_n, isNon_n, isNon_i, isNon_s, isNon_t, isNon_l, isNon_b, Bool.not_true, Bool.not_false, List.length_map, fnE, startE, B_law_3, i0, q]
  | row X =>
    have g := hm X rfl
    have f := g.few
    have i0 : dIx (mvD w (.row X)) (.int 0) = .ok (.str "row") := rfl
    have i1 : dIx (mvD w (.row X)) (.int 1) = .ok (rwD X) := rfl
    have lf := lfault_ok g.vp ht (by omega)
    rw [rft_none g.vp g.fit] at lf
    have lf : C__law_fault [txD t, rwD X] = .ok .non := lf
    have rb1 := rowbehind_ok g.vp ht (by omega) g.fit
    rw [g.eq] at rb1
    have q := dNe_self (tx_okN (k := 59) hE)
    simp only [sSeq_x, x_sSet, x_sIf, x_sRet, x_sRetN, x_sPar, x_sUnp, resF_ok, x_sDrop, x_sNext, x_sBreak, x_sCont, x_sRaise, x_sAug, augK_ok, x_sFor, x_sWhile, sKill_x, x_wipe0, x_wipe1, x_evL0, x_evL1, x_setL0, x_setL1, x_eVar, x_eC, x_eOp, x_eUn, x_eCall, x_eMS, x_asStr, x_aNil, x_aCons, x_eTup, x_eLst, x_eIf, x_eNot, x_eAnd, x_eOr, x_bAnd, x_bOr, x_bNot, x_bYes, x_eSl, x_oNone, x_oSome, asI_int, x_iSeq, x_iCall, x_gfName, x_gfTup, eLc, noX_is, Res.bind_ok, Res.bind_exc, flow_ok, flow_exc, seqK_next, seqK_ret, seqK_exc, seqK_brk, seqK_cont, loopK_next, loopK_cont, loopK_brk, loopK_ret, loopK_exc, must_ok, List.set_cons_succ, List.set_cons_zero, List.getD_cons_succ, List.getD_cons_zero, vD_some, if_true, if_false, Bool.false_eq_true, reduceIte, List.map_cons, List.map_nil, List.length_cons, List.length_nil, List.cons_append, List.nil_append, List.replicate, Nat.reduceSub, Nat.reduceAdd, x_add, x_sub, x_cmp, x_eq_ii, x_ne_ii, x_int_i, x_len_t, x_len_l, x_tup_l, x_tup_t, x_list_l, x_list_t, x_dSl_t, x_dSl_l, x_items_t, x_items_l, x_tru_n, x_tru_b, x_tru_i, x_tru_t, x_tru_l, x_asB, x_is_n, x_isNot_n, isNon_n, isNon_i, isNon_s, isNon_t, isNon_l, isNon_b, Bool.not_true, Bool.not_false, List.length_map, fnE, startE, B_law_3, i0, i1, needed_eq.2.2.2.1, lf, rb1, q]
def T3 : SF := (sIf (eUn asB (eOp (dNe) (eCall C_without (aCons (eVar 3) (aCons (eVar 6) aNil))) (eIf (eUn asB (eOp (dEq) (eOp dIx (eVar 7) (eC (.int 0))) (eC (.str "needed")))) (eVar 7) (eTup (aCons (eC (.str "row")) (aCons (eSl (eOp dIx (eVar 7) (eC (.int 1))) oNone (oSome (eUn dNeg (eC (.int 1))))) aNil)))))) (sRet (eC (.bl false))) sNext)
def T5 : SF := (sIf (bAnd (eUn asB (eOp (dEq) (eOp dIx (eVar 7) (eC (.int 0))) (eC (.str "row")))) (bAnd (eUn asB (eOp (dNe) (eOp dIx (eCall C_to_front (aCons (eOp dIx (eVar 7) (eC (.int 1))) (aCons (eOp dSub (eCall fLen (aCons (eVar 3) aNil)) (eC (.int 1))) aNil))) (eC (.int 0))) (eC (.str "row")))) (eUn asB (eOp (dEq) (eVar 6) (eC (.int 0)))))) (sRet (eC (.bl false))) sNext)
def T6 : SF := (sIf (eUn asB (eOp (dCmpI iLt) (eOp dAdd (eVar 6) (eC (.int 1))) (eCall fLen (aCons (eVar 3) aNil)))) (sSeq (sPar [10, 9] [(eCall C__law_swapped (aCons (eOp dIx (eVar 3) (eVar 6)) (aCons (eOp dIx (eVar 3) (eOp dAdd (eVar 6) (eC (.int 1)))) aNil))), (eCall C_exchanged (aCons (eVar 3) (aCons (eVar 6) aNil)))])
  (sIf (bOr (bAnd (eUn asB (eOp (dIs) (eVar 10) (eC .non))) (eUn asB (eOp (dNe) (eVar 9) (eCall C_commuted (aCons (eOp dIx (eVar 3) (eVar 6)) (aCons (eOp dIx (eVar 3) (eOp dAdd (eVar 6) (eC (.int 1)))) aNil)))))) (bAnd (eUn asB (eOp (dIsNot) (eVar 10) (eC .non))) (eUn asB (eOp (dNe) (eVar 9) (eTup (aCons (eC (.str "row")) (aCons (eOp dAdd (eOp dAdd (eSl (eVar 3) oNone (oSome (eVar 6))) (eVar 10)) (eSl (eVar 3) (oSome (eOp dAdd (eVar 6) (eC (.int 2)))) oNone)) aNil))))))) (sRet (eC (.bl false))) sNext)) sNext)
theorem law2_eq : B_law_2 = (sSeq (sPar [7, 8] [(eCall C__law_to_end (aCons (eVar 3) (aCons (eVar 6) aNil))), (eCall C__law_to_front (aCons (eVar 3) (aCons (eVar 6) aNil)))])
  (sSeq (sIf (bOr (eUn asB (eOp (dNe) (eCall C_to_end (aCons (eVar 3) (aCons (eVar 6) aNil))) (eVar 7))) (eUn asB (eOp (dNe) (eCall C_to_front (aCons (eVar 3) (aCons (eVar 6) aNil))) (eVar 8)))) (sRet (eC (.bl false))) sNext)
  (sSeq T3
  (sSeq (sFor (iSeq (eTup (aCons (eVar 7) (aCons (eVar 8) aNil)))) (gfName 9)
  B_law_3)
  (sKill [9] (sSeq T5
  (sSeq T6
  (sKill [6, 7, 8, 9, 10] sNext)))))))) := rfl
variable {A B : List Patch} {P : Patch}
theorem t3_ok (rv : ∀ Q ∈ A ++ P :: B, Vp Q) (hl : A.length + B.length ≤ 100) (hX : ∀ X, te A P B = .row X → ∀ Q ∈ X, Vp Q) (s8 s10 : Option D) : T3 (env0 sc dsD t (A ++ P :: B) E (some (dN A.length)) (some (mvD "needed" (te A P B))) s8 none s10 none) = .next (env0 sc dsD t (A ++ P :: B) E (some (dN A.length)) (some (mvD "needed" (te A P B))) s8 none s10 none) := by
  have w := without_ok rv hl
  have ng : dNeg (.int 1) = .ok (.int (-1)) := rfl
  cases h : te A P B with
  | no k =>
    rw [h] at w
    have q := dNe_self (mv_okN wd_ok.1 (m := wo (.no k)) fun X hx => nomatch hx)
    have i0 : dIx (mvD "needed" (.no k)) (.int 0) = .ok (.str "needed") := rfl
    have e : mvD "needed" (wo (.no k)) = mvD "needed" (.no k) := rfl
    rw [e] at q w
    simp only [sSeq_x, x_sSet, x_sIf, x_sRet, x_sRetN, x_sPar, x_sUnp, resF_ok, x_sDrop, x_sNext, x_sBreak, x_sCont, x_sRaise, x_sAug, augK_ok, x_sFor, x_sWhile, sKill_x, x_wipe0, x_wipe1, x_evL0, x_evL1, x_setL0, x_setL1, x_eVar, x_eC, x_eOp, x_eUn, x_eCall, x_eMS, x_asStr, x_aNil, x_aCons, x_eTup, x_eLst, x_eIf, x_eNot, x_eAnd, x_eOr, x_bAnd, x_bOr, x_bNot, x_bYes, x_eSl, x_oNone, x_oSome, asI_int, x_iSeq, x_iCall, x_gfName, x_gfTup, eLc, noX_is, Res.bind_ok, Res.bind_exc, flow_ok, flow_exc, seqK_next, seqK_ret, seqK_exc, seqK_brk, seqK_cont, loopK_next, loopK_cont, loopK_brk, loopK_ret, loopK_exc, must_ok, List.set_cons_succ, List.set_cons_zero, List.getD_cons_succ, List.getD_cons_zero, vD_some, if_true, if_false, Bool.false_eq_true, reduceIte, List.map_cons, List.map_nil, List.length_cons, List.length_nil, List.cons_append, List.nil_append, List.replicate, Nat.reduceSub, Nat.reduceAdd, x_add, x_sub, x_cmp, x_eq_ii, x_ne_ii, x_int_i, x_len_t, x_len_l, x_tup_l, x_tup_t, x_list_l, x_list_t, x_dSl_t, x_dSl_l, x_items_t, x_items_l, x_tru_n, x_tru_b, x_tru_i, x_tru_t, x_tru_l, x_asB, x_is_n, x_isNot_n, isNon_n, isNon_i, isNon_s, isNon_t, isNon_l, isNon_b, Bool.not_true, Bool.not_false, List.length_map, fnE, startE, T3, w, i0, needed_eq.1, q]
  | row X =>
    rw [h] at w
    have q := dNe_self (mv_okN wd_ok.1 (m := wo (.row X)) fun Y hy => by cases hy; exact fun Q hQ => hX X h Q ((List.dropLast_sublist X).subset hQ))
    have i0 : dIx (mvD "needed" (.row X)) (.int 0) = .ok (.str "row") := rfl
    have i1 : dIx (mvD "needed" (.row X)) (.int 1) = .ok (rwD X) := rfl
    have e : mvD "needed" (wo (.row X)) = .tup [.str "row", .tup (X.dropLast.map ptD)] := rfl
    rw [e] at q w
    simp only [sSeq_x, x_sSet, x_sIf, x_sRet, x_sRetN, x_sPar, x_sUnp, resF_ok, x_sDrop, x_sNext, x_sBreak, x_sCont, x_sRaise, x_sAug, augK_ok, x_sFor, x_sWhile, sKill_x, x_wipe0, x_wipe1, x_evL0, x_evL1, x_setL0, x_setL1, x_eVar, x_eC, x_eOp, x_eUn, x_eCall, x_eMS, x_asStr, x_aNil, x_aCons, x_eTup, x_eLst, x_eIf, x_eNot, x_eAnd, x_eOr, x_bAnd, x_bOr, x_bNot, x_bYes, x_eSl, x_oNone, x_oSome, asI_int, x_iSeq, x_iCall, x_gfName, x_gfTup, eLc, noX_is, Res.bind_ok, Res.bind_exc, flow_ok, flow_exc, seqK_next, seqK_ret, seqK_exc, seqK_brk, seqK_cont, loopK_next, loopK_cont, loopK_brk, loopK_ret, loopK_exc, must_ok, List.set_cons_succ, List.set_cons_zero, List.getD_cons_succ, List.getD_cons_zero, vD_some, if_true, if_false, Bool.false_eq_true, reduceIte, List.map_cons, List.map_nil, List.length_cons, List.length_nil, List.cons_append, List.nil_append, List.replicate, Nat.reduceSub, Nat.reduceAdd, x_add, x_sub, x_cmp, x_eq_ii, x_ne_ii, x_int_i, x_len_t, x_len_l, x_tup_l, x_tup_t, x_list_l, x_list_t, x_dSl_t, x_dSl_l, x_items_t, x_items_l, x_tru_n, x_tru_b, x_tru_i, x_tru_t, x_tru_l, x_asB, x_is_n, x_isNot_n, isNon_n, isNon_i, isNon_s, isNon_t, isNon_l, isNon_b, Bool.not_true, Bool.not_false, List.length_map, fnE, startE, T3, w, i0, i1, needed_eq.2.1, ng, cut_last, ← List.map_dropLast, q]
theorem t5_ok (rv : ∀ Q ∈ A ++ P :: B, Vp Q) (hl : A.length + B.length ≤ 100) (hX : ∀ X, te A P B = .row X → (∀ Q ∈ X, Vp Q) ∧ X.length = A.length + 1 + B.length) (s8 s10 : Option D) : T5 (env0 sc dsD t (A ++ P :: B) E (some (dN A.length)) (some (mvD "needed" (te A P B))) s8 none s10 none) = .next (env0 sc dsD t (A ++ P :: B) E (some (dN A.length)) (some (mvD "needed" (te A P B))) s8 none s10 none) := by
  have ln := len_row (A ++ P :: B)
  have e := e1 A B P
  cases h : te A P B with
  | no k =>
    have i0 : dIx (mvD "needed" (.no k)) (.int 0) = .ok (.str "needed") := rfl
    simp only [sSeq_x, x_sSet, x_sIf, x_sRet, x_sRetN, x_sPar, x_sUnp, resF_ok, x_sDrop, x_sNext, x_sBreak, x_sCont, x_sRaise, x_sAug, augK_ok, x_sFor, x_sWhile, sKill_x, x_wipe0, x_wipe1, x_evL0, x_evL1, x_setL0, x_setL1, x_eVar, x_eC, x_eOp, x_eUn, x_eCall, x_eMS, x_asStr, x_aNil, x_aCons, x_eTup, x_eLst, x_eIf, x_eNot, x_eAnd, x_eOr, x_bAnd, x_bOr, x_bNot, x_bYes, x_eSl, x_oNone, x_oSome, asI_int, x_iSeq, x_iCall, x_gfName, x_gfTup, eLc, noX_is, Res.bind_ok, Res.bind_exc, flow_ok, flow_exc, seqK_next, seqK_ret, seqK_exc, seqK_brk, seqK_cont, loopK_next, loopK_cont, loopK_brk, loopK_ret, loopK_exc, must_ok, List.set_cons_succ, List.set_cons_zero, List.getD_cons_succ, List.getD_cons_zero, vD_some, if_true, if_false, Bool.false_eq_true, reduceIte, List.map_cons, List.map_nil, List.length_cons, List.length_nil, List.cons_append, List.nil_append, List.replicate, Nat.reduceSub, Nat.reduceAdd, x_add, x_sub, x_cmp, x_eq_ii, x_ne_ii, x_int_i, x_len_t, x_len_l, x_tup_l, x_tup_t, x_list_l, x_list_t, x_dSl_t, x_dSl_l, x_items_t, x_items_l, x_tru_n, x_tru_b, x_tru_i, x_tru_t, x_tru_l, x_asB, x_is_n, x_isNot_n, isNon_n, isNon_i, isNon_s, isNon_t, isNon_l, isNon_b, Bool.not_true, Bool.not_false, List.length_map, fnE, startE, T5, i0, needed_eq.2.2.1]
  | row X =>
    obtain ⟨p, va, vb⟩ := vA rv
    obtain ⟨v, xl⟩ := hX X h
    obtain ⟨X', C, rfl, bk⟩ := te_back B A P X [] p vb h
    have xl2 : X'.length = A.length + B.length := by rw [List.length_append, List.length_singleton] at xl; omega
    have tf1 := to_front_ok (A := X') (P := C) (B := []) v (by simp; omega)
    rw [bk, List.append_nil, xl2] at tf1
    have i0 : dIx (mvD "needed" (.row (X' ++ [C]))) (.int 0) = .ok (.str "row") := rfl
    have i1 : dIx (mvD "needed" (.row (X' ++ [C]))) (.int 1) = .ok (rwD (X' ++ [C])) := rfl
    have q1 : dNe (.str "row") (.str "row") = .ok (.bl false) := by kernel_rfl
    have q2 : dNe (.str "needs") (.str "row") = .ok (.bl true) := by kernel_rfl
    cases h2 : tf A.reverse P B with
    | row Y =>
      rw [h2] at tf1
      have j0 : dIx (mvD "needs" (.row Y)) (.int 0) = .ok (.str "row") := rfl
      simp only [sSeq_x, x_sSet, x_sIf, x_sRet, x_sRetN, x_sPar, x_sUnp, resF_ok, x_sDrop, x_sNext, x_sBreak, x_sCont, x_sRaise, x_sAug, augK_ok, x_sFor, x_sWhile, sKill_x, x_wipe0, x_wipe1, x_evL0, x_evL1, x_setL0, x_setL1, x_eVar, x_eC, x_eOp, x_eUn, x_eCall, x_eMS, x_asStr, x_aNil, x_aCons, x_eTup, x_eLst, x_eIf, x_eNot, x_eAnd, x_eOr, x_bAnd, x_bOr, x_bNot, x_bYes, x_eSl, x_oNone, x_oSome, asI_int, x_iSeq, x_iCall, x_gfName, x_gfTup, eLc, noX_is, Res.bind_ok, Res.bind_exc, flow_ok, flow_exc, seqK_next, seqK_ret, seqK_exc, seqK_brk, seqK_cont, loopK_next, loopK_cont, loopK_brk, loopK_ret, loopK_exc, must_ok, List.set_cons_succ, List.set_cons_zero, List.getD_cons_succ, List.getD_cons_zero, vD_some, if_true, if_false, Bool.false_eq_true, reduceIte, List.map_cons, List.map_nil, List.length_cons, List.length_nil, List.cons_append, List.nil_append, List.replicate, Nat.reduceSub, Nat.reduceAdd, x_add, x_sub, x_cmp, x_eq_ii, x_ne_ii, x_int_i, x_len_t, x_len_l, x_tup_l, x_tup_t, x_list_l, x_list_t, x_dSl_t, x_dSl_l, x_items_t, x_items_l, x_tru_n, x_tru_b, x_tru_i, x_tru_t, x_tru_l, x_asB, x_is_n, x_isNot_n, isNon_n, isNon_i, isNon_s, isNon_t, isNon_l, isNon_b, Bool.not_true, Bool.not_false, List.length_map, fnE, startE, T5, i0, i1, needed_eq.2.2.2.1, ln, e, tf1, j0, q1]
    | no k =>
      rw [h2] at tf1
      have j0 : dIx (mvD "needs" (.no k)) (.int 0) = .ok (.str "needs") := rfl
      have z : ((A.length : Int) == 0) = false := by
        cases A with
        | nil => rw [List.reverse_nil, tf] at h2; cases h2
        | cons a A => exact beq_eq_false_iff_ne.mpr (by simp; omega)
      simp only [sSeq_x, x_sSet, x_sIf, x_sRet, x_sRetN, x_sPar, x_sUnp, resF_ok, x_sDrop, x_sNext, x_sBreak, x_sCont, x_sRaise, x_sAug, augK_ok, x_sFor, x_sWhile, sKill_x, x_wipe0, x_wipe1, x_evL0, x_evL1, x_setL0, x_setL1, x_eVar, x_eC, x_eOp, x_eUn, x_eCall, x_eMS, x_asStr, x_aNil, x_aCons, x_eTup, x_eLst, x_eIf, x_eNot, x_eAnd, x_eOr, x_bAnd, x_bOr, x_bNot, x_bYes, x_eSl, x_oNone, x_oSome, asI_int, x_iSeq, x_iCall, x_gfName, x_gfTup, eLc, noX_is, Res.bind_ok, Res.bind_exc, flow_ok, flow_exc, seqK_next, seqK_ret, seqK_exc, seqK_brk, seqK_cont, loopK_next, loopK_cont, loopK_brk, loopK_ret, loopK_exc, must_ok, List.set_cons_succ, List.set_cons_zero, List.getD_cons_succ, List.getD_cons_zero, vD_some, if_true, if_false, Bool.false_eq_true, reduceIte, List.map_cons, List.map_nil, List.length_cons, List.length_nil, List.cons_append, List.nil_append, List.replicate, Nat.reduceSub, Nat.reduceAdd, x_add, x_sub, x_cmp, x_eq_ii, x_ne_ii, x_int_i, x_len_t, x_len_l, x_tup_l, x_tup_t, x_list_l, x_list_t, x_dSl_t, x_dSl_l, x_items_t, x_items_l, x_tru_n, x_tru_b, x_tru_i, x_tru_t, x_tru_l, x_asB, x_is_n, x_isNot_n, isNon_n, isNon_i, isNon_s, isNon_t, isNon_l, isNon_b, Bool.not_true, Bool.not_false, List.length_map, fnE, startE, T5, i0, i1, needed_eq.2.2.2.1, ln, e, tf1, j0, q2, z]
theorem t6_ok (rv : ∀ Q ∈ A ++ P :: B, Vp Q) (hl : A.length + B.length ≤ 100) (s7 s8 : Option D) : ∃ s9 s10, T6 (env0 sc dsD t (A ++ P :: B) E (some (dN A.length)) s7 s8 none none none) = .next (env0 sc dsD t (A ++ P :: B) E (some (dN A.length)) s7 s8 s9 s10 none) := by
  have ln := len_row (A ++ P :: B)
  obtain ⟨p, va, vb⟩ := vA rv
  cases B with
  | nil =>
    have g : iLt ((A.length : Int) + 1) ((A ++ [P]).length : Int) = false := decide_eq_false (by simp)
    exact ⟨none, none, by simp only [sSeq_x, x_sSet, x_sIf, x_sRet, x_sRetN, x_sPar, x_sUnp, resF_ok, x_sDrop, x_sNext, x_sBreak, x_sCont, x_sRaise, x_sAug, augK_ok, x_sFor, x_sWhile, sKill_x, x_wipe0, x_wipe1, x_evL0, x_evL1, x_setL0, x_setL1, x_eVar, x_eC, x_eOp, x_eUn, x_eCall, x_eMS, x_asStr, x_aNil, x_aCons, x_eTup, x_eLst, x_eIf, x_eNot, x_eAnd, x_eOr, x_bAnd, x_bOr, x_bNot, x_bYes, x_eSl, x_oNone, x_oSome, asI_int, x_iSeq, x_iCall, x_gfName, x_gfTup, eLc, noX_is, Res.bind_ok, Res.bind_exc, flow_ok, flow_exc, seqK_next, seqK_ret, seqK_exc, seqK_brk, seqK_cont, loopK_next, loopK_cont, loopK_brk, loopK_ret, loopK_exc, must_ok, List.set_cons_succ, List.set_cons_zero, List.getD_cons_succ, List.getD_cons_zero, vD_some, if_true, if_false, Bool.false_eq_true, reduceIte, List.map_cons, List.map_nil, List.length_cons, List.length_nil, List.cons_append, List.nil_append, List.replicate, Nat.reduceSub, Nat.reduceAdd, x_add, x_sub, x_cmp, x_eq_ii, x_ne_ii, x_int_i, x_len_t, x_len_l, x_tup_l, x_tup_t, x_list_l, x_list_t, x_dSl_t, x_dSl_l, x_items_t, x_items_l, x_tru_n, x_tru_b, x_tru_i, x_tru_t, x_tru_l, x_asB, x_is_n, x_isNot_n, isNon_n, isNon_i, isNon_s, isNon_t, isNon_l, isNon_b, Bool.not_true, Bool.not_false, List.length_map, fnE, startE, T6, ln, g]⟩
  | cons S B =>
    rw [List.length_cons] at hl
    have s := vb S List.mem_cons_self
    have g : iLt ((A.length : Int) + 1) ((A ++ P :: S :: B).length : Int) = true := decide_eq_true (by simp; omega)
    have i0 := sp_ix A (S :: B) P
    have i1 := sp_ix1 A B P S
    have sw := swapped_ok p.few s.few
    have ex := exchanged_ok (A := A) (P := P) (S := S) (B := B) rv (by omega)
    have cm := commuted_ok p s
    cases h : cmO P S with
    | none =>
      rw [h] at sw ex
      obtain ⟨x, y, hc⟩ := cmD_none h
      have sw : C__law_swapped [ptD P, ptD S] = .ok .non := sw
      have ex : C_exchanged [rwD (A ++ P :: S :: B), dN A.length] = .ok (cmD P S) := ex
      rw [hc] at ex cm
      have q : dNe (.tup [.str "needs", dN x, dN y]) (.tup [.str "needs", dN x, dN y]) = .ok (.bl false) := dNe_self (okN_tup fun z hz => by
        simp only [List.mem_cons, List.not_mem_nil, or_false] at hz
        rcases hz with rfl | rfl | rfl
        · rw [ok_str]; exact wd_ok.2.1
        · exact ok_int _ _
        · exact ok_int _ _)
      exact ⟨_, _, by simp only [sSeq_x, x_sSet, x_sIf, x_sRet, x_sRetN, x_sPar, x_sUnp, resF_ok, x_sDrop, x_sNext, x_sBreak, x_sCont, x_sRaise, x_sAug, augK_ok, x_sFor, x_sWhile, sKill_x, x_wipe0, x_wipe1, x_evL0, x_evL1, x_setL0, x_setL1, x_eVar, x_eC, x_eOp, x_eUn, x_eCall, x_eMS, x_asStr, x_aNil, x_aCons, x_eTup, x_eLst, x_eIf, x_eNot, x_eAnd, x_eOr, x_bAnd, x_bOr, x_bNot, x_bYes, x_eSl, x_oNone, x_oSome, asI_int, x_iSeq, x_iCall, x_gfName, x_gfTup, eLc, noX_is, Res.bind_ok, Res.bind_exc, flow_ok, flow_exc, seqK_next, seqK_ret, seqK_exc, seqK_brk, seqK_cont, loopK_next, loopK_cont, loopK_brk, loopK_ret, loopK_exc, must_ok, List.set_cons_succ, List.set_cons_zero, List.getD_cons_succ, List.getD_cons_zero, vD_some, if_true, if_false, Bool.false_eq_true, reduceIte, List.map_cons, List.map_nil, List.length_cons, List.length_nil, List.cons_append, List.nil_append, List.replicate, Nat.reduceSub, Nat.reduceAdd, x_add, x_sub, x_cmp, x_eq_ii, x_ne_ii, x_int_i, x_len_t, x_len_l, x_tup_l, x_tup_t, x_list_l, x_list_t, x_dSl_t, x_dSl_l, x_items_t, x_items_l, x_tru_n, x_tru_b, x_tru_i, x_tru_t, x_tru_l, x_asB, x_is_n, x_isNot_n, isNon_n, isNon_i, isNon_s, isNon_t, isNon_l, isNon_b, Bool.not_true, Bool.not_false, List.length_map, fnE, startE, T6, ln, g, i0, i1, sw, ex, cm, q]; rfl⟩
    | some XY =>
      obtain ⟨X, Y⟩ := XY
      rw [h] at sw ex
      have sw : C__law_swapped [ptD P, ptD S] = .ok (.tup [ptD X, ptD Y]) := sw
      have ex : C_exchanged [rwD (A ++ P :: S :: B), dN A.length] = .ok (.tup [.str "row", rwD (A ++ X :: Y :: B)]) := ex
      obtain ⟨vx, vy⟩ := cm_vp p s h
      have ch := sp_hi A (P :: S :: B)
      have cl := sp_lo2 A B P S
      have z1 : A.length + 2 ≤ 16777216 := by omega
      have z2 : (A.map ptD ++ [ptD X, ptD Y]).length + B.length ≤ 16777216 := by simp; omega
      have em : A.map ptD ++ [ptD X, ptD Y] ++ B.map ptD = (A ++ X :: Y :: B).map ptD := by simp
      have q := dNe_self (mv_okN wd_ok.1 (m := .row (A ++ X :: Y :: B)) fun Z hz => by
        cases hz
        intro Q hQ
        simp only [List.mem_append, List.mem_cons] at hQ
        rcases hQ with hQ | rfl | rfl | hQ
        · exact va Q hQ
        · exact vx
        · exact vy
        · exact vb Q (List.mem_cons_of_mem _ hQ))
      have q : dNe (.tup [.str "row", rwD (A ++ X :: Y :: B)]) (.tup [.str "row", rwD (A ++ X :: Y :: B)]) = .ok (.bl false) := q
      exact ⟨_, _, by simp only [sSeq_x, x_sSet, x_sIf, x_sRet, x_sRetN, x_sPar, x_sUnp, resF_ok, x_sDrop, x_sNext, x_sBreak, x_sCont, x_sRaise, x_sAug, augK_ok, x_sFor, x_sWhile, sKill_x, x_wipe0, x_wipe1, x_evL0, x_evL1, x_setL0, x_setL1, x_eVar, x_eC, x_eOp, x_eUn, x_eCall, x_eMS, x_asStr, x_aNil, x_aCons, x_eTup, x_eLst, x_eIf, x_eNot, x_eAnd, x_eOr, x_bAnd, x_bOr, x_bNot, x_bYes, x_eSl, x_oNone, x_oSome, asI_int, x_iSeq, x_iCall, x_gfName, x_gfTup, eLc, noX_is, Res.bind_ok, Res.bind_exc, flow_ok, flow_exc, seqK_next, seqK_ret, seqK_exc, seqK_brk, seqK_cont, loopK_next, loopK_cont, loopK_brk, loopK_ret, loopK_exc, must_ok, List.set_cons_succ, List.set_cons_zero, List.getD_cons_succ, List.getD_cons_zero, vD_some, if_true, if_false, Bool.false_eq_true, reduceIte, List.map_cons, List.map_nil, List.length_cons, List.length_nil, List.cons_append, List.nil_append, List.replicate, Nat.reduceSub, Nat.reduceAdd, x_add, x_sub, x_cmp, x_eq_ii, x_ne_ii, x_int_i, x_len_t, x_len_l, x_tup_l, x_tup_t, x_list_l, x_list_t, x_dSl_t, x_dSl_l, x_items_t, x_items_l, x_tru_n, x_tru_b, x_tru_i, x_tru_t, x_tru_l, x_asB, x_is_n, x_isNot_n, isNon_n, isNon_i, isNon_s, isNon_t, isNon_l, isNon_b, Bool.not_true, Bool.not_false, List.length_map, fnE, startE, T6, ln, g, i0, i1, sw, ex, ch, cl, x_add_t, sl_eq, z1, z2, em, q]; rfl⟩
theorem law2_ok (rv : ∀ Q ∈ A ++ P :: B, Vp Q) (hl : A.length + B.length ≤ 5) (ht : LOk t) (hE : LOk E) (tl : t.length ≤ 12) (f : RFit t (A ++ P :: B)) (er : rb t (A ++ P :: B) = E) : B_law_2 (env0 sc dsD t (A ++ P :: B) E (some (dN A.length)) none none none none none) = .next (env0 sc dsD t (A ++ P :: B) E none none none none none none) := by
  have h1 := lte_ok rv (by omega)
  have h2 := ltf_ok rv (by omega)
  have h3 := to_end_ok rv (by omega)
  have h4 := to_front_ok rv (by omega)
  have g1 : ∀ X, te A P B = .row X → (∀ Q ∈ X, Vp Q) ∧ RFit t X ∧ rb t X = E ∧ X.length = A.length + 1 + B.length := fun X h => by
    obtain ⟨a, b, c, d⟩ := te_good t B A P X rv f h
    exact ⟨a, b, c.trans er, d⟩
  have g2 : ∀ X, tf A.reverse P B = .row X → (∀ Q ∈ X, Vp Q) ∧ RFit t X ∧ rb t X = E ∧ X.length = A.length + 1 + B.length := fun X h => by
    obtain ⟨a, b, c, d⟩ := tf_good t A.reverse B P X (by rw [List.reverse_reverse]; exact rv) (by rw [List.reverse_reverse]; exact f) h
    rw [List.reverse_reverse] at c
    rw [List.length_reverse] at d
    exact ⟨a, b, c.trans er, d⟩
  have q1 := dNe_self (mv_okN wd_ok.1 (m := te A P B) fun X h => (g1 X h).1)
  have q2 := dNe_self (mv_okN wd_ok.2.1 (m := tf A.reverse P B) fun X h => (g2 X h).1)
  have l1 := law3 (sc := sc) (dsD := dsD) (R := A ++ P :: B) ht hE tl (.inl rfl) (m := te A P B) (fun X h => ⟨(g1 X h).1, (g1 X h).2.1, (g1 X h).2.2.1, by have := (g1 X h).2.2.2; omega⟩) (some (dN A.length)) (some (mvD "needed" (te A P B))) (some (mvD "needs" (tf A.reverse P B))) none
  have l2 := law3 (sc := sc) (dsD := dsD) (R := A ++ P :: B) ht hE tl (.inr rfl) (m := tf A.reverse P B) (fun X h => ⟨(g2 X h).1, (g2 X h).2.1, (g2 X h).2.2.1, by have := (g2 X h).2.2.2; omega⟩) (some (dN A.length)) (some (mvD "needed" (te A P B))) (some (mvD "needs" (tf A.reverse P B))) none
  have k3 := t3_ok (sc := sc) (dsD := dsD) (t := t) (E := E) rv (by omega) (fun X h => (g1 X h).1) (some (mvD "needs" (tf A.reverse P B))) none
  have k5 := t5_ok (sc := sc) (dsD := dsD) (t := t) (E := E) rv (by omega) (fun X h => ⟨(g1 X h).1, (g1 X h).2.2.2⟩) (some (mvD "needs" (tf A.reverse P B))) none
  obtain ⟨s9, s10, k6⟩ := t6_ok (sc := sc) (dsD := dsD) (t := t) (E := E) rv (by omega) (some (mvD "needed" (te A P B))) (some (mvD "needs" (tf A.reverse P B)))
  rw [law2_eq]
  generalize te A P B = m1 at *
  generalize tf A.reverse P B = m2 at *
  simp only [sSeq_x, x_sSet, x_sIf, x_sRet, x_sRetN, x_sPar, x_sUnp, resF_ok, x_sDrop, x_sNext, x_sBreak, x_sCont, x_sRaise, x_sAug, augK_ok, x_sFor, x_sWhile, sKill_x, x_wipe0, x_wipe1, x_evL0, x_evL1, x_setL0, x_setL1, x_eVar, x_eC, x_eOp, x_eUn, x_eCall, x_eMS, x_asStr, x_aNil, x_aCons, x_eTup, x_eLst, x_eIf, x_eNot, x_eAnd, x_eOr, x_bAnd, x_bOr, x_bNot, x_bYes, x_eSl, x_oNone, x_oSome, asI_int, x_iSeq, x_iCall, x_gfName, x_gfTup, eLc, noX_is, Res.bind_ok, Res.bind_exc, flow_ok, flow_exc, seqK_next, seqK_ret, seqK_exc, seqK_brk, seqK_cont, loopK_next, loopK_cont, loopK_brk, loopK_ret, loopK_exc, must_ok, List.set_cons_succ, List.set_cons_zero, List.getD_cons_succ, List.getD_cons_zero, vD_some, if_true, if_false, Bool.false_eq_true, reduceIte, List.map_cons, List.map_nil, List.length_cons, List.length_nil, List.cons_append, List.nil_append, List.replicate, Nat.reduceSub, Nat.reduceAdd, x_add, x_sub, x_cmp, x_eq_ii, x_ne_ii, x_int_i, x_len_t, x_len_l, x_tup_l, x_tup_t, x_list_l, x_list_t, x_dSl_t, x_dSl_l, x_items_t, x_items_l, x_tru_n, x_tru_b, x_tru_i, x_tru_t, x_tru_l, x_asB, x_is_n, x_isNot_n, isNon_n, isNon_i, isNon_s, isNon_t, isNon_l, isNon_b, Bool.not_true, Bool.not_false, List.length_map, fnE, startE, h1, h2, h3, h4, q1, q2, k3, forE_cons, forE_nil, l1, l2, k5, k6]
end
theorem for_keep {gf : Px.Env → D → Res Px.Env} {F : SF} {ρ : Px.Env} : ∀ {ds : List D}, (∀ d ∈ ds, ∃ ρ1, gf ρ d = .ok ρ1 ∧ F ρ1 = .next ρ) → forE gf F ds ρ = .next ρ
  | [], _ => rfl
  | d :: ds, h => by
    obtain ⟨ρ1, e1, e2⟩ := h d List.mem_cons_self
    rw [forE_cons, e1, must_ok, e2, loopK_next]
    exact for_keep fun x hx => h x (List.mem_cons_of_mem _ hx)
theorem split_at {α : Type} : ∀ {R : List α} {i : Nat}, i < R.length → ∃ A P B, R = A ++ P :: B ∧ A.length = i
  | [], _, h => absurd h (Nat.not_lt_zero _)
  | P :: R, 0, _ => ⟨[], P, R, rfl, rfl⟩
  | Q :: R, i + 1, h => by
    obtain ⟨A, P, B, e, l⟩ := split_at (R := R) (i := i) (by simpa using h)
    exact ⟨Q :: A, P, B, by rw [e]; rfl, by rw [List.length_cons, l]⟩
section
variable {sc dsD : D} {t : List Nat} {R : List Patch} {E : List Nat}
theorem law1_loop : ∀ (S : List Patch) (b : List Nat), (∀ P ∈ S, Vp P) → RFit b S → b.length + 10000 * S.length ≤ 90000 → forE (gfName 5) B_law_1 (S.map ptD) (env0 sc dsD t R b none none none none none none) = .next (env0 sc dsD t R (rb b S) none none none none none none)
  | [], b, _, _, _ => rfl
  | P :: S, b, h, f, hl => by
    have p := h P List.mem_cons_self
    rw [List.length_cons] at hl
    have hpl := p.len b
    have e := behind_ok (t := b) (P := P) (by omega) p f.1
    have ih := law1_loop S (app b 0 P) (fun Q hq => h Q (List.mem_cons_of_mem _ hq)) f.2 (by omega)
    have st : B_law_1 [some sc, some dsD, some (txD t), some (rwD R), some (txD b), some (ptD P), none, none, none, none, none, none, none, none, none, none, none] = .next (env0 sc dsD t R (app b 0 P) none none none none none none) := by simp only [sSeq_x, x_sSet, x_sIf, x_sRet, x_sRetN, x_sPar, x_sUnp, resF_ok, x_sDrop, x_sNext, x_sBreak, x_sCont, x_sRaise, x_sAug, augK_ok, x_sFor, x_sWhile, sKill_x, x_wipe0, x_wipe1, x_evL0, x_evL1, x_setL0, x_setL1, x_eVar, x_eC, x_eOp, x_eUn, x_eCall, x_eMS, x_asStr, x_aNil, x_aCons, x_eTup, x_eLst, x_eIf, x_eNot, x_eAnd, x_eOr, x_bAnd, x_bOr, x_bNot, x_bYes, x_eSl, x_oNone, x_oSome, asI_int, x_iSeq, x_iCall, x_gfName, x_gfTup, eLc, noX_is, Res.bind_ok, Res.bind_exc, flow_ok, flow_exc, seqK_next, seqK_ret, seqK_exc, seqK_brk, seqK_cont, loopK_next, loopK_cont, loopK_brk, loopK_ret, loopK_exc, must_ok, List.set_cons_succ, List.set_cons_zero, List.getD_cons_succ, List.getD_cons_zero, vD_some, if_true, if_false, Bool.false_eq_true, reduceIte, List.map_cons, List.map_nil, List.length_cons, List.length_nil, List.cons_append, List.nil_append, List.replicate, Nat.reduceSub, Nat.reduceAdd, x_add, x_sub, x_cmp, x_eq_ii, x_ne_ii, x_int_i, x_len_t, x_len_l, x_tup_l, x_tup_t, x_list_l, x_list_t, x_dSl_t, x_dSl_l, x_items_t, x_items_l, x_tru_n, x_tru_b, x_tru_i, x_tru_t, x_tru_l, x_asB, x_is_n, x_isNot_n, isNon_n, isNon_i, isNon_s, isNon_t, isNon_l, isNon_b, Bool.not_true, Bool.not_false, List.length_map, fnE, startE, B_law_1, e]
    rw [List.map_cons, forE_cons, rb_cons, ← ih]
    simp only [sSeq_x, x_sSet, x_sIf, x_sRet, x_sRetN, x_sPar, x_sUnp, resF_ok, x_sDrop, x_sNext, x_sBreak, x_sCont, x_sRaise, x_sAug, augK_ok, x_sFor, x_sWhile, sKill_x, x_wipe0, x_wipe1, x_evL0, x_evL1, x_setL0, x_setL1, x_eVar, x_eC, x_eOp, x_eUn, x_eCall, x_eMS, x_asStr, x_aNil, x_aCons, x_eTup, x_eLst, x_eIf, x_eNot, x_eAnd, x_eOr, x_bAnd, x_bOr, x_bNot, x_bYes, x_eSl, x_oNone, x_oSome, asI_int, x_iSeq, x_iCall, x_gfName, x_gfTup, eLc, noX_is, Res.bind_ok, Res.bind_exc, flow_ok, flow_exc, seqK_next, seqK_ret, seqK_exc, seqK_brk, seqK_cont, loopK_next, loopK_cont, loopK_brk, loopK_ret, loopK_exc, must_ok, List.set_cons_succ, List.set_cons_zero, List.getD_cons_succ, List.getD_cons_zero, vD_some, if_true, if_false, Bool.false_eq_true, reduceIte, List.map_cons, List.map_nil, List.length_cons, List.length_nil, List.cons_append, List.nil_append, List.replicate, Nat.reduceSub, Nat.reduceAdd, x_add, x_sub, x_cmp, x_eq_ii, x_ne_ii, x_int_i, x_len_t, x_len_l, x_tup_l, x_tup_t, x_list_l, x_list_t, x_dSl_t, x_dSl_l, x_items_t, x_items_l, x_tru_n, x_tru_b, x_tru_i, x_tru_t, x_tru_l, x_asB, x_is_n, x_isNot_n, isNon_n, isNon_i, isNon_s, isNon_t, isNon_l, isNon_b, Bool.not_true, Bool.not_false, List.length_map, fnE, startE, st]
abbrev env1 (sc dsD : D) (t : List Nat) (R : List Patch) (E O : List Nat) (s12 s13 s14 s15 s16 : Option D) : Px.Env := [some sc, some dsD, some (txD t), some (rwD R), some (txD E), none, none, none, none, none, none, some (txD O), s12, s13, s14, s15, s16]
theorem four : dNe .non (.int (-1)) = .ok (.bl true) ∧ dEq .non (.int (-1)) = .ok (.bl false) ∧ dNe .non .non = .ok (.bl false) ∧ dEq (.str "none") (.str "fit") = .ok (.bl false) ∧ dEq (.str "fit") (.str "fit") = .ok (.bl true) ∧ dNe (.bl true) (.bl true) = .ok (.bl false) ∧ dNe (.bl false) (.bl false) = .ok (.bl false) ∧ dNe (.str "patch") (.str "patch") = .ok (.bl false) := ⟨by kernel_rfl, by kernel_rfl, by kernel_rfl, by kernel_rfl, by kernel_rfl, by kernel_rfl, by kernel_rfl, by kernel_rfl⟩
variable {O : List Nat}
theorem law4_row {one : List Nat} {S : List Patch} (h : ∀ P ∈ S, Vp P) (ht : LOk one) (hl : one.length + 10000 * S.length ≤ 90000) : B_law_4 (env1 sc dsD t R E O (some (txD one)) (some (rwD S)) none none none) = .next (env1 sc dsD t R E O none none none none none) := by
  have a := lfault_ok h ht hl
  have b := rowfault_g h ht hl
  have c := err1_row h ht hl
  cases q : rft one S 0 with
  | none =>
    rw [q] at a b c
    rw [if_pos rfl] at c
    simp only [sSeq_x, x_sSet, x_sIf, x_sRet, x_sRetN, x_sPar, x_sUnp, resF_ok, x_sDrop, x_sNext, x_sBreak, x_sCont, x_sRaise, x_sAug, augK_ok, x_sFor, x_sWhile, sKill_x, x_wipe0, x_wipe1, x_evL0, x_evL1, x_setL0, x_setL1, x_eVar, x_eC, x_eOp, x_eUn, x_eCall, x_eMS, x_asStr, x_aNil, x_aCons, x_eTup, x_eLst, x_eIf, x_eNot, x_eAnd, x_eOr, x_bAnd, x_bOr, x_bNot, x_bYes, x_eSl, x_oNone, x_oSome, asI_int, x_iSeq, x_iCall, x_gfName, x_gfTup, eLc, noX_is, Res.bind_ok, Res.bind_exc, flow_ok, flow_exc, seqK_next, seqK_ret, seqK_exc, seqK_brk, seqK_cont, loopK_next, loopK_cont, loopK_brk, loopK_ret, loopK_exc, must_ok, List.set_cons_succ, List.set_cons_zero, List.getD_cons_succ, List.getD_cons_zero, vD_some, if_true, if_false, Bool.false_eq_true, reduceIte, List.map_cons, List.map_nil, List.length_cons, List.length_nil, List.cons_append, List.nil_append, List.replicate, Nat.reduceSub, Nat.reduceAdd, x_add, x_sub, x_cmp, x_eq_ii, x_ne_ii, x_int_i, x_len_t, x_len_l, x_tup_l, x_tup_t, x_list_l, x_list_t, x_dSl_t, x_dSl_l, x_items_t, x_items_l, x_tru_n, x_tru_b, x_tru_i, x_tru_t, x_tru_l, x_asB, x_is_n, x_isNot_n, isNon_n, isNon_i, isNon_s, isNon_t, isNon_l, isNon_b, Bool.not_true, Bool.not_false, List.length_map, fnE, startE, B_law_4, a, b, c, onD, neg1, four.1, four.2.1, four.2.2.1, four.2.2.2.1, four.2.2.2.2.2.2.1]
  | some k =>
    rw [q] at a b c
    rw [if_neg (fun z => nomatch z)] at c
    have z1 : ((k : Int) == -1) = false := beq_eq_false_iff_ne.mpr (by omega)
    have z2 : ((k : Int) == k) = true := beq_self_eq_true _
    simp only [sSeq_x, x_sSet, x_sIf, x_sRet, x_sRetN, x_sPar, x_sUnp, resF_ok, x_sDrop, x_sNext, x_sBreak, x_sCont, x_sRaise, x_sAug, augK_ok, x_sFor, x_sWhile, sKill_x, x_wipe0, x_wipe1, x_evL0, x_evL1, x_setL0, x_setL1, x_eVar, x_eC, x_eOp, x_eUn, x_eCall, x_eMS, x_asStr, x_aNil, x_aCons, x_eTup, x_eLst, x_eIf, x_eNot, x_eAnd, x_eOr, x_bAnd, x_bOr, x_bNot, x_bYes, x_eSl, x_oNone, x_oSome, asI_int, x_iSeq, x_iCall, x_gfName, x_gfTup, eLc, noX_is, Res.bind_ok, Res.bind_exc, flow_ok, flow_exc, seqK_next, seqK_ret, seqK_exc, seqK_brk, seqK_cont, loopK_next, loopK_cont, loopK_brk, loopK_ret, loopK_exc, must_ok, List.set_cons_succ, List.set_cons_zero, List.getD_cons_succ, List.getD_cons_zero, vD_some, if_true, if_false, Bool.false_eq_true, reduceIte, List.map_cons, List.map_nil, List.length_cons, List.length_nil, List.cons_append, List.nil_append, List.replicate, Nat.reduceSub, Nat.reduceAdd, x_add, x_sub, x_cmp, x_eq_ii, x_ne_ii, x_int_i, x_len_t, x_len_l, x_tup_l, x_tup_t, x_list_l, x_list_t, x_dSl_t, x_dSl_l, x_items_t, x_items_l, x_tru_n, x_tru_b, x_tru_i, x_tru_t, x_tru_l, x_asB, x_is_n, x_isNot_n, isNon_n, isNon_i, isNon_s, isNon_t, isNon_l, isNon_b, Bool.not_true, Bool.not_false, List.length_map, fnE, startE, B_law_4, a, b, c, onD, neg1, z1, z2, four.2.2.2.2.1, four.2.2.2.2.2.1]
theorem law4_no {one : List Nat} {d : D} (h : NoRow d) (ht : LOk one) : B_law_4 (env1 sc dsD t R E O (some (txD one)) (some d) none none none) = .next (env1 sc dsD t R E O none none none none none) := by
  have a := h.law one
  have b := h.rf ht
  have c := err1_no h one
  have z : ((-1 : Int) == -1) = true := rfl
  simp only [sSeq_x, x_sSet, x_sIf, x_sRet, x_sRetN, x_sPar, x_sUnp, resF_ok, x_sDrop, x_sNext, x_sBreak, x_sCont, x_sRaise, x_sAug, augK_ok, x_sFor, x_sWhile, sKill_x, x_wipe0, x_wipe1, x_evL0, x_evL1, x_setL0, x_setL1, x_eVar, x_eC, x_eOp, x_eUn, x_eCall, x_eMS, x_asStr, x_aNil, x_aCons, x_eTup, x_eLst, x_eIf, x_eNot, x_eAnd, x_eOr, x_bAnd, x_bOr, x_bNot, x_bYes, x_eSl, x_oNone, x_oSome, asI_int, x_iSeq, x_iCall, x_gfName, x_gfTup, eLc, noX_is, Res.bind_ok, Res.bind_exc, flow_ok, flow_exc, seqK_next, seqK_ret, seqK_exc, seqK_brk, seqK_cont, loopK_next, loopK_cont, loopK_brk, loopK_ret, loopK_exc, must_ok, List.set_cons_succ, List.set_cons_zero, List.getD_cons_succ, List.getD_cons_zero, vD_some, if_true, if_false, Bool.false_eq_true, reduceIte, List.map_cons, List.map_nil, List.length_cons, List.length_nil, List.cons_append, List.nil_append, List.replicate, Nat.reduceSub, Nat.reduceAdd, x_add, x_sub, x_cmp, x_eq_ii, x_ne_ii, x_int_i, x_len_t, x_len_l, x_tup_l, x_tup_t, x_list_l, x_list_t, x_dSl_t, x_dSl_l, x_items_t, x_items_l, x_tru_n, x_tru_b, x_tru_i, x_tru_t, x_tru_l, x_asB, x_is_n, x_isNot_n, isNon_n, isNon_i, isNon_s, isNon_t, isNon_l, isNon_b, Bool.not_true, Bool.not_false, List.length_map, fnE, startE, B_law_4, a, b, c, neg1, z, four.2.2.2.2.2.2.2]
theorem rep4 (w : Str) : dRep (.lst [.str w]) (.int 4) = .ok (.lst [.str w, .str w, .str w, .str w]) := rfl
theorem ne4 : dNe (.lst [.str "patch", .str "patch", .str "patch", .str "patch"]) (.lst [.str "patch", .str "patch", .str "patch", .str "patch"]) = .ok (.bl false) ∧ dNe (.lst [.str "place", .str "place", .str "place", .str "place"]) (.lst [.str "place", .str "place", .str "place", .str "place"]) = .ok (.bl false) := ⟨by kernel_rfl, by kernel_rfl⟩
theorem law5 {d : D} (h : NoRow d) : B_law_5 (env1 sc dsD t R E O none none none (some d) none) = .next (env1 sc dsD t R E O none none none none none) := by
  obtain ⟨a2, a3, a4, a5⟩ := errk_no h (w := .non)
  have hb : lcE (gfName 16) bYes (eCall C__law_error (aCons (eVar 16) (aCons (eVar 15) (aCons (eC .non) aNil)))) (env1 sc dsD t R E O none none none (some d) none) [.int 2, .int 3, .int 4, .int 5] = .ok [.str "patch", .str "patch", .str "patch", .str "patch"] := lc_fun (e := fun i : Int => D.int i) (g := fun _ => .str "patch") (xs := [2, 3, 4, 5]) fun x hx => ⟨_, rfl, by
    simp only [List.mem_cons, List.not_mem_nil, or_false] at hx
    rcases hx with rfl | rfl | rfl | rfl
    · simp only [sSeq_x, x_sSet, x_sIf, x_sRet, x_sRetN, x_sPar, x_sUnp, resF_ok, x_sDrop, x_sNext, x_sBreak, x_sCont, x_sRaise, x_sAug, augK_ok, x_sFor, x_sWhile, sKill_x, x_wipe0, x_wipe1, x_evL0, x_evL1, x_setL0, x_setL1, x_eVar, x_eC, x_eOp, x_eUn, x_eCall, x_eMS, x_asStr, x_aNil, x_aCons, x_eTup, x_eLst, x_eIf, x_eNot, x_eAnd, x_eOr, x_bAnd, x_bOr, x_bNot, x_bYes, x_eSl, x_oNone, x_oSome, asI_int, x_iSeq, x_iCall, x_gfName, x_gfTup, eLc, noX_is, Res.bind_ok, Res.bind_exc, flow_ok, flow_exc, seqK_next, seqK_ret, seqK_exc, seqK_brk, seqK_cont, loopK_next, loopK_cont, loopK_brk, loopK_ret, loopK_exc, must_ok, List.set_cons_succ, List.set_cons_zero, List.getD_cons_succ, List.getD_cons_zero, vD_some, if_true, if_false, Bool.false_eq_true, reduceIte, List.map_cons, List.map_nil, List.length_cons, List.length_nil, List.cons_append, List.nil_append, List.replicate, Nat.reduceSub, Nat.reduceAdd, x_add, x_sub, x_cmp, x_eq_ii, x_ne_ii, x_int_i, x_len_t, x_len_l, x_tup_l, x_tup_t, x_list_l, x_list_t, x_dSl_t, x_dSl_l, x_items_t, x_items_l, x_tru_n, x_tru_b, x_tru_i, x_tru_t, x_tru_l, x_asB, x_is_n, x_isNot_n, isNon_n, isNon_i, isNon_s, isNon_t, isNon_l, isNon_b, Bool.not_true, Bool.not_false, List.length_map, fnE, startE, a2]
    · simp only [sSeq_x, x_sSet, x_sIf, x_sRet, x_sRetN, x_sPar, x_sUnp, resF_ok, x_sDrop, x_sNext, x_sBreak, x_sCont, x_sRaise, x_sAug, augK_ok, x_sFor, x_sWhile, sKill_x, x_wipe0, x_wipe1, x_evL0, x_evL1, x_setL0, x_setL1, x_eVar, x_eC, x_eOp, x_eUn, x_eCall, x_eMS, x_asStr, x_aNil, x_aCons, x_eTup, x_eLst, x_eIf, x_eNot, x_eAnd, x_eOr, x_bAnd, x_bOr, x_bNot, x_bYes, x_eSl, x_oNone, x_oSome, asI_int, x_iSeq, x_iCall, x_gfName, x_gfTup, eLc, noX_is, Res.bind_ok, Res.bind_exc, flow_ok, flow_exc, seqK_next, seqK_ret, seqK_exc, seqK_brk, seqK_cont, loopK_next, loopK_cont, loopK_brk, loopK_ret, loopK_exc, must_ok, List.set_cons_succ, List.set_cons_zero, List.getD_cons_succ, List.getD_cons_zero, vD_some, if_true, if_false, Bool.false_eq_true, reduceIte, List.map_cons, List.map_nil, List.length_cons, List.length_nil, List.cons_append, List.nil_append, List.replicate, Nat.reduceSub, Nat.reduceAdd, x_add, x_sub, x_cmp, x_eq_ii, x_ne_ii, x_int_i, x_len_t, x_len_l, x_tup_l, x_tup_t, x_list_l, x_list_t, x_dSl_t, x_dSl_l, x_items_t, x_items_l, x_tru_n, x_tru_b, x_tru_i, x_tru_t, x_tru_l, x_asB, x_is_n, x_isNot_n, isNon_n, isNon_i, isNon_s, isNon_t, isNon_l, isNon_b, Bool.not_true, Bool.not_false, List.length_map, fnE, startE, a3]
    · simp only [sSeq_x, x_sSet, x_sIf, x_sRet, x_sRetN, x_sPar, x_sUnp, resF_ok, x_sDrop, x_sNext, x_sBreak, x_sCont, x_sRaise, x_sAug, augK_ok, x_sFor, x_sWhile, sKill_x, x_wipe0, x_wipe1, x_evL0, x_evL1, x_setL0, x_setL1, x_eVar, x_eC, x_eOp, x_eUn, x_eCall, x_eMS, x_asStr, x_aNil, x_aCons, x_eTup, x_eLst, x_eIf, x_eNot, x_eAnd, x_eOr, x_bAnd, x_bOr, x_bNot, x_bYes, x_eSl, x_oNone, x_oSome, asI_int, x_iSeq, x_iCall, x_gfName, x_gfTup, eLc, noX_is, Res.bind_ok, Res.bind_exc, flow_ok, flow_exc, seqK_next, seqK_ret, seqK_exc, seqK_brk, seqK_cont, loopK_next, loopK_cont, loopK_brk, loopK_ret, loopK_exc, must_ok, List.set_cons_succ, List.set_cons_zero, List.getD_cons_succ, List.getD_cons_zero, vD_some, if_true, if_false, Bool.false_eq_true, reduceIte, List.map_cons, List.map_nil, List.length_cons, List.length_nil, List.cons_append, List.nil_append, List.replicate, Nat.reduceSub, Nat.reduceAdd, x_add, x_sub, x_cmp, x_eq_ii, x_ne_ii, x_int_i, x_len_t, x_len_l, x_tup_l, x_tup_t, x_list_l, x_list_t, x_dSl_t, x_dSl_l, x_items_t, x_items_l, x_tru_n, x_tru_b, x_tru_i, x_tru_t, x_tru_l, x_asB, x_is_n, x_isNot_n, isNon_n, isNon_i, isNon_s, isNon_t, isNon_l, isNon_b, Bool.not_true, Bool.not_false, List.length_map, fnE, startE, a4]
    · simp only [sSeq_x, x_sSet, x_sIf, x_sRet, x_sRetN, x_sPar, x_sUnp, resF_ok, x_sDrop, x_sNext, x_sBreak, x_sCont, x_sRaise, x_sAug, augK_ok, x_sFor, x_sWhile, sKill_x, x_wipe0, x_wipe1, x_evL0, x_evL1, x_setL0, x_setL1, x_eVar, x_eC, x_eOp, x_eUn, x_eCall, x_eMS, x_asStr, x_aNil, x_aCons, x_eTup, x_eLst, x_eIf, x_eNot, x_eAnd, x_eOr, x_bAnd, x_bOr, x_bNot, x_bYes, x_eSl, x_oNone, x_oSome, asI_int, x_iSeq, x_iCall, x_gfName, x_gfTup, eLc, noX_is, Res.bind_ok, Res.bind_exc, flow_ok, flow_exc, seqK_next, seqK_ret, seqK_exc, seqK_brk, seqK_cont, loopK_next, loopK_cont, loopK_brk, loopK_ret, loopK_exc, must_ok, List.set_cons_succ, List.set_cons_zero, List.getD_cons_succ, List.getD_cons_zero, vD_some, if_true, if_false, Bool.false_eq_true, reduceIte, List.map_cons, List.map_nil, List.length_cons, List.length_nil, List.cons_append, List.nil_append, List.replicate, Nat.reduceSub, Nat.reduceAdd, x_add, x_sub, x_cmp, x_eq_ii, x_ne_ii, x_int_i, x_len_t, x_len_l, x_tup_l, x_tup_t, x_list_l, x_list_t, x_dSl_t, x_dSl_l, x_items_t, x_items_l, x_tru_n, x_tru_b, x_tru_i, x_tru_t, x_tru_l, x_asB, x_is_n, x_isNot_n, isNon_n, isNon_i, isNon_s, isNon_t, isNon_l, isNon_b, Bool.not_true, Bool.not_false, List.length_map, fnE, startE, a5]⟩
  simp only [sSeq_x, x_sSet, x_sIf, x_sRet, x_sRetN, x_sPar, x_sUnp, resF_ok, x_sDrop, x_sNext, x_sBreak, x_sCont, x_sRaise, x_sAug, augK_ok, x_sFor, x_sWhile, sKill_x, x_wipe0, x_wipe1, x_evL0, x_evL1, x_setL0, x_setL1, x_eVar, x_eC, x_eOp, x_eUn, x_eCall, x_eMS, x_asStr, x_aNil, x_aCons, x_eTup, x_eLst, x_eIf, x_eNot, x_eAnd, x_eOr, x_bAnd, x_bOr, x_bNot, x_bYes, x_eSl, x_oNone, x_oSome, asI_int, x_iSeq, x_iCall, x_gfName, x_gfTup, eLc, noX_is, Res.bind_ok, Res.bind_exc, flow_ok, flow_exc, seqK_next, seqK_ret, seqK_exc, seqK_brk, seqK_cont, loopK_next, loopK_cont, loopK_brk, loopK_ret, loopK_exc, must_ok, List.set_cons_succ, List.set_cons_zero, List.getD_cons_succ, List.getD_cons_zero, vD_some, if_true, if_false, Bool.false_eq_true, reduceIte, List.map_cons, List.map_nil, List.length_cons, List.length_nil, List.cons_append, List.nil_append, List.replicate, Nat.reduceSub, Nat.reduceAdd, x_add, x_sub, x_cmp, x_eq_ii, x_ne_ii, x_int_i, x_len_t, x_len_l, x_tup_l, x_tup_t, x_list_l, x_list_t, x_dSl_t, x_dSl_l, x_items_t, x_items_l, x_tru_n, x_tru_b, x_tru_i, x_tru_t, x_tru_l, x_asB, x_is_n, x_isNot_n, isNon_n, isNon_i, isNon_s, isNon_t, isNon_l, isNon_b, Bool.not_true, Bool.not_false, List.length_map, fnE, startE, B_law_5, hb, rep4, ne4.1]
theorem chpl_w {w : D} (h : C_is_whole [w] = .ok (.bl false)) (m : Int) : C__check_place [w, .int m] = .exc "BadPlace" := by
  simp only [sSeq_x, x_sSet, x_sIf, x_sRet, x_sRetN, x_sPar, x_sUnp, resF_ok, x_sDrop, x_sNext, x_sBreak, x_sCont, x_sRaise, x_sAug, augK_ok, x_sFor, x_sWhile, sKill_x, x_wipe0, x_wipe1, x_evL0, x_evL1, x_setL0, x_setL1, x_eVar, x_eC, x_eOp, x_eUn, x_eCall, x_eMS, x_asStr, x_aNil, x_aCons, x_eTup, x_eLst, x_eIf, x_eNot, x_eAnd, x_eOr, x_bAnd, x_bOr, x_bNot, x_bYes, x_eSl, x_oNone, x_oSome, asI_int, x_iSeq, x_iCall, x_gfName, x_gfTup, eLc, noX_is, Res.bind_ok, Res.bind_exc, flow_ok, flow_exc, seqK_next, seqK_ret, seqK_exc, seqK_brk, seqK_cont, loopK_next, loopK_cont, loopK_brk, loopK_ret, loopK_exc, must_ok, List.set_cons_succ, List.set_cons_zero, List.getD_cons_succ, List.getD_cons_zero, vD_some, if_true, if_false, Bool.false_eq_true, reduceIte, List.map_cons, List.map_nil, List.length_cons, List.length_nil, List.cons_append, List.nil_append, List.replicate, Nat.reduceSub, Nat.reduceAdd, x_add, x_sub, x_cmp, x_eq_ii, x_ne_ii, x_int_i, x_len_t, x_len_l, x_tup_l, x_tup_t, x_list_l, x_list_t, x_dSl_t, x_dSl_l, x_items_t, x_items_l, x_tru_n, x_tru_b, x_tru_i, x_tru_t, x_tru_l, x_asB, x_is_n, x_isNot_n, isNon_n, isNon_i, isNon_s, isNon_t, isNon_l, isNon_b, Bool.not_true, Bool.not_false, List.length_map, fnE, startE, C__check_place, F__check_place, h]
theorem chpl_g {n : Nat} {m : Int} (h : m < n) : C__check_place [dN n, .int m] = .exc "BadPlace" := by
  have g : iGt (n : Int) m = true := decide_eq_true h
  simp only [sSeq_x, x_sSet, x_sIf, x_sRet, x_sRetN, x_sPar, x_sUnp, resF_ok, x_sDrop, x_sNext, x_sBreak, x_sCont, x_sRaise, x_sAug, augK_ok, x_sFor, x_sWhile, sKill_x, x_wipe0, x_wipe1, x_evL0, x_evL1, x_setL0, x_setL1, x_eVar, x_eC, x_eOp, x_eUn, x_eCall, x_eMS, x_asStr, x_aNil, x_aCons, x_eTup, x_eLst, x_eIf, x_eNot, x_eAnd, x_eOr, x_bAnd, x_bOr, x_bNot, x_bYes, x_eSl, x_oNone, x_oSome, asI_int, x_iSeq, x_iCall, x_gfName, x_gfTup, eLc, noX_is, Res.bind_ok, Res.bind_exc, flow_ok, flow_exc, seqK_next, seqK_ret, seqK_exc, seqK_brk, seqK_cont, loopK_next, loopK_cont, loopK_brk, loopK_ret, loopK_exc, must_ok, List.set_cons_succ, List.set_cons_zero, List.getD_cons_succ, List.getD_cons_zero, vD_some, if_true, if_false, Bool.false_eq_true, reduceIte, List.map_cons, List.map_nil, List.length_cons, List.length_nil, List.cons_append, List.nil_append, List.replicate, Nat.reduceSub, Nat.reduceAdd, x_add, x_sub, x_cmp, x_eq_ii, x_ne_ii, x_int_i, x_len_t, x_len_l, x_tup_l, x_tup_t, x_list_l, x_list_t, x_dSl_t, x_dSl_l, x_items_t, x_items_l, x_tru_n, x_tru_b, x_tru_i, x_tru_t, x_tru_l, x_asB, x_is_n, x_isNot_n, isNon_n, isNon_i, isNon_s, isNon_t, isNon_l, isNon_b, Bool.not_true, Bool.not_false, List.length_map, fnE, startE, C__check_place, F__check_place, whole_ok (Int.natCast_nonneg n), g]
theorem law6 {w : D} (rv : ∀ P ∈ R, Vp P) (h : ∀ m : Int, m < R.length → C__check_place [w, .int m] = .exc "BadPlace") : B_law_6 (env1 sc dsD t R E O none none none (some w) none) = .next (env1 sc dsD t R E O none none none none none) := by
  have a2 := errk_place rv (h _ (by omega))
  obtain ⟨a3, a4, a5⟩ := errk_place2 rv (h _ (by omega))
  have hb : lcE (gfName 16) bYes (eCall C__law_error (aCons (eVar 16) (aCons (eVar 3) (aCons (eVar 15) aNil)))) (env1 sc dsD t R E O none none none (some w) none) [.int 2, .int 3, .int 4, .int 5] = .ok [.str "place", .str "place", .str "place", .str "place"] := lc_fun (e := fun i : Int => D.int i) (g := fun _ => .str "place") (xs := [2, 3, 4, 5]) fun x hx => ⟨_, rfl, by
    simp only [List.mem_cons, List.not_mem_nil, or_false] at hx
    rcases hx with rfl | rfl | rfl | rfl
    · simp only [sSeq_x, x_sSet, x_sIf, x_sRet, x_sRetN, x_sPar, x_sUnp, resF_ok, x_sDrop, x_sNext, x_sBreak, x_sCont, x_sRaise, x_sAug, augK_ok, x_sFor, x_sWhile, sKill_x, x_wipe0, x_wipe1, x_evL0, x_evL1, x_setL0, x_setL1, x_eVar, x_eC, x_eOp, x_eUn, x_eCall, x_eMS, x_asStr, x_aNil, x_aCons, x_eTup, x_eLst, x_eIf, x_eNot, x_eAnd, x_eOr, x_bAnd, x_bOr, x_bNot, x_bYes, x_eSl, x_oNone, x_oSome, asI_int, x_iSeq, x_iCall, x_gfName, x_gfTup, eLc, noX_is, Res.bind_ok, Res.bind_exc, flow_ok, flow_exc, seqK_next, seqK_ret, seqK_exc, seqK_brk, seqK_cont, loopK_next, loopK_cont, loopK_brk, loopK_ret, loopK_exc, must_ok, List.set_cons_succ, List.set_cons_zero, List.getD_cons_succ, List.getD_cons_zero, vD_some, if_true, if_false, Bool.false_eq_true, reduceIte, List.map_cons, List.map_nil, List.length_cons, List.length_nil, List.cons_append, List.nil_append, List.replicate, Nat.reduceSub, Nat.reduceAdd, x_add, x_sub, x_cmp, x_eq_ii, x_ne_ii, x_int_i, x_len_t, x_len_l, x_tup_l, x_tup_t, x_list_l, x_list_t, x_dSl_t, x_dSl_l, x_items_t, x_items_l, x_tru_n, x_tru_b, x_tru_i, x_tru_t, x_tru_l, x_asB, x_is_n, x_isNot_n, isNon_n, isNon_i, isNon_s, isNon_t, isNon_l, isNon_b, Bool.not_true, Bool.not_false, List.length_map, fnE, startE, a2]
    · simp only [sSeq_x, x_sSet, x_sIf, x_sRet, x_sRetN, x_sPar, x_sUnp, resF_ok, x_sDrop, x_sNext, x_sBreak, x_sCont, x_sRaise, x_sAug, augK_ok, x_sFor, x_sWhile, sKill_x, x_wipe0, x_wipe1, x_evL0, x_evL1, x_setL0, x_setL1, x_eVar, x_eC, x_eOp, x_eUn, x_eCall, x_eMS, x_asStr, x_aNil, x_aCons, x_eTup, x_eLst, x_eIf, x_eNot, x_eAnd, x_eOr, x_bAnd, x_bOr, x_bNot, x_bYes, x_eSl, x_oNone, x_oSome, asI_int, x_iSeq, x_iCall, x_gfName, x_gfTup, eLc, noX_is, Res.bind_ok, Res.bind_exc, flow_ok, flow_exc, seqK_next, seqK_ret, seqK_exc, seqK_brk, seqK_cont, loopK_next, loopK_cont, loopK_brk, loopK_ret, loopK_exc, must_ok, List.set_cons_succ, List.set_cons_zero, List.getD_cons_succ, List.getD_cons_zero, vD_some, if_true, if_false, Bool.false_eq_true, reduceIte, List.map_cons, List.map_nil, List.length_cons, List.length_nil, List.cons_append, List.nil_append, List.replicate, Nat.reduceSub, Nat.reduceAdd, x_add, x_sub, x_cmp, x_eq_ii, x_ne_ii, x_int_i, x_len_t, x_len_l, x_tup_l, x_tup_t, x_list_l, x_list_t, x_dSl_t, x_dSl_l, x_items_t, x_items_l, x_tru_n, x_tru_b, x_tru_i, x_tru_t, x_tru_l, x_asB, x_is_n, x_isNot_n, isNon_n, isNon_i, isNon_s, isNon_t, isNon_l, isNon_b, Bool.not_true, Bool.not_false, List.length_map, fnE, startE, a3]
    · simp only [sSeq_x, x_sSet, x_sIf, x_sRet, x_sRetN, x_sPar, x_sUnp, resF_ok, x_sDrop, x_sNext, x_sBreak, x_sCont, x_sRaise, x_sAug, augK_ok, x_sFor, x_sWhile, sKill_x, x_wipe0, x_wipe1, x_evL0, x_evL1, x_setL0, x_setL1, x_eVar, x_eC, x_eOp, x_eUn, x_eCall, x_eMS, x_asStr, x_aNil, x_aCons, x_eTup, x_eLst, x_eIf, x_eNot, x_eAnd, x_eOr, x_bAnd, x_bOr, x_bNot, x_bYes, x_eSl, x_oNone, x_oSome, asI_int, x_iSeq, x_iCall, x_gfName, x_gfTup, eLc, noX_is, Res.bind_ok, Res.bind_exc, flow_ok, flow_exc, seqK_next, seqK_ret, seqK_exc, seqK_brk, seqK_cont, loopK_next, loopK_cont, loopK_brk, loopK_ret, loopK_exc, must_ok, List.set_cons_succ, List.set_cons_zero, List.getD_cons_succ, List.getD_cons_zero, vD_some, if_true, if_false, Bool.false_eq_true, reduceIte, List.map_cons, List.map_nil, List.length_cons, List.length_nil, List.cons_append, List.nil_append, List.replicate, Nat.reduceSub, Nat.reduceAdd, x_add, x_sub, x_cmp, x_eq_ii, x_ne_ii, x_int_i, x_len_t, x_len_l, x_tup_l, x_tup_t, x_list_l, x_list_t, x_dSl_t, x_dSl_l, x_items_t, x_items_l, x_tru_n, x_tru_b, x_tru_i, x_tru_t, x_tru_l, x_asB, x_is_n, x_isNot_n, isNon_n, isNon_i, isNon_s, isNon_t, isNon_l, isNon_b, Bool.not_true, Bool.not_false, List.length_map, fnE, startE, a4]
    · simp only [sSeq_x, x_sSet, x_sIf, x_sRet, x_sRetN, x_sPar, x_sUnp, resF_ok, x_sDrop, x_sNext, x_sBreak, x_sCont, x_sRaise, x_sAug, augK_ok, x_sFor, x_sWhile, sKill_x, x_wipe0, x_wipe1, x_evL0, x_evL1, x_setL0, x_setL1, x_eVar, x_eC, x_eOp, x_eUn, x_eCall, x_eMS, x_asStr, x_aNil, x_aCons, x_eTup, x_eLst, x_eIf, x_eNot, x_eAnd, x_eOr, x_bAnd, x_bOr, x_bNot, x_bYes, x_eSl, x_oNone, x_oSome, asI_int, x_iSeq, x_iCall, x_gfName, x_gfTup, eLc, noX_is, Res.bind_ok, Res.bind_exc, flow_ok, flow_exc, seqK_next, seqK_ret, seqK_exc, seqK_brk, seqK_cont, loopK_next, loopK_cont, loopK_brk, loopK_ret, loopK_exc, must_ok, List.set_cons_succ, List.set_cons_zero, List.getD_cons_succ, List.getD_cons_zero, vD_some, if_true, if_false, Bool.false_eq_true, reduceIte, List.map_cons, List.map_nil, List.length_cons, List.length_nil, List.cons_append, List.nil_append, List.replicate, Nat.reduceSub, Nat.reduceAdd, x_add, x_sub, x_cmp, x_eq_ii, x_ne_ii, x_int_i, x_len_t, x_len_l, x_tup_l, x_tup_t, x_list_l, x_list_t, x_dSl_t, x_dSl_l, x_items_t, x_items_l, x_tru_n, x_tru_b, x_tru_i, x_tru_t, x_tru_l, x_asB, x_is_n, x_isNot_n, isNon_n, isNon_i, isNon_s, isNon_t, isNon_l, isNon_b, Bool.not_true, Bool.not_false, List.length_map, fnE, startE, a5]⟩
  simp only [sSeq_x, x_sSet, x_sIf, x_sRet, x_sRetN, x_sPar, x_sUnp, resF_ok, x_sDrop, x_sNext, x_sBreak, x_sCont, x_sRaise, x_sAug, augK_ok, x_sFor, x_sWhile, sKill_x, x_wipe0, x_wipe1, x_evL0, x_evL1, x_setL0, x_setL1, x_eVar, x_eC, x_eOp, x_eUn, x_eCall, x_eMS, x_asStr, x_aNil, x_aCons, x_eTup, x_eLst, x_eIf, x_eNot, x_eAnd, x_eOr, x_bAnd, x_bOr, x_bNot, x_bYes, x_eSl, x_oNone, x_oSome, asI_int, x_iSeq, x_iCall, x_gfName, x_gfTup, eLc, noX_is, Res.bind_ok, Res.bind_exc, flow_ok, flow_exc, seqK_next, seqK_ret, seqK_exc, seqK_brk, seqK_cont, loopK_next, loopK_cont, loopK_brk, loopK_ret, loopK_exc, must_ok, List.set_cons_succ, List.set_cons_zero, List.getD_cons_succ, List.getD_cons_zero, vD_some, if_true, if_false, Bool.false_eq_true, reduceIte, List.map_cons, List.map_nil, List.length_cons, List.length_nil, List.cons_append, List.nil_append, List.replicate, Nat.reduceSub, Nat.reduceAdd, x_add, x_sub, x_cmp, x_eq_ii, x_ne_ii, x_int_i, x_len_t, x_len_l, x_tup_l, x_tup_t, x_list_l, x_list_t, x_dSl_t, x_dSl_l, x_items_t, x_items_l, x_tru_n, x_tru_b, x_tru_i, x_tru_t, x_tru_l, x_asB, x_is_n, x_isNot_n, isNon_n, isNon_i, isNon_s, isNon_t, isNon_l, isNon_b, Bool.not_true, Bool.not_false, List.length_map, fnE, startE, B_law_6, hb, rep4, ne4.2]
end
theorem err_text {R : List Patch} (rv : ∀ P ∈ R, Vp P) : C__law_error [.int 0, .lst [.str "a"], rwD R] = .ok (.str "text") ∧ C__law_error [.int 1, .lst [.str "a"], rwD R] = .ok (.str "text") := by
  have ct : C_check_texts [.lst [.lst [.str "a"]]] = .exc "BadText" := by kernel_rfl
  have e0 : C_row_fault [.lst [.str "a"], rwD R] = .exc "BadText" := by simp only [sSeq_x, x_sSet, x_sIf, x_sRet, x_sRetN, x_sPar, x_sUnp, resF_ok, x_sDrop, x_sNext, x_sBreak, x_sCont, x_sRaise, x_sAug, augK_ok, x_sFor, x_sWhile, sKill_x, x_wipe0, x_wipe1, x_evL0, x_evL1, x_setL0, x_setL1, x_eVar, x_eC, x_eOp, x_eUn, x_eCall, x_eMS, x_asStr, x_aNil, x_aCons, x_eTup, x_eLst, x_eIf, x_eNot, x_eAnd, x_eOr, x_bAnd, x_bOr, x_bNot, x_bYes, x_eSl, x_oNone, x_oSome, asI_int, x_iSeq, x_iCall, x_gfName, x_gfTup, eLc, noX_is, Res.bind_ok, Res.bind_exc, flow_ok, flow_exc, seqK_next, seqK_ret, seqK_exc, seqK_brk, seqK_cont, loopK_next, loopK_cont, loopK_brk, loopK_ret, loopK_exc, must_ok, List.set_cons_succ, List.set_cons_zero, List.getD_cons_succ, List.getD_cons_zero, vD_some, if_true, if_false, Bool.false_eq_true, reduceIte, List.map_cons, List.map_nil, List.length_cons, List.length_nil, List.cons_append, List.nil_append, List.replicate, Nat.reduceSub, Nat.reduceAdd, x_add, x_sub, x_cmp, x_eq_ii, x_ne_ii, x_int_i, x_len_t, x_len_l, x_tup_l, x_tup_t, x_list_l, x_list_t, x_dSl_t, x_dSl_l, x_items_t, x_items_l, x_tru_n, x_tru_b, x_tru_i, x_tru_t, x_tru_l, x_asB, x_is_n, x_isNot_n, isNon_n, isNon_i, isNon_s, isNon_t, isNon_l, isNon_b, Bool.not_true, Bool.not_false, List.length_map, fnE, startE, C_row_fault, F_row_fault, ct]
  have e1 : C_row_behind [.lst [.str "a"], rwD R] = .exc "BadText" := by simp only [sSeq_x, x_sSet, x_sIf, x_sRet, x_sRetN, x_sPar, x_sUnp, resF_ok, x_sDrop, x_sNext, x_sBreak, x_sCont, x_sRaise, x_sAug, augK_ok, x_sFor, x_sWhile, sKill_x, x_wipe0, x_wipe1, x_evL0, x_evL1, x_setL0, x_setL1, x_eVar, x_eC, x_eOp, x_eUn, x_eCall, x_eMS, x_asStr, x_aNil, x_aCons, x_eTup, x_eLst, x_eIf, x_eNot, x_eAnd, x_eOr, x_bAnd, x_bOr, x_bNot, x_bYes, x_eSl, x_oNone, x_oSome, asI_int, x_iSeq, x_iCall, x_gfName, x_gfTup, eLc, noX_is, Res.bind_ok, Res.bind_exc, flow_ok, flow_exc, seqK_next, seqK_ret, seqK_exc, seqK_brk, seqK_cont, loopK_next, loopK_cont, loopK_brk, loopK_ret, loopK_exc, must_ok, List.set_cons_succ, List.set_cons_zero, List.getD_cons_succ, List.getD_cons_zero, vD_some, if_true, if_false, Bool.false_eq_true, reduceIte, List.map_cons, List.map_nil, List.length_cons, List.length_nil, List.cons_append, List.nil_append, List.replicate, Nat.reduceSub, Nat.reduceAdd, x_add, x_sub, x_cmp, x_eq_ii, x_ne_ii, x_int_i, x_len_t, x_len_l, x_tup_l, x_tup_t, x_list_l, x_list_t, x_dSl_t, x_dSl_l, x_items_t, x_items_l, x_tru_n, x_tru_b, x_tru_i, x_tru_t, x_tru_l, x_asB, x_is_n, x_isNot_n, isNon_n, isNon_i, isNon_s, isNon_t, isNon_l, isNon_b, Bool.not_true, Bool.not_false, List.length_map, fnE, startE, C_row_behind, F_row_behind, chrow_ok rv, e0]
  have m0 : (("BadText" : Str) ∈ (["BadText"] : List Str)) := by decide +kernel
  constructor <;> simp only [sSeq_x, x_sSet, x_sIf, x_sRet, x_sRetN, x_sPar, x_sUnp, resF_ok, x_sDrop, x_sNext, x_sBreak, x_sCont, x_sRaise, x_sAug, augK_ok, x_sFor, x_sWhile, sKill_x, x_wipe0, x_wipe1, x_evL0, x_evL1, x_setL0, x_setL1, x_eVar, x_eC, x_eOp, x_eUn, x_eCall, x_eMS, x_asStr, x_aNil, x_aCons, x_eTup, x_eLst, x_eIf, x_eNot, x_eAnd, x_eOr, x_bAnd, x_bOr, x_bNot, x_bYes, x_eSl, x_oNone, x_oSome, asI_int, x_iSeq, x_iCall, x_gfName, x_gfTup, eLc, noX_is, Res.bind_ok, Res.bind_exc, flow_ok, flow_exc, seqK_next, seqK_ret, seqK_exc, seqK_brk, seqK_cont, loopK_next, loopK_cont, loopK_brk, loopK_ret, loopK_exc, must_ok, List.set_cons_succ, List.set_cons_zero, List.getD_cons_succ, List.getD_cons_zero, vD_some, if_true, if_false, Bool.false_eq_true, reduceIte, List.map_cons, List.map_nil, List.length_cons, List.length_nil, List.cons_append, List.nil_append, List.replicate, Nat.reduceSub, Nat.reduceAdd, x_add, x_sub, x_cmp, x_eq_ii, x_ne_ii, x_int_i, x_len_t, x_len_l, x_tup_l, x_tup_t, x_list_l, x_list_t, x_dSl_t, x_dSl_l, x_items_t, x_items_l, x_tru_n, x_tru_b, x_tru_i, x_tru_t, x_tru_l, x_asB, x_is_n, x_isNot_n, isNon_n, isNon_i, isNon_s, isNon_t, isNon_l, isNon_b, Bool.not_true, Bool.not_false, List.length_map, fnE, startE, C__law_error, F__law_error, sTry, z01, e0, e1, if_pos em4.2.2.1, pick, if_pos m0, sNx]
theorem pure_law (ns : List Int) (hn : ns.length ≤ 63) : C_law [.lst (ns.map .int)] = .ok (.bl true) := by
  obtain ⟨ds, hl, hd, eD⟩ := drawsN ns hn 130 (by omega)
  have eD : C__law_draws [.lst (ns.map .int), .int 130] = .ok (.lst (ds.map dN)) := eD
  generalize D.lst (ns.map .int) = sc at eD
  obtain ⟨t, tl, tok, eT⟩ := ltext_ok ds 0 12 (by omega) (by omega)
  have eT : C__law_text [.lst (ds.map dN), .int 0, .int 12] = .ok (txD t) := eT
  obtain ⟨O, Ol, Ook, eO⟩ := ltext_ok ds 110 12 (by omega) (by omega)
  have eO : C__law_text [.lst (ds.map dN), .int 110, .int 12] = .ok (txD O) := eO
  have ec : cut (ds.map dN) (some 16) none = (ds.drop 16).map dN := by
    rw [List.map_drop]
    exact cut_lo (ds.map dN) 16
  have i14 : dIx (.lst (ds.map dN)) (.int 14) = .ok (dN (ds.getD 14 0)) := dr_ix (n := 14) (by omega)
  generalize ds.getD 14 0 = d14 at i14
  have e5 : (1 : Int) + ((d14 : Int) % 5) = ((1 + d14 % 5 : Nat) : Int) := by omega
  have h5 : 1 + d14 % 5 ≤ 5 ∧ 1 ≤ 1 + d14 % 5 := by omega
  generalize 1 + d14 % 5 = many at e5 h5
  obtain ⟨R, rw_, eR⟩ := lrow_ok (ds.drop 16) t tok (fun d h => hd d (List.mem_of_mem_drop h)) (by omega) many (by omega) (by rw [List.length_drop]; omega)
  have rv := rw_.vp
  have rl := rw_.len
  have fit := rw_.fit
  have hR : R.length ≤ 5 := by omega
  have lokE := rb_LOk rv tok
  have k1 := law1_loop (sc := sc) (dsD := .lst (ds.map dN)) (t := t) (R := R) R t rv fit (by omega)
  have rf := rowfault_g rv tok (by omega)
  rw [rft_none rv fit] at rf
  have rf : C_row_fault [txD t, rwD R] = .ok .non := rf
  have eE := rowbehind_ok rv tok (by omega) fit
  have qE := dNe_self (tx_okN (k := 59) lokE)
  have e0 := dRng1_nat R.length (by omega)
  have ln := len_row R
  have k2 : forE (gfName 6) B_law_2 ((List.range R.length).map fun i => D.int (i : Nat)) (env0 sc (.lst (ds.map dN)) t R (rb t R) none none none none none none) = .next (env0 sc (.lst (ds.map dN)) t R (rb t R) none none none none none none) := for_keep fun d hd => by
    obtain ⟨i, hi, rfl⟩ := List.mem_map.mp hd
    obtain ⟨A, P, B, rfl, rfl⟩ := split_at (List.mem_range.mp hi)
    exact ⟨_, rfl, law2_ok rv (by simp at hR; omega) tok lokE tl fit rfl⟩
  have c1 : cut (R.map ptD) none (some 1) = (R.take 1).map ptD := by rw [List.map_take]; exact cut_hi (R.map ptD) 1
  have rv1 : ∀ P ∈ R.take 1, Vp P := fun P h => rv P (List.mem_of_mem_take h)
  have tk1 : (R.take 1).length ≤ 1 := by rw [List.length_take]; omega
  have nn : NoRow (.tup (R.map ptD ++ [.non])) := norow_app rv .non (by kernel_rfl) (by kernel_rfl)
  have nb : NoRow (.tup (R.map ptD ++ [bhk])) := norow_app rv bhk (by kernel_rfl) (by kernel_rfl)
  have n1 : NoRow (.tup [.int 1]) := norow_app (R := []) (fun P h => nomatch h) (.int 1) (by kernel_rfl) (by kernel_rfl)
  have k4 : forE (gfTup [12, 13]) B_law_4 [.tup [txD O, rwD R], .tup [txD t, .tup (R.map ptD).reverse], .tup [txD t, .tup (R.map ptD ++ (R.take 1).map ptD)], .tup [txD t, .lst (R.map ptD)], .tup [txD t, .non], .tup [txD t, .tup (R.map ptD ++ [.non])], .tup [txD t, .tup []]] (env1 sc (.lst (ds.map dN)) t R (rb t R) O none none none none none) = .next (env1 sc (.lst (ds.map dN)) t R (rb t R) O none none none none none) := for_keep fun d hd => by
    simp only [List.mem_cons, List.not_mem_nil, or_false] at hd
    rcases hd with rfl | rfl | rfl | rfl | rfl | rfl | rfl
    · exact ⟨_, rfl, law4_row rv Ook (by omega)⟩
    · rw [← List.map_reverse]
      exact ⟨_, rfl, law4_row (S := R.reverse) (fun P h => rv P (List.mem_reverse.mp h)) tok (by simp; omega)⟩
    · rw [← List.map_append]
      exact ⟨_, rfl, law4_row (S := R ++ R.take 1) (fun P h => (List.mem_append.mp h).elim (rv P) (rv1 P)) tok (by rw [List.length_append]; omega)⟩
    · exact ⟨_, rfl, law4_no (norow_l _) tok⟩
    · exact ⟨_, rfl, law4_no norow_n tok⟩
    · exact ⟨_, rfl, law4_no nn tok⟩
    · exact ⟨_, rfl, law4_row (S := []) (fun P h => nomatch h) tok (by simp; omega)⟩
  have k5 : forE (gfName 15) B_law_5 [.non, .lst (R.map ptD), .tup (R.map ptD ++ [bhk]), .tup [.int 1]] (env1 sc (.lst (ds.map dN)) t R (rb t R) O none none none none none) = .next (env1 sc (.lst (ds.map dN)) t R (rb t R) O none none none none none) := for_keep fun d hd => by
    simp only [List.mem_cons, List.not_mem_nil, or_false] at hd
    rcases hd with rfl | rfl | rfl | rfl
    · exact ⟨_, rfl, law5 norow_n⟩
    · exact ⟨_, rfl, law5 (norow_l _)⟩
    · exact ⟨_, rfl, law5 nb⟩
    · exact ⟨_, rfl, law5 n1⟩
  have k6 : forE (gfName 15) B_law_6 [.int (-1), .int (R.length : Int), .bl true, .non, .str "0"] (env1 sc (.lst (ds.map dN)) t R (rb t R) O none none none none none) = .next (env1 sc (.lst (ds.map dN)) t R (rb t R) O none none none none none) := for_keep fun d hd => by
    simp only [List.mem_cons, List.not_mem_nil, or_false] at hd
    rcases hd with rfl | rfl | rfl | rfl | rfl
    · exact ⟨_, rfl, law6 rv fun m _ => chpl_w (by kernel_rfl) m⟩
    · exact ⟨_, rfl, law6 rv fun m hm => chpl_g hm⟩
    · exact ⟨_, rfl, law6 rv fun m _ => chpl_w (by kernel_rfl) m⟩
    · exact ⟨_, rfl, law6 rv fun m _ => chpl_w (by kernel_rfl) m⟩
    · exact ⟨_, rfl, law6 rv fun m _ => chpl_w (by kernel_rfl) m⟩
  have e1 : (R.length : Int) - 1 = ((R.length - 1 : Nat) : Int) := by omega
  have ep := errk_place (w := .int ((R.length : Int) - 1)) rv (by rw [e1]; exact chpl_g (by omega))
  have qp : dEq (.str "place") (.str "place") = .ok (.bl true) := by kernel_rfl
  have qt : dEq (.str "text") (.str "text") = .ok (.bl true) := by kernel_rfl
  obtain ⟨x0, x1⟩ := err_text rv
  have hb : lcE (gfName 16) bYes (eCall C__law_error (aCons (eVar 16) (aCons (eLst (aCons (eC (.str "a")) aNil)) (aCons (eVar 3) aNil)))) (env1 sc (.lst (ds.map dN)) t R (rb t R) O none none none none none) [.int 0, .int 1] = .ok [.str "text", .str "text"] := lc_fun (e := fun i : Int => D.int i) (g := fun _ => .str "text") (xs := [0, 1]) fun x hx => ⟨_, rfl, by
    simp only [List.mem_cons, List.not_mem_nil, or_false] at hx
    rcases hx with rfl | rfl
    · simp only [sSeq_x, x_sSet, x_sIf, x_sRet, x_sRetN, x_sPar, x_sUnp, resF_ok, x_sDrop, x_sNext, x_sBreak, x_sCont, x_sRaise, x_sAug, augK_ok, x_sFor, x_sWhile, sKill_x, x_wipe0, x_wipe1, x_evL0, x_evL1, x_setL0, x_setL1, x_eVar, x_eC, x_eOp, x_eUn, x_eCall, x_eMS, x_asStr, x_aNil, x_aCons, x_eTup, x_eLst, x_eIf, x_eNot, x_eAnd, x_eOr, x_bAnd, x_bOr, x_bNot, x_bYes, x_eSl, x_oNone, x_oSome, asI_int, x_iSeq, x_iCall, x_gfName, x_gfTup, eLc, noX_is, Res.bind_ok, Res.bind_exc, flow_ok, flow_exc, seqK_next, seqK_ret, seqK_exc, seqK_brk, seqK_cont, loopK_next, loopK_cont, loopK_brk, loopK_ret, loopK_exc, must_ok, List.set_cons_succ, List.set_cons_zero, List.getD_cons_succ, List.getD_cons_zero, vD_some, if_true, if_false, Bool.false_eq_true, reduceIte, List.map_cons, List.map_nil, List.length_cons, List.length_nil, List.cons_append, List.nil_append, List.replicate, Nat.reduceSub, Nat.reduceAdd, x_add, x_sub, x_cmp, x_eq_ii, x_ne_ii, x_int_i, x_len_t, x_len_l, x_tup_l, x_tup_t, x_list_l, x_list_t, x_dSl_t, x_dSl_l, x_items_t, x_items_l, x_tru_n, x_tru_b, x_tru_i, x_tru_t, x_tru_l, x_asB, x_is_n, x_isNot_n, isNon_n, isNon_i, isNon_s, isNon_t, isNon_l, isNon_b, Bool.not_true, Bool.not_false, List.length_map, fnE, startE, x0]
    · simp only [sSeq_x, x_sSet, x_sIf, x_sRet, x_sRetN, x_sPar, x_sUnp, resF_ok, x_sDrop, x_sNext, x_sBreak, x_sCont, x_sRaise, x_sAug, augK_ok, x_sFor, x_sWhile, sKill_x, x_wipe0, x_wipe1, x_evL0, x_evL1, x_setL0, x_setL1, x_eVar, x_eC, x_eOp, x_eUn, x_eCall, x_eMS, x_asStr, x_aNil, x_aCons, x_eTup, x_eLst, x_eIf, x_eNot, x_eAnd, x_eOr, x_bAnd, x_bOr, x_bNot, x_bYes, x_eSl, x_oNone, x_oSome, asI_int, x_iSeq, x_iCall, x_gfName, x_gfTup, eLc, noX_is, Res.bind_ok, Res.bind_exc, flow_ok, flow_exc, seqK_next, seqK_ret, seqK_exc, seqK_brk, seqK_cont, loopK_next, loopK_cont, loopK_brk, loopK_ret, loopK_exc, must_ok, List.set_cons_succ, List.set_cons_zero, List.getD_cons_succ, List.getD_cons_zero, vD_some, if_true, if_false, Bool.false_eq_true, reduceIte, List.map_cons, List.map_nil, List.length_cons, List.length_nil, List.cons_append, List.nil_append, List.replicate, Nat.reduceSub, Nat.reduceAdd, x_add, x_sub, x_cmp, x_eq_ii, x_ne_ii, x_int_i, x_len_t, x_len_l, x_tup_l, x_tup_t, x_list_l, x_list_t, x_dSl_t, x_dSl_l, x_items_t, x_items_l, x_tru_n, x_tru_b, x_tru_i, x_tru_t, x_tru_l, x_asB, x_is_n, x_isNot_n, isNon_n, isNon_i, isNon_s, isNon_t, isNon_l, isNon_b, Bool.not_true, Bool.not_false, List.length_map, fnE, startE, x1]⟩
  have ix : dIx (.lst [.str "text", .str "text"]) (.int 0) = .ok (.str "text") := rfl
  have zR : R.length + 1 ≤ 16777216 := by omega
  have zR2 : R.length + (R.take 1).length ≤ 16777216 := by omega
  have rev_ : dRev (rwD R) = .ok (.tup (R.map ptD).reverse) := rfl
  simp only [sSeq_x, x_sSet, x_sIf, x_sRet, x_sRetN, x_sPar, x_sUnp, resF_ok, x_sDrop, x_sNext, x_sBreak, x_sCont, x_sRaise, x_sAug, augK_ok, x_sFor, x_sWhile, sKill_x, x_wipe0, x_wipe1, x_evL0, x_evL1, x_setL0, x_setL1, x_eVar, x_eC, x_eOp, x_eUn, x_eCall, x_eMS, x_asStr, x_aNil, x_aCons, x_eTup, x_eLst, x_eIf, x_eNot, x_eAnd, x_eOr, x_bAnd, x_bOr, x_bNot, x_bYes, x_eSl, x_oNone, x_oSome, asI_int, x_iSeq, x_iCall, x_gfName, x_gfTup, eLc, noX_is, Res.bind_ok, Res.bind_exc, flow_ok, flow_exc, seqK_next, seqK_ret, seqK_exc, seqK_brk, seqK_cont, loopK_next, loopK_cont, loopK_brk, loopK_ret, loopK_exc, must_ok, List.set_cons_succ, List.set_cons_zero, List.getD_cons_succ, List.getD_cons_zero, vD_some, if_true, if_false, Bool.false_eq_true, reduceIte, List.map_cons, List.map_nil, List.length_cons, List.length_nil, List.cons_append, List.nil_append, List.replicate, Nat.reduceSub, Nat.reduceAdd, x_add, x_sub, x_cmp, x_eq_ii, x_ne_ii, x_int_i, x_len_t, x_len_l, x_tup_l, x_tup_t, x_list_l, x_list_t, x_dSl_t, x_dSl_l, x_items_t, x_items_l, x_tru_n, x_tru_b, x_tru_i, x_tru_t, x_tru_l, x_asB, x_is_n, x_isNot_n, isNon_n, isNon_i, isNon_s, isNon_t, isNon_l, isNon_b, Bool.not_true, Bool.not_false, List.length_map, fnE, startE, C_law, F_law, eD, eT, ec, i14, x_mod _ 5 (by decide), e5, eR, k1, rf, eE, qE, e0, ln, k2, eO, rev_, c1, x_add_t, sl_eq, zR, zR2, k4, k5, neg1, k6, ep, qp, hb, ix, qt]
end K
theorem PySem.Challenge.cw_patchwright_k15_whole_rows_of_patches_holds : PySem.Challenge.rw_patchwright_k15_whole_rows_of_patches.Holds := by
  exact K.top K.pure_law
