import PyProof.Rows.All
import HandS.ForMost
import HandS.Exc
import HandS.TryOnly
import HandS.TryMany
import HandS.ExcOwn
import HandS.ExcIs
import HandS.WordsExc
import HandS.Flow
import HandS.Deep
import HandS.TupAny
import HandS.TupMul
import HandS.Wide
import HandS.IsInst
import HandS.Text
import KE.DataMinMax
import HandS.Style
import HandS.Head0
import HandS.Head1
import HandS.Head2
import HandS.HeadEnd
import HandS.HeadHook1
import HandS.EndBits
import PySem.Challenge.RW_patchwright_k08_levels_of_scripts
set_option Elab.async false
set_option linter.all false
set_option maxRecDepth 100000
set_option maxHeartbeats 4000000
set_option autoImplicit false
/-! Px: a layer over HandS: expressions and statements as functions over plain data. -/
namespace Px
open PySem PySem.Spec PyProof.Rows L2

/-- plain data -/
inductive D where
  | non
  | bl (b : Bool)
  | int (i : Int)
  | str (s : Str)
  | tup (xs : List D)
  | lst (xs : List D)
  | dic (ks vs : List D)
  | set (xs : List D)
  | exc (c : Str)
  | oth

/-- the outcome of an expression -/
inductive Res (α : Type) where
  | ok (a : α)
  | exc (c : Str)
  | err
namespace Res
def bind {α β : Type} : Res α → (α → Res β) → Res β
  | .ok a, k => k a
  | .exc c, _ => .exc c
  | .err, _ => .err
instance : Monad Res where
  pure := .ok
  bind := Res.bind
@[simp] theorem bind_ok {α β : Type} (a : α) (k : α → Res β) : (Res.ok a >>= k) = k a := id rfl
@[simp] theorem bind_exc {α β : Type} (c : Str) (k : α → Res β) : ((Res.exc c : Res α) >>= k) = .exc c := id rfl
@[simp] theorem bind_err {α β : Type} (k : α → Res β) : ((Res.err : Res α) >>= k) = .err := id rfl
@[simp] theorem pure_ok {α : Type} (a : α) : (pure a : Res α) = .ok a := id rfl
end Res

abbrev Env := List (Option D)
abbrev EF := Env → Res D
inductive Flow where
  | next (ρ : Env) | brk (ρ : Env) | cont (ρ : Env) | ret (d : D) | exc (c : Str) (ρ : Env) | err
abbrev SF := Env → Flow
abbrev AS := Addr → Prop

/-! ### data in the heap -/
/-- a list of the written part -/
def KL (K : PySem.W.Frag) (a : Addr) (xs : List V) : Prop :=
  ∃ (o : Obj) (its : Array Value) (n : Nat), K.lookup a = some o ∧ o.cls = .type "list" ∧ o.dict = none ∧ o.data = .seq its n ∧ its.size ≤ sizeLine ∧ Vals xs its.toList
def LsX (K : PySem.W.Frag) (ex : AS) (H : Hp) (a : Addr) (xs : List V) : Prop := (Rd H a (.lst xs) ∧ ¬ ex a) ∨ KL K a xs
theorem LsX.sq {K : PySem.W.Frag} {ex : AS} {H : Hp} {a : Addr} {xs : List V} (h : LsX K ex H a xs) : SqL K H a xs := by
  rcases h with ⟨h, _⟩ | h
  · exact .inl h
  · exact .inr h
theorem LsX.of {K : PySem.W.Frag} {ex : AS} {H : Hp} {a : Addr} {xs : List V} (h : SqL K H a xs) (n : ¬ ex a) : LsX K ex H a xs := by
  rcases h with h | h
  · exact .inl ⟨h, n⟩
  · exact .inr h

section
variable (K : PySem.W.Frag) (ex : AS) (H : Hp)
mutual
def R : D → V → Prop
  | .non, v => v = .non
  | .bl b, v => v = .bl b
  | .int i, v => v = .int i
  | .str s, v => v = .str s
  | .tup ds, v => ∃ a xs, v = .ref a ∧ (SqT K H a xs ∧ xs.length ≤ sizeLine) ∧ RL ds xs
  | .lst ds, v => ∃ a xs, v = .ref a ∧ (LsX K ex H a xs ∧ xs.length ≤ sizeLine) ∧ RL ds xs
  | .dic _ _, _ => False
  | .set _, _ => False
  | .exc _, _ => False
  | .oth, _ => False
def RL : List D → List V → Prop
  | [], vs => vs = []
  | d :: ds, vs => ∃ v r, vs = v :: r ∧ R d v ∧ RL ds r
end
end
section
variable {K : PySem.W.Frag} {ex ex' : AS} {H H' : Hp}
theorem RL.pair : ∀ {ds : List D} {vs : List V}, RL K ex H ds vs → Paired (R K ex H) ds vs
  | [], vs, h => by
    rw [RL] at h
    subst h
    exact .nil
  | d :: ds, vs, h => by
    rw [RL] at h
    obtain ⟨v, r, rfl, h1, h2⟩ := h
    exact .cons h1 (RL.pair h2)
theorem RL.of : ∀ {ds : List D} {vs : List V}, Paired (R K ex H) ds vs → RL K ex H ds vs
  | _, _, .nil => by rw [RL]
  | _, _, .cons h t => by
    rw [RL]
    exact ⟨_, _, rfl, h, RL.of t⟩
theorem RL.length {ds : List D} {vs : List V} (h : RL K ex H ds vs) : ds.length = vs.length := (RL.pair h).length
theorem Same.seqT {a : Addr} {xs : List V} (e : Same H H') (h : SqT K H a xs) : SqT K H' a xs := by
  rcases h with (h | ⟨o, h⟩) | h
  · exact .inl (.inl (e _ _ h))
  · exact .inl (.inr ⟨o, e _ _ h⟩)
  · exact .inr h
theorem Same.rd {a : Addr} {u : HO} (e : Same H H') (h : Rd H a u) : Rd H' a u := by
  rcases h with h | ⟨o, h⟩
  · exact .inl (e _ _ h)
  · exact .inr ⟨o, e _ _ h⟩
/-- what is not owned stays: sequences at addresses out of ex -/
structure Keep (ex : AS) (H H' : Hp) : Prop where
  tup : ∀ a xs, Rd H a (.tup xs) → Rd H' a (.tup xs)
  lst : ∀ a xs, ¬ ex a → Rd H a (.lst xs) → Rd H' a (.lst xs)
theorem Keep.same (e : Same H H') : Keep ex H H' := ⟨fun _ _ h => Same.rd e h, fun _ _ _ h => Same.rd e h⟩
theorem Keep.lsX (k : Keep ex H H') (m : ∀ a, ex' a → ex a ∨ H a = none) {a : Addr} {xs : List V} (h : LsX K ex H a xs) : LsX K ex' H' a xs := by
  rcases h with ⟨h, n⟩ | h
  · refine .inl ⟨k.lst _ _ n h, fun q => ?_⟩
    rcases m a q with q | q
    · exact n q
    · rcases h with h | ⟨o, h⟩
      · rw [q] at h
        cases h
      · rw [q] at h
        cases h
  · exact .inr h
theorem Keep.sqT (k : Keep ex H H') {a : Addr} {xs : List V} (h : SqT K H a xs) : SqT K H' a xs := by
  rcases h with h | h
  · exact .inl (k.tup _ _ h)
  · exact .inr h
mutual
theorem R.keep (k : Keep ex H H') (m : ∀ a, ex' a → ex a ∨ H a = none) : ∀ (d : D) {v : V}, R K ex H d v → R K ex' H' d v
  | .non, _, h => by
    rw [R] at h ⊢
    exact h
  | .bl _, _, h => by
    rw [R] at h ⊢
    exact h
  | .int _, _, h => by
    rw [R] at h ⊢
    exact h
  | .str _, _, h => by
    rw [R] at h ⊢
    exact h
  | .tup ds, _, h => by
    rw [R] at h ⊢
    obtain ⟨a, xs, e, h1, h2⟩ := h
    exact ⟨a, xs, e, ⟨k.sqT h1.1, h1.2⟩, RL.keep k m ds h2⟩
  | .lst ds, _, h => by
    rw [R] at h ⊢
    obtain ⟨a, xs, e, h1, h2⟩ := h
    exact ⟨a, xs, e, ⟨k.lsX m h1.1, h1.2⟩, RL.keep k m ds h2⟩
  | .dic _ _, _, h => by
    rw [R] at h
    exact h.elim
  | .set _, _, h => by
    rw [R] at h
    exact h.elim
  | .exc _, _, h => by
    rw [R] at h
    exact h.elim
  | .oth, _, h => by
    rw [R] at h
    exact h.elim
theorem RL.keep (k : Keep ex H H') (m : ∀ a, ex' a → ex a ∨ H a = none) : ∀ (ds : List D) {vs : List V}, RL K ex H ds vs → RL K ex' H' ds vs
  | [], _, h => by
    rw [RL] at h ⊢
    exact h
  | d :: ds, _, h => by
    rw [RL] at h ⊢
    obtain ⟨v, r, e, h1, h2⟩ := h
    exact ⟨v, r, e, R.keep k m d h1, RL.keep k m ds h2⟩
end
theorem R.same (e : Same H H') {d : D} {v : V} (h : R K ex H d v) : R K ex H' d v := R.keep (Keep.same e) (fun _ q => .inl q) d h
theorem R.less (m : ∀ a, ex' a → ex a ∨ H a = none) {d : D} {v : V} (h : R K ex H d v) : R K ex' H d v := R.keep (Keep.same (Same.refl H)) m d h

/-! ### borrowed: the topmost n levels may be owned by someone -/
def RB (K : PySem.W.Frag) (ex : AS) (H : Hp) : Nat → D → V → Prop
  | 0, d, v => R K ex H d v
  | n + 1, .lst ds, v => ∃ a xs, v = .ref a ∧ (SqL K H a xs ∧ xs.length ≤ sizeLine) ∧ Paired (RB K ex H n) ds xs
  | _ + 1, d, v => R K ex H d v
theorem RB.of : ∀ {n : Nat} {d : D} {v : V}, R K ex H d v → RB K ex H n d v
  | 0, _, _, h => h
  | n + 1, d, v, h => by
    cases d with
    | lst ds =>
      rw [R] at h
      obtain ⟨a, xs, e, h1, h2⟩ := h
      rw [RB]
      exact ⟨a, xs, e, ⟨h1.1.sq, h1.2⟩, (RL.pair h2).mono fun _ _ q => RB.of q⟩
    | _ =>
      rw [RB] <;> first | exact h | (intro _ q; cases q)
theorem RB.same (e : Same H H') : ∀ {n : Nat} {d : D} {v : V}, RB K ex H n d v → RB K ex H' n d v
  | 0, _, _, h => R.same e h
  | n + 1, d, v, h => by
    cases d with
    | lst ds =>
      rw [RB] at h ⊢
      obtain ⟨a, xs, q, h1, h2⟩ := h
      exact ⟨a, xs, q, ⟨e.seq h1.1, h1.2⟩, h2.mono fun _ _ q => RB.same e q⟩
    | _ =>
      rw [RB] at h ⊢ <;> first | exact R.same e h | (intro _ q; cases q)
theorem RB.up : ∀ {n : Nat} {d : D} {v : V}, RB K ex H n d v → RB K ex H (n + 1) d v
  | 0, _, _, h => RB.of h
  | n + 1, d, v, h => by
    cases d with
    | lst ds =>
      rw [RB] at h ⊢
      obtain ⟨a, xs, q, h1, h2⟩ := h
      exact ⟨a, xs, q, h1, h2.mono fun _ _ q => RB.up q⟩
    | _ =>
      rw [RB] at h ⊢ <;> first | exact h | (intro _ q; cases q)

/-! ### owned: the topmost k levels stand at addresses of their own -/
inductive P3 {α β γ : Type} (F : α → β → γ → Prop) : List α → List β → List γ → Prop
  | nil : P3 F [] [] []
  | cons {a : α} {b : β} {c : γ} {as : List α} {bs : List β} {cs : List γ} : F a b c → P3 F as bs cs → P3 F (a :: as) (b :: bs) (c :: cs)
theorem P3.mono {α β γ : Type} {F G : α → β → γ → Prop} (h : ∀ a b c, F a b c → G a b c) : ∀ {as : List α} {bs : List β} {cs : List γ}, P3 F as bs cs → P3 G as bs cs
  | _, _, _, .nil => .nil
  | _, _, _, .cons x t => .cons (h _ _ _ x) (P3.mono h t)
def RO (K : PySem.W.Frag) (ex : AS) (H : Hp) : Nat → D → V → List Addr → Prop
  | 0, d, v, fp => fp = [] ∧ R K ex H d v
  | k + 1, .lst ds, v, fp => ∃ a xs fps, v = .ref a ∧ (H a = some (.lst xs) ∧ xs.length ≤ sizeLine) ∧ fp = a :: fps.flatten ∧ P3 (RO K ex H k) ds xs fps
  | _ + 1, d, v, fp => fp = [] ∧ R K ex H d v
theorem RO.keep : ∀ {k : Nat} {d : D} {v : V} {fp : List Addr}, Keep ex H H' → (∀ a, ex' a → ex a ∨ H a = none) → (∀ a ∈ fp, ∀ o, H a = some o → H' a = some o) → RO K ex H k d v fp → RO K ex' H' k d v fp
  | 0, d, _, _, kp, m, _, h => by
    rw [RO] at h ⊢
    exact ⟨h.1, R.keep kp m d h.2⟩
  | k + 1, d, v, fp, kp, m, kf, h => by
    cases d with
    | lst ds =>
      rw [RO] at h ⊢
      obtain ⟨a, xs, fps, e, h1, e2, h2⟩ := h
      subst e2
      refine ⟨a, xs, fps, e, ⟨kf a List.mem_cons_self _ h1.1, h1.2⟩, rfl, ?_⟩
      have kf2 : ∀ a ∈ fps.flatten, ∀ o, H a = some o → H' a = some o := fun b hb => kf b (List.mem_cons_of_mem _ hb)
      clear h1 e kf
      induction h2 with
      | nil => exact .nil
      | cons x t ih =>
        rw [List.flatten_cons] at kf2
        exact .cons (RO.keep kp m (fun b hb => kf2 b (List.mem_append_left _ hb)) x) (ih fun b hb => kf2 b (List.mem_append_right _ hb))
    | _ =>
      rw [RO] at h ⊢ <;> first | exact ⟨h.1, R.keep kp m _ h.2⟩ | (intro _ q; cases q)
theorem RO.same (e : Same H H') {k : Nat} {d : D} {v : V} {fp : List Addr} (h : RO K ex H k d v fp) : RO K ex H' k d v fp :=
  RO.keep (Keep.same e) (fun _ q => .inl q) (fun a _ o q => e a o q) h
theorem RO.less (m : ∀ a, ex' a → ex a ∨ H a = none) {k : Nat} {d : D} {v : V} {fp : List Addr} (h : RO K ex H k d v fp) : RO K ex' H k d v fp :=
  RO.keep (Keep.same (Same.refl H)) m (fun _ _ _ q => q) h
/-- given up: nothing of it is among the owned any more -/
theorem RO.shared : ∀ {k : Nat} {d : D} {v : V} {fp : List Addr}, RO K ex H k d v fp → (∀ a, ex' a → ex a) → (∀ a ∈ fp, ¬ ex' a) → R K ex' H d v
  | 0, d, _, _, h, m, _ => by
    rw [RO] at h
    exact R.less (fun a q => .inl (m a q)) h.2
  | k + 1, d, v, fp, h, m, n => by
    cases d with
    | lst ds =>
      rw [RO] at h
      obtain ⟨a, xs, fps, e, h1, e2, h2⟩ := h
      subst e2
      rw [R]
      refine ⟨a, xs, e, ⟨.inl ⟨.inl h1.1, n a List.mem_cons_self⟩, h1.2⟩, RL.of ?_⟩
      have n2 : ∀ a ∈ fps.flatten, ¬ ex' a := fun b hb => n b (List.mem_cons_of_mem _ hb)
      clear h1 e n
      induction h2 with
      | nil => exact .nil
      | cons x t ih =>
        rw [List.flatten_cons] at n2
        exact .cons (RO.shared x m fun b hb => n2 b (List.mem_append_left _ hb)) (ih fun b hb => n2 b (List.mem_append_right _ hb))
    | _ =>
      rw [RO] at h <;> first | exact R.less (fun a q => .inl (m a q)) h.2 | (intro _ q; cases q)
theorem RO.borrow : ∀ {k : Nat} {d : D} {v : V} {fp : List Addr}, RO K ex H k d v fp → RB K ex H k d v
  | 0, _, _, _, h => by
    rw [RO] at h
    exact h.2
  | k + 1, d, v, fp, h => by
    cases d with
    | lst ds =>
      rw [RO] at h
      obtain ⟨a, xs, fps, e, h1, e2, h2⟩ := h
      rw [RB]
      refine ⟨a, xs, e, ⟨.inl (.inl h1.1), h1.2⟩, ?_⟩
      clear e2 h1 e
      induction h2 with
      | nil => exact .nil
      | cons x t ih => exact .cons (RO.borrow x) ih
    | _ =>
      rw [RO] at h <;> first | (rw [RB] <;> first | exact h.2 | (intro _ q; cases q)) | (intro _ q; cases q)
/-- what is shared anyway is owned to any depth where no list is at its top -/
theorem RO.zero {d : D} {v : V} (h : R K ex H d v) : RO K ex H 0 d v [] := ⟨rfl, h⟩
theorem RO.there : ∀ {k : Nat} {d : D} {v : V} {fp : List Addr}, RO K ex H k d v fp → ∀ a ∈ fp, H a ≠ none
  | 0, _, _, _, h, a, ha => by
    rw [RO] at h
    rw [h.1] at ha
    cases ha
  | k + 1, d, v, fp, h, a, ha => by
    cases d with
    | lst ds =>
      rw [RO] at h
      obtain ⟨b, xs, fps, e, h1, e2, h2⟩ := h
      subst e2
      rcases List.mem_cons.mp ha with rfl | ha
      · rw [h1.1]
        exact fun q => nomatch q
      · clear h1 e
        induction h2 with
        | nil => cases ha
        | cons x t ih =>
          rw [List.flatten_cons] at ha
          rcases List.mem_append.mp ha with ha | ha
          · exact RO.there x a ha
          · exact ih (List.mem_cons_of_mem _ ha) ha
    | _ =>
      rw [RO] at h <;> first | (rw [h.1] at ha; cases ha) | (intro _ q; cases q)
end
end Px

namespace Px
open PySem PySem.Spec PyProof.Rows L2

/-! ### the names' values -/
structure SI (K : PySem.W.Frag) (ex : AS) (L : List Nat) (ρ : Env) (σ : L2.St) (H : Hp) (fp : Nat → List Addr) : Prop where
  len : ρ.length = σ.length
  val : ∀ i d, ρ[i]? = some (some d) → ∃ v, σ[i]? = some (some v) ∧ RO K ex H (L.getD i 0) d v (fp i)
  nod : ∀ i, (fp i).Nodup
  dis : ∀ i j a, a ∈ fp i → a ∈ fp j → i = j
  sub : ∀ i a, a ∈ fp i → ex a
  ext : ∀ a, ex a → H a ≠ none
/-- .. in a def's body: H0 the heap at its entry, ex0 what callers own, G what loops around walk over -/
structure SS (K : PySem.W.Frag) (H0 : Hp) (ex0 : AS) (G : List (D × V)) (L : List Nat) (ρ : Env) (σ : L2.St) (H : Hp) (fp : Nat → List Addr) : Prop where
  si : SI K (fun a => (∃ i, a ∈ fp i) ∨ ex0 a) L ρ σ H fp
  own : ∀ i a, a ∈ fp i → H0 a = none
  old : ∀ a, ex0 a → H0 a ≠ none
  same : Same H0 H
  held : ∀ g ∈ G, R K (fun a => (∃ i, a ∈ fp i) ∨ ex0 a) H g.1 g.2
section
variable {K : PySem.W.Frag} {ex ex' : AS} {H H' : Hp} {L : List Nat} {ρ : Env} {σ : L2.St} {fp : Nat → List Addr}
theorem SI.same (I : SI K ex L ρ σ H fp) (e : Same H H') : SI K ex L ρ σ H' fp where
  len := I.len
  val := fun i d h => by
    obtain ⟨v, h1, h2⟩ := I.val i d h
    exact ⟨v, h1, h2.same e⟩
  nod := I.nod
  dis := I.dis
  sub := I.sub
  ext := fun a h q => by
    cases z : H a with
    | none => exact I.ext a h z
    | some o =>
      rw [e a o z] at q
      cases q
theorem new_not_ex (I : SI K ex L ρ σ H fp) {p : Addr} (h : H p = none) : ¬ ex p := fun q => I.ext p q h

/-! ### outcomes -/
/-- an outcome is met: the value's wish, or what is wanted of the exception (the class c of the module's) -/
def Out {α : Type} (X : Cx) (W : WX) (σ : L2.St) (H : Hp) (r : Res α) (P : α → Prop) : Prop :=
  match r with
  | .ok a => P a
  | .exc c => ∀ C, X.mg c = some (.ref C) → ∀ H', Same H H' → W (.ref C) none σ H'
  | .err => False
theorem Out.bind {α β : Type} {X : Cx} {W : WX} {r : Res α} {k : α → Res β} {P : β → Prop} (h : Out X W σ H (r >>= k) P) : Out X W σ H r (fun a => Out X W σ H (k a) P) := by
  cases r with
  | ok a => exact h
  | exc c => exact h
  | err => exact h
theorem Out.mono {α : Type} {X : Cx} {W : WX} {r : Res α} {P Q : α → Prop} (h : Out X W σ H r P) (m : ∀ a, P a → Q a) : Out X W σ H r Q := by
  cases r with
  | ok a => exact m a h
  | exc c => exact h
  | err => exact h
theorem Out.later {α : Type} {X : Cx} {W : WX} {r : Res α} {P : α → Prop} (h : Out X W σ H r P) (e : Same H H') : Out X W σ H' r P := by
  cases r with
  | ok a => exact h
  | exc c => exact fun C m H2 e2 => h C m H2 (e.trans e2)
  | err => exact h
/-- the value is known to be of a form -/
theorem Out.ok_iff {α : Type} {X : Cx} {W : WX} {a : α} {P : α → Prop} (h : Out X W σ H (.ok a) P) : P a := h
end

/-! ### the judgements -/
section
variable (X : Cx) (W : WX) (L : List Nat)
/-- borrowed to the depth n -/
def tB (n : Nat) (f : EF) : TE := fun σ H Q => ∃ ex ρ fp, SI X.K ex L ρ σ H fp ∧ Out X W σ H (f ρ) fun d => ∀ v H', Same H H' → RB X.K ex H' n d v → Q v H'
/-- owned to the depth k -/
def tO (k : Nat) (f : EF) : TE := fun σ H Q => ∃ ex ρ fp, SI X.K ex L ρ σ H fp ∧ Out X W σ H (f ρ) fun d => ∀ v H' fq, Same H H' → RO X.K (fun a => a ∈ fq ∨ ex a) H' k d v fq → fq.Nodup → (∀ a ∈ fq, H a = none) → Q v H'
/-- arguments, each borrowed to the depth n -/
def tAB (n m : Nat) (f : Env → Res (List D)) : TA := fun σ H Q => ∃ ex ρ fp, SI X.K ex L ρ σ H fp ∧ Out X W σ H (f ρ) fun ds => ∀ vs H', Same H H' → Paired (RB X.K ex H' n) ds vs → vs.length = m → Q vs H'
def tT (f : Env → Res Bool) : TT := fun σ H Q => ∃ ex ρ fp, SI X.K ex L ρ σ H fp ∧ Out X W σ H (f ρ) fun b => ∀ H', Same H H' → Q b H'
end
abbrev EB (X : Cx) (W : WX) (L : List Nat) (n : Nat) (e : Expr) (f : EF) : Prop := PE X e (tB X W L n f)
abbrev EO (X : Cx) (W : WX) (L : List Nat) (k : Nat) (e : Expr) (f : EF) : Prop := PE X e (tO X W L k f)
abbrev EA (X : Cx) (W : WX) (L : List Nat) (n m : Nat) (es : List Expr) (f : Env → Res (List D)) : Prop := PA X es (tAB X W L n m f)
abbrev ET (X : Cx) (W : WX) (L : List Nat) (e : Expr) (f : Env → Res Bool) : Prop := PT X e (tT X W L f)

theorem PE.imp {X : Cx} {e : Expr} {t t' : TE} (h : PE X e t) (m : ∀ σ H Q, t' σ H Q → t σ H Q) : PE X e t' := ⟨fun pins s σ H Q I q => h.run pins s σ H Q I (m σ H Q q)⟩
theorem PT.imp {X : Cx} {e : Expr} {t t' : TT} (h : PT X e t) (m : ∀ σ H Q, t' σ H Q → t σ H Q) : PT X e t' := ⟨fun pins s σ H Q I q => h.run pins s σ H Q I (m σ H Q q)⟩
theorem PW.imp {X : Cx} {e : Expr} {t t' : TT} (h : PW X e t) (m : ∀ σ H Q, t' σ H Q → t σ H Q) : PW X e t' := ⟨fun w pins s σ H Q I q => h.run w pins s σ H Q I (m σ H Q q)⟩
theorem PA.imp {X : Cx} {es : List Expr} {t t' : TA} (h : PA X es t) (m : ∀ σ H Q, t' σ H Q → t σ H Q) : PA X es t' := ⟨fun p pins s σ H Q I q => h.run p pins s σ H Q I (m σ H Q q)⟩
theorem PS.imp {X : Cx} {e : Stmt} {t t' : TS} (h : PS X e t) (m : ∀ D σ H, t' D σ H → t D σ H) : PS X e t' := ⟨fun pins s σ H D I q => h.run pins s σ H D I (m D σ H q)⟩
theorem PSs.imp {X : Cx} {e : List Stmt} {t t' : TS} (h : PSs X e t) (m : ∀ D σ H, t' D σ H → t D σ H) : PSs X e t' := ⟨fun pins s σ H D I q => h.run pins s σ H D I (m D σ H q)⟩

/-! ### changing the mode -/
section
variable {X : Cx} {W : WX} {L : List Nat} {e : Expr} {f g : EF} {n k : Nat}
theorem EO.b (h : EO X W L k e f) : EB X W L 0 e f := PE.imp h fun σ H Q ⟨ex, ρ, fp, I, o⟩ => ⟨ex, ρ, fp, I, o.mono fun d q v H' fq e r nd nw =>
  q v H' e (show R X.K ex H' d v from r.shared (fun a z => .inr z) fun a z => new_not_ex I (nw a z))⟩
theorem EB.up (h : EB X W L 0 e f) : EB X W L n e f := by
  refine PE.imp h fun σ H Q ⟨ex, ρ, fp, I, o⟩ => ⟨ex, ρ, fp, I, o.mono fun d q v H' e r => q v H' e (RB.of r)⟩
theorem EO.up (h : EO X W L k e f) : EB X W L n e f := EB.up (EO.b h)
theorem EB.o (h : EB X W L 0 e f) : EO X W L 0 e f := PE.imp h fun σ H Q ⟨ex, ρ, fp, I, o⟩ => ⟨ex, ρ, fp, I, o.mono fun d q v H' e r =>
  q v H' [] e ⟨rfl, R.less (fun a z => .inl (by
    rcases z with z | z
    · cases z
    · exact z)) r⟩ List.nodup_nil fun a z => nomatch z⟩
theorem EB.cg (h : EB X W L n e f) (m : ∀ ρ, g ρ = f ρ) : EB X W L n e g := by
  have e : g = f := funext m
  rw [e]
  exact h
end
end Px

namespace Px
open PySem PySem.Spec PyProof.Rows L2

/-! ### small facts -/
section
variable {K : PySem.W.Frag} {ex : AS} {H : Hp} {n k : Nat}
def notList : D → Bool
  | .lst _ => false
  | _ => true
theorem RO.flat {d : D} {v : V} (h : R K ex H d v) (f : notList d = true) : RO K ex H k d v [] := by
  cases k with
  | zero => exact ⟨rfl, h⟩
  | succ k =>
    cases d with
    | lst ds => cases f
    | _ => exact ⟨rfl, h⟩
theorem RB.flat {d : D} {v : V} (h : RB K ex H n d v) (f : notList d = true) : R K ex H d v := by
  cases n with
  | zero => exact h
  | succ n =>
    cases d with
    | lst ds => cases f
    | _ => exact h
theorem RB.int {i : Int} {v : V} (h : RB K ex H n (.int i) v) : v = .int i := by
  have h := RB.flat h rfl
  rw [R] at h
  exact h
theorem RB.bl {b : Bool} {v : V} (h : RB K ex H n (.bl b) v) : v = .bl b := by
  have h := RB.flat h rfl
  rw [R] at h
  exact h
theorem RB.str {b : Str} {v : V} (h : RB K ex H n (.str b) v) : v = .str b := by
  have h := RB.flat h rfl
  rw [R] at h
  exact h
theorem RB.non {v : V} (h : RB K ex H n .non v) : v = .non := by
  have h := RB.flat h rfl
  rw [R] at h
  exact h
theorem RB.tup {ds : List D} {v : V} (h : RB K ex H n (.tup ds) v) : ∃ a xs, v = .ref a ∧ SqT K H a xs ∧ xs.length ≤ sizeLine ∧ Paired (R K ex H) ds xs := by
  have h := RB.flat h rfl
  rw [R] at h
  obtain ⟨a, xs, e, h1, h2⟩ := h
  exact ⟨a, xs, e, h1.1, h1.2, RL.pair h2⟩
theorem RB.lst {ds : List D} {v : V} (h : RB K ex H (n + 1) (.lst ds) v) : ∃ a xs, v = .ref a ∧ SqL K H a xs ∧ xs.length ≤ sizeLine ∧ Paired (RB K ex H n) ds xs := by
  rw [RB] at h
  obtain ⟨a, xs, e, h1, h2⟩ := h
  exact ⟨a, xs, e, h1.1, h1.2, h2⟩
theorem R.no {v : V} : ∀ {d : D}, (match d with | .dic _ _ => True | .set _ => True | .exc _ => True | .oth => True | _ => False) → ¬ R K ex H d v
  | .dic _ _, _, h => by
    rw [R] at h
    exact h
  | .set _, _, h => by
    rw [R] at h
    exact h
  | .exc _, _, h => by
    rw [R] at h
    exact h
  | .oth, _, h => by
    rw [R] at h
    exact h
theorem Paired.get {α β : Type} {F : α → β → Prop} : ∀ {as : List α} {bs : List β} {i : Nat} {a : α}, Paired F as bs → as[i]? = some a → ∃ b, bs[i]? = some b ∧ F a b
  | _, _, _, _, .nil, e => by simp at e
  | _, _, 0, _, .cons r _, e => by simp at e; subst e; exact ⟨_, rfl, r⟩
  | _, _, i + 1, x, .cons _ t, e => by
    obtain ⟨u, h1, h2⟩ := Paired.get (i := i) (a := x) t (by simpa using e)
    exact ⟨u, by simpa using h1, h2⟩
theorem Paired.app {α β : Type} {F : α → β → Prop} : ∀ {as cs : List α} {bs ds : List β}, Paired F as bs → Paired F cs ds → Paired F (as ++ cs) (bs ++ ds)
  | _, _, _, _, .nil, s => s
  | _, _, _, _, .cons r t, s => .cons r (Paired.app t s)
theorem Paired.takeP {α β : Type} {F : α → β → Prop} : ∀ {as : List α} {bs : List β} (n : Nat), Paired F as bs → Paired F (as.take n) (bs.take n)
  | _, _, 0, _ => .nil
  | _, _, _ + 1, .nil => .nil
  | _, _, n + 1, .cons r t => .cons r (Paired.takeP n t)
theorem Paired.dropP {α β : Type} {F : α → β → Prop} : ∀ {as : List α} {bs : List β} (n : Nat), Paired F as bs → Paired F (as.drop n) (bs.drop n)
  | _, _, 0, r => r
  | _, _, _ + 1, .nil => .nil
  | _, _, n + 1, .cons _ t => Paired.dropP n t
theorem Paired.setP {α β : Type} {F : α → β → Prop} {a : α} {b : β} (r : F a b) : ∀ {as : List α} {bs : List β} (i : Nat), Paired F as bs → Paired F (as.set i a) (bs.set i b)
  | _, _, _, .nil => .nil
  | _, _, 0, .cons _ t => .cons r t
  | _, _, i + 1, .cons q t => .cons q (Paired.setP r i t)
theorem Paired.revP {α β : Type} {F : α → β → Prop} : ∀ {as : List α} {bs : List β}, Paired F as bs → Paired F as.reverse bs.reverse
  | _, _, .nil => .nil
  | _, _, .cons r t => by
    rw [List.reverse_cons, List.reverse_cons]
    exact Paired.app (Paired.revP t) (.cons r .nil)
theorem Paired.flattenP {α β : Type} {F : α → β → Prop} {as : List α} {bs : List β} (h : Paired F as bs) : ∀ m : Nat, Paired F (List.replicate m as).flatten (List.replicate m bs).flatten
  | 0 => .nil
  | m + 1 => by
    rw [List.replicate_succ, List.replicate_succ, List.flatten_cons, List.flatten_cons]
    exact Paired.app h (Paired.flattenP h m)
theorem same_upd {p : Addr} {o : HO} (h : H p = none) : Same H (upd H p o) := fun b x e => by
  rw [upd_ne (ne_of_none e h)]
  exact e
theorem P3.ofP {α β γ : Type} {F : α → β → Prop} {G : α → β → List γ → Prop} (m : ∀ a b, F a b → G a b []) : ∀ {as : List α} {bs : List β}, Paired F as bs → ∃ fps, P3 G as bs fps ∧ fps.flatten = []
  | _, _, .nil => ⟨[], .nil, rfl⟩
  | _, _, .cons r t => by
    obtain ⟨fps, h, e⟩ := P3.ofP m t
    exact ⟨[] :: fps, .cons (m _ _ r) h, by rw [List.flatten_cons, e]; rfl⟩
theorem new_less {p : Addr} (hp : H p = none) : ∀ a, (a ∈ [p] ∨ ex a) → ex a ∨ H a = none := fun a h => by
  rcases h with h | h
  · rw [List.mem_singleton.mp h]
    exact .inr hp
  · exact .inl h
/-- a new list of shared things is owned -/
theorem RO.newList {ds : List D} {xs : List V} {p : Addr} (r : Paired (R K ex H) ds xs) (hp : H p = none) (hl : xs.length ≤ sizeLine) :
    RO K (fun a => a ∈ [p] ∨ ex a) (upd H p (.lst xs)) 1 (.lst ds) (.ref p) [p] := by
  rw [RO]
  obtain ⟨fps, h, e⟩ := P3.ofP (G := RO K (fun a => a ∈ [p] ∨ ex a) (upd H p (.lst xs)) 0) (fun a b q => ⟨rfl, R.keep (Keep.same (same_upd (o := .lst xs) hp)) (new_less hp) a q⟩) r
  exact ⟨p, xs, fps, rfl, ⟨upd_same, hl⟩, by rw [e], h⟩
theorem R.newTup {ds : List D} {xs : List V} {p : Addr} (r : Paired (R K ex H) ds xs) (hp : H p = none) (hl : xs.length ≤ sizeLine) : R K ex (upd H p (.tup xs)) (.tup ds) (.ref p) := by
  rw [R]
  exact ⟨p, xs, rfl, ⟨.inl (.inl upd_same), hl⟩, RL.of (r.mono fun _ _ q => R.same (same_upd hp) q)⟩
theorem ex_nil {d : D} {v : V} (h : R K ex H d v) (f : notList d = true) : RO K (fun a => a ∈ ([] : List Addr) ∨ ex a) H k d v [] :=
  RO.flat (R.less (fun a q => .inl (by
    rcases q with q | q
    · cases q
    · exact q)) h) f
end

/-! ### expressions -/
/-- the wish for a new value, owned to the depth k -/
abbrev QO (K : PySem.W.Frag) (ex : AS) (H : Hp) (k : Nat) (Q : VK) (d : D) : Prop := ∀ v H' fq, Same H H' → RO K (fun a => a ∈ fq ∨ ex a) H' k d v fq → fq.Nodup → (∀ a ∈ fq, H a = none) → Q v H'
section
variable {K : PySem.W.Frag} {ex : AS} {H : Hp} {k : Nat} {Q : VK}
theorem QO.flat {d : D} (q : QO K ex H k Q d) {v : V} (h : R K ex H d v) (f : notList d = true) : Q v H := q v H [] (Same.refl H) (ex_nil h f) List.nodup_nil fun a z => nomatch z
theorem QO.int {i : Int} (q : QO K ex H k Q (.int i)) : Q (.int i) H := q.flat (by rw [R]) rfl
theorem QO.bl {i : Bool} (q : QO K ex H k Q (.bl i)) : Q (.bl i) H := q.flat (by rw [R]) rfl
theorem QO.str {i : Str} (q : QO K ex H k Q (.str i)) : Q (.str i) H := q.flat (by rw [R]) rfl
theorem QO.non (q : QO K ex H k Q .non) : Q .non H := q.flat (by rw [R]) rfl
theorem QO.lst {ds : List D} {xs : List V} {p : Addr} (q : QO K ex H 1 Q (.lst ds)) (r : Paired (R K ex H) ds xs) (hp : H p = none) (hl : xs.length ≤ sizeLine) : Q (.ref p) (upd H p (.lst xs)) :=
  q (.ref p) _ [p] (same_upd hp) (RO.newList r hp hl) (List.nodup_cons.mpr ⟨List.not_mem_nil, List.nodup_nil⟩) fun a z => by
    rw [List.mem_singleton.mp z]
    exact hp
theorem QO.tup {ds : List D} {xs : List V} {p : Addr} (q : QO K ex H k Q (.tup ds)) (r : Paired (R K ex H) ds xs) (hp : H p = none) (hl : xs.length ≤ sizeLine) : Q (.ref p) (upd H p (.tup xs)) :=
  q (.ref p) _ [] (same_upd hp) (ex_nil (R.newTup r hp hl) rfl) List.nodup_nil fun a z => nomatch z
end

def eVar (i : Nat) : EF := fun ρ => match ρ.getD i none with
  | some d => .ok d
  | none => .err
def eC (d : D) : EF := fun _ => .ok d
section
variable {X : Cx} {W : WX} {L : List Nat} {n k : Nat} {pos : Pos}
theorem getD_some {ρ : Env} {i : Nat} {d : D} (h : ρ.getD i none = some d) : ρ[i]? = some (some d) := by
  rw [List.getD_eq_getElem?_getD] at h
  cases e : ρ[i]? with
  | none => rw [e] at h; cases h
  | some z => rw [e] at h; exact congrArg some h
theorem RB.le {K : PySem.W.Frag} {ex : AS} {H : Hp} {j : Nat} {d : D} {v : V} (h : RB K ex H j d v) : ∀ {n : Nat}, j ≤ n → RB K ex H n d v := by
  intro n hn
  induction n with
  | zero =>
    have e : j = 0 := by omega
    rw [← e]
    exact h
  | succ n ih =>
    by_cases e : j = n + 1
    · rw [← e]
      exact h
    · exact (ih (by omega)).up
theorem eb_var {i : Nat} {x : Str} (hN : X.N[i]? = some x) (hv : Vis X.env.scope x) (hl : L.getD i 0 ≤ n) (hd : (x == ("__debug__" : Str)) = false := by decide) (hcd : (x == ("__classdict__" : Str)) = false := by decide) :
    EB X W L n (.Name x pos) (eVar i) := PE.imp (pe_var hN hv hd hcd) fun σ H Q ⟨ex, ρ, fp, I, o⟩ => by
  unfold eVar at o
  cases e : ρ.getD i none with
  | none => rw [e] at o; exact o.elim
  | some d =>
    rw [e] at o
    obtain ⟨v, h1, h2⟩ := I.val i d (getD_some e)
    exact ⟨v, h1, o v H (Same.refl H) (h2.borrow.le hl)⟩
theorem eo_int {i : Int} {j : Nat} : EO X W L k (.Constant (.int i) j pos) (eC (.int i)) := PE.imp pe_int fun σ H Q ⟨ex, ρ, fp, I, o⟩ => QO.int o
theorem eo_bl {i : Bool} {j : Nat} : EO X W L k (.Constant (.bool i) j pos) (eC (.bl i)) := PE.imp pe_bl fun σ H Q ⟨ex, ρ, fp, I, o⟩ => QO.bl o
theorem eo_str {i : Str} {j : Nat} : EO X W L k (.Constant (.str i) j pos) (eC (.str i)) := PE.imp pe_str fun σ H Q ⟨ex, ρ, fp, I, o⟩ => QO.str o
theorem eo_non {j : Nat} : EO X W L k (.Constant .none j pos) (eC .non) := PE.imp pe_non fun σ H Q ⟨ex, ρ, fp, I, o⟩ => QO.non o

/-! arguments -/
def aNil : Env → Res (List D) := fun _ => .ok []
def aCons (f : EF) (g : Env → Res (List D)) : Env → Res (List D) := fun ρ => f ρ >>= fun d => g ρ >>= fun ds => .ok (d :: ds)
variable {e : Expr} {es : List Expr} {f g : EF} {fs : Env → Res (List D)} {m : Nat}
theorem ea_nil : EA X W L n 0 [] aNil := PA.imp pa_nil fun σ H Q ⟨ex, ρ, fp, I, o⟩ => o [] H (Same.refl H) .nil rfl
theorem ea_cons (h : EB X W L n e f) (t : EA X W L n m es fs) (hs : starEach (e :: es) X.env = (false, eval e X.env) :: starEach es X.env := by rfl) : EA X W L n (m + 1) (e :: es) (aCons f fs) :=
  PA.imp (pa_cons h t hs) fun σ H Q ⟨ex, ρ, fp, I, o⟩ => by
    refine ⟨ex, ρ, fp, I, o.bind.mono fun d q v H1 e1 r1 => ⟨ex, ρ, fp, I.same e1, (q.bind.later e1).mono fun ds q2 vs H2 e2 r2 hm => ?_⟩⟩
    exact q2 (v :: vs) H2 (e1.trans e2) (.cons (r1.same e2) r2) (by rw [List.length_cons, hm])

/-! tuples, lists -/
def eTup (fs : Env → Res (List D)) : EF := fun ρ => fs ρ >>= fun ds => .ok (.tup ds)
def eLst (fs : Env → Res (List D)) : EF := fun ρ => fs ρ >>= fun ds => .ok (.lst ds)
theorem eo_tup {j : Nat} (h : EA X W L 0 m es fs) (hm : m ≤ sizeLine := by decide) : EO X W L k (.Tuple es j pos) (eTup fs) := PE.imp (pe_tup h) fun σ H Q ⟨ex, ρ, fp, I, o⟩ =>
  ⟨ex, ρ, fp, I, o.bind.mono fun ds q vs H1 e1 r1 hl => ⟨by omega, fun p hp => by
    refine QO.tup (K := X.K) (ex := ex) (k := k) (fun v H2 fq e2 ro nd nw => q v H2 fq (e1.trans e2) ro nd fun a ha => e1.free (nw a ha)) (r1 : Paired (R X.K ex H1) ds vs) hp (by omega)⟩⟩
theorem eo_lst (h : EA X W L 0 m es fs) (hm : m ≤ sizeLine := by decide) : EO X W L 1 (.List es pos) (eLst fs) := PE.imp (pe_lst h) fun σ H Q ⟨ex, ρ, fp, I, o⟩ =>
  ⟨ex, ρ, fp, I, o.bind.mono fun ds q vs H1 e1 r1 hl => ⟨by omega, fun p hp => by
    refine QO.lst (K := X.K) (ex := ex) (fun v H2 fq e2 ro nd nw => q v H2 fq (e1.trans e2) ro nd fun a ha => e1.free (nw a ha)) (r1 : Paired (R X.K ex H1) ds vs) hp (by omega)⟩⟩
theorem eo_nil : EO X W L (k + 1) (.List [] pos) (eC (.lst [])) := PE.imp (pe_lst pa_nil) fun σ H Q ⟨ex, ρ, fp, I, o⟩ => ⟨Nat.zero_le _, fun p hp =>
  o (.ref p) _ [p] (same_upd hp) ⟨p, [], [], rfl, ⟨upd_same, Nat.zero_le _⟩, rfl, .nil⟩ (List.nodup_cons.mpr ⟨List.not_mem_nil, List.nodup_nil⟩) fun a z => by
    rw [List.mem_singleton.mp z]
    exact hp⟩

/-! operators -/
/-- a binary operation does what a function over data does -/
def Op2 (X : Cx) (n m k : Nat) (f : Value → Value → Sem Value) (g : D → D → Res D) : Prop :=
  OpR X f fun x y H Q => ∃ ex d1 d2 d, (∀ a, ex a → H a ≠ none) ∧ RB X.K ex H n d1 x ∧ RB X.K ex H m d2 y ∧ g d1 d2 = .ok d ∧ QO X.K ex H k Q d
def eOp (o : D → D → Res D) (f g : EF) : EF := fun ρ => f ρ >>= fun a => g ρ >>= fun b => o a b
variable {a b c : Expr} {o o' : D → D → Res D} {n1 n2 : Nat}
theorem no_exc {α : Type} {r : Res α} {σ : L2.St} {H : Hp} {P : α → Prop} (h : Out X W σ H r P) (ne : ∀ c, r ≠ .exc c) : ∃ d, r = .ok d ∧ P d := by
  cases r with
  | ok d => exact ⟨d, rfl, h⟩
  | exc c => exact absurd rfl (ne c)
  | err => exact h.elim
/-- an operation over data that raises nothing -/
def NoX2 (o : D → D → Res D) : Prop := ∀ a b c, o a b ≠ .exc c
theorem eo_op {op : Operator} (ho : Op2 X n1 n2 k (binaryOp op) o) (nx : NoX2 o) (ha : EB X W L n1 a f) (hb : EB X W L n2 b g) : EO X W L k (.BinOp a op b pos) (eOp o f g) :=
  PE.imp (pe_op ho ha hb) fun σ H Q ⟨ex, ρ, fp, I, q⟩ => by
    refine ⟨ex, ρ, fp, I, q.bind.mono fun d1 q1 v1 H1 e1 r1 => ⟨ex, ρ, fp, I.same e1, (q1.bind.later e1).mono fun d2 q2 v2 H2 e2 r2 => ?_⟩⟩
    obtain ⟨d, ed, qd⟩ := no_exc q2 (nx d1 d2)
    exact ⟨ex, d1, d2, d, ((I.same e1).same e2).ext, r1.same e2, r2, ed, fun v H3 fq e3 ro nd nw => qd v H3 fq ((e1.trans e2).trans e3) ro nd fun a ha => (e1.trans e2).free (nw a ha)⟩
theorem eo_cmp {op : CmpOp} (ho : Op2 X n1 n2 k (compareOp op) o) (nx : NoX2 o) (ha : EB X W L n1 a f) (hb : EB X W L n2 b g) (hm : behindInMarks op b = false) : EO X W L k (.Compare a [op] [b] pos) (eOp o f g) :=
  PE.imp (pe_cmpR ho ha hb hm) fun σ H Q ⟨ex, ρ, fp, I, q⟩ => by
    refine ⟨ex, ρ, fp, I, q.bind.mono fun d1 q1 v1 H1 e1 r1 => ⟨ex, ρ, fp, I.same e1, (q1.bind.later e1).mono fun d2 q2 v2 H2 e2 r2 => ?_⟩⟩
    obtain ⟨d, ed, qd⟩ := no_exc q2 (nx d1 d2)
    exact ⟨ex, d1, d2, d, ((I.same e1).same e2).ext, r1.same e2, r2, ed, fun v H3 fq e3 ro nd nw => qd v H3 fq ((e1.trans e2).trans e3) ro nd fun a ha => (e1.trans e2).free (nw a ha)⟩
end
end Px

namespace Px
open PySem PySem.Spec PyProof.Rows L2

/-! ### data that is compared -/
mutual
def toP : D → PyData
  | .non => .none
  | .bl b => .bool b
  | .int i => .int i
  | .str s => .str s
  | .tup xs => .tuple (toPL xs)
  | .lst xs => .list (toPL xs)
  | .dic _ _ => .none
  | .set _ => .none
  | .exc _ => .none
  | .oth => .none
def toPL : List D → List PyData
  | [] => []
  | x :: xs => toP x :: toPL xs
end
mutual
/-- plain data to the depth n -/
def okN : Nat → D → Bool
  | _, .non => true
  | _, .bl _ => true
  | _, .int _ => true
  | _, .str s => PyData.strOk s
  | 0, .tup _ => false
  | n + 1, .tup xs => okL n xs
  | 0, .lst _ => false
  | n + 1, .lst xs => okL n xs
  | _, .dic _ _ => false
  | _, .set _ => false
  | _, .exc _ => false
  | _, .oth => false
def okL : Nat → List D → Bool
  | _, [] => true
  | n, x :: xs => okN n x && okL n xs
end
mutual
def eqD : D → D → Bool
  | .non, .non => true
  | .bl a, .bl b => a == b
  | .bl a, .int j => (if a then 1 else 0) == j
  | .int i, .bl b => i == (if b then 1 else 0)
  | .int i, .int j => i == j
  | .str x, .str y => x == y
  | .lst xs, .lst ys => eqDL xs ys
  | .tup xs, .tup ys => eqDL xs ys
  | _, _ => false
def eqDL : List D → List D → Bool
  | [], [] => true
  | x :: xs, y :: ys => eqD x y && eqDL xs ys
  | _, _ => false
end
theorem okL_all (n : Nat) : ∀ xs : List D, okL n xs = xs.all (okN n)
  | [] => by rw [okL, List.all_nil]
  | x :: xs => by rw [okL, List.all_cons, okL_all n xs]
mutual
theorem ok_lay : ∀ (n : Nat) (d : D), okN n d = true → (toP d).canLay0 = true ∧ (toP d).depth ≤ n
  | n, .non, _ => by simp [toP, PyData.canLay0, PyData.depth]
  | n, .bl _, _ => by simp [toP, PyData.canLay0, PyData.depth]
  | n, .int _, _ => by simp [toP, PyData.canLay0, PyData.depth]
  | n, .str _, h => by
    rw [okN] at h
    simp [toP, PyData.canLay0, PyData.depth, h]
  | 0, .tup _, h => by simp [okN] at h
  | n + 1, .tup xs, h => by
    rw [okN] at h
    obtain ⟨a, b⟩ := ok_layL n xs h
    simp only [toP, PyData.canLay0, PyData.depth]
    exact ⟨a, by omega⟩
  | 0, .lst _, h => by simp [okN] at h
  | n + 1, .lst xs, h => by
    rw [okN] at h
    obtain ⟨a, b⟩ := ok_layL n xs h
    simp only [toP, PyData.canLay0, PyData.depth]
    exact ⟨a, by omega⟩
  | n, .dic _ _, h => by simp [okN] at h
  | n, .set _, h => by simp [okN] at h
  | n, .exc _, h => by simp [okN] at h
  | n, .oth, h => by simp [okN] at h
theorem ok_layL : ∀ (n : Nat) (ds : List D), okL n ds = true → PyData.canLayAll0 (toPL ds) = true ∧ PyData.depthAll (toPL ds) ≤ n
  | n, [], _ => by simp [toPL, PyData.canLayAll0, PyData.depthAll]
  | n, d :: ds, h => by
    rw [okL, Bool.and_eq_true] at h
    obtain ⟨a, b⟩ := ok_lay n d h.1
    obtain ⟨a2, b2⟩ := ok_layL n ds h.2
    simp only [toPL, PyData.canLayAll0, PyData.depthAll, a, a2, Bool.and_self, true_and]
    omega
end
theorem ok_shaped {d : D} (h : okN 60 d = true) : SeqAt.shaped (toP d) = true := by
  obtain ⟨a, b⟩ := ok_lay 60 d h
  unfold SeqAt.shaped
  rw [a, Bool.true_and, decide_eq_true_eq]
  omega
mutual
theorem eqD_eqv : ∀ (n m : Nat) (a b : D), okN n a = true → okN m b = true → PyData.eqv (toP a) (toP b) = eqD a b
  | _, _, .non, b, _, h => by cases b <;> simp_all [toP, PyData.eqv, eqD, okN]
  | _, _, .bl _, b, _, h => by cases b <;> simp_all [toP, PyData.eqv, eqD, okN]
  | _, _, .int _, b, _, h => by cases b <;> simp_all [toP, PyData.eqv, eqD, okN]
  | _, _, .str _, b, _, h => by cases b <;> simp_all [toP, PyData.eqv, eqD, okN]
  | n, m, .tup xs, b, h1, h => by
    cases n with
    | zero => simp [okN] at h1
    | succ n =>
      cases b with
      | tup ys =>
        cases m with
        | zero => simp [okN] at h
        | succ m =>
          rw [okN] at h1 h
          rw [toP, toP, PyData.eqv, eqD]
          exact eqD_eqvL n m xs ys h1 h
      | _ => simp_all [toP, PyData.eqv, eqD, okN]
  | n, m, .lst xs, b, h1, h => by
    cases n with
    | zero => simp [okN] at h1
    | succ n =>
      cases b with
      | lst ys =>
        cases m with
        | zero => simp [okN] at h
        | succ m =>
          rw [okN] at h1 h
          rw [toP, toP, PyData.eqv, eqD]
          exact eqD_eqvL n m xs ys h1 h
      | _ => simp_all [toP, PyData.eqv, eqD, okN]
  | _, _, .dic _ _, _, h, _ => by simp [okN] at h
  | _, _, .set _, _, h, _ => by simp [okN] at h
  | _, _, .exc _, _, h, _ => by simp [okN] at h
  | _, _, .oth, _, h, _ => by simp [okN] at h
theorem eqD_eqvL : ∀ (n m : Nat) (a b : List D), okL n a = true → okL m b = true → PyData.eqvAll (toPL a) (toPL b) = eqDL a b
  | _, _, [], [], _, _ => by simp [toPL, PyData.eqvAll, eqDL]
  | _, _, [], _ :: _, _, _ => by simp [toPL, PyData.eqvAll, eqDL]
  | _, _, _ :: _, [], _, _ => by simp [toPL, PyData.eqvAll, eqDL]
  | n, m, x :: xs, y :: ys, h1, h2 => by
    rw [okL, Bool.and_eq_true] at h1 h2
    rw [toPL, toPL, PyData.eqvAll, eqDL, eqD_eqv n m x y h1.1 h2.1, eqD_eqvL n m xs ys h1.2 h2.2]
end
section
variable {K : PySem.W.Frag} {ex : AS} {H : Hp}
mutual
theorem R.dp : ∀ (d : D) {v : V}, R K ex H d v → Dp K H v (toP d)
  | .non, v, h => by
    rw [R] at h
    subst h
    rw [toP]
    exact .non
  | .bl _, v, h => by
    rw [R] at h
    subst h
    rw [toP]
    exact .bl _
  | .int _, v, h => by
    rw [R] at h
    subst h
    rw [toP]
    exact .int _
  | .str _, v, h => by
    rw [R] at h
    subst h
    rw [toP]
    exact .str _
  | .tup ds, v, h => by
    rw [R] at h
    obtain ⟨a, xs, rfl, h1, h2⟩ := h
    rw [toP]
    exact .tup h1.1 (RL.dp ds h2)
  | .lst ds, v, h => by
    rw [R] at h
    obtain ⟨a, xs, rfl, h1, h2⟩ := h
    rw [toP]
    exact .lst h1.1.sq (RL.dp ds h2)
  | .dic _ _, _, h => by
    rw [R] at h
    exact h.elim
  | .set _, _, h => by
    rw [R] at h
    exact h.elim
  | .exc _, _, h => by
    rw [R] at h
    exact h.elim
  | .oth, _, h => by
    rw [R] at h
    exact h.elim
theorem RL.dp : ∀ (ds : List D) {vs : List V}, RL K ex H ds vs → DpAll K H vs (toPL ds)
  | [], _, h => by
    rw [RL] at h
    subst h
    rw [toPL]
    exact .nil
  | d :: ds, _, h => by
    rw [RL] at h
    obtain ⟨v, r, rfl, h1, h2⟩ := h
    rw [toPL]
    exact .cons (R.dp d h1) (RL.dp ds h2)
end
theorem RB.dp : ∀ {n : Nat} {d : D} {v : V}, RB K ex H n d v → Dp K H v (toP d)
  | 0, d, _, h => R.dp d h
  | n + 1, d, v, h => by
    cases d with
    | lst ds =>
      obtain ⟨a, xs, rfl, h1, hz, h2⟩ := RB.lst h
      rw [toP]
      refine .lst h1 ?_
      clear h h1 hz
      induction h2 with
      | nil =>
        rw [toPL]
        exact .nil
      | cons x t ih =>
        rw [toPL]
        exact .cons (RB.dp x) ih
    | _ => exact R.dp _ (RB.flat h rfl)
end

/-! ### comparisons -/
def dEq (a b : D) : Res D := if okN 60 a && okN 60 b then .ok (.bl (eqD a b)) else .err
def dNe (a b : D) : Res D := if okN 60 a && okN 60 b then .ok (.bl (!eqD a b)) else .err
def dCmpI (p : Int → Int → Bool) : D → D → Res D
  | .int i, .int j => .ok (.bl (p i j))
  | _, _ => .err
def isNon : D → Bool
  | .non => true
  | _ => false
def dIs : D → D → Res D
  | a, .non => .ok (.bl (isNon a))
  | _, _ => .err
def dIsNot : D → D → Res D
  | a, .non => .ok (.bl (!isNon a))
  | _, _ => .err
def dIn : D → D → Res D
  | a, .lst xs => if okN 60 a && okN 60 (.lst xs) then .ok (.bl (xs.any fun z => eqD z a)) else .err
  | a, .tup xs => if okN 60 a && okN 60 (.tup xs) then .ok (.bl (xs.any fun z => eqD z a)) else .err
  | .str a, .str s => if a.cps.size = 1 then .ok (.bl (decide (a.cps.getD 0 0 ∈ s.cps.toList))) else .err
  | _, _ => .err
def dNotIn (a b : D) : Res D := match dIn a b with
  | .ok (.bl x) => .ok (.bl (!x))
  | _ => .err
section
variable {X : Cx} {n m k : Nat}
theorem dEq_nx : NoX2 dEq := fun a b c h => by
  unfold dEq at h
  split at h <;> cases h
theorem dNe_nx : NoX2 dNe := fun a b c h => by
  unfold dNe at h
  split at h <;> cases h
theorem dCmpI_nx {p : Int → Int → Bool} : NoX2 (dCmpI p) := fun a b c h => by
  unfold dCmpI at h
  split at h <;> cases h
theorem dIs_nx : NoX2 dIs := fun a b c h => by
  unfold dIs at h
  split at h <;> cases h
theorem dIsNot_nx : NoX2 dIsNot := fun a b c h => by
  unfold dIsNot at h
  split at h <;> cases h
theorem dNotIn_nx : NoX2 dNotIn := fun a b c h => by
  unfold dNotIn at h
  split at h <;> cases h
theorem dIn_nx : NoX2 dIn := fun a b c h => by
  unfold dIn at h
  split at h <;> first | cases h | (split at h <;> cases h)
theorem o_eq (hu : X.A.units + 64 < cLine) : Op2 X n m k (compareOp .Eq) dEq := fun pins s σ H x y v u Q I rx ry h => by
  obtain ⟨ex, d1, d2, d, ext, r1, r2, e, q⟩ := h
  unfold dEq at e
  split at e
  · rename_i ok
    rw [Bool.and_eq_true] at ok
    cases e
    exact op_eqD hu pins s σ H x y v u Q I rx ry ⟨toP d1, toP d2, r1.dp, r2.dp, ok_shaped ok.1, ok_shaped ok.2, by rw [eqD_eqv 60 60 d1 d2 ok.1 ok.2]; exact q.bl⟩
  · cases e
theorem o_ne (hu : X.A.units + 64 < cLine) : Op2 X n m k (compareOp .NotEq) dNe := fun pins s σ H x y v u Q I rx ry h => by
  obtain ⟨ex, d1, d2, d, ext, r1, r2, e, q⟩ := h
  unfold dNe at e
  split at e
  · rename_i ok
    rw [Bool.and_eq_true] at ok
    cases e
    exact op_neD hu pins s σ H x y v u Q I rx ry ⟨toP d1, toP d2, r1.dp, r2.dp, ok_shaped ok.1, ok_shaped ok.2, by rw [eqD_eqv 60 60 d1 d2 ok.1 ok.2]; exact q.bl⟩
  · cases e
theorem o_cmpI {f : Value → Value → Sem Value} {p : Int → Int → Bool} (h0 : OpR X f (rI0 fun i j => .bl (p i j))) : Op2 X n m k f (dCmpI p) := fun pins s σ H x y v u Q I rx ry h => by
  obtain ⟨ex, d1, d2, d, ext, r1, r2, e, q⟩ := h
  unfold dCmpI at e
  split at e
  · cases e
    exact h0 pins s σ H x y v u Q I rx ry ⟨_, _, r1.int, r2.int, q.bl⟩
  · cases e
abbrev iLt : Int → Int → Bool := fun i j => decide (i < j)
abbrev iLe : Int → Int → Bool := fun i j => decide (i ≤ j)
abbrev iGt : Int → Int → Bool := fun i j => decide (j < i)
abbrev iGe : Int → Int → Bool := fun i j => decide (j ≤ i)
theorem o_lt : Op2 X n m k (compareOp .Lt) (dCmpI iLt) := o_cmpI op_lt
theorem o_le : Op2 X n m k (compareOp .LtE) (dCmpI iLe) := o_cmpI op_le
theorem o_gt : Op2 X n m k (compareOp .Gt) (dCmpI iGt) := o_cmpI op_gt
theorem o_ge : Op2 X n m k (compareOp .GtE) (dCmpI iGe) := o_cmpI op_ge
theorem RB.isNon {K : PySem.W.Frag} {ex : AS} {H : Hp} {d : D} {v : V} (h : RB K ex H n d v) : decide (v = V.non) = Px.isNon d := by
  cases d with
  | non =>
    rw [h.non]
    rfl
  | bl b =>
    rw [h.bl]
    rfl
  | int b =>
    rw [h.int]
    rfl
  | str b =>
    rw [h.str]
    exact decide_eq_false fun q => nomatch q
  | tup xs =>
    obtain ⟨a, ys, rfl, _⟩ := h.tup
    exact decide_eq_false fun q => nomatch q
  | lst xs =>
    obtain ⟨a, ys, rfl, _⟩ := (h.up).lst
    exact decide_eq_false fun q => nomatch q
  | _ => exact absurd (RB.flat h rfl) (R.no (by trivial))
theorem o_is : Op2 X n m k (compareOp .Is) dIs := fun pins s σ H x y v u Q I rx ry h => by
  obtain ⟨ex, d1, d2, d, ext, r1, r2, e, q⟩ := h
  unfold dIs at e
  split at e
  · cases e
    exact op_isN pins s σ H x y v u Q I rx ry ⟨r2.non, by rw [RB.isNon r1]; exact q.bl⟩
  · cases e
theorem o_isNot : Op2 X n m k (compareOp .IsNot) dIsNot := fun pins s σ H x y v u Q I rx ry h => by
  obtain ⟨ex, d1, d2, d, ext, r1, r2, e, q⟩ := h
  unfold dIsNot at e
  split at e
  · cases e
    exact op_notN pins s σ H x y v u Q I rx ry ⟨r2.non, by rw [RB.isNon r1]; exact q.bl⟩
  · cases e
theorem any_toP (a : D) (ha : okN 60 a = true) (n : Nat) : ∀ xs : List D, okL n xs = true → ((toPL xs).any fun z => PyData.eqv z (toP a)) = xs.any fun z => eqD z a
  | [], _ => by rw [toPL]; rfl
  | x :: xs, h => by
    rw [okL, Bool.and_eq_true] at h
    rw [toPL, List.any_cons, List.any_cons, any_toP a ha n xs h.2, eqD_eqv n 60 x a h.1 ha]
theorem one_sign {a : Str} (h : a.cps.size = 1) : a = ⟨#[a.cps.getD 0 0]⟩ := by
  obtain ⟨cps⟩ := a
  obtain ⟨l⟩ := cps
  cases l with
  | nil => cases h
  | cons c r =>
    cases r with
    | nil => rfl
    | cons _ _ => simp at h
theorem o_in_aux (hu : X.A.units + 65 < cLine) (neg : Bool) (op : CmpOp) (hop : op = if neg then .NotIn else .In)
    {pins : List (Addr × Obj)} {s : Shared} {σ : L2.St} {H : Hp} {x y : V} {v u : Value} {Q : VK} (I : Inv X pins σ H s) (rx : RelV x v) (ry : RelV y u) {ex : AS} {d1 d2 : D} {b : Bool} (r1 : RB X.K ex H n d1 x) (r2 : RB X.K ex H m d2 y) (e : dIn d1 d2 = .ok (.bl b))
    (q : Q (.bl (if neg then !b else b)) H) : wpAny (model X.prog X.w) X.A (compareOp op v u) (EP X pins σ Q) X.xe s := by
  unfold dIn at e
  split at e
  · rename_i xs
    split at e
    · rename_i ok
      rw [Bool.and_eq_true] at ok
      have e2 : (xs.any fun z => eqD z d1) = b := by cases e; rfl
      have hl : okL 59 xs = true := by have := ok.2; rw [okN] at this; exact this
      have hr := RB.dp r2
      rw [toP] at hr
      have hs : SeqAt.shaped (.list (toPL xs)) = true := by have := ok_shaped ok.2; rw [toP] at this; exact this
      cases neg with
      | false =>
        subst hop
        exact op_inD hu pins s σ H x y v u Q I rx ry ⟨toP d1, toPL xs, r1.dp, hr, ok_shaped ok.1, hs, by rw [any_toP d1 ok.1 59 xs hl, e2]; exact q⟩
      | true =>
        subst hop
        exact op_notInD hu pins s σ H x y v u Q I rx ry ⟨toP d1, toPL xs, r1.dp, hr, ok_shaped ok.1, hs, by rw [any_toP d1 ok.1 59 xs hl, e2]; exact q⟩
    · cases e
  · rename_i xs
    split at e
    · rename_i ok
      rw [Bool.and_eq_true] at ok
      have e2 : (xs.any fun z => eqD z d1) = b := by cases e; rfl
      have hl : okL 59 xs = true := by have := ok.2; rw [okN] at this; exact this
      have hr := RB.dp r2
      rw [toP] at hr
      have hs : SeqAt.shaped (.tuple (toPL xs)) = true := by have := ok_shaped ok.2; rw [toP] at this; exact this
      obtain ⟨as, q1⟩ := Dp.reads I (toP d1) x v r1.dp rx
      obtain ⟨bs, q2⟩ := Dp.reads I (.tuple (toPL xs)) y u hr ry
      cases neg with
      | false =>
        subst hop
        exact SeqAt.in_tuple_reads q2 q1 (SeqAt.canLay_of_shaped hs) (SeqAt.canLay_of_shaped (ok_shaped ok.1)) (room_in_shaped (ok_shaped ok.1) hu) ⟨.bl _, H, I, rfl, by rw [any_toP d1 ok.1 59 xs hl, e2]; exact q⟩
      | true =>
        subst hop
        exact SeqAt.notIn_tuple_reads q2 q1 (SeqAt.canLay_of_shaped hs) (SeqAt.canLay_of_shaped (ok_shaped ok.1)) (room_in_shaped (ok_shaped ok.1) hu) ⟨.bl _, H, I, rfl, by rw [any_toP d1 ok.1 59 xs hl, e2]; exact q⟩
    · cases e
  · rename_i a z
    split at e
    · rename_i h1
      have e2 : decide (a.cps.getD 0 0 ∈ z.cps.toList) = b := by cases e; rfl
      have ex1 := r1.str
      rw [one_sign h1] at ex1
      cases neg with
      | false =>
        subst hop
        exact op_in_sign pins s σ H x y v u Q I rx ry ⟨a.cps.getD 0 0, z, ex1, r2.str, by rw [e2]; exact q⟩
      | true =>
        subst hop
        exact op_notIn_sign pins s σ H x y v u Q I rx ry ⟨a.cps.getD 0 0, z, ex1, r2.str, by rw [e2]; exact q⟩
    · cases e
  · cases e
theorem dIn_bl {a b d : D} (h : dIn a b = .ok d) : ∃ x, d = .bl x := by
  unfold dIn at h
  split at h <;> first | cases h | (split at h <;> first | (cases h; done) | (cases h; exact ⟨_, rfl⟩))
theorem o_in (hu : X.A.units + 65 < cLine) : Op2 X n m k (compareOp .In) dIn := fun pins s σ H x y v u Q I rx ry h => by
  obtain ⟨ex, d1, d2, d, ext, r1, r2, e, q⟩ := h
  obtain ⟨b, rfl⟩ := dIn_bl e
  exact o_in_aux hu false .In rfl I rx ry r1 r2 e q.bl
theorem o_notIn (hu : X.A.units + 65 < cLine) : Op2 X n m k (compareOp .NotIn) dNotIn := fun pins s σ H x y v u Q I rx ry h => by
  obtain ⟨ex, d1, d2, d, ext, r1, r2, e, q⟩ := h
  unfold dNotIn at e
  split at e
  · rename_i b e2
    cases e
    exact o_in_aux hu true .NotIn rfl I rx ry r1 r2 e2 q.bl
  · cases e

/-! ### arithmetic -/
/-- what a product's factors may be: one within 64 bits, or both together below a million bits -/
def mulOk (i j : Int) : Bool := decide ((-(2 ^ 64) < i ∧ i < 2 ^ 64) ∨ (-(2 ^ 64) < j ∧ j < 2 ^ 64))
def dAdd : D → D → Res D
  | .int i, .int j => .ok (.int (i + j))
  | .str a, .str b => if a.length + b.length ≤ sizeLine then .ok (.str (a ++ b)) else .err
  | .lst a, .lst b => if a.length + b.length ≤ sizeLine then .ok (.lst (a ++ b)) else .err
  | .tup a, .tup b => if a.length + b.length ≤ sizeLine then .ok (.tup (a ++ b)) else .err
  | _, _ => .err
def dSub : D → D → Res D
  | .int i, .int j => .ok (.int (i - j))
  | _, _ => .err
def dMul : D → D → Res D
  | .int i, .int j => if mulOk i j then .ok (.int (i * j)) else .err
  | _, _ => .err
/-- a floor division by a divisor above nought, below 2 ^ 30 -/
def dDiv : D → D → Res D
  | .int i, .int j => if 0 < j ∧ j < 1073741824 then .ok (.int (i / j)) else .err
  | _, _ => .err
def dMod : D → D → Res D
  | .int i, .int j => if 0 < j then .ok (.int (i % j)) else .err
  | _, _ => .err
def dPow : D → D → Res D
  | .int i, .int j => if 0 ≤ j ∧ j ≤ 1000000 ∧ i.natAbs < 2 ^ 64 then .ok (.int (i ^ j.toNat)) else .err
  | _, _ => .err
theorem dAdd_nx : NoX2 dAdd := fun a b c h => by
  unfold dAdd at h
  split at h <;> first | cases h | (split at h <;> cases h)
theorem dSub_nx : NoX2 dSub := fun a b c h => by
  unfold dSub at h
  split at h <;> first | cases h | (split at h <;> cases h)
theorem dMul_nx : NoX2 dMul := fun a b c h => by
  unfold dMul at h
  split at h <;> first | cases h | (split at h <;> cases h)
theorem dDiv_nx : NoX2 dDiv := fun a b c h => by
  unfold dDiv at h
  split at h <;> first | cases h | (split at h <;> cases h)
theorem dMod_nx : NoX2 dMod := fun a b c h => by
  unfold dMod at h
  split at h <;> first | cases h | (split at h <;> cases h)
theorem dPow_nx : NoX2 dPow := fun a b c h => by
  unfold dPow at h
  split at h <;> first | cases h | (split at h <;> cases h)
theorem o_sub : Op2 X n m k (binaryOp .Sub) dSub := fun pins s σ H x y v u Q I rx ry h => by
  obtain ⟨ex, d1, d2, d, ext, r1, r2, e, q⟩ := h
  unfold dSub at e
  split at e
  · cases e
    exact op_sub pins s σ H x y v u Q I rx ry ⟨_, _, r1.int, r2.int, q.int⟩
  · cases e
theorem o_div : Op2 X n m k (binaryOp .FloorDiv) dDiv := fun pins s σ H x y v u Q I rx ry h => by
  obtain ⟨ex, d1, d2, d, ext, r1, r2, e, q⟩ := h
  unfold dDiv at e
  split at e
  · split at e
    · rename_i hc
      cases e
      exact op_fdiv pins s σ H x y v u Q I rx ry ⟨_, _, r1.int, r2.int, hc, q.int⟩
    · cases e
  · cases e
theorem o_mod : Op2 X n m k (binaryOp .Mod) dMod := fun pins s σ H x y v u Q I rx ry h => by
  obtain ⟨ex, d1, d2, d, ext, r1, r2, e, q⟩ := h
  unfold dMod at e
  split at e
  · split at e
    · rename_i hc
      cases e
      exact op_mod pins s σ H x y v u Q I rx ry ⟨_, _, r1.int, r2.int, hc, q.int⟩
    · cases e
  · cases e
theorem o_pow : Op2 X n m k (binaryOp .Pow) dPow := fun pins s σ H x y v u Q I rx ry h => by
  obtain ⟨ex, d1, d2, d, ext, r1, r2, e, q⟩ := h
  unfold dPow at e
  split at e
  · split at e
    · rename_i hc
      cases e
      exact op_pow pins s σ H x y v u Q I rx ry ⟨_, _, r1.int, r2.int, hc, q.int⟩
    · cases e
  · cases e
theorem op_catL {pins : List (Addr × Obj)} {s : Shared} {σ : L2.St} {H : Hp} {l b : Addr} {xs ys : List V} {v u : Value} {Q : VK} (I : Inv X pins σ H s) (h1 : SqL X.K H l xs) (h2 : SqL X.K H b ys) (rx : RelV (.ref l) v) (ry : RelV (.ref b) u)
    (hl : xs.length + ys.length ≤ sizeLine) (q : Q (.ref s.heap.objs.size) (upd H s.heap.objs.size (.lst (xs ++ ys)))) : wpAny (model X.prog X.w) X.A (binaryOp .Add v u) (EP X pins σ Q) X.xe s := by
  cases rx
  cases ry
  obtain ⟨its, rv, pl, _⟩ := I.list h1
  obtain ⟨its2, rv2, pl2, _⟩ := I.list h2
  obtain ⟨⟨cls, dd, data, sl⟩, ho, hc, n, hd⟩ := id pl.isList
  obtain ⟨⟨cls2, dd2, data2, sl2⟩, ho2, hc2, n2, hd2⟩ := id pl2.isList
  simp only at hc hd hc2 hd2
  subst hc hd hc2 hd2
  have e : its.toArray ++ its2.toArray = (its ++ its2).toArray := by simp
  have el := rv.length
  have el2 := rv2.length
  refine concat_meets ⟨_, ho, rfl⟩ ⟨_, ho2, rfl⟩ noFill_list_add seq_list_add PySem.F.slot_list_add PySem.F.entry_list_add (PySem.F.args_list_add_2 _ _) (list_addW l b its.toArray its2.toArray n n2 dd dd2 sl sl2 (by rw [List.size_toArray, List.size_toArray]; omega)) ⟨ho, ho2, ?_⟩
  rw [e]
  exact ⟨.ref _, _, I.lnew (t' := s.toks) (rv.append rv2) (by rw [List.length_append]; exact hl), rfl, q⟩
/-- data with lists at its top owned to the depth one, of anything new -/
theorem o_add : Op2 X 1 1 1 (binaryOp .Add) dAdd := fun pins s σ H x y v u Q I rx ry h => by
  obtain ⟨ex, d1, d2, d, ext, r1, r2, e, q⟩ := h
  unfold dAdd at e
  split at e
  · cases e
    exact op_add pins s σ H x y v u Q I rx ry ⟨_, _, r1.int, r2.int, q.int⟩
  · split at e
    · rename_i hc
      cases e
      exact op_add_str pins s σ H x y v u Q I rx ry ⟨_, _, r1.str, r2.str, hc, q.str⟩
    · cases e
  · split at e
    · rename_i hc
      cases e
      obtain ⟨l, xs, rfl, h1, z1, p1⟩ := r1.lst
      obtain ⟨b, ys, rfl, h2, z2, p2⟩ := r2.lst
      have p : Paired (R X.K ex H) _ (xs ++ ys) := Paired.app p1 p2
      have hl : xs.length + ys.length ≤ sizeLine := by rw [← p1.length, ← p2.length]; exact hc
      exact op_catL I h1 h2 rx ry hl (q.lst p I.fresh (by rw [List.length_append]; exact hl))
    · cases e
  · split at e
    · rename_i hc
      cases e
      obtain ⟨l, xs, rfl, h1, z1, p1⟩ := r1.tup
      obtain ⟨b, ys, rfl, h2, z2, p2⟩ := r2.tup
      have hl : xs.length + ys.length ≤ sizeLine := by rw [← p1.length, ← p2.length]; exact hc
      refine op_catA pins s σ H _ _ v u Q I rx ry ⟨l, b, xs, ys, rfl, rfl, h1, h2, hl, fun e => ?_, fun _ e => ?_, fun _ _ p hp => q.tup (Paired.app p1 p2) hp (by rw [List.length_append]; exact hl)⟩
      · subst e
        cases p1
        exact q.flat (by rw [R]; exact ⟨b, ys, rfl, ⟨h2, z2⟩, RL.of p2⟩) rfl
      · subst e
        cases p2
        rw [List.append_nil] at q
        exact q.flat (by rw [R]; exact ⟨l, xs, rfl, ⟨h1, z1⟩, RL.of p1⟩) rfl
    · cases e
  · cases e
end
end Px

namespace Px
open PySem PySem.Spec PyProof.Rows L2

/-! ### one operand -/
def Op1 (X : Cx) (n k : Nat) (f : Value → Sem Value) (g : D → Res D) : Prop :=
  UnR X f fun x H Q => ∃ ex d1 d, (∀ a, ex a → H a ≠ none) ∧ RB X.K ex H n d1 x ∧ g d1 = .ok d ∧ QO X.K ex H k Q d
def NoX1 {α : Type} (o : D → Res α) : Prop := ∀ a c, o a ≠ .exc c
def eUn {α : Type} (o : D → Res α) (f : EF) : Env → Res α := fun ρ => f ρ >>= o
def dNeg : D → Res D
  | .int i => .ok (.int (-i))
  | _ => .err
theorem dNeg_nx : NoX1 dNeg := fun a c h => by
  unfold dNeg at h
  split at h <;> cases h
section
variable {X : Cx} {W : WX} {L : List Nat} {n n1 n2 k m : Nat} {pos : Pos} {e a b c : Expr} {es rest : List Expr} {f g : EF} {fs : Env → Res (List D)} {ft gt : Env → Res Bool}
theorem o_neg : Op1 X n k (unaryOp .USub) dNeg := fun pins s σ H x v Q I rx h => by
  obtain ⟨ex, d1, d, ext, r1, e, q⟩ := h
  unfold dNeg at e
  split at e
  · cases e
    exact un_neg pins s σ H x v Q I rx ⟨_, r1.int, q.int⟩
  · cases e
theorem eo_un {op : UnaryOp} {o : D → Res D} (ho : Op1 X n k (unaryOp op) o) (nx : NoX1 o) (ha : EB X W L n a f) : EO X W L k (.UnaryOp op a pos) (eUn o f) :=
  PE.imp (pe_un ho ha) fun σ H Q ⟨ex, ρ, fp, I, q⟩ => by
    refine ⟨ex, ρ, fp, I, q.bind.mono fun d1 q1 v1 H1 e1 r1 => ?_⟩
    obtain ⟨d, ed, qd⟩ := no_exc q1 (nx d1)
    exact ⟨ex, d1, d, (I.same e1).ext, r1, ed, fun v H3 fq e3 ro nd nw => qd v H3 fq (e1.trans e3) ro nd fun a ha => e1.free (nw a ha)⟩

/-! ### truth -/
def dTru : D → Res Bool
  | .non => .ok false
  | .bl b => .ok b
  | .int i => .ok (i != 0)
  | .str s => if s.length ≤ sizeLine then .ok ((s.length : Int) != 0) else .err
  | .tup xs => .ok (!xs.isEmpty)
  | .lst xs => .ok (!xs.isEmpty)
  | _ => .err
theorem dTru_nx : NoX1 dTru := fun a c h => by
  unfold dTru at h
  split at h <;> first | cases h | (split at h <;> cases h)
theorem Paired.isEmpty {α β : Type} {F : α → β → Prop} {as : List α} {bs : List β} (h : Paired F as bs) : bs.isEmpty = as.isEmpty := by
  cases h <;> rfl
theorem dTru_v {K : PySem.W.Frag} {ex : AS} {H : Hp} {d : D} {x : V} {t : Bool} (r : RB K ex H n d x) (e : dTru d = .ok t) : TruV K x H t := by
  unfold dTru at e
  split at e
  · cases e
    rw [r.non]
    rfl
  · cases e
    rw [r.bl]
    rfl
  · cases e
    rw [r.int]
    rfl
  · split at e
    · rename_i hs
      cases e
      rw [r.str]
      exact ⟨hs, rfl⟩
    · cases e
  · cases e
    obtain ⟨a, xs, rfl, h1, h2, h3⟩ := r.tup
    exact .inr (.inl ⟨xs, h1, by rw [Paired.isEmpty h3]⟩)
  · cases e
    obtain ⟨a, xs, rfl, h1, h2, h3⟩ := r.up.lst
    exact .inl ⟨xs, h1, by rw [Paired.isEmpty h3]⟩
  · cases e
theorem et_val (ha : EB X W L n a f) (he : ∀ whole, isTrue a X.env whole = (do let v ← whole; standAt a.pos; holding [v] (truthy v)) := by intro _; rfl) : ET X W L a (eUn dTru f) :=
  PT.imp (pt_truth ha he) fun σ H Q ⟨ex, ρ, fp, I, q⟩ => ⟨ex, ρ, fp, I, q.bind.mono fun d q1 v H1 e1 r1 => by
    obtain ⟨t, et, qt⟩ := no_exc q1 (dTru_nx d)
    exact ⟨t, dTru_v r1 et, qt H1 e1⟩⟩
/-- a chain of and, or in a test -/
abbrev EW (X : Cx) (W : WX) (L : List Nat) (e : Expr) (f : Env → Res Bool) : Prop := PW X e (tT X W L f)
def bAnd (f g : Env → Res Bool) : Env → Res Bool := fun ρ => f ρ >>= fun b => if b = true then g ρ else .ok false
def bOr (f g : Env → Res Bool) : Env → Res Bool := fun ρ => f ρ >>= fun b => if b = true then .ok true else g ρ
def bNot (f : Env → Res Bool) : Env → Res Bool := fun ρ => f ρ >>= fun b => .ok (!b)
theorem ew_and1 (ha : ET X W L a ft) : EW X W L (.BoolOp .And [a] pos) ft := pw_and1 ha
theorem ew_or1 (ha : ET X W L a ft) : EW X W L (.BoolOp .Or [a] pos) ft := pw_or1 ha
theorem ew_and (ha : ET X W L a ft) (hb : EW X W L (.BoolOp .And (b :: rest) pos) gt) : EW X W L (.BoolOp .And (a :: b :: rest) pos) (bAnd ft gt) :=
  PW.imp (pw_and ha hb) fun σ H Q ⟨ex, ρ, fp, I, q⟩ => ⟨ex, ρ, fp, I, q.bind.mono fun t q1 H1 e1 => by
    cases t with
    | true =>
      rw [if_pos rfl]
      exact ⟨ex, ρ, fp, I.same e1, (Out.later (show Out X W σ H (gt ρ) _ from q1) e1).mono fun t2 q2 H2 e2 => q2 H2 (e1.trans e2)⟩
    | false => exact q1 H1 e1⟩
theorem ew_or (ha : ET X W L a ft) (hb : EW X W L (.BoolOp .Or (b :: rest) pos) gt) : EW X W L (.BoolOp .Or (a :: b :: rest) pos) (bOr ft gt) :=
  PW.imp (pw_or ha hb) fun σ H Q ⟨ex, ρ, fp, I, q⟩ => ⟨ex, ρ, fp, I, q.bind.mono fun t q1 H1 e1 => by
    cases t with
    | false =>
      rw [if_neg Bool.false_ne_true]
      exact ⟨ex, ρ, fp, I.same e1, (Out.later (show Out X W σ H (gt ρ) _ from q1) e1).mono fun t2 q2 H2 e2 => q2 H2 (e1.trans e2)⟩
    | true => exact q1 H1 e1⟩
theorem et_w (h : EW X W L e ft) : ET X W L e ft := PW.pt h
theorem et_not (ha : ET X W L a ft) : ET X W L (.UnaryOp .Not a pos) (bNot ft) :=
  PT.imp (pt_not ha) fun σ H Q ⟨ex, ρ, fp, I, q⟩ => ⟨ex, ρ, fp, I, q.bind.mono fun t q1 H1 e1 => q1 H1 e1⟩
/-- not a as a value -/
def eNot (f : EF) : EF := fun ρ => f ρ >>= fun d => dTru d >>= fun b => .ok (.bl (!b))
theorem eo_not (ha : EB X W L n a f) : EO X W L k (.UnaryOp .Not a pos) (eNot f) :=
  PE.imp (pe_notT ha) fun σ H Q ⟨ex, ρ, fp, I, q⟩ => ⟨ex, ρ, fp, I, q.bind.mono fun d q1 v H1 e1 r1 => by
    have q2 := q1.bind
    obtain ⟨t, et, qt⟩ := no_exc q2 (dTru_nx d)
    exact ⟨t, dTru_v r1 et, QO.bl (K := X.K) (ex := ex) (k := k) fun v H2 fq e2 ro nd nw => qt v H2 fq (e1.trans e2) ro nd fun a ha => e1.free (nw a ha)⟩⟩
/-- and, or as values -/
def eAnd (f g : EF) : EF := fun ρ => f ρ >>= fun d => dTru d >>= fun b => if b = true then g ρ else .ok d
def eOr (f g : EF) : EF := fun ρ => f ρ >>= fun d => dTru d >>= fun b => if b = true then .ok d else g ρ
theorem eb_one {op : BoolOp} (h : EB X W L n a f) : EB X W L n (.BoolOp op [a] pos) f := pe_one h
theorem eb_and (ha : EB X W L n a f) (hb : EB X W L n (.BoolOp .And (b :: rest) pos) g) : EB X W L n (.BoolOp .And (a :: b :: rest) pos) (eAnd f g) :=
  PE.imp (pe_andT ha hb) fun σ H Q ⟨ex, ρ, fp, I, q⟩ => ⟨ex, ρ, fp, I, q.bind.mono fun d q1 v H1 e1 r1 => by
    have q2 := q1.bind
    obtain ⟨t, et, qt⟩ := no_exc q2 (dTru_nx d)
    refine ⟨t, dTru_v r1 et, ?_⟩
    cases t with
    | true =>
      rw [if_pos rfl]
      exact ⟨ex, ρ, fp, I.same e1, (Out.later (show Out X W σ H (g ρ) _ from qt) e1).mono fun t2 q2 v2 H2 e2 r2 => q2 v2 H2 (e1.trans e2) r2⟩
    | false =>
      rw [if_neg Bool.false_ne_true]
      exact qt v H1 e1 r1⟩
theorem eb_or (ha : EB X W L n a f) (hb : EB X W L n (.BoolOp .Or (b :: rest) pos) g) : EB X W L n (.BoolOp .Or (a :: b :: rest) pos) (eOr f g) :=
  PE.imp (pe_orT ha hb) fun σ H Q ⟨ex, ρ, fp, I, q⟩ => ⟨ex, ρ, fp, I, q.bind.mono fun d q1 v H1 e1 r1 => by
    have q2 := q1.bind
    obtain ⟨t, et, qt⟩ := no_exc q2 (dTru_nx d)
    refine ⟨t, dTru_v r1 et, ?_⟩
    cases t with
    | false =>
      rw [if_neg Bool.false_ne_true]
      exact ⟨ex, ρ, fp, I.same e1, (Out.later (show Out X W σ H (g ρ) _ from qt) e1).mono fun t2 q2 v2 H2 e2 r2 => q2 v2 H2 (e1.trans e2) r2⟩
    | true =>
      rw [if_pos rfl]
      exact qt v H1 e1 r1⟩
def eIf (t : Env → Res Bool) (f g : EF) : EF := fun ρ => t ρ >>= fun b => if b = true then f ρ else g ρ
theorem eb_if (hc : ET X W L c ft) (ha : EB X W L n a f) (hb : EB X W L n b g) : EB X W L n (.IfExp c a b pos) (eIf ft f g) :=
  PE.imp (pe_ifExp hc ha hb) fun σ H Q ⟨ex, ρ, fp, I, q⟩ => ⟨ex, ρ, fp, I, q.bind.mono fun t q1 H1 e1 => by
    cases t with
    | true =>
      rw [if_pos rfl]
      exact ⟨ex, ρ, fp, I.same e1, (Out.later (show Out X W σ H (f ρ) _ from q1) e1).mono fun t2 q2 v2 H2 e2 r2 => q2 v2 H2 (e1.trans e2) r2⟩
    | false =>
      rw [if_neg Bool.false_ne_true]
      exact ⟨ex, ρ, fp, I.same e1, (Out.later (show Out X W σ H (g ρ) _ from q1) e1).mono fun t2 q2 v2 H2 e2 r2 => q2 v2 H2 (e1.trans e2) r2⟩⟩
theorem eo_if (hc : ET X W L c ft) (ha : EO X W L k a f) (hb : EO X W L k b g) : EO X W L k (.IfExp c a b pos) (eIf ft f g) :=
  PE.imp (pe_ifExp hc ha hb) fun σ H Q ⟨ex, ρ, fp, I, q⟩ => ⟨ex, ρ, fp, I, q.bind.mono fun t q1 H1 e1 => by
    cases t with
    | true =>
      rw [if_pos rfl]
      exact ⟨ex, ρ, fp, I.same e1, (Out.later (show Out X W σ H (f ρ) _ from q1) e1).mono fun t2 q2 v2 H2 fq e2 r2 nd nw => q2 v2 H2 fq (e1.trans e2) r2 nd fun a ha => e1.free (nw a ha)⟩
    | false =>
      rw [if_neg Bool.false_ne_true]
      exact ⟨ex, ρ, fp, I.same e1, (Out.later (show Out X W σ H (g ρ) _ from q1) e1).mono fun t2 q2 v2 H2 fq e2 r2 nd nw => q2 v2 H2 fq (e1.trans e2) r2 nd fun a ha => e1.free (nw a ha)⟩⟩
/-- a op b op' c -/
def eChain (o o' : D → D → Res D) (f g h : EF) : EF := fun ρ => f ρ >>= fun a => g ρ >>= fun b => o a b >>= fun r => match r with
  | .bl true => h ρ >>= fun c => o' b c
  | .bl false => .ok (.bl false)
  | _ => .err
theorem eo_chain {op op' : CmpOp} {o o' : D → D → Res D} {h : EF} (ho : Op2 X 0 0 0 (compareOp op) o) (nx : NoX2 o) (ho' : Op2 X 0 0 k (compareOp op') o') (nx' : NoX2 o') (ha : EB X W L 0 a f) (hb : EB X W L 0 b g) (hc : EB X W L 0 c h)
    (hm : lastMarks [op, op'] [b, c] = false := by with_unfolding_all rfl) : EO X W L k (.Compare a [op, op'] [b, c] pos) (eChain o o' f g h) :=
  PE.imp (pe_chain ho ho' ha hb hc hm) fun σ H Q ⟨ex, ρ, fp, I, q⟩ => by
    refine ⟨ex, ρ, fp, I, q.bind.mono fun d1 q1 v1 H1 e1 r1 => ⟨ex, ρ, fp, I.same e1, (q1.bind.later e1).mono fun d2 q2 v2 H2 e2 r2 => ?_⟩⟩
    obtain ⟨d, ed, qd⟩ := no_exc q2.bind (nx d1 d2)
    refine ⟨ex, d1, d2, d, ((I.same e1).same e2).ext, r1.same e2, r2, ed, fun v H3 fq e3 ro nd nw => ?_⟩
    have r3 : RB X.K (fun a => a ∈ fq ∨ ex a) H3 0 d v := ro.borrow
    cases d with
    | bl t =>
      cases t with
      | true =>
        refine ⟨true, r3.bl, ?_⟩
        rw [if_pos rfl]
        refine ⟨ex, ρ, fp, ((I.same e1).same e2).same e3, ((Out.bind qd).later ((e1.trans e2).trans e3)).mono fun d3 q3 v4 H4 e4 r4 => ?_⟩
        obtain ⟨z, ez, qz⟩ := no_exc q3 (nx' d2 d3)
        exact ⟨ex, d2, d3, z, ((((I.same e1).same e2).same e3).same e4).ext, (r2.same e3).same e4, r4, ez, fun v H5 fq e5 ro nd nw => qz v H5 fq ((((e1.trans e2).trans e3).trans e4).trans e5) ro nd fun a ha => ((((e1.trans e2).trans e3).trans e4)).free (nw a ha)⟩
      | false =>
        refine ⟨false, r3.bl, ?_⟩
        rw [if_neg Bool.false_ne_true]
        exact QO.bl (K := X.K) (ex := ex) (k := k) fun v H5 fq e5 ro nd nw => qd v H5 fq (((e1.trans e2).trans e3).trans e5) ro nd fun a ha => ((e1.trans e2).trans e3).free (nw a ha)
    | _ => exact qd.elim

/-! ### items -/
def dIx : D → D → Res D
  | .lst xs, .int i => match atI xs i with
    | some d => .ok d
    | none => .err
  | .tup xs, .int i => match atI xs i with
    | some d => .ok d
    | none => .err
  | .str s, .int i => if s.length ≤ sizeLine then (match atI s.cps.toList i with
    | some c => .ok (.str ⟨#[c]⟩)
    | none => .err) else .err
  | _, _ => .err
theorem dIx_nx : NoX2 dIx := fun a b c h => by
  unfold dIx at h
  split at h
  · split at h <;> cases h
  · split at h <;> cases h
  · split at h <;> first | cases h | (split at h <;> cases h)
  · cases h
theorem Paired.atI {α β : Type} {F : α → β → Prop} {as : List α} {bs : List β} {i : Int} {x : α} (h : Paired F as bs) (e : atI as i = some x) : ∃ y, L2.atI bs i = some y ∧ F x y := by
  unfold L2.atI at e ⊢
  rw [← h.length]
  cases q : ixN as.length i with
  | none => rw [q] at e; cases e
  | some j =>
    rw [q] at e
    exact Paired.get h e
theorem eb_ix (ha : EB X W L (n + 1) a f) (hb : EB X W L n2 b g) (hs : PlainIx b := by intro _ _; rfl) : EB X W L n (.Subscript a b pos) (eOp dIx f g) :=
  PE.imp (pe_ix ix_seq ha hb hs) fun σ H Q ⟨ex, ρ, fp, I, q⟩ => by
    refine ⟨ex, ρ, fp, I, q.bind.mono fun d1 q1 v1 H1 e1 r1 => ⟨ex, ρ, fp, I.same e1, (q1.bind.later e1).mono fun d2 q2 v2 H2 e2 r2 => ?_⟩⟩
    obtain ⟨d, ed, qd⟩ := no_exc q2 (dIx_nx d1 d2)
    have r1 := r1.same e2
    unfold dIx at ed
    split at ed
    · split at ed
      · rename_i hx
        cases ed
        obtain ⟨p, xs, rfl, h1, h2, h3⟩ := r1.lst
        obtain ⟨y, hy, ry⟩ := Paired.atI h3 hx
        exact .inl ⟨p, xs, _, y, rfl, r2.int, h1, hy, qd y H2 (e1.trans e2) ry⟩
      · cases ed
    · split at ed
      · rename_i hx
        cases ed
        obtain ⟨p, xs, rfl, h1, h2, h3⟩ := r1.tup
        obtain ⟨y, hy, ry⟩ := Paired.atI h3 hx
        exact .inr (.inl ⟨p, xs, _, y, rfl, r2.int, h1, hy, qd y H2 (e1.trans e2) (RB.of ry)⟩)
      · cases ed
    · split at ed
      · rename_i hl
        split at ed
        · rename_i hx
          cases ed
          exact .inr (.inr ⟨_, _, _, r1.str, r2.int, hl, hx, qd _ H2 (e1.trans e2) (RB.of (by rw [R]))⟩)
        · cases ed
      · cases ed
    · cases ed

/-! ### calls of what is built in -/
def CallD (X : Cx) (n k : Nat) (f : Value) (g : List D → Res D) : Prop :=
  CallR X f fun xs H Q => ∃ ex ds d, (∀ a, ex a → H a ≠ none) ∧ Paired (RB X.K ex H n) ds xs ∧ g ds = .ok d ∧ QO X.K ex H k Q d
def NoXL (g : List D → Res D) : Prop := ∀ ds c, g ds ≠ .exc c
def eCall (o : List D → Res D) (f : Env → Res (List D)) : EF := fun ρ => f ρ >>= o
variable {x : Str} {p : Pos} {id T : String} {o : List D → Res D}
theorem eo_callB (hc : CallD X n k (.builtin id) o) (nx : NoXL o) (hg : Gl X x) (hm : X.mg x = none) (hv : bootBuiltins x = some (.builtin id)) (ha : EA X W L n m (e :: es) fs) (hn : x ≠ "__name__" := by decide) (hdb : (x == ("__debug__" : Str)) = false := by decide)
    (he : starEach (e :: es) X.env = (false, eval e X.env) :: starEach es X.env := by rfl) (hpl : (backTo pos (starEach es X.env)).any (·.1) = false := by rfl) : EO X W L k (.Call (.Name x p) (e :: es) [] pos) (eCall o fs) :=
  PE.imp (pe_callB hc hg hm hv ha hn hdb he hpl) fun σ H Q ⟨ex, ρ, fp, I, q⟩ => ⟨ex, ρ, fp, I, q.bind.mono fun ds q1 vs H1 e1 r1 _ => by
    obtain ⟨d, ed, qd⟩ := no_exc q1 (nx ds)
    exact ⟨ex, ds, d, (I.same e1).ext, r1, ed, fun v H3 fq e3 ro nd nw => qd v H3 fq (e1.trans e3) ro nd fun a ha => e1.free (nw a ha)⟩⟩
theorem eo_callTy (hc : CallD X n k (.type T) o) (nx : NoXL o) (hg : Gl X x) (hm : X.mg x = none) (hv : bootBuiltins x = some (.type T)) (ha : EA X W L n m (e :: es) fs) (hn : x ≠ "__name__" := by decide) (hdb : (x == ("__debug__" : Str)) = false := by decide)
    (he : starEach (e :: es) X.env = (false, eval e X.env) :: starEach es X.env := by rfl) (hpl : (backTo pos (starEach es X.env)).any (·.1) = false := by rfl) : EO X W L k (.Call (.Name x p) (e :: es) [] pos) (eCall o fs) :=
  PE.imp (pe_callTy hc hg hm hv ha hn hdb he hpl) fun σ H Q ⟨ex, ρ, fp, I, q⟩ => ⟨ex, ρ, fp, I, q.bind.mono fun ds q1 vs H1 e1 r1 _ => by
    obtain ⟨d, ed, qd⟩ := no_exc q1 (nx ds)
    exact ⟨ex, ds, d, (I.same e1).ext, r1, ed, fun v H3 fq e3 ro nd nw => qd v H3 fq (e1.trans e3) ro nd fun a ha => e1.free (nw a ha)⟩⟩
def fLen : List D → Res D
  | [.str s] => if s.length ≤ sizeLine then .ok (.int s.length) else .err
  | [.tup xs] => .ok (.int xs.length)
  | [.lst xs] => .ok (.int xs.length)
  | _ => .err
theorem fLen_nx : NoXL fLen := fun ds c h => by
  unfold fLen at h
  split at h <;> first | cases h | (split at h <;> cases h)
theorem c_len : CallD X 1 k (.builtin "len") fLen := fun pins s σ H xs us Q I r h => by
  obtain ⟨ex, ds, d, ext, rs, e, q⟩ := h
  unfold fLen at e
  split at e
  · split at e
    · rename_i hl
      cases e
      cases rs with
      | cons r1 t =>
        cases t
        rw [RB.str r1] at *
        exact call_len pins s σ H _ us Q I r ⟨_, _, rfl, ⟨hl, rfl⟩, q.int⟩
    · cases e
  · cases e
    cases rs with
    | cons r1 t =>
      cases t
      obtain ⟨a, ys, rfl, h1, _, h3⟩ := RB.tup r1
      exact call_len pins s σ H _ us Q I r ⟨_, ys.length, rfl, .inr ⟨ys, h1, rfl⟩, by rw [← h3.length]; exact q.int⟩
  · cases e
    cases rs with
    | cons r1 t =>
      cases t
      obtain ⟨a, ys, rfl, h1, _, h3⟩ := RB.lst r1
      exact call_len pins s σ H _ us Q I r ⟨_, ys.length, rfl, .inl ⟨ys, h1, rfl⟩, by rw [← h3.length]; exact q.int⟩
  · cases e
def fAbs : List D → Res D
  | [.int i] => .ok (.int (if i < 0 then -i else i))
  | _ => .err
theorem fAbs_nx : NoXL fAbs := fun ds c h => by
  unfold fAbs at h
  split at h <;> cases h
theorem c_abs : CallD X n k (.builtin "abs") fAbs := fun pins s σ H xs us Q I r h => by
  obtain ⟨ex, ds, d, ext, rs, e, q⟩ := h
  unfold fAbs at e
  split at e
  · cases e
    cases rs with
    | cons r1 t =>
      cases t
      rw [RB.int r1] at *
      exact call_abs pins s σ H _ us Q I r ⟨_, rfl, q.int⟩
  · cases e
def fInt : List D → Res D
  | [.int i] => .ok (.int i)
  | [.bl b] => .ok (.int (if b then 1 else 0))
  | _ => .err
theorem fInt_nx : NoXL fInt := fun ds c h => by
  unfold fInt at h
  split at h <;> cases h
theorem c_int : CallD X n k (.type "int") fInt := fun pins s σ H xs us Q I r h => by
  obtain ⟨ex, ds, d, ext, rs, e, q⟩ := h
  unfold fInt at e
  split at e
  · cases e
    cases rs with
    | cons r1 t =>
      cases t
      rw [RB.int r1] at *
      exact call_int1 pins s σ H _ us Q I r (.inl ⟨_, rfl, q.int⟩)
  · cases e
    cases rs with
    | cons r1 t =>
      cases t
      rw [RB.bl r1] at *
      exact call_int1 pins s σ H _ us Q I r (.inr ⟨_, rfl, q.int⟩)
  · cases e
/-- tuple(x), list(x) of a list or a tuple -/
def fTuple : List D → Res D
  | [.tup xs] => .ok (.tup xs)
  | [.lst xs] => .ok (.tup xs)
  | _ => .err
def fList : List D → Res D
  | [.tup xs] => .ok (.lst xs)
  | [.lst xs] => .ok (.lst xs)
  | _ => .err
theorem fTuple_nx : NoXL fTuple := fun ds c h => by
  unfold fTuple at h
  split at h <;> cases h
theorem fList_nx : NoXL fList := fun ds c h => by
  unfold fList at h
  split at h <;> cases h
theorem c_tuple : CallD X 1 k (.type "tuple") fTuple := fun pins s σ H xs us Q I r h => by
  obtain ⟨ex, ds, d, ext, rs, e, q⟩ := h
  unfold fTuple at e
  split at e
  · cases e
    cases rs with
    | cons r1 t =>
      cases t
      obtain ⟨a, ys, rfl, h1, h2, h3⟩ := RB.tup r1
      exact call_tuple_of pins s σ H _ us Q I r ⟨a, ys, rfl, .inr ⟨h1, q.flat (by rw [R]; exact ⟨a, ys, rfl, ⟨h1, h2⟩, RL.of h3⟩) rfl⟩⟩
  · cases e
    cases rs with
    | cons r1 t =>
      cases t
      obtain ⟨a, ys, rfl, h1, h2, h3⟩ := RB.lst r1
      exact call_tuple_of pins s σ H _ us Q I r ⟨a, ys, rfl, .inl ⟨h1, fun l hl => q.tup h3 hl h2⟩⟩
  · cases e
theorem c_list : CallD X 1 1 (.type "list") fList := fun pins s σ H xs us Q I r h => by
  obtain ⟨ex, ds, d, ext, rs, e, q⟩ := h
  unfold fList at e
  split at e
  · cases e
    cases rs with
    | cons r1 t =>
      cases t
      obtain ⟨a, ys, rfl, h1, h2, h3⟩ := RB.tup r1
      exact call_list_of pins s σ H _ us Q I r ⟨a, ys, rfl, .inr h1, fun l hl => q.lst h3 hl h2⟩
  · cases e
    cases rs with
    | cons r1 t =>
      cases t
      obtain ⟨a, ys, rfl, h1, h2, h3⟩ := RB.lst r1
      exact call_list_of pins s σ H _ us Q I r ⟨a, ys, rfl, .inl h1, fun l hl => q.lst h3 hl h2⟩
  · cases e
/-- truth values alone -/
def bools : List D → Option (List Bool)
  | [] => some []
  | .bl b :: r => (bools r).map (b :: ·)
  | _ :: _ => none
def nums : List D → Option (List Int)
  | [] => some []
  | .int b :: r => (nums r).map (b :: ·)
  | _ :: _ => none
theorem bools_vals {K : PySem.W.Frag} {ex : AS} {H : Hp} : ∀ {ds : List D} {vs : List V} {bs : List Bool}, Paired (RB K ex H n) ds vs → bools ds = some bs → vs = bs.map V.bl
  | [], _, _, .nil, h => by cases h; rfl
  | d :: ds, _, _, .cons r t, h => by
    cases d with
    | bl b =>
      rw [bools] at h
      cases q : bools ds with
      | none => rw [q] at h; cases h
      | some bs =>
        rw [q] at h
        cases h
        rw [RB.bl r, bools_vals t q]
        rfl
    | _ => cases h
theorem nums_vals {K : PySem.W.Frag} {ex : AS} {H : Hp} : ∀ {ds : List D} {vs : List V} {bs : List Int}, Paired (RB K ex H n) ds vs → nums ds = some bs → vs = bs.map V.int
  | [], _, _, .nil, h => by cases h; rfl
  | d :: ds, _, _, .cons r t, h => by
    cases d with
    | int b =>
      rw [nums] at h
      cases q : nums ds with
      | none => rw [q] at h; cases h
      | some bs =>
        rw [q] at h
        cases h
        rw [RB.int r, nums_vals t q]
        rfl
    | _ => cases h
@[simp] theorem bools_map (bs : List Bool) : bools (bs.map D.bl) = some bs := by
  induction bs with
  | nil => rfl
  | cons b r ih => rw [List.map_cons, bools, ih]; rfl
@[simp] theorem nums_map (bs : List Int) : nums (bs.map D.int) = some bs := by
  induction bs with
  | nil => rfl
  | cons b r ih => rw [List.map_cons, nums, ih]; rfl
def fAll : List D → Res D
  | [.lst xs] => match bools xs with
    | some bs => .ok (.bl (bs.all fun z => z))
    | none => .err
  | _ => .err
def fAny : List D → Res D
  | [.lst xs] => match bools xs with
    | some bs => .ok (.bl (bs.any fun z => z))
    | none => .err
  | _ => .err
def fSum : List D → Res D
  | [.lst xs] => match nums xs with
    | some bs => .ok (.int bs.sum)
    | none => .err
  | _ => .err
theorem fAll_nx : NoXL fAll := fun ds c h => by
  unfold fAll at h
  split at h <;> first | cases h | (split at h <;> cases h)
theorem fAny_nx : NoXL fAny := fun ds c h => by
  unfold fAny at h
  split at h <;> first | cases h | (split at h <;> cases h)
theorem fSum_nx : NoXL fSum := fun ds c h => by
  unfold fSum at h
  split at h <;> first | cases h | (split at h <;> cases h)
theorem c_all (hc : X.calm = true) : CallD X 1 k (.builtin "all") fAll := fun pins s σ H xs us Q I r h => by
  obtain ⟨ex, ds, d, ext, rs, e, q⟩ := h
  unfold fAll at e
  split at e
  · split at e
    · rename_i bs hb
      cases e
      cases rs with
      | cons r1 t =>
        cases t
        obtain ⟨a, ys, rfl, h1, _, h3⟩ := RB.lst r1
        rw [bools_vals h3 hb] at h1
        exact cr_all hc pins s σ H _ us Q I r ⟨a, bs, rfl, h1, q.bl⟩
    · cases e
  · cases e
theorem c_any (hc : X.calm = true) : CallD X 1 k (.builtin "any") fAny := fun pins s σ H xs us Q I r h => by
  obtain ⟨ex, ds, d, ext, rs, e, q⟩ := h
  unfold fAny at e
  split at e
  · split at e
    · rename_i bs hb
      cases e
      cases rs with
      | cons r1 t =>
        cases t
        obtain ⟨a, ys, rfl, h1, _, h3⟩ := RB.lst r1
        rw [bools_vals h3 hb] at h1
        exact cr_any hc pins s σ H _ us Q I r ⟨a, bs, rfl, h1, q.bl⟩
    · cases e
  · cases e
theorem c_sum (hc : X.calm = true) : CallD X 1 k (.builtin "sum") fSum := fun pins s σ H xs us Q I r h => by
  obtain ⟨ex, ds, d, ext, rs, e, q⟩ := h
  unfold fSum at e
  split at e
  · split at e
    · rename_i bs hb
      cases e
      cases rs with
      | cons r1 t =>
        cases t
        obtain ⟨a, ys, rfl, h1, _, h3⟩ := RB.lst r1
        rw [nums_vals h3 hb] at h1
        exact cr_sum hc pins s σ H _ us Q I r ⟨a, bs, rfl, h1, q.int⟩
    · cases e
  · cases e
/-- min, max: of two ints, of a list or a tuple of ints -/
def fMin : List D → Res D
  | [.int i, .int j] => .ok (.int (if j < i then j else i))
  | [.lst xs] => match nums xs with
    | some (b :: bs) => .ok (.int (bs.foldl min b))
    | _ => .err
  | [.tup xs] => match nums xs with
    | some (b :: bs) => .ok (.int (bs.foldl min b))
    | _ => .err
  | _ => .err
def fMax : List D → Res D
  | [.int i, .int j] => .ok (.int (if j > i then j else i))
  | [.lst xs] => match nums xs with
    | some (b :: bs) => .ok (.int (bs.foldl max b))
    | _ => .err
  | [.tup xs] => match nums xs with
    | some (b :: bs) => .ok (.int (bs.foldl max b))
    | _ => .err
  | _ => .err
theorem fMin_nx : NoXL fMin := fun ds c h => by
  unfold fMin at h
  split at h <;> first | cases h | (split at h <;> cases h)
theorem fMax_nx : NoXL fMax := fun ds c h => by
  unfold fMax at h
  split at h <;> first | cases h | (split at h <;> cases h)
theorem ints_reads {h : Heap} : ∀ {us : List Value} {ns : List Int}, Vals (ns.map V.int) us → ∃ as, ReadsAll h us (ns.map PyData.int) as
  | [], [], _ => ⟨[], .nil⟩
  | _, [], h => by cases h; exact ⟨[], .nil⟩
  | [], _ :: _, h => by cases h
  | u :: us, n :: ns, h => by
    rw [List.map_cons] at h
    cases h with
    | cons r t =>
      obtain ⟨k, rfl⟩ := r
      obtain ⟨as, q⟩ := ints_reads t
      rw [List.map_cons]
      exact ⟨_, .cons (.int n k) q⟩
theorem ints_alike (ns : List Int) : PySem.W.AlikeAll (ns.map PyData.int) := by
  constructor
  · intro x hx y hy
    obtain ⟨i, _, rfl⟩ := List.mem_map.mp hx
    obtain ⟨j, _, rfl⟩ := List.mem_map.mp hy
    rfl
  · intro x hx
    obtain ⟨i, _, rfl⟩ := List.mem_map.mp hx
    exact fun q => nomatch q
theorem ints_depth : ∀ ns : List Int, PyData.depthAll (ns.map PyData.int) = 0
  | [] => by simp [PyData.depthAll]
  | n :: ns => by
    rw [List.map_cons, PyData.depthAll, ints_depth ns, PyData.depth]
    rfl
theorem reads_int {h : Heap} {v : Value} {i : Int} {bs : List Addr} (r : Reads h v (.int i) bs) : ∃ t, v = .int i t := by
  cases r
  exact ⟨_, rfl⟩
theorem min_data_ok (hd : X.A.handled = none) (hu : X.A.units + 64 < cLine) {pins : List (Addr × Obj)} {s : Shared} {σ : L2.St} {H : Hp} {a : Addr} {b : Int} {bs : List Int} {Q : VK} (I : Inv X pins σ H s) (h : SqL X.K H a ((b :: bs).map V.int) ∨ SqT X.K H a ((b :: bs).map V.int)) (q : Q (.int (bs.foldl min b)) H) :
    wpAny (model X.prog X.w) X.A (call (.builtin "min") [.ref a]) (EP X pins σ Q) X.xe s := by
  have fin : ∀ (v : Value) (h' : Heap) (tk : Nat) (cs : List Addr), Reads h' v (PySem.W.minD (.int b) (bs.map PyData.int)) cs → (∀ b o, s.heap.get? b = some o → h'.get? b = some o) → EP X pins σ Q v { s with heap := h', toks := tk } := fun v h' tk cs r k => by
    rw [PySem.W.minD_ints] at r
    obtain ⟨t, rfl⟩ := reads_int r
    exact ⟨.int _, H, I.kept (t' := tk) k, ⟨t, rfl⟩, q⟩
  have hz : X.A.units + 1 + PyData.depthAll (.int b :: bs.map PyData.int) < cLine := by
    have := ints_depth (b :: bs)
    rw [List.map_cons] at this
    rw [this]
    omega
  rcases h with h | h
  · obtain ⟨its, rv, pl, _⟩ := I.list h
    obtain ⟨as, ra⟩ := ints_reads (h := s.heap) rv
    exact PySem.W.min_list_data hd pl.isList ra (ints_alike (b :: bs)) hz fun i v h' tk cs hv r k => fin v h' tk cs r k
  · obtain ⟨its, rv, pl, _⟩ := I.tuple h
    obtain ⟨as, ra⟩ := ints_reads (h := s.heap) rv
    exact PySem.W.min_tuple_data hd (show s.heap.IsTuple a its.toArray from pl) ra (ints_alike (b :: bs)) hz fun i v h' tk cs hv r k => fin v h' tk cs r k
theorem max_data_ok (hd : X.A.handled = none) (hu : X.A.units + 64 < cLine) {pins : List (Addr × Obj)} {s : Shared} {σ : L2.St} {H : Hp} {a : Addr} {b : Int} {bs : List Int} {Q : VK} (I : Inv X pins σ H s) (h : SqL X.K H a ((b :: bs).map V.int) ∨ SqT X.K H a ((b :: bs).map V.int)) (q : Q (.int (bs.foldl max b)) H) :
    wpAny (model X.prog X.w) X.A (call (.builtin "max") [.ref a]) (EP X pins σ Q) X.xe s := by
  have fin : ∀ (v : Value) (h' : Heap) (tk : Nat) (cs : List Addr), Reads h' v (PySem.W.maxD (.int b) (bs.map PyData.int)) cs → (∀ b o, s.heap.get? b = some o → h'.get? b = some o) → EP X pins σ Q v { s with heap := h', toks := tk } := fun v h' tk cs r k => by
    rw [PySem.W.maxD_ints] at r
    obtain ⟨t, rfl⟩ := reads_int r
    exact ⟨.int _, H, I.kept (t' := tk) k, ⟨t, rfl⟩, q⟩
  have hz : X.A.units + 1 + PyData.depthAll (.int b :: bs.map PyData.int) < cLine := by
    have := ints_depth (b :: bs)
    rw [List.map_cons] at this
    rw [this]
    omega
  rcases h with h | h
  · obtain ⟨its, rv, pl, _⟩ := I.list h
    obtain ⟨as, ra⟩ := ints_reads (h := s.heap) rv
    exact PySem.W.max_list_data hd pl.isList ra (ints_alike (b :: bs)) hz fun i v h' tk cs hv r k => fin v h' tk cs r k
  · obtain ⟨its, rv, pl, _⟩ := I.tuple h
    obtain ⟨as, ra⟩ := ints_reads (h := s.heap) rv
    exact PySem.W.max_tuple_data hd (show s.heap.IsTuple a its.toArray from pl) ra (ints_alike (b :: bs)) hz fun i v h' tk cs hv r k => fin v h' tk cs r k
theorem c_min (hc : X.calm = true) (hd : X.A.handled = none) (hu : X.A.units + 64 < cLine) : CallD X 1 k (.builtin "min") fMin := fun pins s σ H xs us Q I r h => by
  obtain ⟨ex, ds, d, ext, rs, e, q⟩ := h
  unfold fMin at e
  split at e
  · cases e
    cases rs with
    | cons r1 t =>
      cases t with
      | cons r2 t =>
        cases t
        rw [RB.int r1, RB.int r2] at *
        exact call_min2 hc pins s σ H _ us Q I r ⟨_, _, rfl, q.int⟩
  · split at e
    · rename_i b bs hb
      cases e
      cases rs with
      | cons r1 t =>
        cases t
        obtain ⟨a, ys, rfl, h1, _, h3⟩ := RB.lst r1
        rw [nums_vals h3 hb] at h1
        rw [Vals.ref1 r]
        exact min_data_ok hd hu I (.inl h1) q.int
    · cases e
  · split at e
    · rename_i b bs hb
      cases e
      cases rs with
      | cons r1 t =>
        cases t
        obtain ⟨a, ys, rfl, h1, _, h3⟩ := RB.tup r1
        rw [nums_vals (n := 0) h3 hb] at h1
        rw [Vals.ref1 r]
        exact min_data_ok hd hu I (.inr h1) q.int
    · cases e
  · cases e
theorem c_max (hc : X.calm = true) (hd : X.A.handled = none) (hu : X.A.units + 64 < cLine) : CallD X 1 k (.builtin "max") fMax := fun pins s σ H xs us Q I r h => by
  obtain ⟨ex, ds, d, ext, rs, e, q⟩ := h
  unfold fMax at e
  split at e
  · cases e
    cases rs with
    | cons r1 t =>
      cases t with
      | cons r2 t =>
        cases t
        rw [RB.int r1, RB.int r2] at *
        exact call_max2 hc pins s σ H _ us Q I r ⟨_, _, rfl, q.int⟩
  · split at e
    · rename_i b bs hb
      cases e
      cases rs with
      | cons r1 t =>
        cases t
        obtain ⟨a, ys, rfl, h1, _, h3⟩ := RB.lst r1
        rw [nums_vals h3 hb] at h1
        rw [Vals.ref1 r]
        exact max_data_ok hd hu I (.inl h1) q.int
    · cases e
  · split at e
    · rename_i b bs hb
      cases e
      cases rs with
      | cons r1 t =>
        cases t
        obtain ⟨a, ys, rfl, h1, _, h3⟩ := RB.tup r1
        rw [nums_vals (n := 0) h3 hb] at h1
        rw [Vals.ref1 r]
        exact max_data_ok hd hu I (.inr h1) q.int
    · cases e
  · cases e
end
end Px

namespace Px
open PySem PySem.Spec PyProof.Rows L2

/-! ### slices -/
abbrev TOf (X : Cx) (W : WX) (L : List Nat) (f : Env → Res (Option Int)) : TO := fun σ H Q => ∃ ex ρ fp, SI X.K ex L ρ σ H fp ∧ Out X W σ H (f ρ) fun o => ∀ H', Same H H' → Q o H'
abbrev EP (X : Cx) (W : WX) (L : List Nat) (e : Option Expr) (f : Env → Res (Option Int)) : Prop := PO X e (TOf X W L f)
def oNone : Env → Res (Option Int) := fun _ => .ok none
def oSome (f : EF) : Env → Res (Option Int) := fun ρ => f ρ >>= fun d => match d with
  | .int i => .ok (some i)
  | _ => .err
theorem PO.imp {X : Cx} {e : Option Expr} {t t' : TO} (h : PO X e t) (m : ∀ σ H Q, t' σ H Q → t σ H Q) : PO X e t' := ⟨fun pins s σ H Q I q => h.run pins s σ H Q I (m σ H Q q)⟩
/-- the places lo .. hi of a list -/
def cut {α : Type} (xs : List α) (lo hi : Option Int) : List α := (xs.drop (HT.sIx xs.length 0 lo)).take (HT.sIx xs.length xs.length hi - HT.sIx xs.length 0 lo)
theorem cut_length {α : Type} (xs : List α) (lo hi : Option Int) : (cut xs lo hi).length ≤ xs.length := by
  unfold cut
  rw [List.length_take, List.length_drop]
  omega
def dSl : D → Option Int → Option Int → Res D
  | .lst xs, lo, hi => .ok (.lst (cut xs lo hi))
  | .tup xs, lo, hi => .ok (.tup (cut xs lo hi))
  | .str s, lo, hi => if s.length ≤ sizeLine then .ok (.str ⟨(cut s.cps.toList lo hi).toArray⟩) else .err
  | _, _, _ => .err
def eSl (f : EF) (lo hi : Env → Res (Option Int)) : EF := fun ρ => f ρ >>= fun d => lo ρ >>= fun a => hi ρ >>= fun b => dSl d a b
def dRev : D → Res D
  | .lst xs => .ok (.lst xs.reverse)
  | .tup xs => .ok (.tup xs.reverse)
  | _ => .err
theorem dRev_nx : NoX1 dRev := fun a c h => by
  unfold dRev at h
  split at h <;> cases h
section
variable {prog : Program} {w : World} {A : Around} {E : Value → Shared → Prop} {s : Shared}
theorem sliceApplied_rev {sl : Addr} {vl vu : Value} {t : Tok} {n : Nat} {Q : Int × Int × Nat → Shared → Prop} (hs : s.heap.IsSliceOf sl vl vu (.int (-1) t)) (pl : IsPart vl none) (pu : IsPart vu none) (h : Q ((n : Int) - 1, -1, n) s) :
    wpAny (model prog w) A (Builtin.Slice.sliceApplied (.ref sl) (pure (n : Int))) Q E s := by
  obtain ⟨os, hos, hcs, hds⟩ := id hs
  unfold Builtin.Slice.sliceApplied Builtin.Slice.sliceFields
  refine wpAny_bind (wpAny_bind (wpAny_field hos hds (x := vl) rfl (wpAny_bind (wpAny_field hos hds (x := vu) rfl (wpAny_bind (wpAny_field hos hds (x := .int (-1) t) rfl (wpAny_pure ?_)))))))
  refine wpAny_bind (slicePart_int ?_)
  show wpAny _ _ (if ((-1 : Int) == 0) = true then _ else _) _ _ s
  rw [if_neg (by decide)]
  refine wpAny_bind (HT.slicePart_ pl (wpAny_bind (HT.slicePart_ pu (wpAny_bind (wpAny_pure ?_)))))
  have e : Builtin.Slice.slicePlaces ((n : Int) - 1) (-1) (-1) = n := by
    unfold Builtin.Slice.slicePlaces
    have h1 : ¬ ((-1 : Int) > 0) := by omega
    simp only [h1, if_false, Int.neg_neg, Int.ediv_one]
    split <;> omega
  show wpAny _ _ (pure ((n : Int) - 1, (-1 : Int), Builtin.Slice.slicePlaces ((n : Int) - 1) (-1) (-1))) _ _ s
  rw [e]
  exact wpAny_pure h
theorem pick_rev (xs : Array Value) : ((List.range xs.size).filterMap fun (m : Nat) => xs[(((xs.size : Nat) : Int) - 1 + (m : Int) * (-1)).toNat]?).toArray = xs.toList.reverse.toArray := by
  congr 1
  obtain ⟨l⟩ := xs
  have key : ∀ (k : Nat), k ≤ l.length → ((List.range k).filterMap fun (m : Nat) => l[((l.length : Int) - 1 + (m : Int) * (-1)).toNat]?) = l.reverse.take k := by
    intro k
    induction k with
    | zero => intro _; simp
    | succ k ih =>
      intro hk
      rw [List.range_succ, List.filterMap_append, ih (by omega), List.take_add_one]
      congr 1
      have e1 : ((l.length : Int) - 1 + (k : Int) * (-1)).toNat = l.length - 1 - k := by omega
      have e2 : l.reverse[k]? = l[l.length - 1 - k]? := by rw [List.getElem?_reverse (by omega)]
      simp only [List.filterMap_cons, List.filterMap_nil, e1, e2]
      cases q : l[l.length - 1 - k]? <;> simp
  have := key l.length (Nat.le_refl _)
  rw [List.take_of_length_le (by rw [List.length_reverse]; exact Nat.le_refl _)] at this
  simpa using this
theorem getItem_tuple_rev {t sl : Addr} {items : Array Value} {vl vu : Value} {k : Tok} {Q : Value → Shared → Prop} (ht : IsTup s.heap t items) (hs : s.heap.IsSliceOf sl vl vu (.int (-1) k)) (pl : IsPart vl none) (pu : IsPart vu none)
    (h : Q (.ref s.heap.objs.size) { s with heap := s.heap.push { cls := .type "tuple", data := .seq items.toList.reverse.toArray } })
    (hsz : items.size ≤ sizeLine) : wpAny (model prog w) A (getItem (.ref t) (.ref sl)) Q E s := by
  have htake : sizeOk (.seq items.toList.reverse.toArray) := by
    show items.toList.reverse.toArray.size ≤ sizeLine
    rw [List.size_toArray, List.length_reverse, Array.length_toList]
    exact hsz
  obtain ⟨os, hos, hcs, hds⟩ := id hs
  have hTs : s.TypeIs (.ref sl) "slice" := ⟨os, hos, hcs⟩
  unfold getItem
  try with_reducible refine wpAny_holding ?_
  first | refine wpAny_bind (wpAny_pure ?_) | skip
  refine wpAny_bind (wpAny_sequenceKey ht.typeIs (by decide) ?_)
  refine wpAny_bind (wpAny_callSpecial?_slot (name := Str.ofString "__getitem__") ht.typeIs PyProof.Rows.slot_tuple_getitem
    (wpAny_call_entry PyProof.Rows.slot_tuple_getitem ht.typeIs entry_tuple_getitem ?_ (args_tuple_getitem _ _)))
  show wpAny _ _ (Builtin.Tuple.tupleItemsOf (.ref t) >>= _) _ _ s
  refine wpAny_bind (tupleItemsOf_ ht ?_)
  refine wpAny_bind (wpAny_typeOf hTs ?_)
  rw [if_pos (by decide)]
  refine wpAny_bind (sliceApplied_rev hs pl pu ?_)
  have hno : ¬ (((((items.size : Nat) : Int) - 1 == 0 && (-1 : Int) == 1) && items.size == items.size) = true) := by
    intro q
    rw [Bool.and_eq_true, Bool.and_eq_true] at q
    exact absurd q.1.2 (by decide)
  show wpAny _ _ (if (((((items.size : Nat) : Int) - 1 == 0 && (-1 : Int) == 1) && items.size == items.size) = true) then _ else _) _ _ s
  rw [if_neg hno, pick_rev]
  first
    | exact wpAny_bind (m := Builtin.Tuple.tupleExact _) (wpAny_newObj_type (wpAny_pure ⟨_, rfl, wpAny_pure h⟩) htake)
    | exact wpAny_bind (m := Builtin.Tuple.tupleExact _) (wpAny_newObj_type (wpAny_bind (wpAny_pure (wpAny_pure ⟨_, rfl, wpAny_pure h⟩))) htake)
    | exact wpAny_bind (wpAny_bind (m := Builtin.Tuple.tupleExact _) (wpAny_newObj_type (wpAny_pure (wpAny_pure ⟨_, rfl, wpAny_pure h⟩)) htake))
    | exact wpAny_bind (wpAny_bind (m := Builtin.Tuple.tupleExact _) (wpAny_newObj_type (wpAny_pure ⟨_, rfl, wpAny_pure h⟩) htake))
end
section
variable {X : Cx} {W : WX} {L : List Nat} {n k : Nat} {pos p2 : Pos} {e : Expr} {lo hi : Option Expr} {f : EF} {fl fh : Env → Res (Option Int)}
theorem ep_none : EP X W L none oNone := PO.imp po_none fun σ H Q ⟨ex, ρ, fp, I, o⟩ => o H (Same.refl H)
theorem ep_some (h : EB X W L n e f) : EP X W L (some e) (oSome f) := PO.imp (po_some h) fun σ H Q ⟨ex, ρ, fp, I, o⟩ => ⟨ex, ρ, fp, I, o.bind.mono fun d q v H1 e1 r1 => by
  cases d with
  | int i => exact ⟨i, r1.int, q H1 e1⟩
  | _ => exact q.elim⟩
theorem eo_sl (he : EB X W L 1 e f) (hl : EP X W L lo fl) (hu : EP X W L hi fh) : EO X W L 1 (.Subscript e (.Slice lo hi none p2) pos) (eSl f fl fh) :=
  PE.imp (pe_slice (SlR.or sl_list (SlR.or sl_tupA sl_str)) he hl hu) fun σ H Q ⟨ex, ρ, fp, I, o⟩ => by
    refine ⟨ex, ρ, fp, I, o.bind.mono fun d q1 v H1 e1 r1 => ⟨ex, ρ, fp, I.same e1, (q1.bind.later e1).mono fun a q2 H2 e2 => ⟨ex, ρ, fp, (I.same e1).same e2, ((q2.bind.later (e1.trans e2))).mono fun b q3 H3 e3 => ?_⟩⟩⟩
    have r3 := (r1.same e2).same e3
    have e4 := (e1.trans e2).trans e3
    cases d with
    | lst xs =>
      obtain ⟨p, ys, rfl, h1, h2, h3⟩ := r3.lst
      have hc : Paired (R X.K ex H3) (cut xs a b) (cutV ys a b) := by
        unfold cut cutV
        rw [← h3.length]
        exact Paired.takeP _ (Paired.dropP _ h3)
      exact .inl ⟨p, ys, rfl, h1, fun l hl => QO.lst (K := X.K) (ex := ex) (fun v H5 fq e5 ro nd nw => q3 v H5 fq (e4.trans e5) ro nd fun a ha => e4.free (nw a ha)) hc hl (Nat.le_trans (cutV_length ys a b) h2)⟩
    | tup xs =>
      obtain ⟨p, ys, rfl, h1, h2, h3⟩ := r3.tup
      have hc : Paired (R X.K ex H3) (cut xs a b) (cutV ys a b) := by
        unfold cut cutV
        rw [← h3.length]
        exact Paired.takeP _ (Paired.dropP _ h3)
      have q4 : QO X.K ex H3 1 Q (.tup (cut xs a b)) := fun v H5 fq e5 ro nd nw => q3 v H5 fq (e4.trans e5) ro nd fun a ha => e4.free (nw a ha)
      refine .inr (.inl ⟨p, ys, rfl, h1, fun hw => q4.flat ?_ rfl, fun _ l hl => q4.tup hc hl (Nat.le_trans (cutV_length ys a b) h2)⟩)
      have ew : cut xs a b = xs := by
        unfold cut
        rw [h3.length, hw.1, hw.2, List.drop_zero, Nat.sub_zero, ← h3.length, List.take_length]
      rw [ew, R]
      exact ⟨p, ys, rfl, ⟨h1, h2⟩, RL.of h3⟩
    | str z =>
      by_cases hz : z.length ≤ sizeLine
      · have e5 : dSl (.str z) a b = .ok (.str ⟨(cut z.cps.toList a b).toArray⟩) := if_pos hz
        rw [e5] at q3
        have q4 : QO X.K ex H3 1 Q _ := fun v H5 fq e5 ro nd nw => q3 v H5 fq (e4.trans e5) ro nd fun a ha => e4.free (nw a ha)
        refine .inr (.inr ⟨z, r3.str, hz, ?_⟩)
        have := q4.str
        unfold cutS
        unfold cut at this
        rw [Array.length_toList] at this
        exact this
      · have e5 : dSl (.str z) a b = .err := if_neg hz
        rw [e5] at q3
        exact q3.elim
    | _ => exact q3.elim
theorem eo_rev {kk : Nat} {p1 p3 : Pos} (he : EB X W L 1 e f) : EO X W L 1 (.Subscript e (.Slice none none (some (.UnaryOp .USub (.Constant (.int 1) kk p1) p2)) p3) pos) (eUn dRev f) := by
  refine ⟨fun pins s σ H Q I ⟨ex, ρ, fp, S, o⟩ => ?_⟩
  refine Subscript_ (thn (he.run pins s σ H (fun x H1 => ∃ d, Same H H1 ∧ RB X.K ex H1 1 d x ∧ Out X W σ H (dRev d) fun d => QO X.K ex H1 1 Q d) I
    ⟨ex, ρ, fp, S, o.bind.mono fun d q v H1 e1 r1 => ⟨d, e1, r1, q.mono fun z q2 v H5 fq e5 ro nd nw => q2 v H5 fq (e1.trans e5) ro nd fun a ha => e1.free (nw a ha)⟩⟩) fun v s1 ⟨x, H1, I1, r1, d, e1, rb, q1⟩ => ?_)
  have hst : PO X (some (.UnaryOp .USub (.Constant (.int 1) kk p1) p2)) (tPart (tUn (rU fun i => .int (-i)) (tC (.int 1)))) := po_some (pe_un un_neg pe_int)
  refine wpAny_Slice (thn (po_none.run pins s1 σ H1 (fun o H2 => o = none ∧ H2 = H1) I1 ⟨rfl, rfl⟩) fun vl s2 ⟨l, H2, I2, pl, el, e2⟩ => ?_)
  subst el e2
  refine thn (po_none.run pins s2 σ H2 (fun o H3 => o = none ∧ H3 = H2) I2 ⟨rfl, rfl⟩) fun vu s3 ⟨u, H3, I3, pu, eu, e3⟩ => ?_
  subst eu e3
  refine thn (hst.run pins s3 σ H3 (fun o H4 => o = some (-1) ∧ H4 = H3) I3 ⟨1, rfl, -1, rfl, rfl, rfl⟩) fun vs s4 ⟨o, H4, I4, ps, eo, e4⟩ => ?_
  subst eo e4
  have I5 : Inv X pins σ H4 { s4 with heap := s4.heap.push { cls := .type "slice", data := .fields #[vl, vu, vs] } } := I4.kept (t' := s4.toks) fun b ob q => Heap.get?_push_of_some _ q
  show wpAny (model X.prog X.w) X.A (subscriptTail e (.Slice none none (some (.UnaryOp .USub (.Constant (.int 1) kk p1) p2)) p3) v (.ref s4.heap.objs.size)) (L2.EP X pins σ Q) X.xe { s4 with heap := s4.heap.push { cls := .type "slice", data := .fields #[vl, vu, vs] } }
  obtain ⟨z, ez, qz⟩ := no_exc q1 (dRev_nx d)
  cases d with
  | lst xs =>
    cases ez
    obtain ⟨a, ys, rfl, hx, hl, h3⟩ := rb.lst
    cases r1
    obtain ⟨its, r, ht, hz⟩ := I5.list hx
    have hlen := r.length
    refine tail_any (ops := [.ref a, .ref s4.heap.objs.size]) ht.isList.typeIs (PySem.slot_list_getitem.lookup) ?_ (by with_unfolding_all rfl)
    refine wpAny_getItem_list_slice ht.isList (Heap.IsSliceOf.new _ vl vu vs) pl pu ps (by decide) ?_ (by rw [List.size_toArray]; omega)
    rw [PySem.W.krv_pick]
    refine ⟨.ref _, _, I5.laid (t' := s4.toks) (o := .lst ys.reverse) (fun b ob q => Heap.get?_push_of_some _ q) (Nat.le_refl _) ?_, rfl, qz.lst (Paired.revP h3) (I5.hok.fresh (Nat.le_refl _)) (by rw [List.length_reverse]; exact hl)⟩
    exact ⟨by rw [List.length_reverse]; exact hz, _, 0, r.reverse, Heap.get?_push_size _ rfl⟩
  | tup xs =>
    cases ez
    obtain ⟨a, ys, rfl, hx, hl, h3⟩ := rb.tup
    cases r1
    obtain ⟨its, r, ht, hz⟩ := I5.tuple hx
    have hlen := r.length
    refine tail_any (ops := [.ref a, .ref s4.heap.objs.size]) ht.typeIs (PyProof.Rows.slot_tuple_getitem.lookup) ?_ (by with_unfolding_all rfl)
    cases ps with
    | int i t =>
      refine getItem_tuple_rev ht (Heap.IsSliceOf.new _ vl vu (.int (-1) t)) pl pu ?_ (by rw [List.size_toArray]; omega)
      refine ⟨.ref _, _, I5.laid (t' := s4.toks) (o := .tup ys.reverse) (fun b ob q => Heap.get?_push_of_some _ q) (Nat.le_refl _) ?_, rfl, qz.tup (Paired.revP h3) (I5.hok.fresh (Nat.le_refl _)) (by rw [List.length_reverse]; exact hl)⟩
      exact ⟨by rw [List.length_reverse]; exact hz, its.reverse, r.reverse, IsTup.new _ _⟩
  | _ => cases ez
end
end Px

namespace Px
open PySem PySem.Spec PyProof.Rows L2

/-! ### walks -/
/-- an iterator that yields ds one by one, while g is held -/
structure Itn (K : PySem.W.Frag) (n : Nat) (J : It) (g : D × V) (ds : List D) : Prop where
  len : ds.length ≤ sizeLine
  go : ∀ ex H i, RB K ex H n g.1 g.2 → i < ds.length → J.go i H
  stop : ∀ ex H, RB K ex H n g.1 g.2 → J.stop ds.length H
  item : ∀ ex H i d x H', RB K ex H n g.1 g.2 → ds[i]? = some d → J.yld i H x H' → Same H H' ∧ RB K ex H' (n - 1) d x
def tI (X : Cx) (W : WX) (L : List Nat) (n : Nat) (f : Env → Res (List D)) : TI := fun σ H R => ∃ ex ρ fp, SI X.K ex L ρ σ H fp ∧ Out X W σ H (f ρ) fun ds => ∀ J H' g, Same H H' → RB X.K ex H' n g.1 g.2 → Itn X.K n J g ds → R J H'
abbrev EI (X : Cx) (W : WX) (L : List Nat) (n : Nat) (tg e : Expr) (f : Env → Res (List D)) : Prop := PI X tg e (tI X W L n f)
theorem PI.imp {X : Cx} {tg e : Expr} {t t' : TI} (h : PI X tg e t) (m : ∀ σ H Q, t' σ H Q → t σ H Q) : PI X tg e t' := ⟨fun pins s σ H R I q => h.run pins s σ H R I (m σ H R q)⟩
def signs (s : Str) : List D := s.cps.toList.map fun c => .str ⟨#[c]⟩
def dItems : D → Res (List D)
  | .lst xs => .ok xs
  | .tup xs => .ok xs
  | .str s => if s.length ≤ sizeLine then .ok (signs s) else .err
  | _ => .err
theorem dItems_nx : NoX1 dItems := fun a c h => by
  unfold dItems at h
  split at h <;> first | cases h | (split at h <;> cases h)
theorem itn_list {K : PySem.W.Frag} {n : Nat} {ds : List D} {a : Addr} (hl : ds.length ≤ sizeLine) : Itn K n (Itl K a) (.lst ds, .ref a) ds := by
  have ob : ∀ ex H, RB K ex H n (.lst ds) (.ref a) → ∃ xs, SqL K H a xs ∧ Paired (RB K ex H (n - 1)) ds xs := fun ex H h => by
    cases n with
    | zero =>
      rw [RB, R] at h
      obtain ⟨b, xs, e, h1, h2⟩ := h
      cases e
      exact ⟨xs, h1.1.sq, RL.pair h2⟩
    | succ n =>
      obtain ⟨b, xs, e, h1, h2, h3⟩ := RB.lst h
      cases e
      exact ⟨xs, h1, h3⟩
  refine ⟨hl, fun ex H i h hi => ?_, fun ex H h => ?_, fun ex H i d x H' h hd hy => ?_⟩
  · obtain ⟨xs, h1, h2⟩ := ob ex H h
    obtain ⟨x, hx, _⟩ := Paired.get h2 (List.getElem?_eq_getElem hi)
    exact ⟨xs, x, h1, hx⟩
  · obtain ⟨xs, h1, h2⟩ := ob ex H h
    exact ⟨xs, h1, by rw [h2.length]; exact Nat.le_refl _⟩
  · obtain ⟨xs, h1, h2⟩ := ob ex H h
    obtain ⟨y, hy1, ry⟩ := Paired.get h2 hd
    obtain ⟨rfl, hy2⟩ := hy
    have := hy2 xs h1
    rw [hy1] at this
    cases this
    exact ⟨Same.refl _, ry⟩
theorem itn_tup {K : PySem.W.Frag} {n : Nat} {ds : List D} {a : Addr} (hl : ds.length ≤ sizeLine) : Itn K n (Itt K a) (.tup ds, .ref a) ds := by
  have ob : ∀ ex H, RB K ex H n (.tup ds) (.ref a) → ∃ xs, SqT K H a xs ∧ Paired (R K ex H) ds xs := fun ex H h => by
    obtain ⟨b, xs, e, h1, h2, h3⟩ := RB.tup h
    cases e
    exact ⟨xs, h1, h3⟩
  refine ⟨hl, fun ex H i h hi => ?_, fun ex H h => ?_, fun ex H i d x H' h hd hy => ?_⟩
  · obtain ⟨xs, h1, h2⟩ := ob ex H h
    obtain ⟨x, hx, _⟩ := Paired.get h2 (List.getElem?_eq_getElem hi)
    exact ⟨xs, x, h1, hx⟩
  · obtain ⟨xs, h1, h2⟩ := ob ex H h
    exact ⟨xs, h1, by rw [h2.length]; exact Nat.le_refl _⟩
  · obtain ⟨xs, h1, h2⟩ := ob ex H h
    obtain ⟨y, hy1, ry⟩ := Paired.get h2 hd
    obtain ⟨rfl, hy2⟩ := hy
    have := hy2 xs h1
    rw [hy1] at this
    cases this
    exact ⟨Same.refl _, RB.of ry⟩
theorem itn_str {K : PySem.W.Frag} {n : Nat} {x : Str} (hl : x.length ≤ sizeLine) : Itn K n (Its x) (.non, .non) (signs x) := by
  have el : (signs x).length = x.cps.size := by
    unfold signs
    rw [List.length_map, Array.length_toList]
  refine ⟨by rw [el]; exact hl, fun ex H i h hi => ?_, fun ex H h => ?_, fun ex H i d v H' h hd hy => ?_⟩
  · show i < x.cps.size
    rw [← el]
    exact hi
  · show x.cps.size ≤ (signs x).length
    rw [el]
    exact Nat.le_refl _
  · obtain ⟨rfl, c, hc, rfl⟩ := hy
    unfold signs at hd
    rw [List.getElem?_map, Array.getElem?_toList, hc] at hd
    cases hd
    exact ⟨Same.refl _, RB.of (by rw [R])⟩
def rng (lo : Int) (n : Nat) : List D := (List.range n).map fun i => .int (lo + (i : Nat))
def rngC (lo c : Int) (n : Nat) : List D := (List.range n).map fun i => .int (lo + (i : Nat) * c)
theorem itn_rng {K : PySem.W.Frag} {n k : Nat} {lo : Int} (hl : k ≤ sizeLine) : Itn K n (Itr lo k) (.non, .non) (rng lo k) := by
  have el : (rng lo k).length = k := by
    unfold rng
    rw [List.length_map, List.length_range]
  refine ⟨by rw [el]; exact hl, fun ex H i h hi => ?_, fun ex H h => ?_, fun ex H i d v H' h hd hy => ?_⟩
  · show i < k
    rw [← el]
    exact hi
  · show k ≤ _
    rw [el]
    exact Nat.le_refl _
  · obtain ⟨rfl, rfl⟩ := hy
    have hi : i < k := by
      obtain ⟨h1, _⟩ := List.getElem?_eq_some_iff.mp hd
      rw [el] at h1
      exact h1
    unfold rng at hd
    rw [List.getElem?_map, List.getElem?_range hi] at hd
    cases hd
    exact ⟨Same.refl _, RB.of (by rw [R])⟩
theorem itn_rngC {K : PySem.W.Frag} {n k : Nat} {lo c : Int} (hl : k ≤ sizeLine) : Itn K n (Itc lo c k) (.non, .non) (rngC lo c k) := by
  have el : (rngC lo c k).length = k := by
    unfold rngC
    rw [List.length_map, List.length_range]
  refine ⟨by rw [el]; exact hl, fun ex H i h hi => ?_, fun ex H h => ?_, fun ex H i d v H' h hd hy => ?_⟩
  · show i < k
    rw [← el]
    exact hi
  · show k ≤ _
    rw [el]
    exact Nat.le_refl _
  · obtain ⟨rfl, rfl⟩ := hy
    have hi : i < k := by
      obtain ⟨h1, _⟩ := List.getElem?_eq_some_iff.mp hd
      rw [el] at h1
      exact h1
    unfold rngC at hd
    rw [List.getElem?_map, List.getElem?_range hi] at hd
    cases hd
    exact ⟨Same.refl _, RB.of (by rw [R])⟩
def iSeq (f : EF) : Env → Res (List D) := eUn dItems f
def dRng1 : List D → Res (List D)
  | [.int j] => if j ≤ 16777216 ∧ -(2 ^ 62) ≤ j then .ok (rng 0 j.toNat) else .err
  | _ => .err
def dRng2 : List D → Res (List D)
  | [.int i, .int j] => if j - i ≤ 16777216 ∧ -(2 ^ 62) ≤ i ∧ i < 2 ^ 62 ∧ -(2 ^ 62) ≤ j ∧ j < 2 ^ 62 then .ok (rng i (j - i).toNat) else .err
  | _ => .err
def dRng3 : List D → Res (List D)
  | [.int i, .int j, .int c] => if c = -1 ∧ i - j ≤ 16777216 ∧ -(2 ^ 62) ≤ i ∧ i < 2 ^ 62 ∧ -(2 ^ 62) ≤ j ∧ j < 2 ^ 62 then .ok (rngC i (-1) (i - j).toNat) else .err
  | _ => .err
def iCall (o : List D → Res (List D)) (fs : Env → Res (List D)) : Env → Res (List D) := fun ρ => fs ρ >>= o
section
variable {X : Cx} {W : WX} {L : List Nat} {n k m n2 : Nat} {pos p : Pos} {e tg a b c : Expr} {f : EF} {fs : Env → Res (List D)}
theorem line_eq : (sizeLine : Nat) = 16777216 := by decide
theorem ei_seq (he : EB X W L n e f) : EI X W L n tg e (iSeq f) := by
  refine ⟨fun pins s σ H Rr I ⟨ex, ρ, fp, S, o⟩ => ?_⟩
  refine thn (he.run pins s σ H (fun x H1 => ∃ d, Same H H1 ∧ RB X.K ex H1 n d x ∧ Out X W σ H (dItems d) fun ds => ∀ J H' g, Same H H' → RB X.K ex H' n g.1 g.2 → Itn X.K n J g ds → Rr J H') I
    ⟨ex, ρ, fp, S, o.bind.mono fun d q v H1 e1 r1 => ⟨d, e1, r1, q⟩⟩) fun v s1 ⟨x, H1, I1, r1, d, e1, rb, q⟩ => ?_
  obtain ⟨ds, ed, qd⟩ := no_exc q (dItems_nx d)
  cases d with
  | lst xs =>
    cases ed
    obtain ⟨a, ys, rfl, h1, h2, h3⟩ := rb.up.lst
    cases r1
    obtain ⟨its, rv, p, hz⟩ := I1.list h1
    refine wpAny_pyIter_list p.isList (pi_one (tk := s1.toks) I1 _ (turn_list a _) ⟨_, Heap.get?_push_size _ rfl, rfl, rfl⟩ (qd _ H1 (_, .ref a) e1 rb (itn_list (by rw [h3.length]; exact h2))))
  | tup xs =>
    cases ed
    obtain ⟨a, ys, rfl, h1, h2, h3⟩ := rb.tup
    cases r1
    obtain ⟨its, rv, p, hz⟩ := I1.tuple h1
    refine wpAny_pyIter_tuple (show s1.heap.IsTuple a its.toArray from p) (pi_one (tk := s1.toks) I1 _ (turn_tuple a _) ⟨_, Heap.get?_push_size _ rfl, rfl, rfl⟩ (qd _ H1 (_, .ref a) e1 rb (itn_tup (by rw [h3.length]; exact h2))))
  | str z =>
    have eq : dItems (.str z) = if z.length ≤ sizeLine then .ok (signs z) else .err := rfl
    rw [eq] at ed
    split at ed
    · rename_i hz
      cases ed
      rw [rb.str] at r1
      obtain ⟨t, rfl⟩ := r1
      cases ha : z.cps.all (· < 128)
      · exact wpAny_pyIter_wide ha (pi_one (tk := s1.toks) I1 _ (turn_str _ z t "str_iterator" (.inr rfl)) ⟨_, Heap.get?_push_size _ rfl, rfl, rfl⟩ (qd _ H1 (.non, .non) e1 (RB.of (by rw [R])) (itn_str hz)))
      · exact wpAny_pyIter_ascii ha (pi_one (tk := s1.toks) I1 _ (turn_str _ z t "str_ascii_iterator" (.inl rfl)) ⟨_, Heap.get?_push_size _ rfl, rfl, rfl⟩ (qd _ H1 (.non, .non) e1 (RB.of (by rw [R])) (itn_str hz)))
    · cases ed
  | _ => cases ed
theorem ei_range1 (hg : Gl X "range") (hm : X.mg "range" = none) (ha : EA X W L n2 m [a] fs) (hs : starEach [a] X.env = [(false, eval a X.env)] := by rfl) : EI X W L n tg (.Call (.Name "range" p) [a] [] pos) (iCall dRng1 fs) :=
  PI.imp (pi_range1 hg hm ha hs) fun σ H Q ⟨ex, ρ, fp, I, o⟩ => ⟨ex, ρ, fp, I, o.bind.mono fun ds q vs H1 e1 r1 _ => by
    unfold dRng1 at q
    split at q
    · split at q
      · rename_i j hj
        cases r1 with
        | cons r t =>
          cases t
          rw [RB.int r]
          have hj' := hj
          exact ⟨j, rfl, hj.2, by omega, q (Itr 0 j.toNat) H1 (.non, .non) e1 (RB.of (by rw [R])) (itn_rng (by rw [line_eq]; omega))⟩
      · exact q.elim
    · exact q.elim⟩
theorem ei_range2 (hg : Gl X "range") (hm : X.mg "range" = none) (ha : EA X W L n2 m [a, b] fs) (hs : starEach [a, b] X.env = [(false, eval a X.env), (false, eval b X.env)] := by rfl) (hs2 : starEach [b] X.env = [(false, eval b X.env)] := by rfl) :
    EI X W L n tg (.Call (.Name "range" p) [a, b] [] pos) (iCall dRng2 fs) :=
  PI.imp (pi_range2 hg hm ha hs hs2) fun σ H Q ⟨ex, ρ, fp, I, o⟩ => ⟨ex, ρ, fp, I, o.bind.mono fun ds q vs H1 e1 r1 _ => by
    unfold dRng2 at q
    split at q
    · split at q
      · rename_i i j hj
        cases r1 with
        | cons r t =>
          cases t with
          | cons r2 t =>
            cases t
            rw [RB.int r, RB.int r2]
            exact ⟨i, j, rfl, hj.2, q (Itr i (j - i).toNat) H1 (.non, .non) e1 (RB.of (by rw [R])) (itn_rng (by rw [line_eq]; omega))⟩
      · exact q.elim
    · exact q.elim⟩
theorem ei_range3 (hg : Gl X "range") (hm : X.mg "range" = none) (ha : EA X W L n2 m [a, b, c] fs) (hs : starEach [a, b, c] X.env = (false, eval a X.env) :: starEach [b, c] X.env := by rfl) (hpl : (backTo pos (starEach [b, c] X.env)).any (·.1) = false := by rfl) :
    EI X W L n tg (.Call (.Name "range" p) [a, b, c] [] pos) (iCall dRng3 fs) :=
  PI.imp (pi_range3 hg hm ha hs hpl) fun σ H Q ⟨ex, ρ, fp, I, o⟩ => ⟨ex, ρ, fp, I, o.bind.mono fun ds q vs H1 e1 r1 _ => by
    unfold dRng3 at q
    split at q
    · split at q
      · rename_i i j c hj
        obtain ⟨hc, hj⟩ := hj
        subst hc
        cases r1 with
        | cons r t =>
          cases t with
          | cons r2 t =>
            cases t with
            | cons r3 t =>
              cases t
              rw [RB.int r, RB.int r2, RB.int r3]
              exact ⟨i, j, -1, (i - j).toNat, rfl, RgC.neg hj.2.1 hj.2.2.1 hj.2.2.2.1 hj.2.2.2.2, q (Itc i (-1) (i - j).toNat) H1 (.non, .non) e1 (RB.of (by rw [R])) (itn_rngC (by rw [line_eq]; omega))⟩
      · exact q.elim
    · exact q.elim⟩
end

/-! ### targets -/
abbrev Sets := List (Nat × D × V)
def setE (ρ : Env) (l : Sets) : Env := l.foldl (fun ρ t => ρ.set t.1 (some t.2.1)) ρ
def setS (σ : L2.St) (l : Sets) : L2.St := l.foldl (fun σ t => σ.set t.1 (some t.2.2)) σ
/-- a target does what a function over data does; it sets the slots is -/
def GSem (K : PySem.W.Frag) (g : TG) (gf : Env → D → Res Env) (is : List Nat) : Prop :=
  ∀ ex v σ H Q d ρ ρ', R K ex H d v → gf ρ d = .ok ρ' → (∀ l : Sets, (∀ t ∈ l, R K ex H t.2.1 t.2.2 ∧ t.1 ∈ is) → ρ' = setE ρ l → Q (setS σ l) H) → g v σ H Q
def gfName (i : Nat) : Env → D → Res Env := fun ρ d => .ok (ρ.set i (some d))
theorem gs_name {K : PySem.W.Frag} (i : Nat) : GSem K (gName i) (gfName i) [i] := fun ex v σ H Q d ρ ρ' r e h => by
  cases e
  exact h [(i, d, v)] (fun t ht => by
    rw [List.mem_singleton.mp ht]
    exact ⟨r, List.mem_singleton.mpr rfl⟩) rfl
def setL (ρ : Env) : List Nat → List D → Env
  | i :: is, d :: ds => setL (ρ.set i (some d)) is ds
  | _, _ => ρ
def gfTup (is : List Nat) : Env → D → Res Env := fun ρ d => match d with
  | .tup ds => if ds.length = is.length then .ok (setL ρ is ds) else .err
  | _ => .err
def gNames : List Nat → TGs
  | [] => gNil
  | i :: is => gCons (gName i) (gNames is)
theorem gNames_ok {K : PySem.W.Frag} {ex : AS} {H : Hp} {Q : L2.St → Hp → Prop} : ∀ (is : List Nat) (ds : List D) (vs : List V) (σ : L2.St) (ρ : Env), ds.length = is.length → Paired (R K ex H) ds vs →
    (∀ l : Sets, (∀ t ∈ l, R K ex H t.2.1 t.2.2 ∧ t.1 ∈ is) → setL ρ is ds = setE ρ l → Q (setS σ l) H) → gNames is vs σ H Q
  | [], [], _, σ, ρ, _, .nil, h => ⟨rfl, h [] (fun t ht => nomatch ht) rfl⟩
  | [], _ :: _, _, _, _, e, _, _ => by simp at e
  | _ :: _, [], _, _, _, e, _, _ => by simp at e
  | i :: is, d :: ds, _, σ, ρ, e, .cons (b := v) r t, h => by
    refine ⟨v, _, rfl, ?_⟩
    refine gNames_ok is ds _ (σ.set i (some v)) (ρ.set i (some d)) (by simpa using e) t fun l hl e2 => ?_
    exact h ((i, d, v) :: l) (fun t ht => by
      rcases List.mem_cons.mp ht with rfl | ht
      · exact ⟨r, List.mem_cons_self⟩
      · exact ⟨(hl t ht).1, List.mem_cons_of_mem _ (hl t ht).2⟩) e2
theorem gs_tup {K : PySem.W.Frag} (is : List Nat) : GSem K (gTup K is.length (gNames is)) (gfTup is) is := fun ex v σ H Q d ρ ρ' r e h => by
  unfold gfTup at e
  split at e
  · split at e
    · rename_i ds hl
      cases e
      rw [R] at r
      obtain ⟨a, xs, rfl, h1, h2⟩ := r
      exact ⟨a, xs, rfl, h1.1, by rw [← RL.length h2]; exact hl, gNames_ok is ds xs σ ρ hl (RL.pair h2) h⟩
    · cases e
  · cases e
def wipeE (ρ : Env) : List Nat → Env
  | [] => ρ
  | v :: vs => (wipeE ρ vs).set v none
theorem wipeE_length (ρ : Env) : ∀ vs : List Nat, (wipeE ρ vs).length = ρ.length
  | [] => rfl
  | v :: vs => by rw [wipeE, List.length_set, wipeE_length ρ vs]
theorem wipeE_some {ρ : Env} {i : Nat} {d : D} : ∀ {vs : List Nat}, (wipeE ρ vs)[i]? = some (some d) → ρ[i]? = some (some d) ∧ i ∉ vs
  | [], h => ⟨h, fun q => nomatch q⟩
  | v :: vs, h => by
    rw [wipeE] at h
    by_cases e : v = i
    · subst e
      by_cases hl : v < (wipeE ρ vs).length
      · rw [List.getElem?_set_self hl] at h
        cases h
      · rw [List.getElem?_eq_none (by rw [List.length_set]; omega)] at h
        cases h
    · rw [List.getElem?_set_ne e] at h
      obtain ⟨h1, h2⟩ := wipeE_some h
      exact ⟨h1, fun q => by
        rcases List.mem_cons.mp q with q | q
        · exact e q.symm
        · exact h2 q⟩
section
variable {K : PySem.W.Frag} {ex ex' : AS} {H H' : Hp} {L : List Nat} {ρ : Env} {σ : L2.St} {fp : Nat → List Addr}
theorem SI.wipe (I : SI K ex L ρ σ H fp) (vs : List Nat) : SI K ex L (wipeE ρ vs) (L2.wipe σ vs) H fp where
  len := by rw [wipeE_length, L2.wipe_length]; exact I.len
  val := fun i d h => by
    obtain ⟨h1, h2⟩ := wipeE_some h
    obtain ⟨v, h3, h4⟩ := I.val i d h1
    exact ⟨v, by rw [L2.wipe_out h2]; exact h3, h4⟩
  nod := I.nod
  dis := I.dis
  sub := I.sub
  ext := I.ext
/-- a slot that is shared is stored -/
theorem SI.set (I : SI K ex L ρ σ H fp) {i : Nat} {d : D} {v : V} (r : R K ex H d v) (hL : L.getD i 0 = 0) : ∃ fp', SI K ex L (ρ.set i (some d)) (σ.set i (some v)) H fp' ∧ (∀ j a, a ∈ fp' j → a ∈ fp j) := by
  refine ⟨fun j => if j = i then [] else fp j, ⟨?_, fun j d' h => ?_, fun j => ?_, fun j k a h1 h2 => ?_, fun j a h => ?_, I.ext⟩, fun j a h => ?_⟩
  · rw [List.length_set, List.length_set]
    exact I.len
  · by_cases e : i = j
    · subst e
      by_cases hl : i < ρ.length
      · rw [List.getElem?_set_self hl] at h
        cases h
        refine ⟨v, List.getElem?_set_self (by rw [← I.len]; exact hl), ?_⟩
        rw [hL, if_pos rfl]
        exact ⟨rfl, r⟩
      · rw [List.getElem?_eq_none (by rw [List.length_set]; omega)] at h
        cases h
    · rw [List.getElem?_set_ne e] at h
      obtain ⟨u, h1, h2⟩ := I.val j d' h
      refine ⟨u, by rw [List.getElem?_set_ne e]; exact h1, ?_⟩
      show RO K ex H _ d' u (if j = i then [] else fp j)
      rw [if_neg (fun q => e q.symm)]
      exact h2
  · show (if j = i then [] else fp j).Nodup
    split
    · exact List.nodup_nil
    · exact I.nod j
  · have h1 : a ∈ (if j = i then [] else fp j) := h1
    have h2 : a ∈ (if k = i then [] else fp k) := h2
    split at h1
    · cases h1
    · split at h2
      · cases h2
      · exact I.dis j k a h1 h2
  · have h : a ∈ (if j = i then [] else fp j) := h
    split at h
    · cases h
    · exact I.sub j a h
  · have h : a ∈ (if j = i then [] else fp j) := h
    split at h
    · cases h
    · exact h
theorem SI.sets : ∀ (l : Sets) {ρ : Env} {σ : L2.St} {fp : Nat → List Addr}, SI K ex L ρ σ H fp → (∀ t ∈ l, R K ex H t.2.1 t.2.2 ∧ L.getD t.1 0 = 0) → ∃ fp', SI K ex L (setE ρ l) (setS σ l) H fp' ∧ (∀ j a, a ∈ fp' j → a ∈ fp j)
  | [], _, _, fp, I, _ => ⟨fp, I, fun _ _ h => h⟩
  | t :: l, _, _, _, I, h => by
    obtain ⟨fp1, I1, m1⟩ := I.set (h t List.mem_cons_self).1 (h t List.mem_cons_self).2
    obtain ⟨fp2, I2, m2⟩ := SI.sets l I1 fun u hu => h u (List.mem_cons_of_mem _ hu)
    exact ⟨fp2, I2, fun j a q => m1 j a (m2 j a q)⟩
/-- more is owned (by others), all of it new to H -/
theorem SI.more (I : SI K ex L ρ σ H fp) (e : Same H H') (h1 : ∀ a, ex' a → ex a ∨ H a = none) (h2 : ∀ a, ex a → ex' a) (h3 : ∀ a, ex' a → H' a ≠ none) : SI K ex' L ρ σ H' fp where
  len := I.len
  val := fun i d h => by
    obtain ⟨v, q1, q2⟩ := I.val i d h
    exact ⟨v, q1, RO.keep (Keep.same e) h1 (fun a _ o q => e a o q) q2⟩
  nod := I.nod
  dis := I.dis
  sub := fun i a h => h2 a (I.sub i a h)
  ext := h3
end
end Px

namespace Px
open PySem PySem.Spec PyProof.Rows L2

/-! ### list comprehensions -/
def noX {α : Type} : Res α → Res α
  | .ok a => .ok a
  | _ => .err
theorem noX_ok {α : Type} {r : Res α} {a : α} (h : noX r = .ok a) : r = .ok a := by
  cases r with
  | ok b => exact h
  | exc c => cases h
  | err => cases h
@[simp] theorem noX_is {α : Type} (a : α) : noX (.ok a) = .ok a := id rfl
def lcE (gf : Env → D → Res Env) (tt : Env → Res Bool) (f : EF) (ρ : Env) : List D → Res (List D)
  | [] => .ok []
  | d :: ds => noX (gf ρ d) >>= fun ρ1 => noX (tt ρ1) >>= fun b => if b = true then noX (f ρ1) >>= fun y => lcE gf tt f ρ ds >>= fun ys => .ok (y :: ys) else lcE gf tt f ρ ds
theorem lcE_nx {gf : Env → D → Res Env} {tt : Env → Res Bool} {f : EF} {ρ : Env} : ∀ (ds : List D) (c : Str), lcE gf tt f ρ ds ≠ .exc c
  | [], c, h => by cases h
  | d :: ds, c, h => by
    rw [lcE] at h
    cases h1 : noX (gf ρ d) with
    | ok ρ1 =>
      rw [h1, Res.bind_ok] at h
      cases h2 : noX (tt ρ1) with
      | ok b =>
        rw [h2, Res.bind_ok] at h
        split at h
        · cases h3 : noX (f ρ1) with
          | ok y =>
            rw [h3, Res.bind_ok] at h
            cases h4 : lcE gf tt f ρ ds with
            | ok ys =>
              rw [h4] at h
              cases h
            | exc c2 => exact lcE_nx ds c2 h4
            | err =>
              rw [h4] at h
              cases h
          | exc c2 =>
            cases q : f ρ1 <;> rw [q] at h3 <;> cases h3
          | err =>
            rw [h3] at h
            cases h
        · exact lcE_nx ds c h
      | exc c2 =>
        cases q : tt ρ1 <;> rw [q] at h2 <;> cases h2
      | err =>
        rw [h2] at h
        cases h
    | exc c2 =>
      cases q : gf ρ d <;> rw [q] at h1 <;> cases h1
    | err =>
      rw [h1] at h
      cases h
def eLc (fI : Env → Res (List D)) (own : List Nat) (gf : Env → D → Res Env) (tt : Env → Res Bool) (f : EF) : EF := fun ρ => fI ρ >>= fun ds => lcE gf tt f (wipeE ρ own) ds >>= fun ys => .ok (.lst ys)
abbrev W0 : WX := fun _ _ _ _ => False
theorem P3.app {α β γ : Type} {F : α → β → γ → Prop} : ∀ {as as2 : List α} {bs bs2 : List β} {cs cs2 : List γ}, P3 F as bs cs → P3 F as2 bs2 cs2 → P3 F (as ++ as2) (bs ++ bs2) (cs ++ cs2)
  | _, _, _, _, _, _, .nil, h => h
  | _, _, _, _, _, _, .cons x t, h => .cons x (P3.app t h)
theorem P3.length {α β γ : Type} {F : α → β → γ → Prop} : ∀ {as : List α} {bs : List β} {cs : List γ}, P3 F as bs cs → as.length = bs.length
  | _, _, _, .nil => rfl
  | _, _, _, .cons x t => by rw [List.length_cons, List.length_cons, P3.length t]
theorem wipe_set {σ : L2.St} : ∀ {vs : List Nat} {i : Nat} {x : Option V}, i ∈ vs → wipe (σ.set i x) vs = wipe σ vs
  | v :: vs, i, x, h => by
    rw [wipe, wipe]
    by_cases hi : i ∈ vs
    · rw [wipe_set hi]
    · have e : v = i := by
        rcases List.mem_cons.mp h with q | q
        · exact q.symm
        · exact absurd q hi
      subst e
      have : ∀ {vs : List Nat}, v ∉ vs → wipe (σ.set v x) vs = (wipe σ vs).set v x := by
        intro vs
        induction vs with
        | nil => intro _; rfl
        | cons u us ih =>
          intro h
          have h1 : v ≠ u := fun q => h (by rw [q]; exact List.mem_cons_self)
          rw [wipe, wipe, ih (fun q => h (List.mem_cons_of_mem _ q)), List.set_comm _ _ h1]
      rw [this hi, List.set_set]
theorem wipe_idem {σ : L2.St} : ∀ vs : List Nat, wipe (wipe σ vs) vs = wipe σ vs := by
  have key : ∀ (us vs : List Nat), (∀ u ∈ us, u ∈ vs) → ∀ σ : L2.St, wipe (wipe σ us) vs = wipe σ vs := by
    intro us
    induction us with
    | nil => intro vs _ σ; rfl
    | cons u us ih =>
      intro vs h σ
      rw [wipe, wipe_set (h u List.mem_cons_self), ih vs fun x hx => h x (List.mem_cons_of_mem _ hx)]
  exact fun vs => key vs vs (fun _ h => h) σ
theorem wipe_sets {vs : List Nat} : ∀ (l : Sets) {σ : L2.St}, (∀ t ∈ l, t.1 ∈ vs) → wipe (setS σ l) vs = wipe σ vs
  | [], _, _ => rfl
  | t :: l, σ, h => by
    have : setS σ (t :: l) = setS (σ.set t.1 (some t.2.2)) l := rfl
    rw [this, wipe_sets l fun u hu => h u (List.mem_cons_of_mem _ hu), wipe_set (h t List.mem_cons_self)]
section
variable {K : PySem.W.Frag} {ex ex' : AS} {H H' : Hp}
theorem RB.more (e : Same H H') (m : ∀ a, ex' a → ex a ∨ H a = none) : ∀ {n : Nat} {d : Px.D} {v : V}, RB K ex H n d v → RB K ex' H' n d v
  | 0, d, _, h => R.keep (Keep.same e) m d h
  | n + 1, d, v, h => by
    cases d with
    | lst ds =>
      rw [RB] at h ⊢
      obtain ⟨a, xs, q, h1, h2⟩ := h
      exact ⟨a, xs, q, ⟨e.seq h1.1, h1.2⟩, h2.mono fun _ _ q => RB.more e m q⟩
    | _ =>
      rw [RB] at h ⊢ <;> first | exact R.keep (Keep.same e) m _ h | (intro _ q; cases q)
theorem P3.there {k : Nat} {a : Addr} : ∀ {ys : List Px.D} {vs : List V} {gps : List (List Addr)}, P3 (RO K ex H k) ys vs gps → a ∈ gps.flatten → H a ≠ none
  | _, _, _, .nil, h => by simp at h
  | _, _, _, .cons r t, h => by
    rw [List.flatten_cons] at h
    rcases List.mem_append.mp h with h | h
    · exact RO.there r a h
    · exact P3.there t h
theorem P3.keep {k : Nat} (kp : Keep ex H H') (m : ∀ a, ex' a → ex a ∨ H a = none) : ∀ {ys : List Px.D} {vs : List V} {gps : List (List Addr)}, (∀ a ∈ gps.flatten, ∀ o, H a = some o → H' a = some o) → P3 (RO K ex H k) ys vs gps → P3 (RO K ex' H' k) ys vs gps
  | _, _, _, _, .nil => .nil
  | _, _, _, h, .cons r t => by
    rw [List.flatten_cons] at h
    exact .cons (RO.keep kp m (fun a ha => h a (List.mem_append_left _ ha)) r) (P3.keep kp m (fun a ha => h a (List.mem_append_right _ ha)) t)
end
section
variable {X : Cx} {W : WX} {L : List Nat} {k : Nat} {fI : Env → Res (List D)} {own : List Nat} {gf : Env → D → Res Env} {ft : Env → Res Bool} {f : EF} {g : TG} {is : List Nat}
/-- what a list comprehension asks follows from its meaning -/
theorem lc_imp (gs : GSem X.K g gf is) (hs : ∀ i ∈ is, i ∈ own) (hL : ∀ i ∈ is, L.getD i 0 = 0) {σ : L2.St} {H : Hp} {Q : VK} (h : tO X W L (k + 1) (eLc fI own gf ft f) σ H Q) : tLc (tI X W L 1 fI) g (tT X W0 L ft) (tO X W0 L k f) own σ H Q := by
  obtain ⟨ex, ρ, fp, I, o⟩ := h
  refine ⟨ex, ρ, fp, I, o.bind.mono fun ds q J H1 gh e1 rg itn D hD => ?_⟩
  obtain ⟨all, hall, q⟩ := no_exc q.bind (lcE_nx ds)
  have hDH : H D = none := e1.free hD
  refine ⟨fun i m Hi => i + m = ds.length ∧ Same H1 Hi ∧ ∃ (vs : List V) (fps : List (List Addr)) (ys rest : List Px.D), Hi D = some (.lst vs) ∧ P3 (RO X.K (fun a => a ∈ fps.flatten ∨ a = D ∨ ex a) Hi k) ys vs fps ∧ fps.flatten.Nodup ∧
    (∀ a ∈ fps.flatten, H1 a = none ∧ a ≠ D) ∧ ys.length ≤ i ∧ all = ys ++ rest ∧ lcE gf ft f (wipeE ρ own) (ds.drop i) = .ok rest, ⟨ds.length, by omega, same_upd hD, [], [], [], all, upd_same, .nil, List.nodup_nil, ⟨fun a ha => (by simp at ha), Nat.zero_le _, rfl, hall⟩⟩, fun i m Hi hW => ?_⟩
  obtain ⟨em, e2, vs, fps, ys, rest, hDi, hP, nod, fr, hlen, eall, erest⟩ := hW
  by_cases hi : i < ds.length
  · refine .inr ⟨itn.go ex Hi i (rg.same e2) hi, fun H' => ∃ m', m' < m ∧ (i + 1 + m' = ds.length ∧ Same H1 H' ∧ ∃ (vs : List V) (fps : List (List Addr)) (ys rest : List Px.D), H' D = some (.lst vs) ∧ P3 (RO X.K (fun a => a ∈ fps.flatten ∨ a = D ∨ ex a) H' k) ys vs fps ∧ fps.flatten.Nodup ∧
      (∀ a ∈ fps.flatten, H1 a = none ∧ a ≠ D) ∧ ys.length ≤ i + 1 ∧ all = ys ++ rest ∧ lcE gf ft f (wipeE ρ own) (ds.drop (i + 1)) = .ok rest), fun H' h => h, fun x H' hy => ?_⟩
    obtain ⟨d, hd⟩ : ∃ d, ds[i]? = some d := ⟨_, List.getElem?_eq_getElem hi⟩
    obtain ⟨e3, rx⟩ := itn.item (fun a => a ∈ fps.flatten ∨ a = D ∨ ex a) Hi i d x H' (RB.more e2 (fun a h => by
      rcases h with h | h | h
      · exact .inr (fr a h).1
      · rw [h]
        exact .inr hD
      · exact .inl h) rg) hd hy
    have ed : ds.drop i = d :: ds.drop (i + 1) := by
      rw [List.drop_eq_getElem_cons hi]
      congr 1
      rw [List.getElem?_eq_getElem hi] at hd
      exact Option.some.inj hd
    rw [ed, lcE] at erest
    cases hg : noX (gf (wipeE ρ own) d) with
    | exc c => rw [hg] at erest; cases erest
    | err => rw [hg] at erest; cases erest
    | ok ρ1 =>
      rw [hg, Res.bind_ok] at erest
      have esame : Same H H' := (e1.trans e2).trans e3
      -- what is owned while the element is reckoned
      have hDex : ∀ a, (a ∈ fps.flatten ∨ a = D ∨ ex a) → ex a ∨ H a = none := fun a h => by
        rcases h with h | h | h
        · exact .inr (e1.free (fr a h).1)
        · rw [h]
          exact .inr hDH
        · exact .inl h
      have hthere : ∀ a, (a ∈ fps.flatten ∨ a = D ∨ ex a) → H' a ≠ none := fun a h q => by
        rcases h with h | h | h
        · exact P3.there hP h (e3.free q)
        · rw [h] at q
          have := e3 D _ hDi
          rw [q] at this
          cases this
        · exact I.ext a h (esame.free q)
      have I' : SI X.K (fun a => a ∈ fps.flatten ∨ a = D ∨ ex a) L (wipeE ρ own) (wipe σ own) H' fp := (I.wipe own).more esame hDex (fun a h => .inr (.inr h)) hthere
      refine gs (fun a => a ∈ fps.flatten ∨ a = D ∨ ex a) x (wipe σ own) H' _ d (wipeE ρ own) ρ1 rx (noX_ok hg) fun l hl e4 => ?_
      obtain ⟨fp1, I1, _⟩ := SI.sets l I' fun t ht => ⟨(hl t ht).1, hL _ (hl t ht).2⟩
      rw [← e4] at I1
      refine ⟨by rw [wipe_sets l fun t ht => hs _ (hl t ht).2, wipe_idem], ?_⟩
      cases ht : noX (ft ρ1) with
      | exc c => rw [ht] at erest; cases erest
      | err => rw [ht] at erest; cases erest
      | ok b =>
        rw [ht, Res.bind_ok] at erest
        refine ⟨_, ρ1, fp1, I1, ?_⟩
        rw [noX_ok ht]
        intro H3 e5
        cases b with
        | false =>
          rw [if_neg Bool.false_ne_true] at erest ⊢
          refine ⟨m - 1, by omega, by omega, (e2.trans e3).trans e5, vs, fps, ys, rest, e5 _ _ (e3 _ _ hDi), ?_, nod, fr, by omega, eall, erest⟩
          exact P3.keep (Keep.same (e3.trans e5)) (fun a h => .inl h) (fun a _ o q => (e3.trans e5) a o q) hP
        | true =>
          rw [if_pos rfl] at erest ⊢
          cases hf : noX (f ρ1) with
          | exc c => rw [hf] at erest; cases erest
          | err => rw [hf] at erest; cases erest
          | ok y =>
            rw [hf, Res.bind_ok] at erest
            refine ⟨_, ρ1, fp1, I1.same e5, ?_⟩
            rw [noX_ok hf]
            intro v H4 fq e6 ro nd nw
            have hD4 : H4 D = some (.lst vs) := e6 _ _ (e5 _ _ (e3 _ _ hDi))
            have hvl : ys.length = vs.length := P3.length hP
            have hsz : vs.length < sizeLine := by
              have := itn.len
              omega
            refine ⟨vs, hD4, hsz, ?_⟩
            cases hr : lcE gf ft f (wipeE ρ own) (ds.drop (i + 1)) with
            | exc c => rw [hr] at erest; cases erest
            | err => rw [hr] at erest; cases erest
            | ok rest' =>
              rw [hr, Res.bind_ok] at erest
              have er : rest = y :: rest' := by cases erest; rfl
              have e36 : Same Hi H4 := (e3.trans e5).trans e6
              have fqD : ∀ a ∈ fq, a ≠ D := fun a ha q => by
                have h1 := nw a ha
                rw [q] at h1
                have h2 := e5 _ _ (e3 _ _ hDi)
                rw [h1] at h2
                cases h2
              have fqI : ∀ a ∈ fq, Hi a = none := fun a ha => (e3.trans e5).free (nw a ha)
              have kp : Keep (fun a => a ∈ fps.flatten ∨ a = D ∨ ex a) Hi (upd H4 D (.lst (vs ++ [v]))) := by
                refine ⟨fun a xs h => ?_, fun a xs hn h => ?_⟩
                · have ha : a ≠ D := fun q => by
                    rw [q] at h
                    rcases h with h | ⟨o, h⟩ <;> rw [hDi] at h <;> cases h
                  have h2 := Same.rd e36 h
                  rcases h2 with h2 | ⟨o, h2⟩
                  · exact .inl (by rw [upd_ne ha]; exact h2)
                  · exact .inr ⟨o, by rw [upd_ne ha]; exact h2⟩
                · have ha : a ≠ D := fun q => hn (.inr (.inl q))
                  have h2 := Same.rd e36 h
                  rcases h2 with h2 | ⟨o, h2⟩
                  · exact .inl (by rw [upd_ne ha]; exact h2)
                  · exact .inr ⟨o, by rw [upd_ne ha]; exact h2⟩
              have kp2 : Keep (fun a => a ∈ fq ∨ (a ∈ fps.flatten ∨ a = D ∨ ex a)) H4 (upd H4 D (.lst (vs ++ [v]))) := by
                refine ⟨fun a xs h => ?_, fun a xs hn h => ?_⟩
                · have ha : a ≠ D := fun q => by
                    rw [q] at h
                    rcases h with h | ⟨o, h⟩ <;> rw [hD4] at h <;> cases h
                  rcases h with h2 | ⟨o, h2⟩
                  · exact .inl (by rw [upd_ne ha]; exact h2)
                  · exact .inr ⟨o, by rw [upd_ne ha]; exact h2⟩
                · have ha : a ≠ D := fun q => hn (.inr (.inr (.inl q)))
                  rcases h with h2 | ⟨o, h2⟩
                  · exact .inl (by rw [upd_ne ha]; exact h2)
                  · exact .inr ⟨o, by rw [upd_ne ha]; exact h2⟩
              have mem : ∀ a, a ∈ (fps ++ [fq]).flatten ↔ a ∈ fps.flatten ∨ a ∈ fq := fun a => by
                rw [List.flatten_append, List.mem_append]
                simp
              refine ⟨m - 1, by omega, by omega, fun b o h => ?_, vs ++ [v], fps ++ [fq], ys ++ [y], rest', upd_same, P3.app ?_ (.cons ?_ .nil), ?_, fun a ha => ?_, by rw [List.length_append]; simp; omega, by rw [eall, er, List.append_assoc]; rfl, rfl⟩
              · have hb : b ≠ D := fun q => by
                  rw [q, hD] at h
                  cases h
                rw [upd_ne hb]
                exact e36 _ _ (e2 _ _ h)
              · refine P3.keep kp (fun a h => ?_) (fun a ha o q => ?_) hP
                · rcases h with h | h
                  · rcases (mem a).mp h with h | h
                    · exact .inl (.inl h)
                    · exact .inr (fqI a h)
                  · exact .inl (.inr h)
                · rw [upd_ne (fr a ha).2]
                  exact e36 _ _ q
              · refine RO.keep kp2 (fun a h => ?_) (fun a ha o q => ?_) ro
                · rcases h with h | h
                  · rcases (mem a).mp h with h | h
                    · exact .inl (.inr (.inl h))
                    · exact .inl (.inl h)
                  · exact .inl (.inr (.inr h))
                · rw [upd_ne (fqD a ha)]
                  exact q
              · rw [List.flatten_append]
                refine List.nodup_append.mpr ⟨nod, by simpa using nd, fun a ha b hb q => ?_⟩
                have hb : b ∈ fq := by simpa using hb
                rw [← q] at hb
                exact P3.there hP ha (fqI a hb)
              · rcases (mem a).mp ha with ha | ha
                · exact fr a ha
                · exact ⟨e2.free (fqI a ha), fqD a ha⟩
  · have ei : i = ds.length := by omega
    rw [ei, List.drop_length, lcE] at erest
    have er : rest = [] := by cases erest; rfl
    rw [er, List.append_nil] at eall
    have hm : m = 0 := by omega
    refine .inl ⟨by rw [ei]; exact itn.stop ex Hi (rg.same e2), ?_⟩
    have hvl : ys.length = vs.length := P3.length hP
    have hln := itn.len
    refine q (.ref D) Hi (D :: fps.flatten) (e1.trans e2) ?_ (List.nodup_cons.mpr ⟨fun h => (fr D h).2 rfl, nod⟩) fun a ha => ?_
    · rw [eall, RO]
      refine ⟨D, vs, fps, rfl, ⟨hDi, by omega⟩, rfl, P3.keep (Keep.same (Same.refl Hi)) (fun a h => .inl ?_) (fun _ _ _ h => h) hP⟩
      rcases h with h | h
      · rcases List.mem_cons.mp h with h | h
        · exact .inr (.inl h)
        · exact .inl h
      · exact .inr (.inr h)
    · rcases List.mem_cons.mp ha with h | h
      · rw [h]
        exact hDH
      · exact e1.free (fr a h).1
end
end Px

namespace Px
open PySem PySem.Spec PyProof.Rows L2

section
variable {X : Cx} {W : WX} {L : List Nat} {k : Nat} {fI : Env → Res (List D)} {gf : Env → D → Res Env} {ft : Env → Res Bool} {f : EF} {g : TG} {is : List Nat} {elt tg iter c : Expr} {ifs : List Expr} {scope : Scope} {own : List (Str × Nat)} {pos : Pos}
abbrev ETs (X : Cx) (W : WX) (L : List Nat) (ifs : List Expr) (f : Env → Res Bool) : Prop := PTs X ifs (tT X W L f)
def bYes : Env → Res Bool := fun _ => .ok true
theorem PTs.imp {X : Cx} {ifs : List Expr} {t t' : TT} (h : PTs X ifs t) (m : ∀ σ H Q, t' σ H Q → t σ H Q) : PTs X ifs t' := ⟨fun pins s σ H Q I q => h.run pins s σ H Q I (m σ H Q q)⟩
theorem ets_nil : ETs X W L [] bYes := PTs.imp pts_nil fun σ H Q ⟨ex, ρ, fp, I, o⟩ => o H (Same.refl H)
theorem ets_one (h : ET X W L c ft) : ETs X W L [c] ft := pts_one h
theorem eo_lc (hc : X.calm = true) (hN : X.N.Nodup) (hi : EI X W L 1 tg iter fI) (ok : BlkOk X.N X.env.scope scope own)
    (hg : ∀ (s : Shared) (H : Hp) (C : Addr) (cl : List (Str × Addr)) (fp : List Addr), PG (X.blk s H scope (compEnvC scope cl C X.env) fp) tg g)
    (ht : ∀ (s : Shared) (H : Hp) (C : Addr) (cl : List (Str × Addr)) (fp : List Addr), ETs (X.blk s H scope (compEnvC scope cl C X.env) fp) W0 L ifs ft)
    (he : ∀ (s : Shared) (H : Hp) (C : Addr) (cl : List (Str × Addr)) (fp : List Addr), EO (X.blk s H scope (compEnvC scope cl C X.env) fp) W0 L k elt f)
    (gs : GSem X.K g gf is) (hs : ∀ i ∈ is, i ∈ own.map (·.2)) (hL : ∀ i ∈ is, L.getD i 0 = 0) (hfs : ∀ x, foldedSetIterable iter X.env x = pure x := by intro _; rfl) :
    EO X W L (k + 1) (.ListComp elt [⟨tg, iter, ifs, 0⟩] scope pos) (eLc fI (own.map (·.2)) gf ft f) :=
  PE.imp (pe_lc hc hN hi ok hg ht he hfs) fun σ H Q h => lc_imp gs hs hL h
end

/-! ### a def's names -/
section
variable {K : PySem.W.Frag} {H0 H H1 : Hp} {ex0 : AS} {G : List (D × V)} {L : List Nat} {ρ : Env} {σ : L2.St} {fp : Nat → List Addr}
abbrev exOf (fp : Nat → List Addr) (ex0 : AS) : AS := fun a => (∃ i, a ∈ fp i) ∨ ex0 a
theorem SS.up (S : SS K H0 ex0 G L ρ σ H fp) (e : Same H H1) : SS K H0 ex0 G L ρ σ H1 fp := ⟨S.si.same e, S.own, S.old, S.same.trans e, fun g hg => (S.held g hg).same e⟩
theorem SS.tail {g : D × V} (S : SS K H0 ex0 (g :: G) L ρ σ H fp) : SS K H0 ex0 G L ρ σ H fp := ⟨S.si, S.own, S.old, S.same, fun g hg => S.held g (List.mem_cons_of_mem _ hg)⟩
theorem SS.hold {g : D × V} (S : SS K H0 ex0 G L ρ σ H fp) (r : R K (exOf fp ex0) H g.1 g.2) : SS K H0 ex0 (g :: G) L ρ σ H fp := ⟨S.si, S.own, S.old, S.same, fun h hg => by
  rcases List.mem_cons.mp hg with rfl | hg
  · exact r
  · exact S.held h hg⟩
theorem SS.ex_ne (S : SS K H0 ex0 G L ρ σ H fp) {i : Nat} {a : Addr} (h : a ∈ fp i) : ¬ ex0 a := fun q => S.old a q (S.own i a h)
/-- another division of what is owned; nothing in the heap changes -/
theorem SS.re (S : SS K H0 ex0 G L ρ σ H fp) {L' : List Nat} {ρ' : Env} {σ' : L2.St} {fp' : Nat → List Addr} (e : Same H H1) (len : ρ'.length = σ'.length)
    (val : ∀ i d, ρ'[i]? = some (some d) → ∃ v, σ'[i]? = some (some v) ∧ RO K (exOf fp' ex0) H1 (L'.getD i 0) d v (fp' i)) (nod : ∀ i, (fp' i).Nodup) (dis : ∀ i j a, a ∈ fp' i → a ∈ fp' j → i = j)
    (new : ∀ i a, a ∈ fp' i → a ∈ fp i ∨ H a = none) (there : ∀ i a, a ∈ fp' i → H1 a ≠ none) : SS K H0 ex0 G L' ρ' σ' H1 fp' where
  si := ⟨len, val, nod, dis, fun i a h => .inl ⟨i, h⟩, fun a h q => by
    rcases h with ⟨i, h⟩ | h
    · exact there i a h q
    · exact S.si.ext a (.inr h) (e.free q)⟩
  own := fun i a h => by
    rcases new i a h with q | q
    · exact S.own i a q
    · exact S.same.free q
  old := S.old
  same := S.same.trans e
  held := fun g hg => R.keep (Keep.same e) (fun a h => by
    rcases h with ⟨i, h⟩ | h
    · rcases new i a h with q | q
      · exact .inl (.inl ⟨i, q⟩)
      · exact .inr q
    · exact .inl (.inr h)) _ (S.held g hg)
theorem getD_set_eq {L : List Nat} {i k : Nat} (h : i < L.length) : (L.set i k).getD i 0 = k := by
  rw [List.getD_eq_getElem?_getD, List.getElem?_set_self h]
  rfl
theorem getD_set_ne {L : List Nat} {i j k : Nat} (h : i ≠ j) : (L.set i k).getD j 0 = L.getD j 0 := by
  rw [List.getD_eq_getElem?_getD, List.getElem?_set_ne h, List.getD_eq_getElem?_getD]
/-- a value, new or shared, is stored -/
theorem SS.put (S : SS K H0 ex0 G L ρ σ H fp) (e : Same H H1) {i k : Nat} {d : D} {v : V} {fq : List Addr} (r : RO K (fun a => a ∈ fq ∨ exOf fp ex0 a) H1 k d v fq) (nd : fq.Nodup) (nw : ∀ a ∈ fq, H a = none) (hi : i < L.length) :
    ∃ fp', SS K H0 ex0 G (L.set i k) (ρ.set i (some d)) (σ.set i (some v)) H1 fp' := by
  have nd2 : ∀ j a, a ∈ fq → a ∈ fp j → False := fun j a h1 h2 => S.si.ext a (.inl ⟨j, h2⟩) (nw a h1)
  refine ⟨fun j => if j = i then fq else fp j, S.re e ?_ (fun j d' h => ?_) (fun j => ?_) (fun j l a h1 h2 => ?_) (fun j a h => ?_) (fun j a h => ?_)⟩
  · rw [List.length_set, List.length_set]
    exact S.si.len
  · by_cases ej : i = j
    · subst ej
      by_cases hl : i < ρ.length
      · rw [List.getElem?_set_self hl] at h
        cases h
        refine ⟨v, List.getElem?_set_self (by rw [← S.si.len]; exact hl), ?_⟩
        rw [getD_set_eq hi, if_pos rfl]
        refine r.less fun a h => .inl ?_
        rcases h with ⟨l, h⟩ | h
        · have h : a ∈ (if l = i then fq else fp l) := h
          split at h
          · exact .inl h
          · exact .inr (.inl ⟨l, h⟩)
        · exact .inr (.inr h)
      · rw [List.getElem?_eq_none (by rw [List.length_set]; omega)] at h
        cases h
    · rw [List.getElem?_set_ne ej] at h
      obtain ⟨u, h1, h2⟩ := S.si.val j d' h
      refine ⟨u, by rw [List.getElem?_set_ne ej]; exact h1, ?_⟩
      rw [getD_set_ne ej]
      show RO K _ H1 _ d' u (if j = i then fq else fp j)
      rw [if_neg (fun q => ej q.symm)]
      refine RO.keep (Keep.same e) (fun a h => ?_) (fun a _ o q => e a o q) h2
      rcases h with ⟨l, h⟩ | h
      · have h : a ∈ (if l = i then fq else fp l) := h
        split at h
        · exact .inr (nw a h)
        · exact .inl (.inl ⟨l, h⟩)
      · exact .inl (.inr h)
  · show (if j = i then fq else fp j).Nodup
    split
    · exact nd
    · exact S.si.nod j
  · have h1 : a ∈ (if j = i then fq else fp j) := h1
    have h2 : a ∈ (if l = i then fq else fp l) := h2
    split at h1
    · split at h2
      · rename_i a1 a2
        rw [a1, a2]
      · exact (nd2 _ _ h1 h2).elim
    · split at h2
      · exact (nd2 _ _ h2 h1).elim
      · exact S.si.dis j l a h1 h2
  · have h : a ∈ (if j = i then fq else fp j) := h
    split at h
    · exact .inr (nw a h)
    · exact .inl h
  · have h : a ∈ (if j = i then fq else fp j) := h
    split at h
    · exact r.there a h
    · exact fun q => S.si.ext a (.inl ⟨j, h⟩) (e.free q)
/-- what a slot owns is given up: others may know it from now on -/
theorem SS.drop (S : SS K H0 ex0 G L ρ σ H fp) (i : Nat) : ∃ fp', SS K H0 ex0 G (L.set i 0) ρ σ H fp' := by
  refine ⟨fun j => if j = i then [] else fp j, S.re (Same.refl H) S.si.len (fun j d' h => ?_) (fun j => ?_) (fun j l a h1 h2 => ?_) (fun j a h => ?_) (fun j a h => ?_)⟩
  · obtain ⟨u, h1, h2⟩ := S.si.val j d' h
    refine ⟨u, h1, ?_⟩
    have le : ∀ a, exOf (fun j => if j = i then [] else fp j) ex0 a → exOf fp ex0 a := fun a h => by
      rcases h with ⟨l, h⟩ | h
      · have h : a ∈ (if l = i then [] else fp l) := h
        split at h
        · cases h
        · exact .inl ⟨l, h⟩
      · exact .inr h
    by_cases ej : i = j
    · subst ej
      have e0 : (L.set i 0).getD i 0 = 0 := by
        by_cases hl : i < L.length
        · exact getD_set_eq hl
        · rw [List.getD_eq_getElem?_getD, List.getElem?_eq_none (by rw [List.length_set]; omega)]
          rfl
      rw [e0, if_pos rfl]
      refine ⟨rfl, h2.shared le fun a ha q => ?_⟩
      rcases q with ⟨l, q⟩ | q
      · have q : a ∈ (if l = i then [] else fp l) := q
        split at q
        · cases q
        · rename_i hl
          exact hl (S.si.dis l i a q ha)
      · exact S.ex_ne ha q
    · rw [getD_set_ne ej]
      show RO K _ H _ d' u (if j = i then [] else fp j)
      rw [if_neg (fun q => ej q.symm)]
      exact h2.less fun a h => .inl (le a h)
  · show (if j = i then [] else fp j).Nodup
    split
    · exact List.nodup_nil
    · exact S.si.nod j
  · have h1 : a ∈ (if j = i then [] else fp j) := h1
    have h2 : a ∈ (if l = i then [] else fp l) := h2
    split at h1
    · cases h1
    · split at h2
      · cases h2
      · exact S.si.dis j l a h1 h2
  · have h : a ∈ (if j = i then [] else fp j) := h
    split at h
    · cases h
    · exact .inl h
  · have h : a ∈ (if j = i then [] else fp j) := h
    split at h
    · cases h
    · exact S.si.ext a (.inl ⟨j, h⟩)
/-- all is given up -/
theorem SS.dropAll (S : SS K H0 ex0 G L ρ σ H fp) : SS K H0 ex0 G [] ρ σ H fun _ => [] := by
  refine S.re (Same.refl H) S.si.len (fun j d' h => ?_) (fun j => List.nodup_nil) (fun j l a h1 h2 => nomatch h1) (fun j a h => nomatch h) (fun j a h => nomatch h)
  obtain ⟨u, h1, h2⟩ := S.si.val j d' h
  refine ⟨u, h1, rfl, h2.shared (fun a h => ?_) fun a ha q => ?_⟩
  · rcases h with ⟨l, h⟩ | h
    · cases h
    · exact .inr h
  · rcases q with ⟨l, q⟩ | q
    · cases q
    · exact S.ex_ne ha q
theorem SS.kill (S : SS K H0 ex0 G L ρ σ H fp) (is : List Nat) : SS K H0 ex0 G L (wipeE ρ is) σ H fp :=
  ⟨⟨by rw [wipeE_length]; exact S.si.len, fun i d h => S.si.val i d (wipeE_some h).1, S.si.nod, S.si.dis, S.si.sub, S.si.ext⟩, S.own, S.old, S.same, S.held⟩
/-- shared values are stored in shared slots -/
theorem SS.sets (S : SS K H0 ex0 G L ρ σ H fp) (l : Sets) (h : ∀ t ∈ l, R K (exOf fp ex0) H t.2.1 t.2.2 ∧ L.getD t.1 0 = 0) : ∃ fp', SS K H0 ex0 G L (setE ρ l) (setS σ l) H fp' := by
  obtain ⟨fp', I', m⟩ := SI.sets l S.si h
  refine ⟨fp', S.re (Same.refl H) I'.len (fun i d hd => ?_) I'.nod I'.dis (fun i a h => .inl (m i a h)) (fun i a h => I'.ext a (I'.sub i a h))⟩
  obtain ⟨v, h1, h2⟩ := I'.val i d hd
  refine ⟨v, h1, h2.less fun a q => .inl ?_⟩
  rcases q with ⟨j, q⟩ | q
  · exact .inl ⟨j, m j a q⟩
  · exact .inr q
/-- the list at a, owned by the slot i, is changed -/
theorem SS.upd (S : SS K H0 ex0 G L ρ σ H fp) (e : Same H H1) {i : Nat} {a : Addr} {vs vs' : List V} {dN : D} {fqN : List Addr} (hσ : σ[i]? = some (some (.ref a))) (ha : a ∈ fp i) (hH : H a = some (.lst vs))
    (r : RO K (exOf (fun j => if j = i then fqN else fp j) ex0) (L2.upd H1 a (.lst vs')) (L.getD i 0) dN (.ref a) fqN) (nd : fqN.Nodup) (nw : ∀ b ∈ fqN, b ∈ fp i ∨ H b = none) :
    SS K H0 ex0 G L (ρ.set i (some dN)) σ (L2.upd H1 a (.lst vs')) fun j => if j = i then fqN else fp j := by
  have hH1 : H1 a = some (.lst vs) := e _ _ hH
  have kp : Keep (exOf fp ex0) H (L2.upd H1 a (.lst vs')) := by
    refine ⟨fun b xs h => ?_, fun b xs hn h => ?_⟩
    · have hb : b ≠ a := fun q => by
        rw [q] at h
        rcases h with h | ⟨o, h⟩ <;> rw [hH] at h <;> cases h
      rcases Same.rd e h with h2 | ⟨o, h2⟩
      · exact .inl (by rw [upd_ne hb]; exact h2)
      · exact .inr ⟨o, by rw [upd_ne hb]; exact h2⟩
    · have hb : b ≠ a := fun q => hn (.inl ⟨i, by rw [q]; exact ha⟩)
      rcases Same.rd e h with h2 | ⟨o, h2⟩
      · exact .inl (by rw [upd_ne hb]; exact h2)
      · exact .inr ⟨o, by rw [upd_ne hb]; exact h2⟩
  have le : ∀ b, exOf (fun j => if j = i then fqN else fp j) ex0 b → exOf fp ex0 b ∨ H b = none := fun b h => by
    rcases h with ⟨l, h⟩ | h
    · have h : b ∈ (if l = i then fqN else fp l) := h
      split at h
      · rcases nw b h with q | q
        · exact .inl (.inl ⟨i, q⟩)
        · exact .inr q
      · exact .inl (.inl ⟨l, h⟩)
    · exact .inl (.inr h)
  have nd2 : ∀ j b, j ≠ i → b ∈ fqN → b ∈ fp j → False := fun j b hj h1 h2 => by
    rcases nw b h1 with q | q
    · exact hj (S.si.dis j i b h2 q)
    · exact S.si.ext b (.inl ⟨j, h2⟩) q
  have free : ∀ b, L2.upd H1 a (.lst vs') b = none → H b = none := fun b q => by
    by_cases hb : b = a
    · rw [hb, upd_same] at q
      cases q
    · rw [upd_ne hb] at q
      exact e.free q
  refine ⟨⟨by rw [List.length_set]; exact S.si.len, fun j d' h => ?_, fun j => ?_, fun j l b h1 h2 => ?_, fun j b h => .inl ⟨j, h⟩, fun b h q => ?_⟩, fun j b h => ?_, S.old, fun b o h => ?_, fun g hg => R.keep kp le _ (S.held g hg)⟩
  · by_cases ej : i = j
    · subst ej
      by_cases hl : i < ρ.length
      · rw [List.getElem?_set_self hl] at h
        cases h
        refine ⟨_, hσ, ?_⟩
        rw [if_pos rfl]
        exact r
      · rw [List.getElem?_eq_none (by rw [List.length_set]; omega)] at h
        cases h
    · rw [List.getElem?_set_ne ej] at h
      obtain ⟨u, h1, h2⟩ := S.si.val j d' h
      refine ⟨u, h1, ?_⟩
      show RO K _ _ _ d' u (if j = i then fqN else fp j)
      rw [if_neg (fun q => ej q.symm)]
      refine RO.keep kp le (fun b hb o q => ?_) h2
      have hba : b ≠ a := fun q => ej (S.si.dis i j a ha (by rw [← q]; exact hb))
      rw [upd_ne hba]
      exact e _ _ q
  · show (if j = i then fqN else fp j).Nodup
    split
    · exact nd
    · exact S.si.nod j
  · have h1 : b ∈ (if j = i then fqN else fp j) := h1
    have h2 : b ∈ (if l = i then fqN else fp l) := h2
    split at h1
    · split at h2
      · rename_i a1 a2
        rw [a1, a2]
      · rename_i hl
        exact (nd2 _ _ hl h1 h2).elim
    · split at h2
      · rename_i hj _
        exact (nd2 _ _ hj h2 h1).elim
      · exact S.si.dis j l b h1 h2
  · rcases h with ⟨l, h⟩ | h
    · have h : b ∈ (if l = i then fqN else fp l) := h
      split at h
      · exact r.there b h q
      · exact S.si.ext b (.inl ⟨l, h⟩) (free b q)
    · exact S.si.ext b (.inr h) (free b q)
  · have h : b ∈ (if j = i then fqN else fp j) := h
    split at h
    · rcases nw b h with q | q
      · exact S.own i b q
      · exact S.same.free q
    · exact S.own j b h
  · have hb : b ≠ a := fun q => by
      have := S.own i a ha
      rw [q, this] at h
      cases h
    rw [upd_ne hb]
    exact e _ _ (S.same _ _ h)
end
end Px

namespace Px
open PySem PySem.Spec PyProof.Rows L2

/-! ### statements -/
/-- an outcome's wish -/
def FOut (X : Cx) (W : WX) (kr : Nat) (Lb L' : List Nat) (ex0 : AS) (G : List (D × V)) (Dn : Ends) (r : Flow) : Prop := match r with
  | .next ρ' => ∀ σ' H' fp', SS X.K X.H_0 ex0 G L' ρ' σ' H' fp' → Dn.nx σ' H'
  | .brk ρ' => ∀ σ' H' fp', SS X.K X.H_0 ex0 G Lb ρ' σ' H' fp' → Dn.bk σ' H'
  | .cont ρ' => ∀ σ' H' fp', SS X.K X.H_0 ex0 G Lb ρ' σ' H' fp' → Dn.ct σ' H'
  | .ret d => ∀ v H' fq, Same X.H_0 H' → RO X.K (fun a => a ∈ fq ∨ ex0 a) H' kr d v fq → fq.Nodup → (∀ a ∈ fq, X.H_0 a = none) → Dn.rt v H'
  | .exc c ρ' => ∀ C, X.mg c = some (.ref C) → ∀ σ' H' fp', SS X.K X.H_0 ex0 G [] ρ' σ' H' fp' → W (.ref C) none σ' H'
  | .err => False
def tS (X : Cx) (W : WX) (kr : Nat) (Lb L L' : List Nat) (F : SF) : TS := fun Dn σ H => ∃ ex0 G ρ fp, SS X.K X.H_0 ex0 G L ρ σ H fp ∧ FOut X W kr Lb L' ex0 G Dn (F ρ)
abbrev SJ (X : Cx) (W : WX) (kr : Nat) (Lb L L' : List Nat) (st : Stmt) (F : SF) : Prop := PS X st (tS X W kr Lb L L' F)
abbrev SJs (X : Cx) (W : WX) (kr : Nat) (Lb L L' : List Nat) (st : List Stmt) (F : SF) : Prop := PSs X st (tS X W kr Lb L L' F)
def sNext : SF := fun ρ => .next ρ
def sSeq (F G : SF) : SF := fun ρ => match F ρ with
  | .next ρ' => G ρ'
  | r => r
/-- an expression's outcome, then a statement's -/
def Res.flow {α : Type} (r : Res α) (ρ : Env) (k : α → Flow) : Flow := match r with
  | .ok a => k a
  | .exc c => .exc c ρ
  | .err => .err
@[simp] theorem flow_ok {α : Type} (a : α) (ρ : Env) (k : α → Flow) : (Res.ok a).flow ρ k = k a := id rfl
@[simp] theorem flow_exc {α : Type} (c : Str) (ρ : Env) (k : α → Flow) : (Res.exc c : Res α).flow ρ k = .exc c ρ := id rfl
@[simp] theorem flow_err {α : Type} (ρ : Env) (k : α → Flow) : (Res.err : Res α).flow ρ k = .err := id rfl
section
variable {X : Cx} {W : WX} {kr n m k : Nat} {Lb L L1 Lc : List Nat} {st : Stmt} {sts a b : List Stmt} {F G : SF} {e c : Expr} {f : EF} {ft : Env → Res Bool} {pos : Pos}
theorem FOut.nx {L' : List Nat} {ex0 : AS} {Gs : List (D × V)} {Dn : Ends} {nx : L2.St → Hp → Prop} {r : Flow} (h : FOut X W kr Lb L' ex0 Gs Dn r) (hn : ∀ ρ', r ≠ .next ρ') : FOut X W kr Lb L1 ex0 Gs { Dn with nx := nx } r := by
  cases r with
  | next ρ' => exact absurd rfl (hn ρ')
  | _ => exact h
/-- an expression ahead of the rest of a statement -/
theorem flow_out {α : Type} {r : Res α} {ρ : Env} {σ : L2.St} {H : Hp} {fp : Nat → List Addr} {L' : List Nat} {ex0 : AS} {Gs : List (D × V)} {Dn : Ends} {kk : α → Flow} (S : SS X.K X.H_0 ex0 Gs L ρ σ H fp) (h : FOut X W kr Lb L' ex0 Gs Dn (r.flow ρ kk)) :
    Out X W σ H r fun a => FOut X W kr Lb L' ex0 Gs Dn (kk a) := by
  cases r with
  | ok a => exact h
  | exc c => exact fun C hC H' e => h C hC σ H' _ (S.dropAll.up e)
  | err => exact h
theorem sjs_nil : SJs X W kr Lb L L [] sNext := PSs.imp pss_nil fun Dn σ H ⟨ex0, Gs, ρ, fp, S, o⟩ => o σ H fp S
theorem sjs_cons (h1 : SJ X W kr Lb L L1 st F) (h2 : SJs X W kr Lb L1 Lc sts G) : SJs X W kr Lb L Lc (st :: sts) (sSeq F G) := PSs.imp (pss_cons h1 h2) fun Dn σ H ⟨ex0, Gs, ρ, fp, S, o⟩ => by
  refine ⟨ex0, Gs, ρ, fp, S, ?_⟩
  unfold sSeq at o
  cases q : F ρ with
  | next ρ' =>
    rw [q] at o
    exact fun σ' H' fp' S' => ⟨ex0, Gs, ρ', fp', S', o⟩
  | _ =>
    rw [q] at o
    exact o
theorem sjs_one (h1 : SJ X W kr Lb L L1 st F) : SJs X W kr Lb L L1 [st] F := pss_one h1
/-- a slot's list is known to others from here on -/
theorem sjs_drop (i : Nat) (h : SJs X W kr Lb (L.set i 0) L1 sts F) : SJs X W kr Lb L L1 sts F := PSs.imp h fun Dn σ H ⟨ex0, Gs, ρ, fp, S, o⟩ => by
  obtain ⟨fp', S'⟩ := S.drop i
  exact ⟨ex0, Gs, ρ, fp', S', o⟩
/-- slots are forgotten -/
def sKill (is : List Nat) (F : SF) : SF := fun ρ => F (wipeE ρ is)
theorem sjs_kill (is : List Nat) (h : SJs X W kr Lb L L1 sts F) : SJs X W kr Lb L L1 sts (sKill is F) := PSs.imp h fun Dn σ H ⟨ex0, Gs, ρ, fp, S, o⟩ => ⟨ex0, Gs, _, fp, S.kill is, o⟩
theorem sj_pass : SJ X W kr Lb L L (.Pass pos) sNext := PS.imp ps_pass fun Dn σ H ⟨ex0, Gs, ρ, fp, S, o⟩ => o σ H fp S
def sBreak : SF := fun ρ => .brk ρ
def sCont : SF := fun ρ => .cont ρ
theorem sj_break : SJ X W kr L L L1 (.Break pos) sBreak := PS.imp ps_break fun Dn σ H ⟨ex0, Gs, ρ, fp, S, o⟩ => o σ H fp S
theorem sj_cont : SJ X W kr L L L1 (.Continue pos) sCont := PS.imp ps_continue fun Dn σ H ⟨ex0, Gs, ρ, fp, S, o⟩ => o σ H fp S
def sRet (f : EF) : SF := fun ρ => (f ρ).flow ρ fun d => .ret d
theorem sj_ret (h : EO X W L kr e f) : SJ X W kr Lb L L1 (.Return (some e) pos) (sRet f) := PS.imp (ps_ret h) fun Dn σ H ⟨ex0, Gs, ρ, fp, S, o⟩ =>
  ⟨_, ρ, fp, S.si, (flow_out S o).mono fun d q v H' fq e r nd nw => q v H' fq (S.same.trans e) (r.less fun a h => .inl (by
    rcases h with h | h
    · exact .inl h
    · exact .inr (.inr h))) nd fun a ha => S.same.free (nw a ha)⟩
def sRetN : SF := fun _ => .ret .non
theorem sj_retN : SJ X W kr Lb L L1 (.Return none pos) sRetN := PS.imp ps_retN fun Dn σ H ⟨ex0, Gs, ρ, fp, S, o⟩ =>
  o .non H [] S.same (RO.flat (by rw [R]) rfl) List.nodup_nil fun a h => nomatch h
def sDrop (f : EF) : SF := fun ρ => (f ρ).flow ρ fun _ => .next ρ
theorem sj_expr (h : EB X W L n e f) (hs : swapsWith e none pos.line X.env = pure false := by rfl) : SJ X W kr Lb L L (.Expr e pos) (sDrop f) := PS.imp (ps_expr h hs) fun Dn σ H ⟨ex0, Gs, ρ, fp, S, o⟩ =>
  ⟨_, ρ, fp, S.si, (flow_out S o).mono fun d q v H' e r => q σ H' fp (S.up e)⟩
def sIf (t : Env → Res Bool) (F G : SF) : SF := fun ρ => (t ρ).flow ρ fun b => if b = true then F ρ else G ρ
theorem sj_if (hc : ET X W L c ft) (ha : SJs X W kr Lb L L1 a F) (hb : SJs X W kr Lb L L1 b G) : SJ X W kr Lb L L1 (.If c a b pos) (sIf ft F G) := PS.imp (ps_if hc ha hb) fun Dn σ H ⟨ex0, Gs, ρ, fp, S, o⟩ =>
  ⟨_, ρ, fp, S.si, (flow_out S o).mono fun t q H' e => by
    cases t with
    | true => exact ⟨ex0, Gs, ρ, fp, S.up e, q⟩
    | false => exact ⟨ex0, Gs, ρ, fp, S.up e, q⟩⟩
/-- x = e -/
def sSet (i : Nat) (f : EF) : SF := fun ρ => (f ρ).flow ρ fun d => .next (ρ.set i (some d))
theorem asg_imp {i k : Nat} (hi : i < L.length) {Dn : Ends} {σ : L2.St} {H : Hp} (h : tS X W kr Lb L (L.set i k) (sSet i f) Dn σ H) : tAsg (tO X W L k f) (gName i) Dn σ H := by
  obtain ⟨ex0, Gs, ρ, fp, S, o⟩ := h
  refine ⟨_, ρ, fp, S.si, (flow_out S o).mono fun d q v H' fq e r nd nw => ?_⟩
  obtain ⟨fp', S'⟩ := S.put e r nd nw hi
  exact q _ _ _ S'
theorem sj_set {i k : Nat} {x : Str} {pos' : Pos} (hN : X.N.Nodup) (hx' : X.N[i]? = some x) (hx : Loc X.env.scope x) (he : EO X W L k e f) (hi : i < L.length) (hs : swapsWith e (some (.Name x pos')) pos.line X.env = pure false := by rfl)
    (hf : X.fn x = true ∨ X.env.scope.names.lookup x = some .local := by first | exact .inl rfl | exact .inr rfl | assumption) : SJ X W kr Lb L (L.set i k) (.Assign [.Name x pos'] e pos) (sSet i f) :=
  PS.imp (ps_set hN hx' hx he hs hf) fun Dn σ H h => asg_imp hi h
/-- x = [.. for ..] where the model stores within the comprehension -/
theorem sj_setLc {i k : Nat} {y : Str} {py spos : Pos} {elt tg iter : Expr} {ifs : List Expr} {scope : Scope} {own : List (Str × Nat)} {fI : Env → Res (List D)} {gf : Env → D → Res Env} {g : TG} {is : List Nat}
    (hc : X.calm = true) (hN : X.N.Nodup) (hy : X.N[i]? = some y) (hyl : X.env.scope.names.lookup y = some .local) (hi' : i < L.length)
    (hsw : swapsWith (.ListComp elt [⟨tg, iter, ifs, 0⟩] scope pos) (some (.Name y py)) spos.line X.env = pure true) (hi : EI X W L 1 tg iter fI) (ok : BlkOk X.N X.env.scope scope own)
    (hg : ∀ (s : Shared) (H : Hp) (C : Addr) (cl : List (Str × Addr)) (fp : List Addr), PG (X.blk s H scope (compEnvC scope cl C X.env) fp) tg g)
    (ht : ∀ (s : Shared) (H : Hp) (C : Addr) (cl : List (Str × Addr)) (fp : List Addr), ETs (X.blk s H scope (compEnvC scope cl C X.env) fp) W0 L ifs ft)
    (he : ∀ (s : Shared) (H : Hp) (C : Addr) (cl : List (Str × Addr)) (fp : List Addr), EO (X.blk s H scope (compEnvC scope cl C X.env) fp) W0 L k elt f)
    (gs : GSem X.K g gf is) (hs : ∀ i ∈ is, i ∈ own.map (·.2)) (hL : ∀ i ∈ is, L.getD i 0 = 0) (hfs : ∀ x, foldedSetIterable iter X.env x = pure x := by intro _; rfl) :
    SJ X W kr Lb L (L.set i (k + 1)) (.Assign [.Name y py] (.ListComp elt [⟨tg, iter, ifs, 0⟩] scope pos) spos) (sSet i (eLc fI (own.map (·.2)) gf ft f)) :=
  PS.imp (ps_setLc (te := tO X W0 L k f) (tt := tT X W0 L ft) hc hN hy hyl hsw hi ok hg ht he hfs) fun Dn σ H h => by
    have h2 := asg_imp hi' h
    exact lc_imp gs hs hL h2
/-- a target that unpacks: shared values to shared slots -/
def sUnp (gf : Env → D → Res Env) (f : EF) : SF := fun ρ => (f ρ).flow ρ fun d => (noX' (gf ρ d)) where
  noX' : Res Env → Flow
    | .ok ρ' => .next ρ'
    | _ => .err
theorem sj_unp {tg : Expr} {g : TG} {gf : Env → D → Res Env} {is : List Nat} (hg : PG X tg g) (gs : GSem X.K g gf is) (he : EB X W L 0 e f) (hL : ∀ i ∈ is, L.getD i 0 = 0) (hs : swapsWithSole [tg] e pos.line X.env = pure false := by rfl) (hw : swappedStores [tg] e X.env = pure none := by rfl)
    (h1 : (assignEach [tg] X.env).map (·.2) = [assign tg X.env] := by rfl) : SJ X W kr Lb L L (.Assign [tg] e pos) (sUnp gf f) :=
  PS.imp (ps_asg he hg hs hw h1) fun Dn σ H ⟨ex0, Gs, ρ, fp, S, o⟩ => ⟨_, ρ, fp, S.si, (flow_out S o).mono fun d q v H' e r => by
    cases hg : gf ρ d with
    | ok ρ' =>
      rw [hg] at q
      refine gs _ v σ H' _ d ρ ρ' r hg fun l hl e2 => ?_
      obtain ⟨fp', S'⟩ := (S.up e).sets l fun t ht => ⟨(hl t ht).1, hL _ (hl t ht).2⟩
      rw [← e2] at S'
      exact q _ _ _ S'
    | exc c =>
      rw [hg] at q
      exact q.elim
    | err =>
      rw [hg] at q
      exact q.elim⟩
/-- x += e, of ints and texts -/
def sAug (o : D → D → Res D) (i : Nat) (f : EF) : SF := fun ρ => (eVar i ρ).flow ρ fun a => (f ρ).flow ρ fun b => match o a b with
  | .ok d => .next (ρ.set i (some d))
  | _ => .err
theorem sj_aug {op : Operator} {o : D → D → Res D} {i : Nat} {x : Str} {pos' : Pos} (hN : X.N.Nodup) (hx' : X.N[i]? = some x) (hx : Loc X.env.scope x) (ho : Op2 X 0 0 0 (inplaceOp op) o) (he : EB X W L 0 e f) (hi : i < L.length) (hL : L.getD i 0 = 0)
    (hf : X.fn x = true ∨ X.env.scope.names.lookup x = some .local := by first | exact .inl rfl | exact .inr rfl | assumption) : SJ X W kr Lb L (L.set i 0) (.AugAssign (.Name x pos') op e pos) (sAug o i f) :=
  PS.imp (ps_aug hN hx' hx he ho hf) fun Dn σ H ⟨ex0, Gs, ρ, fp, S, q⟩ => by
    unfold sAug at q
    cases ev : eVar i ρ with
    | exc c =>
      unfold eVar at ev
      split at ev <;> cases ev
    | err =>
      rw [ev] at q
      exact q.elim
    | ok d0 =>
      rw [ev, flow_ok] at q
      have hρ : ρ.getD i none = some d0 := by
        unfold eVar at ev
        split at ev
        · rename_i d hd
          cases ev
          exact hd
        · cases ev
      obtain ⟨v0, h1, h2⟩ := S.si.val i d0 (getD_some hρ)
      rw [hL] at h2
      refine ⟨v0, h1, _, ρ, fp, S.si, (flow_out S q).mono fun d1 q1 v1 H1 e1 r1 => ?_⟩
      cases ed : o d0 d1 with
      | ok d =>
        rw [ed] at q1
        refine ⟨_, d0, d1, d, (S.si.same e1).ext, (show R X.K _ H1 d0 v0 from h2.2.same e1), r1, ed, fun v H2 fq e2 ro nd nw => ?_⟩
        obtain ⟨fp', S'⟩ := (S.up e1).put e2 ro nd nw hi
        exact q1 _ _ _ S'
      | exc c =>
        rw [ed] at q1
        exact q1.elim
      | err =>
        rw [ed] at q1
        exact q1.elim

/-! ### loops -/
/-- behind a turn of a loop -/
def loopK (r : Flow) (k : Env → Flow) : Flow := match r with
  | .next ρ => k ρ
  | .cont ρ => k ρ
  | .brk ρ => .next ρ
  | .ret d => .ret d
  | .exc c ρ => .exc c ρ
  | .err => .err
@[simp] theorem loopK_next (ρ : Env) (k : Env → Flow) : loopK (.next ρ) k = k ρ := id rfl
@[simp] theorem loopK_cont (ρ : Env) (k : Env → Flow) : loopK (.cont ρ) k = k ρ := id rfl
@[simp] theorem loopK_brk (ρ : Env) (k : Env → Flow) : loopK (.brk ρ) k = .next ρ := id rfl
@[simp] theorem loopK_ret (d : D) (k : Env → Flow) : loopK (.ret d) k = .ret d := id rfl
@[simp] theorem loopK_exc (c : Str) (ρ : Env) (k : Env → Flow) : loopK (.exc c ρ) k = .exc c ρ := id rfl
@[simp] theorem loopK_err (k : Env → Flow) : loopK .err k = .err := id rfl
/-- what may not raise -/
def Res.must {α : Type} (r : Res α) (k : α → Flow) : Flow := match r with
  | .ok a => k a
  | _ => .err
@[simp] theorem must_ok {α : Type} (a : α) (k : α → Flow) : (Res.ok a).must k = k a := id rfl
@[simp] theorem must_exc {α : Type} (c : Str) (k : α → Flow) : (Res.exc c : Res α).must k = .err := id rfl
@[simp] theorem must_err {α : Type} (k : α → Flow) : (Res.err : Res α).must k = .err := id rfl
def forE (gf : Env → D → Res Env) (F : SF) : List D → Env → Flow
  | [], ρ => .next ρ
  | d :: ds, ρ => (gf ρ d).must fun ρ1 => loopK (F ρ1) (forE gf F ds)
def sFor (fI : Env → Res (List D)) (gf : Env → D → Res Env) (F : SF) : SF := fun ρ => (fI ρ).flow ρ fun ds => forE gf F ds ρ
theorem sj_for {tg iter : Expr} {g : TG} {gf : Env → D → Res Env} {is : List Nat} {fI : Env → Res (List D)} {body : List Stmt} (hp : PassesOwn (model X.prog X.w) X.A X.env X.xe) (hc : X.calm = true) (hi : EI X W L 0 tg iter fI) (hg : PG X tg g) (gs : GSem X.K g gf is) (hL : ∀ i ∈ is, L.getD i 0 = 0)
    (hb : SJs X W kr L L L body F) (hs : ∀ x, foldedSetIterable iter X.env x = pure x := by intro _; rfl) : SJ X W kr Lb L L (.For tg iter body [] pos) (sFor fI gf F) :=
  PS.imp (ps_for hp hc hi hg hb hs) fun Dn σ H ⟨ex0, Gs, ρ, fp, S, o⟩ => by
    refine ⟨_, ρ, fp, S.si, (flow_out S o).mono fun ds q J H1 gh e1 rg itn => ?_⟩
    refine ⟨fun i m σi Hi => i + m = ds.length ∧ ∃ ρi fpi, SS X.K X.H_0 ex0 (gh :: Gs) L ρi σi Hi fpi ∧ FOut X W kr Lb L ex0 Gs Dn (forE gf F (ds.drop i) ρi), ⟨ds.length, by omega, ρ, fp, (S.up e1).hold rg, q⟩, fun i m σi Hi hW => ?_⟩
    obtain ⟨em, ρi, fpi, Si, qi⟩ := hW
    have hold : R X.K (exOf fpi ex0) Hi gh.1 gh.2 := Si.held gh List.mem_cons_self
    by_cases hi : i < ds.length
    · refine .inr ⟨itn.go _ Hi i hold hi, fun σ' H' => ∃ m', m' < m ∧ i + 1 + m' = ds.length ∧ ∃ ρi fpi, SS X.K X.H_0 ex0 (gh :: Gs) L ρi σ' H' fpi ∧ FOut X W kr Lb L ex0 Gs Dn (forE gf F (ds.drop (i + 1)) ρi), fun σ' H' h => h, fun x H' hy => ?_⟩
      obtain ⟨d, hd⟩ : ∃ d, ds[i]? = some d := ⟨_, List.getElem?_eq_getElem hi⟩
      obtain ⟨e3, rx⟩ := itn.item _ Hi i d x H' hold hd hy
      have ed : ds.drop i = d :: ds.drop (i + 1) := by
        rw [List.drop_eq_getElem_cons hi]
        congr 1
        rw [List.getElem?_eq_getElem hi] at hd
        exact Option.some.inj hd
      rw [ed, forE] at qi
      cases hgf : gf ρi d with
      | exc c => rw [hgf] at qi; exact qi.elim
      | err => rw [hgf] at qi; exact qi.elim
      | ok ρ1 =>
        rw [hgf, must_ok] at qi
        refine gs _ x σi H' _ d ρi ρ1 rx hgf fun l hl e4 => ?_
        obtain ⟨fp', S'⟩ := (Si.up e3).sets l fun t ht => ⟨(hl t ht).1, hL _ (hl t ht).2⟩
        rw [← e4] at S'
        refine ⟨ex0, gh :: Gs, ρ1, fp', S', ?_⟩
        cases hF : F ρ1 with
        | next ρ2 =>
          rw [hF] at qi
          exact fun σ2 H2 fp2 S2 => ⟨m - 1, by omega, by omega, ρ2, fp2, S2, qi⟩
        | cont ρ2 =>
          rw [hF] at qi
          exact fun σ2 H2 fp2 S2 => ⟨m - 1, by omega, by omega, ρ2, fp2, S2, qi⟩
        | brk ρ2 =>
          rw [hF] at qi
          exact fun σ2 H2 fp2 S2 => qi σ2 H2 fp2 S2.tail
        | ret d =>
          rw [hF] at qi
          exact qi
        | exc c ρ2 =>
          rw [hF] at qi
          exact fun C hC σ2 H2 fp2 S2 => qi C hC σ2 H2 fp2 S2.tail
        | err =>
          rw [hF] at qi
          exact qi.elim
    · have ei : i = ds.length := by omega
      rw [ei, List.drop_length, forE] at qi
      exact .inl ⟨by rw [ei]; exact itn.stop _ Hi hold, qi σi Hi fpi Si.tail⟩
def whileE (t : Env → Res Bool) (F : SF) : Nat → Env → Flow
  | 0, _ => .err
  | n + 1, ρ => (t ρ).flow ρ fun b => if b = true then loopK (F ρ) (whileE t F n) else .next ρ
def sWhile (n : Nat) (t : Env → Res Bool) (F : SF) : SF := whileE t F n
theorem sj_while {body : List Stmt} (n : Nat) (hp : PassesOwn (model X.prog X.w) X.A X.env X.xe) (hc : ET X W L c ft) (hb : SJs X W kr L L L body F) : SJ X W kr Lb L L (.While c body [] pos) (sWhile n ft F) :=
  PS.imp (ps_while hp hc hb) fun Dn σ H ⟨ex0, Gs, ρ, fp, S, o⟩ => by
    refine ⟨fun m σi Hi => ∃ ρi fpi, SS X.K X.H_0 ex0 Gs L ρi σi Hi fpi ∧ FOut X W kr Lb L ex0 Gs Dn (whileE ft F m ρi), ⟨n, ρ, fp, S, o⟩, fun m σi Hi hW => ?_⟩
    obtain ⟨ρi, fpi, Si, qi⟩ := hW
    cases m with
    | zero => exact qi.elim
    | succ m =>
      rw [whileE] at qi
      refine ⟨_, ρi, fpi, Si.si, (flow_out Si qi).mono fun t q H' e => ?_⟩
      cases t with
      | false =>
        rw [if_neg Bool.false_ne_true] at q ⊢
        exact q σi H' fpi (Si.up e)
      | true =>
        rw [if_pos rfl] at q ⊢
        refine ⟨fun σ2 H2 => ∃ ρ2 fp2, SS X.K X.H_0 ex0 Gs L ρ2 σ2 H2 fp2 ∧ FOut X W kr Lb L ex0 Gs Dn (whileE ft F m ρ2), fun σ2 H2 h => ⟨m, Nat.lt_succ_self m, h⟩, ex0, Gs, ρi, fpi, Si.up e, ?_⟩
        cases hF : F ρi with
        | next ρ2 =>
          rw [hF] at q
          exact fun σ2 H2 fp2 S2 => ⟨ρ2, fp2, S2, q⟩
        | cont ρ2 =>
          rw [hF] at q
          exact fun σ2 H2 fp2 S2 => ⟨ρ2, fp2, S2, q⟩
        | brk ρ2 =>
          rw [hF] at q
          exact q
        | ret d =>
          rw [hF] at q
          exact q
        | exc c ρ2 =>
          rw [hF] at q
          exact q
        | err =>
          rw [hF] at q
          exact q.elim
end
end Px

namespace Px
open PySem PySem.Spec PyProof.Rows L2

/-! ### defs -/
/-- the promise of a def that does C -/
def Spec (K : PySem.W.Frag) (mg : Str → Option Value) (ar kr : Nat) (C : List D → Res D) : Sp := fun vs H Q E => vs.length = ar ∧ ∃ ex ds, (∀ a, ex a → H a ≠ none) ∧ Paired (R K ex H) ds vs ∧ match C ds with
  | .ok d => QO K ex H kr Q d
  | .exc c => ∀ Cl, mg c = some (.ref Cl) → ∀ H', Same H H' → E (.ref Cl) none H'
  | .err => False
def startE (n : Nat) (ds : List D) : Env := ds.map some ++ List.replicate (n - ds.length) none
/-- a body's meaning as a function of its arguments -/
def fnE (n : Nat) (F : SF) (ds : List D) : Res D := match F (startE n ds) with
  | .ret d => .ok d
  | .next _ => .ok .non
  | .exc c _ => .exc c
  | _ => .err
theorem start_val {K : PySem.W.Frag} {ex : AS} {H : Hp} {N : List Str} {ds : List D} {vs : List V} (h : Paired (R K ex H) ds vs) : ∀ (i : Nat) (d : D), (startE N.length ds)[i]? = some (some d) → ∃ v : V, (L2.start N vs)[i]? = some (some v) ∧ R K ex H d v := by
  intro i d e
  unfold startE at e
  unfold L2.start
  by_cases hi : i < ds.length
  · rw [List.getElem?_append_left (by rw [List.length_map]; exact hi), List.getElem?_map] at e
    cases q : ds[i]? with
    | none => rw [q] at e; cases e
    | some d' =>
      rw [q] at e
      cases e
      obtain ⟨v, h1, h2⟩ := Paired.get h q
      refine ⟨v, ?_, h2⟩
      rw [List.getElem?_append_left (by rw [List.length_map, ← h.length]; exact hi), List.getElem?_map, h1]
      rfl
  · rw [List.getElem?_append_right (by rw [List.length_map]; omega), List.getElem?_replicate] at e
    split at e <;> cases e
theorem getD_rep0 (n i : Nat) : (List.replicate n 0).getD i 0 = 0 := by
  rw [List.getD_eq_getElem?_getD, List.getElem?_replicate]
  split <;> rfl
section
variable {P : Program} {w : World} {K : PySem.W.Frag} {mg : Str → Option Value} {base : Heap}
theorem fn_ok {x qual : Str} {st : Stmt} {f : Addr} {fd : FuncData} {N ps : List Str} {k kr ar nN : Nat} {L L' : List Nat} {FF : SF} {C : List D → Res D} (F : Fun K x qual st f fd) (S : FnScope N ps (defScope st)) (hn : nN = N.length) (har : ar = ps.length) (hL0 : L = List.replicate nN 0) (hC : C = fnE nN FF)
    (h : ∀ (cdv : Value) (A : Around) (outer : List PySem.Env) (s : Shared) (H : Hp) (E : XK), Room k (A.deeper (envOfC qual (defScope st) s.heap.objs.size f cdv)) →
      SJs (cxOf (L2.CX P w) P w K mg base N qual (defScope st) f cdv A outer s H E) (fun cls d _ H => E cls d H) kr [] L L' (defBody st) FF) :
    FnOk P w K mg base (L2.CX P w) (k + 1) f fd ps (Spec K mg ar kr C) := by
  subst hn har hL0 hC
  refine F.okX S (fun vs H Q E h => h.1) (fun cdv A outer s H vs Q E hr hsp => ⟨_, h cdv A outer s H E hr, ?_⟩)
  obtain ⟨hl, ex, ds, ext, r, q⟩ := hsp
  have e0 : ∀ a, exOf (fun _ => []) ex a → ex a := fun a z => by
    rcases z with ⟨_, z⟩ | z
    · cases z
    · exact z
  have hlen := r.length
  have SSi : SS K H ex [] (List.replicate N.length 0) (startE N.length ds) (L2.start N vs) H fun _ => [] := by
    refine ⟨⟨?_, fun i d e => ?_, fun i => List.nodup_nil, fun i j a z => (nomatch z), fun i a z => (nomatch z), fun a z => ext a (e0 a z)⟩, fun i a z => (nomatch z), ext, Same.refl H, fun g z => (nomatch z)⟩
    · unfold startE L2.start
      simp [hlen]
    · obtain ⟨v, h1, h2⟩ := start_val r i d e
      exact ⟨v, h1, by rw [getD_rep0]; exact ⟨rfl, h2.less fun a z => .inl (e0 a z)⟩⟩
  refine ⟨ex, [], startE N.length ds, fun _ => [], SSi, ?_⟩
  unfold fnE at q
  unfold FOut
  cases hF : FF (startE N.length ds) with
  | next ρ' =>
    rw [hF] at q
    intro σ' H' fp' S'
    exact q .non H' [] S'.same (RO.flat (by rw [R]) rfl) List.nodup_nil fun a z => nomatch z
  | ret d =>
    rw [hF] at q
    exact q
  | exc c ρ' =>
    rw [hF] at q
    exact fun C hC σ' H' fp' S' => q C hC H' S'.same
  | brk ρ' =>
    rw [hF] at q
    exact q.elim
  | cont ρ' =>
    rw [hF] at q
    exact q.elim
  | err =>
    rw [hF] at q
    exact q.elim
end
section
variable {X : Cx} {W : WX} {L : List Nat} {n m k kr : Nat} {pos p : Pos} {e : Expr} {es : List Expr} {f : Addr} {fd : FuncData} {ps : List Str} {x : Str} {C : List D → Res D} {fs : Env → Res (List D)}
theorem eo_call (F : FnOk X.prog X.w X.K X.mg X.base (L2.CX X.prog X.w) k f fd ps (Spec X.K X.mg m kr C)) (hr : Room k X.A) (hg : Gl X x) (hm : X.mg x = some (.ref f)) (hk : PySem.W.keepIn X.K (.ref f) = true) (hb : Binds X.K fd ps []) (tk : Takes X W)
    (ha : EA X W L 0 m (e :: es) fs) (hdb : (x == ("__debug__" : Str)) = false := by decide) (he : starEach (e :: es) X.env = (false, eval e X.env) :: starEach es X.env := by rfl) (hpl : (backTo pos (starEach es X.env)).any (·.1) = false := by rfl) :
    EO X W L kr (.Call (.Name x p) (e :: es) [] pos) (eCall C fs) :=
  PE.imp (pe_callS F hr hg hm hk hb (fun σ => passAt tk σ) ha hdb he hpl) fun σ H Q ⟨ex, ρ, fp, I, o⟩ => ⟨ex, ρ, fp, I, o.bind.mono fun ds q vs H1 e1 r1 hl => by
    refine ⟨hl, ex, ds, (I.same e1).ext, r1, ?_⟩
    cases hC : C ds with
    | ok d =>
      rw [hC] at q
      exact fun v H2 fq e2 ro nd nw => q v H2 fq (e1.trans e2) ro nd fun a ha => e1.free (nw a ha)
    | exc c =>
      rw [hC] at q
      exact fun Cl hCl H' e2 => q Cl hCl H' (e1.trans e2)
    | err =>
      rw [hC] at q
      exact q.elim⟩
mutual
/-- no list within -/
def noL : D → Bool
  | .non => true
  | .bl _ => true
  | .int _ => true
  | .str _ => true
  | .tup xs => noLL xs
  | .lst _ => false
  | .dic _ _ => false
  | .set _ => false
  | .exc _ => false
  | .oth => false
def noLL : List D → Bool
  | [] => true
  | d :: ds => noL d && noLL ds
end
theorem noLL_all : ∀ xs : List D, noLL xs = xs.all noL
  | [] => by rw [noLL, List.all_nil]
  | x :: xs => by rw [noLL, List.all_cons, noLL_all xs]
mutual
theorem R.any {K : PySem.W.Frag} {ex ex' : AS} {H : Hp} : ∀ (d : D) {v : V}, noL d = true → R K ex H d v → R K ex' H d v
  | .non, _, _, h => by
    rw [R] at h ⊢
    exact h
  | .bl _, _, _, h => by
    rw [R] at h ⊢
    exact h
  | .int _, _, _, h => by
    rw [R] at h ⊢
    exact h
  | .str _, _, _, h => by
    rw [R] at h ⊢
    exact h
  | .tup ds, _, n, h => by
    rw [R] at h ⊢
    rw [noL] at n
    obtain ⟨a, xs, e, h1, h2⟩ := h
    exact ⟨a, xs, e, h1, RL.any ds n h2⟩
  | .lst _, _, n, _ => by
    rw [noL] at n
    cases n
  | .dic _ _, _, n, _ => by
    rw [noL] at n
    cases n
  | .set _, _, n, _ => by
    rw [noL] at n
    cases n
  | .exc _, _, n, _ => by
    rw [noL] at n
    cases n
  | .oth, _, n, _ => by
    rw [noL] at n
    cases n
theorem RL.any {K : PySem.W.Frag} {ex ex' : AS} {H : Hp} : ∀ (ds : List D) {vs : List V}, noLL ds = true → RL K ex H ds vs → RL K ex' H ds vs
  | [], _, _, h => by
    rw [RL] at h ⊢
    exact h
  | d :: ds, _, n, h => by
    rw [RL] at h ⊢
    rw [noLL, Bool.and_eq_true] at n
    obtain ⟨v, r, e, h1, h2⟩ := h
    exact ⟨v, r, e, R.any d n.1 h1, RL.any ds n.2 h2⟩
end
/-- borrowed for a look: nothing is owned by anyone -/
theorem RB.look {K : PySem.W.Frag} {ex : AS} {H : Hp} : ∀ {n : Nat} {d : D} {v : V}, RB K ex H n d v → R K (fun _ => False) H d v
  | 0, _, _, h => R.less (fun a q => q.elim) h
  | n + 1, d, v, h => by
    cases d with
    | lst ds =>
      rw [RB] at h
      obtain ⟨a, xs, e, h1, h2⟩ := h
      rw [R]
      exact ⟨a, xs, e, ⟨LsX.of h1.1 fun q => q, h1.2⟩, RL.of (h2.mono fun _ _ q => RB.look q)⟩
    | _ => exact R.less (fun a q => q.elim) (RB.flat h rfl)
/-- a call that only looks at lists that are owned here: what it hands back holds no list -/
def eCallP (C : List D → Res D) (fs : Env → Res (List D)) : EF := fun ρ => fs ρ >>= fun ds => C ds >>= fun d => if noL d = true then .ok d else .err
theorem eo_callP (F : FnOk X.prog X.w X.K X.mg X.base (L2.CX X.prog X.w) k f fd ps (Spec X.K X.mg m kr C)) (hr : Room k X.A) (hg : Gl X x) (hm : X.mg x = some (.ref f)) (hk : PySem.W.keepIn X.K (.ref f) = true) (hb : Binds X.K fd ps []) (tk : Takes X W)
    (ha : EA X W L n m (e :: es) fs) (hdb : (x == ("__debug__" : Str)) = false := by decide) (he : starEach (e :: es) X.env = (false, eval e X.env) :: starEach es X.env := by rfl) (hpl : (backTo pos (starEach es X.env)).any (·.1) = false := by rfl) :
    EB X W L 0 (.Call (.Name x p) (e :: es) [] pos) (eCallP C fs) :=
  PE.imp (pe_callS F hr hg hm hk hb (fun σ => passAt tk σ) ha hdb he hpl) fun σ H Q ⟨ex, ρ, fp, I, o⟩ => ⟨ex, ρ, fp, I, o.bind.mono fun ds q vs H1 e1 r1 hl => by
    refine ⟨hl, fun _ => False, ds, fun a z => z.elim, r1.mono fun _ _ z => RB.look z, ?_⟩
    cases hC : C ds with
    | ok d =>
      rw [hC, Res.bind_ok] at q
      split at q
      · rename_i hn
        intro v H2 fq e2 ro nd nw
        refine q v H2 (e1.trans e2) (show R X.K ex H2 d v from ?_)
        exact R.any d hn (ro.shared (ex' := fun _ => False) (fun a z => z.elim) fun a _ z => z.elim)
      · exact q.elim
    | exc c =>
      rw [hC] at q
      exact fun Cl hCl H' e2 => q Cl hCl H' (e1.trans e2)
    | err =>
      rw [hC] at q
      exact q.elim⟩
end

/-! ### kinds -/
def tyS : D → Option String
  | .non => some "NoneType"
  | .bl _ => some "bool"
  | .int _ => some "int"
  | .str _ => some "str"
  | .tup _ => some "tuple"
  | .lst _ => some "list"
  | _ => none
def isInt : D → Bool
  | .int _ => true
  | .bl _ => true
  | _ => false
def isBool : D → Bool
  | .bl _ => true
  | _ => false
def isStr : D → Bool
  | .str _ => true
  | _ => false
def isTup : D → Bool
  | .tup _ => true
  | _ => false
def isLst : D → Bool
  | .lst _ => true
  | _ => false
def Kind (T : String) (p : D → Bool) : Prop := ∀ d ty, tyS d = some ty → kitB ty T = some (p d)
theorem kind_int : Kind "int" isInt := fun d ty h => by
  cases d <;> cases h
  · exact (show kitB "NoneType" "int" = some false by decide +kernel)
  · exact (show kitB "bool" "int" = some true by decide +kernel)
  · exact (show kitB "int" "int" = some true by decide +kernel)
  · exact (show kitB "str" "int" = some false by decide +kernel)
  · exact (show kitB "tuple" "int" = some false by decide +kernel)
  · exact (show kitB "list" "int" = some false by decide +kernel)
theorem kind_bool : Kind "bool" isBool := fun d ty h => by
  cases d <;> cases h
  · exact (show kitB "NoneType" "bool" = some false by decide +kernel)
  · exact (show kitB "bool" "bool" = some true by decide +kernel)
  · exact (show kitB "int" "bool" = some false by decide +kernel)
  · exact (show kitB "str" "bool" = some false by decide +kernel)
  · exact (show kitB "tuple" "bool" = some false by decide +kernel)
  · exact (show kitB "list" "bool" = some false by decide +kernel)
theorem kind_str : Kind "str" isStr := fun d ty h => by
  cases d <;> cases h
  · exact (show kitB "NoneType" "str" = some false by decide +kernel)
  · exact (show kitB "bool" "str" = some false by decide +kernel)
  · exact (show kitB "int" "str" = some false by decide +kernel)
  · exact (show kitB "str" "str" = some true by decide +kernel)
  · exact (show kitB "tuple" "str" = some false by decide +kernel)
  · exact (show kitB "list" "str" = some false by decide +kernel)
theorem kind_tup : Kind "tuple" isTup := fun d ty h => by
  cases d <;> cases h
  · exact (show kitB "NoneType" "tuple" = some false by decide +kernel)
  · exact (show kitB "bool" "tuple" = some false by decide +kernel)
  · exact (show kitB "int" "tuple" = some false by decide +kernel)
  · exact (show kitB "str" "tuple" = some false by decide +kernel)
  · exact (show kitB "tuple" "tuple" = some true by decide +kernel)
  · exact (show kitB "list" "tuple" = some false by decide +kernel)
theorem kind_lst : Kind "list" isLst := fun d ty h => by
  cases d <;> cases h
  · exact (show kitB "NoneType" "list" = some false by decide +kernel)
  · exact (show kitB "bool" "list" = some false by decide +kernel)
  · exact (show kitB "int" "list" = some false by decide +kernel)
  · exact (show kitB "str" "list" = some false by decide +kernel)
  · exact (show kitB "tuple" "list" = some false by decide +kernel)
  · exact (show kitB "list" "list" = some true by decide +kernel)
theorem RB.ty {K : PySem.W.Frag} {ex : AS} {H : Hp} {n : Nat} {d : D} {v : V} {ty : String} (h : RB K ex H n d v) (e : tyS d = some ty) : TyX K H v (.type ty) := by
  cases d with
  | non =>
    cases e
    rw [h.non]
    exact .base .non
  | bl b =>
    cases e
    rw [h.bl]
    exact .base (.bl b)
  | int b =>
    cases e
    rw [h.int]
    exact .base (.int b)
  | str b =>
    cases e
    rw [h.str]
    exact .base (.str b)
  | tup xs =>
    cases e
    obtain ⟨a, ys, rfl, h1, _⟩ := h.tup
    rcases h1 with (h1 | ⟨o, h1⟩) | ⟨o, its, m, h1, h2, _⟩
    · exact .base (.tup h1)
    · exact .fTuple h1
    · exact .kTuple h1 h2
  | lst xs =>
    cases e
    obtain ⟨a, ys, rfl, h1, _⟩ := h.up.lst
    rcases h1 with (h1 | ⟨o, h1⟩) | ⟨o, its, m, h1, h2, _⟩
    · exact .base (.lst h1)
    · exact .base (.frz h1)
    · exact .kList h1 h2
  | _ => cases e
def dIsi (p : D → Bool) (d : D) : Res D := match tyS d with
  | some _ => .ok (.bl (p d))
  | none => .err
theorem dIsi_nx {p : D → Bool} : NoX1 (dIsi p) := fun a c h => by
  unfold dIsi at h
  split at h <;> cases h
section
variable {X : Cx} {W : WX} {L : List Nat} {n m k kr : Nat} {pos p p2 : Pos} {e : Expr} {f : EF}
theorem eo_isi {T : String} {pr : D → Bool} {t : Str} (hT : Kind T pr) (hg : Gl X "isinstance") (hm : X.mg "isinstance" = none) (hg2 : Gl X t) (hm2 : X.mg t = none) (hv2 : bootBuiltins t = some (.type T)) (he : EB X W L n e f)
    (hn2 : t ≠ "__name__" := by decide) (hdb2 : (t == ("__debug__" : Str)) = false := by decide)
    (hs1 : starEach [e, .Name t p2] X.env = (false, eval e X.env) :: starEach [.Name t p2] X.env := by rfl) (hs2 : starEach [.Name t p2] X.env = (false, eval (.Name t p2) X.env) :: starEach [] X.env := by rfl) (hpl : (backTo pos (starEach [.Name t p2] X.env)).any (·.1) = false := by rfl) :
    EO X W L k (.Call (.Name "isinstance" p) [e, .Name t p2] [] pos) (eUn (dIsi pr) f) :=
  PE.imp (pe_callB call_isi hg hm (by decide +kernel) (pa_cons he (pa_cons (pe_bltn (v := .ty T) hg2 hm2 hv2 rfl hn2 hdb2) pa_nil hs2) hs1) (by decide) (by decide) hs1 hpl) fun σ H Q ⟨ex, ρ, fp, I, o⟩ =>
    ⟨ex, ρ, fp, I, o.bind.mono fun d q v H1 e1 r1 => by
      obtain ⟨z, ez, qz⟩ := no_exc q (dIsi_nx d)
      unfold dIsi at ez
      split at ez
      · rename_i ty hty
        cases ez
        refine ⟨v, .ty T, .type ty, .type T, pr d, rfl, .ty T, r1.ty hty, kit_ty (hT d ty hty), ?_⟩
        exact QO.bl (K := X.K) (ex := ex) (k := k) fun v H2 fq e2 ro nd nw => qz v H2 fq (e1.trans e2) ro nd fun a ha => e1.free (nw a ha)
      · cases ez⟩
end

/-! ### lists that change -/
section
variable {X : Cx} {W : WX} {kr n k : Nat} {Lb L : List Nat} {e : Expr} {f g : EF} {pos apos cpos npos : Pos} {x : Str} {i : Nat}
theorem own_list {K : PySem.W.Frag} {H0 H : Hp} {ex0 : AS} {G : List (D × V)} {ρ : Env} {σ : L2.St} {fp : Nat → List Addr} (S : SS K H0 ex0 G L ρ σ H fp) {xs : List D} (hρ : ρ.getD i none = some (.lst xs)) (hL : L.getD i 0 = k + 1) :
    ∃ a vs fps, σ[i]? = some (some (.ref a)) ∧ H a = some (.lst vs) ∧ vs.length ≤ sizeLine ∧ fp i = a :: fps.flatten ∧ P3 (RO K (exOf fp ex0) H k) xs vs fps := by
  obtain ⟨v, h1, h2⟩ := S.si.val i _ (getD_some hρ)
  rw [hL, RO] at h2
  obtain ⟨a, vs, fps, rfl, h3, h4, h5⟩ := h2
  exact ⟨a, vs, fps, h1, h3.1, h3.2, h4, h5⟩
def sAppend (i : Nat) (f : EF) : SF := fun ρ => match ρ.getD i none with
  | some (.lst xs) => (f ρ).flow ρ fun d => if xs.length < sizeLine then .next (ρ.set i (some (.lst (xs ++ [d])))) else .err
  | _ => .err
theorem sj_append (hx' : X.N[i]? = some x) (hv : Vis X.env.scope x) (hL : L.getD i 0 = k + 1) (he : EO X W L k e f) (hd : (x == ("__debug__" : Str)) = false := by decide) (hcd : (x == ("__classdict__" : Str)) = false := by decide)
    (hbase : attributeBase (.Name x npos) "append" X.env (eval (.Name x npos) X.env) = eval (.Name x npos) X.env := by rfl)
    (hfew : ((backTo cpos (starEach [e] X.env)).all (fun x => !x.1) && (backToKw cpos (keywordEach [] X.env)).all (fun x => x.1.isSome)
      && decide ([e].length + ([] : List Keyword).length + (if ([] : List Keyword).isEmpty then 0 else 1) < 30)) = true := by rfl)
    (hline : (apos.endLine == cpos.line) = true := by rfl) (hs : starEach [e] X.env = (false, eval e X.env) :: starEach [] X.env := by rfl) (hplain : (backTo cpos (starEach [] X.env)).any (·.1) = false := by rfl)
    (hsw : swapsWith (.Call (.Attribute (.Name x npos) "append" apos) [e] [] cpos) none pos.line X.env = pure false := by rfl) :
    SJ X W kr Lb L L (.Expr (.Call (.Attribute (.Name x npos) "append" apos) [e] [] cpos) pos) (sAppend i f) :=
  PS.imp (ps_expr (pe_bm PySem.F.plainAttrs_list PySem.F.slot_list_append PySem.F.type_list_append mt_append (pe_var hx' hv hd hcd) (pa_cons he pa_nil hs) hbase hfew hline hs hplain) hsw) fun Dn σ H ⟨ex0, Gs, ρ, fp, S, o⟩ => by
    unfold sAppend at o
    cases hρ : ρ.getD i none with
    | none => rw [hρ] at o; exact o.elim
    | some d0 =>
      rw [hρ] at o
      cases d0 with
      | lst xs =>
        obtain ⟨a, vs, fps, h1, h2, h3, h4, h5⟩ := own_list S hρ hL
        refine ⟨.ref a, h1, .inl ⟨rfl, vs, .inl (.inl h2)⟩, _, ρ, fp, S.si, (flow_out S o).mono fun d q v H1 fq e1 ro nd nw => ?_⟩
        split at q
        · rename_i hz
          have hlv : xs.length = vs.length := P3.length h5
          have hH1 : H1 a = some (.lst vs) := e1 _ _ h2
          refine ⟨a, vs, v, rfl, rfl, hH1, by omega, ?_⟩
          have ha : a ∈ fp i := by rw [h4]; exact List.mem_cons_self
          have hafq : a ∉ fq := fun z => by
            have := nw a z
            rw [h2] at this
            cases this
          have hnod := S.si.nod i
          rw [h4] at hnod
          obtain ⟨ha2, hnod2⟩ := List.nodup_cons.mp hnod
          have hfq : ∀ b ∈ fps.flatten, b ∉ fq := fun b hb z => P3.there h5 hb (nw b z)
          have mem : ∀ b, b ∈ (fps ++ [fq]).flatten ↔ b ∈ fps.flatten ∨ b ∈ fq := fun b => by
            rw [List.flatten_append, List.mem_append]
            simp
          have kp : Keep (exOf fp ex0) H (L2.upd H1 a (.lst (vs ++ [v]))) := by
            refine ⟨fun b zs h => ?_, fun b zs hn h => ?_⟩
            · have hb : b ≠ a := fun q => by
                rw [q] at h
                rcases h with h | ⟨o, h⟩ <;> rw [h2] at h <;> cases h
              rcases Same.rd e1 h with h2 | ⟨o, h2⟩
              · exact .inl (by rw [upd_ne hb]; exact h2)
              · exact .inr ⟨o, by rw [upd_ne hb]; exact h2⟩
            · have hb : b ≠ a := fun q => hn (.inl ⟨i, by rw [q]; exact ha⟩)
              rcases Same.rd e1 h with h2 | ⟨o, h2⟩
              · exact .inl (by rw [upd_ne hb]; exact h2)
              · exact .inr ⟨o, by rw [upd_ne hb]; exact h2⟩
          have kp2 : Keep (fun b => b ∈ fq ∨ exOf fp ex0 b) H1 (L2.upd H1 a (.lst (vs ++ [v]))) := by
            refine ⟨fun b zs h => ?_, fun b zs hn h => ?_⟩
            · have hb : b ≠ a := fun q => by
                rw [q] at h
                rcases h with h | ⟨o, h⟩ <;> rw [hH1] at h <;> cases h
              rcases h with h2 | ⟨o, h2⟩
              · exact .inl (by rw [upd_ne hb]; exact h2)
              · exact .inr ⟨o, by rw [upd_ne hb]; exact h2⟩
            · have hb : b ≠ a := fun q => hn (.inr (.inl ⟨i, by rw [q]; exact ha⟩))
              rcases h with h2 | ⟨o, h2⟩
              · exact .inl (by rw [upd_ne hb]; exact h2)
              · exact .inr ⟨o, by rw [upd_ne hb]; exact h2⟩
          refine q _ _ _ (S.upd e1 (i := i) (a := a) (vs := vs) (vs' := vs ++ [v]) (dN := .lst (xs ++ [d])) (fqN := a :: (fps ++ [fq]).flatten) h1 ha h2 ?_ ?_ ?_)
          · have le1 : ∀ b, exOf (fun j => if j = i then a :: (fps ++ [fq]).flatten else fp j) ex0 b → b ∈ fq ∨ exOf fp ex0 b := fun b h => by
              rcases h with ⟨l, h⟩ | h
              · have h : b ∈ (if l = i then a :: (fps ++ [fq]).flatten else fp l) := h
                split at h
                · rcases List.mem_cons.mp h with h | h
                  · exact .inr (.inl ⟨i, by rw [h]; exact ha⟩)
                  · rcases (mem b).mp h with h | h
                    · exact .inr (.inl ⟨i, by rw [h4]; exact List.mem_cons_of_mem _ h⟩)
                    · exact .inl h
                · exact .inr (.inl ⟨l, h⟩)
              · exact .inr (.inr h)
            rw [hL, RO]
            refine ⟨a, vs ++ [v], fps ++ [fq], rfl, ⟨upd_same, by rw [List.length_append]; simp; omega⟩, rfl, P3.app ?_ (.cons ?_ .nil)⟩
            · refine P3.keep kp (fun b h => ?_) (fun b hb o q => ?_) h5
              · rcases le1 b h with h | h
                · exact .inr (nw b h)
                · exact .inl h
              · have hba : b ≠ a := fun z => ha2 (by rw [← z]; exact hb)
                rw [upd_ne hba]
                exact e1 _ _ q
            · refine RO.keep kp2 (fun b h => .inl (le1 b h)) (fun b hb o q => ?_) ro
              have hba : b ≠ a := fun z => hafq (by rw [← z]; exact hb)
              rw [upd_ne hba]
              exact q
          · refine List.nodup_cons.mpr ⟨fun z => ?_, ?_⟩
            · rcases (mem a).mp z with z | z
              · exact ha2 z
              · exact hafq z
            · rw [List.flatten_append]
              refine List.nodup_append.mpr ⟨hnod2, by simpa using nd, fun b hb c hc z => ?_⟩
              have hc : c ∈ fq := by simpa using hc
              exact hfq b hb (by rw [z]; exact hc)
          · intro b hb
            rcases List.mem_cons.mp hb with h | h
            · rw [h]
              exact .inl ha
            · rcases (mem b).mp h with h | h
              · exact .inl (by rw [h4]; exact List.mem_cons_of_mem _ h)
              · exact .inr (nw b h)
        · exact q.elim
      | _ => exact o.elim

/-! ### raise -/
def sRaise (c : Str) : SF := fun ρ => .exc c ρ
theorem sj_raise {L1 : List Nat} {y msg : Str} {j : Nat} {C : Addr} {p2 pos2 : Pos} {newId initId B : String} {bmB : List Value} (hc : X.calm = true) (tk : Takes X W) (F : ExcBaseFacts B newId initId bmB) (q : PySem.W.excIn X.K C bmB newId = true)
    (gC : X.mg y = some (.ref C)) (kC : PySem.W.keepIn X.K (.ref C) = true) (r : Raises X (.ref C)) (hg : Gl X y) (hdb : (y == ("__debug__" : Str)) = false := by decide) :
    SJ X W kr Lb L L1 (.Raise (some (.Call (.Name y npos) [.Constant (.str msg) j p2] [] pos)) none pos2) (sRaise y) :=
  PS.imp (ps_raise hc tk (pmk_own F q gC kC r hg hdb)) fun Dn σ H ⟨ex0, Gs, ρ, fp, S, o⟩ => o C gC σ H _ S.dropAll
end
end Px

namespace Px
open PySem PySem.Spec PyProof.Rows L2

/-! ### comparisons as tests -/
def asB : D → Res Bool
  | .bl b => .ok b
  | _ => .err
section
variable {X : Cx} {W : WX} {L : List Nat} {n n1 n2 m k kr : Nat} {pos p p2 : Pos} {a b c e : Expr} {f g h : EF} {o o' : D → D → Res D}
theorem PT.ofV {X : Cx} {e : Expr} {t : TE} {t' : TT} (h : PT X e (tTest t)) (m : ∀ σ H Q, t' σ H Q → tTest t σ H Q) : PT X e t' := PT.imp h m
theorem et_cmp {op : CmpOp} (ho : Op2 X n1 n2 0 (compareOp op) o) (nx : NoX2 o) (ha : EB X W L n1 a f) (hb : EB X W L n2 b g) (hm : behindInMarks op b = false) : ET X W L (.Compare a [op] [b] pos) (eUn asB (eOp o f g)) :=
  PT.imp (pt_cmpR ho ha hb hm) fun σ H Q ⟨ex, ρ, fp, I, q⟩ => by
    refine ⟨ex, ρ, fp, I, q.bind.bind.mono fun d1 q1 v1 H1 e1 r1 => ⟨ex, ρ, fp, I.same e1, (q1.bind.later e1).mono fun d2 q2 v2 H2 e2 r2 => ?_⟩⟩
    obtain ⟨d, ed, qd⟩ := no_exc q2 (nx d1 d2)
    refine ⟨ex, d1, d2, d, ((I.same e1).same e2).ext, r1.same e2, r2, ed, fun v H3 fq e3 ro nd nw => ?_⟩
    have r3 : RB X.K (fun a => a ∈ fq ∨ ex a) H3 0 d v := ro.borrow
    cases d with
    | bl t => exact ⟨t, r3.bl, qd H3 ((e1.trans e2).trans e3)⟩
    | _ => exact qd.elim
theorem et_chain {op op' : CmpOp} (ho : Op2 X 0 0 0 (compareOp op) o) (nx : NoX2 o) (ho' : Op2 X 0 0 0 (compareOp op') o') (nx' : NoX2 o') (ha : EB X W L 0 a f) (hb : EB X W L 0 b g) (hc : EB X W L 0 c h)
    (hm : lastMarks [op, op'] [b, c] = false := by with_unfolding_all rfl) : ET X W L (.Compare a [op, op'] [b, c] pos) (eUn asB (eChain o o' f g h)) :=
  PT.imp (pt_chain ho ho' ha hb hc hm) fun σ H Q ⟨ex, ρ, fp, I, q⟩ => by
    refine ⟨ex, ρ, fp, I, q.bind.bind.mono fun d1 q1 v1 H1 e1 r1 => ⟨ex, ρ, fp, I.same e1, (q1.bind.later e1).mono fun d2 q2 v2 H2 e2 r2 => ?_⟩⟩
    obtain ⟨d, ed, qd⟩ := no_exc q2.bind (nx d1 d2)
    refine ⟨ex, d1, d2, d, ((I.same e1).same e2).ext, r1.same e2, r2, ed, fun v H3 fq e3 ro nd nw => ?_⟩
    have r3 : RB X.K (fun a => a ∈ fq ∨ ex a) H3 0 d v := ro.borrow
    cases d with
    | bl t =>
      cases t with
      | true =>
        refine ⟨true, r3.bl, ?_⟩
        rw [if_pos rfl]
        refine ⟨ex, ρ, fp, ((I.same e1).same e2).same e3, ((Out.bind qd).later ((e1.trans e2).trans e3)).mono fun d3 q3 v4 H4 e4 r4 => ?_⟩
        obtain ⟨z, ez, qz⟩ := no_exc q3 (nx' d2 d3)
        refine ⟨ex, d2, d3, z, ((((I.same e1).same e2).same e3).same e4).ext, (r2.same e3).same e4, r4, ez, fun v H5 fq e5 ro nd nw => ?_⟩
        have r5 : RB X.K (fun a => a ∈ fq ∨ ex a) H5 0 z v := ro.borrow
        cases z with
        | bl t => exact ⟨t, r5.bl, qz H5 ((((e1.trans e2).trans e3).trans e4).trans e5)⟩
        | _ => exact qz.elim
      | false =>
        refine ⟨false, r3.bl, ?_⟩
        rw [if_neg Bool.false_ne_true]
        exact ⟨false, rfl, qd H3 ((e1.trans e2).trans e3)⟩
    | _ => exact qd.elim

/-! ### constants of the module -/
theorem eo_gint {x : Str} {i : Int} {t : Tok} (hg : Gl X x) (hm : X.mg x = some (.int i t)) (hd : (x == ("__debug__" : Str)) = false := by decide) : EO X W L k (.Name x pos) (eC (.int i)) :=
  PE.imp (pe_glob (v := .int i) hg hm ⟨t, rfl⟩ hd) fun σ H Q ⟨ex, ρ, fp, I, o⟩ => QO.int o
theorem eo_gstr {x i : Str} {t : Tok} (hg : Gl X x) (hm : X.mg x = some (.str i t)) (hd : (x == ("__debug__" : Str)) = false := by decide) : EO X W L k (.Name x pos) (eC (.str i)) :=
  PE.imp (pe_glob (v := .str i) hg hm ⟨t, rfl⟩ hd) fun σ H Q ⟨ex, ρ, fp, I, o⟩ => QO.str o

/-! ### {k: v, ..}[i] -/
def keyD : D → Option Key
  | .int i => some (.inl i)
  | .str s => some (.inr s)
  | _ => none
theorem keyD_v {K : PySem.W.Frag} {ex : AS} {H : Hp} {d : D} {v : V} {kk : Key} (r : RB K ex H n d v) (e : keyD d = some kk) : v = kV kk := by
  unfold keyD at e
  split at e
  · cases e
    exact r.int
  · cases e
    exact r.str
  · cases e
def evPairs : List (EF × EF) → Env → Res (List (Key × D))
  | [], _ => .ok []
  | p :: r, ρ => p.1 ρ >>= fun a => p.2 ρ >>= fun b => match keyD a with
    | some kk => evPairs r ρ >>= fun l => .ok ((kk, b) :: l)
    | none => .err
/-- the last one wins -/
def lookLast (l : List (Key × D)) (kk : Key) : Option D := (l.reverse.find? fun q => decide (q.1 = kk)).map (·.2)
def eDLit (ps : List (EF × EF)) (f : EF) : EF := fun ρ => evPairs ps ρ >>= fun l => f ρ >>= fun d => match keyD d with
  | some kk => (match lookLast l kk with
    | some r => .ok r
    | none => .err)
  | none => .err
abbrev trsOf (X : Cx) (W : WX) (L : List Nat) (ps : List (EF × EF)) : List (TE × TE) := ps.map fun q => (tB X W L 0 q.1, tB X W L 0 q.2)
abbrev EPs (X : Cx) (W : WX) (L : List Nat) (pos : Pos) (keys : List (Option Expr)) (values : List Expr) (ps : List (EF × EF)) : Prop := PPs X pos keys values (trsOf X W L ps)
theorem eps_nil : EPs X W L pos [] [] [] := pps_nil
theorem eps_cons {kx v : Expr} {ks : List (Option Expr)} {vs : List Expr} {ps : List (EF × EF)} (hk : EB X W L 0 kx f) (hv : EB X W L 0 v g) (hr : EPs X W L pos ks vs ps) : EPs X W L pos (some kx :: ks) (v :: vs) ((f, g) :: ps) := pps_cons hk hv hr
abbrev KR (K : PySem.W.Frag) (ex : AS) (H : Hp) (l : List (Key × D)) (kvs : List (Key × V)) : Prop := Paired (fun q z => q.1 = z.1 ∧ R K ex H q.2 z.2) l kvs
theorem pairs_imp {σ : L2.St} {ex : AS} {ρ : Env} {fp : Nat → List Addr} : ∀ (ps : List (EF × EF)) {H : Hp} {Q : List (V × V) → Hp → Prop}, SI X.K ex L ρ σ H fp →
    Out X W σ H (evPairs ps ρ) (fun l => ∀ kvs H', Same H H' → KR X.K ex H' l kvs → kvs.length = ps.length → Q (kvs.map fun kv => (kV kv.1, kv.2)) H') → tPairs (trsOf X W L ps) σ H Q
  | [], H, Q, I, o => o [] H (Same.refl H) .nil rfl
  | p :: r, H, Q, I, o => by
    refine ⟨ex, ρ, fp, I, o.bind.mono fun d1 q1 v1 H1 e1 r1 => ⟨ex, ρ, fp, I.same e1, (q1.bind.later e1).mono fun d2 q2 v2 H2 e2 r2 => ?_⟩⟩
    cases hk : keyD d1 with
    | none => rw [hk] at q2; exact q2.elim
    | some kk =>
      rw [hk] at q2
      refine pairs_imp r ((I.same e1).same e2) ((Out.later (Out.bind q2) (e1.trans e2)).mono fun l q3 kvs H3 e3 kr hl => ?_)
      have := q3 ((kk, v2) :: kvs) H3 ((e1.trans e2).trans e3) (.cons ⟨rfl, R.same e3 r2⟩ kr) (by rw [List.length_cons, List.length_cons, hl])
      rw [keyD_v r1 hk]
      exact this
theorem merge_val (kk : Key) : ∀ (kvs acc : List (Key × V)), valV (mergeK acc kvs) kk = match (kvs.reverse.find? fun q => decide (q.1 = kk)).map (·.2) with
    | some v => some v
    | none => valV acc kk
  | [], acc => rfl
  | p :: r, acc => by
    have e : mergeK acc (p :: r) = mergeK (putK acc p.1 p.2) r := rfl
    rw [e, merge_val kk r, List.reverse_cons, List.find?_append, valV_put]
    cases q : r.reverse.find? (fun q => decide (q.1 = kk)) with
    | some z => simp
    | none =>
      simp only [Option.map_none, Option.none_or, List.find?_cons, List.find?_nil]
      by_cases hp : p.1 = kk
      · simp [hp]
      · have : ¬ kk = p.1 := fun z => hp z.symm
        simp [hp, this]
theorem find_kr {K : PySem.W.Frag} {ex : AS} {H : Hp} {kk : Key} {d : D} : ∀ {l : List (Key × D)} {kvs : List (Key × V)}, KR K ex H l kvs → (l.find? fun q => decide (q.1 = kk)).map (·.2) = some d → ∃ v, (kvs.find? fun q => decide (q.1 = kk)).map (·.2) = some v ∧ R K ex H d v
  | _, _, .nil, h => by simp at h
  | a :: l, b :: kvs, .cons r t, h => by
    rw [List.find?_cons] at h ⊢
    by_cases hq : a.1 = kk
    · have hq2 : b.1 = kk := r.1 ▸ hq
      rw [decide_eq_true hq] at h
      rw [decide_eq_true hq2]
      have e : a.2 = d := by simpa using h
      rw [← e]
      exact ⟨b.2, rfl, r.2⟩
    · have hq2 : ¬ b.1 = kk := r.1 ▸ hq
      rw [decide_eq_false hq] at h
      rw [decide_eq_false hq2]
      exact find_kr t h
theorem eb_dlit {keys : List (Option Expr)} {values : List Expr} {ps : List (EF × EF)} {i : Expr} {dpos : Pos} (hu : X.A.units + 1 < cLine) (h : EPs X W L dpos keys values ps) (hi : EB X W L 0 i f) (hall : keys.all (·.isSome) = true := by rfl) (hl : keys.length = values.length := by rfl) (h0 : keys ≠ [] := by exact fun h => nomatch h) (h15 : keys.length ≤ 15 := by decide) (p15 : ps.length ≤ 15 := by decide)
    (hs : NoSl i := by intro _ _; rfl) : EB X W L 0 (.Subscript (.Dict keys values dpos) i pos) (eDLit ps f) :=
  PE.imp (pe_dget hu (pe_disp h hall hl h0 h15) hi hs) fun σ H Q ⟨ex, ρ, fp, I, o⟩ => fun pp hp => by
    have e0 : Same H (upd H pp (.dK [])) := same_upd hp
    refine pairs_imp ps (I.same e0) ((Out.later o.bind e0).mono fun l q kvs H2 e2 kr hkl => ?_)
    have hp2 : H2 pp = some (.dK []) := e2 _ _ upd_same
    refine ⟨hp2, kvs, rfl, by omega, ?_⟩
    have e3 : Same H (upd H2 pp (.dK (mergeK [] kvs))) := fun b o hb => by
      have hne : b ≠ pp := fun z => by
        rw [z, hp] at hb
        cases hb
      rw [upd_ne hne]
      exact e2 _ _ (by rw [upd_ne hne]; exact hb)
    have kp : Keep ex H2 (upd H2 pp (.dK (mergeK [] kvs))) := by
      refine ⟨fun b xs hb => ?_, fun b xs _ hb => ?_⟩
      · have hne : b ≠ pp := fun z => by
          rw [z] at hb
          rcases hb with hb | ⟨o, hb⟩ <;> rw [hp2] at hb <;> cases hb
        rcases hb with hb | ⟨o, hb⟩
        · exact .inl (by rw [upd_ne hne]; exact hb)
        · exact .inr ⟨o, by rw [upd_ne hne]; exact hb⟩
      · have hne : b ≠ pp := fun z => by
          rw [z] at hb
          rcases hb with hb | ⟨o, hb⟩ <;> rw [hp2] at hb <;> cases hb
        rcases hb with hb | ⟨o, hb⟩
        · exact .inl (by rw [upd_ne hne]; exact hb)
        · exact .inr ⟨o, by rw [upd_ne hne]; exact hb⟩
    refine ⟨ex, ρ, fp, I.same e3, ((Out.later (Out.bind q) e3)).mono fun d q2 y H4 e4 ry => ?_⟩
    cases hk : keyD d with
    | none => rw [hk] at q2; exact q2.elim
    | some kk =>
      rw [hk] at q2
      cases hf : lookLast l kk with
      | none =>
        simp only [hf] at q2
        exact q2.elim
      | some r =>
        simp only [hf] at q2
        obtain ⟨v, hv, rv⟩ := find_kr (Paired.revP kr) hf
        have hm : valV (mergeK [] kvs) kk = some v := by rw [merge_val, hv]
        refine ⟨pp, v, rfl, ?_, q2 v H4 (e3.trans e4) (R.same e4 (R.keep kp (fun _ z => .inl z) r rv))⟩
        rw [keyD_v ry hk, ← hm]
        exact DGet.k (e4 _ _ upd_same)
end
end Px

namespace Px
open PySem PySem.Spec PyProof.Rows L2

theorem gl_of {X : Cx} {x : Str} (h : X.env.scope.names.lookup x = some .globalImplicit) : Gl X x := h
theorem hu65 {k : Nat} {A : Around} (hr : Room k A) : A.units + 65 < cLine := by
  have := hr.un
  omega
section
variable {X : Cx} {W : WX} {L : List Nat} {n n1 n2 m k kr : Nat} {Lb : List Nat} {pos p : Pos} {a b e : Expr} {f g : EF}
theorem o_mul : Op2 X n m k (binaryOp .Mult) dMul := fun pins s σ H x y v u Q I rx ry h => by
  obtain ⟨ex, d1, d2, d, ext, r1, r2, e, q⟩ := h
  unfold dMul at e
  split at e
  · split at e
    · rename_i hm
      cases e
      exact L2.op_mul pins s σ H x y v u Q I rx ry ⟨_, _, r1.int, r2.int, by unfold mulOk at hm; rw [decide_eq_true_eq] at hm; exact hm, q.int⟩
    · cases e
  · cases e
/-- [..] * n of a new list -/
def dRep : D → D → Res D
  | .lst a, .int j => if a.length * j.toNat ≤ sizeLine ∧ j < 2 ^ 62 ∧ -(2 ^ 62) < j then .ok (.lst (List.replicate j.toNat a).flatten) else .err
  | _, _ => .err
theorem dRep_nx : NoX2 dRep := fun a b c h => by
  unfold dRep at h
  split at h <;> first | cases h | (split at h <;> cases h)
theorem shared_of1 {K : PySem.W.Frag} {ex : AS} {H : Hp} {ds : List D} {v : V} {fq : List Addr} (h : RO K ex H 1 (.lst ds) v fq) : ∃ a xs, v = .ref a ∧ H a = some (.lst xs) ∧ xs.length ≤ sizeLine ∧ fq = [a] ∧ Paired (R K ex H) ds xs := by
  rw [RO] at h
  obtain ⟨a, xs, fps, rfl, h1, rfl, h2⟩ := h
  refine ⟨a, xs, rfl, h1.1, h1.2, ?_, ?_⟩
  · congr 1
    clear h1
    induction h2 with
    | nil => rfl
    | cons x t ih =>
      have := x.1
      subst this
      rw [List.flatten_cons, ih]
      rfl
  · clear h1
    induction h2 with
    | nil => exact .nil
    | cons x t ih => exact .cons x.2 ih
theorem eo_rep (ha : EO X W L 1 a f) (hb : EB X W L 0 b g) : EO X W L 1 (.BinOp a .Mult b pos) (eOp dRep f g) :=
  PE.imp (pe_op op_rep ha hb) fun σ H Q ⟨ex, ρ, fp, I, q⟩ => by
    refine ⟨ex, ρ, fp, I, q.bind.mono fun d1 q1 v1 H1 fq e1 r1 nd nw => ?_⟩
    have e12 : ∀ {c : Addr}, (c ∈ fq ∨ ex c) → ex c ∨ H c = none := fun {c} h => h.elim (fun z => .inr (nw c z)) .inl
    have I' : SI X.K (fun c => c ∈ fq ∨ ex c) L ρ σ H1 fp := I.more e1 (fun c h => e12 h) (fun c h => .inr h) (fun c h => h.elim (fun z => r1.there c z) fun z q => I.ext c z (e1.free q))
    refine ⟨_, ρ, fp, I', (q1.bind.later e1).mono fun d2 q2 v2 H2 e2 r2 => ?_⟩
    obtain ⟨d, ed, qd⟩ := no_exc q2 (dRep_nx d1 d2)
    unfold dRep at ed
    split at ed
    · split at ed
      · rename_i xs j hc
        cases ed
        obtain ⟨c, ys, rfl, h1, h2, rfl, h3⟩ := shared_of1 (r1.same e2)
        have hl : xs.length = ys.length := h3.length
        refine ⟨c, j, ys, rfl, r2.int, h1, by omega, by omega, by rw [← hl]; exact hc.1, fun p hp => ?_⟩
        have h4 : Paired (R X.K ex H2) xs ys := h3.mono fun _ _ z => R.less (fun a h => .inl (.inr h)) z
        refine QO.lst (K := X.K) (ex := ex) (fun v H5 fr e5 ro nd nw => qd v H5 fr ((e1.trans e2).trans e5) ro nd fun a ha => (e1.trans e2).free (nw a ha)) (Paired.flattenP h4 j.toNat) hp ?_
        rw [PyProof.Rows.lm_len_rep_flat, Nat.mul_comm, ← hl]
        exact hc.1
      · cases ed
    · cases ed

/-! ### a, b = e1, e2 -/
def evL : List EF → Env → Res (List D)
  | [], _ => .ok []
  | f :: r, ρ => f ρ >>= fun d => evL r ρ >>= fun ds => .ok (d :: ds)
def sPar (is : List Nat) (fs : List EF) : SF := fun ρ => (evL fs ρ).flow ρ fun ds => .next (setL ρ is ds)
/-- values, each owned to a depth of its own -/
def AOs (K : PySem.W.Frag) (ex : AS) (H : Hp) : List Nat → List D → List V → List (List Addr) → Prop
  | [], [], [], [] => True
  | k :: ks, d :: ds, v :: vs, fq :: fqs => RO K ex H k d v fq ∧ AOs K ex H ks ds vs fqs
  | _, _, _, _ => False
def tAO (X : Cx) (W : WX) (L : List Nat) (ks : List Nat) (fs : List EF) : TA := fun σ H Q => ∃ ex ρ fp, SI X.K ex L ρ σ H fp ∧ Out X W σ H (evL fs ρ) fun ds => ∀ vs fqs H', Same H H' → AOs X.K (fun a => a ∈ fqs.flatten ∨ ex a) H' ks ds vs fqs → fqs.flatten.Nodup → (∀ a ∈ fqs.flatten, H a = none) → Q vs H'
abbrev EAO (X : Cx) (W : WX) (L : List Nat) (ks : List Nat) (es : List Expr) (fs : List EF) : Prop := PA X es (tAO X W L ks fs)
theorem AOs.keep {K : PySem.W.Frag} {ex ex' : AS} {H H' : Hp} (e : Same H H') (m : ∀ a, ex' a → ex a ∨ H a = none) : ∀ {ks : List Nat} {ds : List D} {vs : List V} {fqs : List (List Addr)}, AOs K ex H ks ds vs fqs → AOs K ex' H' ks ds vs fqs
  | [], [], [], [], _ => trivial
  | _ :: _, _ :: _, _ :: _, _ :: _, h => ⟨RO.keep (Keep.same e) m (fun a _ o q => e a o q) h.1, AOs.keep e m h.2⟩
variable {es : List Expr} {fs : List EF} {ks : List Nat}
theorem eas_nil : EAO X W L [] [] [] := PA.imp pa_nil fun σ H Q ⟨ex, ρ, fp, I, o⟩ => o [] [] H (Same.refl H) trivial List.nodup_nil fun a h => (by simp at h)
theorem eas_cons (h : EO X W L k e f) (t : EAO X W L ks es fs) (hs : starEach (e :: es) X.env = (false, eval e X.env) :: starEach es X.env := by rfl) : EAO X W L (k :: ks) (e :: es) (f :: fs) :=
  PA.imp (pa_cons h t hs) fun σ H Q ⟨ex, ρ, fp, I, o⟩ => ⟨ex, ρ, fp, I, (show Out X W σ H (f ρ >>= fun d => evL fs ρ >>= fun ds => .ok (d :: ds)) _ from o).bind.mono fun d1 q1 v1 H1 fq e1 r1 nd1 nw1 => by
    have I' : SI X.K (fun c => c ∈ fq ∨ ex c) L ρ σ H1 fp := I.more e1 (fun c h => h.elim (fun z => .inr (nw1 c z)) .inl) (fun c h => .inr h) (fun c h => h.elim (fun z => r1.there c z) fun z q => I.ext c z (e1.free q))
    refine ⟨_, ρ, fp, I', (q1.bind.later e1).mono fun ds q2 vs fqs H2 e2 r2 nd2 nw2 => ?_⟩
    refine q2 (v1 :: vs) (fq :: fqs) H2 (e1.trans e2) ⟨?_, r2.keep (Same.refl H2) fun a h => .inl ?_⟩ ?_ fun a ha => ?_
    · refine RO.keep (Keep.same e2) (fun a h => ?_) (fun a _ o q => e2 a o q) r1
      rw [List.flatten_cons, List.mem_append] at h
      rcases h with (h | h) | h
      · exact .inl (.inl h)
      · exact .inr (nw2 a h)
      · exact .inl (.inr h)
    · rw [List.flatten_cons, List.mem_append] at h
      rcases h with (h | h) | h
      · exact .inr (.inl h)
      · exact .inl h
      · exact .inr (.inr h)
    · rw [List.flatten_cons]
      refine List.nodup_append.mpr ⟨nd1, nd2, fun a ha b hb q => ?_⟩
      rw [← q] at hb
      exact r1.there a ha (nw2 a hb)
    · rw [List.flatten_cons, List.mem_append] at ha
      rcases ha with ha | ha
      · exact nw1 a ha
      · exact e1.free (nw2 a ha)⟩
/-- slots and what they own, over a fixed EX -/
structure VS (K : PySem.W.Frag) (EX : AS) (H : Hp) (L : List Nat) (ρ : Env) (σ : L2.St) (fp : Nat → List Addr) : Prop where
  len : ρ.length = σ.length
  val : ∀ i d, ρ[i]? = some (some d) → ∃ v, σ[i]? = some (some v) ∧ RO K EX H (L.getD i 0) d v (fp i)
  nod : ∀ i, (fp i).Nodup
  dis : ∀ i j a, a ∈ fp i → a ∈ fp j → i = j
def putF (fp : Nat → List Addr) (i : Nat) (fq : List Addr) : Nat → List Addr := fun j => if j = i then fq else fp j
theorem VS.put {K : PySem.W.Frag} {EX : AS} {H : Hp} {L : List Nat} {ρ : Env} {σ : L2.St} {fp : Nat → List Addr} (S : VS K EX H L ρ σ fp) {i k : Nat} {d : D} {v : V} {fq : List Addr} (r : RO K EX H k d v fq) (nd : fq.Nodup) (nw : ∀ a ∈ fq, ∀ j, a ∉ fp j) (hi : i < L.length) :
    VS K EX H (L.set i k) (ρ.set i (some d)) (σ.set i (some v)) (putF fp i fq) := by
  refine ⟨by rw [List.length_set, List.length_set]; exact S.len, fun j d' h => ?_, fun j => ?_, fun j l a h1 h2 => ?_⟩
  · unfold putF
    by_cases ej : i = j
    · subst ej
      by_cases hl : i < ρ.length
      · rw [List.getElem?_set_self hl] at h
        cases h
        exact ⟨v, List.getElem?_set_self (by rw [← S.len]; exact hl), by rw [getD_set_eq hi, if_pos rfl]; exact r⟩
      · rw [List.getElem?_eq_none (by rw [List.length_set]; omega)] at h
        cases h
    · rw [List.getElem?_set_ne ej] at h
      obtain ⟨u, h1, h2⟩ := S.val j d' h
      exact ⟨u, by rw [List.getElem?_set_ne ej]; exact h1, by rw [getD_set_ne ej, if_neg (fun q => ej q.symm)]; exact h2⟩
  · unfold putF
    split
    · exact nd
    · exact S.nod j
  · unfold putF at h1 h2
    split at h1
    · split at h2
      · rename_i a1 a2
        rw [a1, a2]
      · exact absurd h2 (nw a h1 l)
    · split at h2
      · exact absurd h1 (nw a h2 j)
      · exact S.dis j l a h1 h2
def setLv : List Nat → List Nat → List Nat → List Nat
  | L, i :: is, k :: ks => setLv (L.set i k) is ks
  | L, _, _ => L
def setV (σ : L2.St) : List Nat → List V → L2.St
  | i :: is, v :: vs => setV (σ.set i (some v)) is vs
  | _, _ => σ
theorem setLv_length : ∀ (L is ks : List Nat), (setLv L is ks).length = L.length
  | L, [], _ => by rw [setLv]; intro _ _ _ _ h; cases h
  | L, _ :: _, [] => by rw [setLv]; intro _ _ _ _ _ h; cases h
  | L, i :: is, k :: ks => by rw [setLv, setLv_length, List.length_set]
theorem VS.puts {K : PySem.W.Frag} {EX : AS} {H : Hp} : ∀ (is ks : List Nat) (ds : List D) (vs : List V) (fqs : List (List Addr)) {L : List Nat} {ρ : Env} {σ : L2.St} {fp : Nat → List Addr}, VS K EX H L ρ σ fp → AOs K EX H ks ds vs fqs → fqs.flatten.Nodup → (∀ a ∈ fqs.flatten, ∀ j, a ∉ fp j) →
    is.length = ks.length → (∀ i ∈ is, i < L.length) → ∃ fp', VS K EX H (setLv L is ks) (setL ρ is ds) (setV σ is vs) fp' ∧ ∀ j a, a ∈ fp' j → a ∈ fp j ∨ a ∈ fqs.flatten
  | [], ks, ds, vs, fqs, L, ρ, σ, fp, S, _, _, _, _, _ => ⟨fp, by
      have e1 : setLv L [] ks = L := by cases ks <;> rfl
      have e2 : setL ρ [] ds = ρ := by cases ds <;> rfl
      have e3 : setV σ [] vs = σ := by cases vs <;> rfl
      rw [e1, e2, e3]
      exact S, fun j a h => .inl h⟩
  | i :: is, [], _, _, _, _, _, _, _, _, _, _, _, hl, _ => by simp at hl
  | i :: is, k :: ks, [], _, _, _, _, _, _, _, h, _, _, _, _ => by simp [AOs] at h
  | i :: is, k :: ks, d :: ds, [], _, _, _, _, _, _, h, _, _, _, _ => by simp [AOs] at h
  | i :: is, k :: ks, d :: ds, v :: vs, [], _, _, _, _, _, h, _, _, _, _ => by simp [AOs] at h
  | i :: is, k :: ks, d :: ds, v :: vs, fq :: fqs, L, ρ, σ, fp, S, h, nd, nw, hl, hi => by
    rw [List.flatten_cons] at nd nw
    obtain ⟨n1, n2, n3⟩ := List.nodup_append.mp nd
    have S1 := S.put (i := i) h.1 n1 (fun a ha => nw a (List.mem_append_left _ ha)) (hi i List.mem_cons_self)
    obtain ⟨fp', S2, m⟩ := VS.puts is ks ds vs fqs S1 h.2 n2 (fun a ha j q => by
      unfold putF at q
      split at q
      · exact n3 a q a ha rfl
      · exact nw a (List.mem_append_right _ ha) j q) (by simpa using hl) (fun l hl => by
        rw [List.length_set]
        exact hi l (List.mem_cons_of_mem _ hl))
    refine ⟨fp', S2, fun j a q => ?_⟩
    rw [List.flatten_cons, List.mem_append]
    rcases m j a q with q | q
    · unfold putF at q
      split at q
      · exact .inr (.inl q)
      · exact .inl q
    · exact .inr (.inr q)
theorem AOs.there {K : PySem.W.Frag} {ex : AS} {H : Hp} {a : Addr} : ∀ {ks : List Nat} {ds : List D} {vs : List V} {fqs : List (List Addr)}, AOs K ex H ks ds vs fqs → a ∈ fqs.flatten → H a ≠ none
  | [], [], [], [], _, h => by simp at h
  | _ :: _, _ :: _, _ :: _, _ :: _, h, m => by
    rw [List.flatten_cons, List.mem_append] at m
    rcases m with m | m
    · exact h.1.there a m
    · exact AOs.there h.2 m
theorem SS.puts {K : PySem.W.Frag} {H0 H H1 : Hp} {ex0 : AS} {G : List (D × V)} {L : List Nat} {ρ : Env} {σ : L2.St} {fp : Nat → List Addr} (S : SS K H0 ex0 G L ρ σ H fp) (e : Same H H1) {is ks : List Nat} {ds : List D} {vs : List V} {fqs : List (List Addr)}
    (r : AOs K (fun a => a ∈ fqs.flatten ∨ exOf fp ex0 a) H1 ks ds vs fqs) (nd : fqs.flatten.Nodup) (nw : ∀ a ∈ fqs.flatten, H a = none) (hl : is.length = ks.length) (hi : ∀ i ∈ is, i < L.length) :
    ∃ fp', SS K H0 ex0 G (setLv L is ks) (setL ρ is ds) (setV σ is vs) H1 fp' := by
  have V0 : VS K (fun a => a ∈ fqs.flatten ∨ exOf fp ex0 a) H1 L ρ σ fp := ⟨S.si.len, fun i d h => by
    obtain ⟨v, h1, h2⟩ := S.si.val i d h
    refine ⟨v, h1, RO.keep (Keep.same e) (fun a q => ?_) (fun a _ o q => e a o q) h2⟩
    rcases q with q | q
    · exact .inr (nw a q)
    · exact .inl q, S.si.nod, S.si.dis⟩
  obtain ⟨fp', V1, m⟩ := VS.puts is ks ds vs fqs V0 r nd (fun a ha j q => S.si.ext a (.inl ⟨j, q⟩) (nw a ha)) hl hi
  refine ⟨fp', S.re e V1.len (fun i d h => ?_) V1.nod V1.dis (fun i a h => ?_) (fun i a h => ?_)⟩
  · obtain ⟨v, h1, h2⟩ := V1.val i d h
    refine ⟨v, h1, h2.less fun a q => .inl ?_⟩
    rcases q with ⟨j, q⟩ | q
    · rcases m j a q with q | q
      · exact .inr (.inl ⟨j, q⟩)
      · exact .inl q
    · exact .inr (.inr q)
  · rcases m i a h with q | q
    · exact .inl q
    · exact .inr (nw a q)
  · rcases m i a h with q | q
    · exact fun z => S.si.ext a (.inl ⟨i, q⟩) (e.free z)
    · exact r.there q
theorem AOs.lens {K : PySem.W.Frag} {ex : AS} {H : Hp} : ∀ {ks : List Nat} {ds : List D} {vs : List V} {fqs : List (List Addr)}, AOs K ex H ks ds vs fqs → vs.length = ks.length
  | [], [], [], [], _ => rfl
  | _ :: _, _ :: _, _ :: _, _ :: _, h => by rw [List.length_cons, List.length_cons, AOs.lens h.2]
theorem sj_par2 {i j k1 k2 : Nat} {x y : Str} {px py pt : Pos} {kt kt2 : Nat} {pt2 : Pos} (hc : X.calm = true) (hN : X.N.Nodup) (hi : X.N[i]? = some x) (hj : X.N[j]? = some y) (hij : i ≠ j) (hx : X.env.scope.names.lookup x = some .local) (hy : X.env.scope.names.lookup y = some .local)
    (h1 : EO X W L k1 a f) (h2 : EO X W L k2 b g) (li : i < L.length) (lj : j < L.length)
    (hw : swappedStores [.Tuple [.Name x px, .Name y py] kt pt] (.Tuple [a, b] kt2 pt2) X.env = pure (some [x, y])) (hs : swapsWithSole [.Tuple [.Name x px, .Name y py] kt pt] (.Tuple [a, b] kt2 pt2) pos.line X.env = pure false := by rfl)
    (hs1 : starEach [a, b] X.env = (false, eval a X.env) :: starEach [b] X.env := by rfl) (hs2 : starEach [b] X.env = (false, eval b X.env) :: starEach [] X.env := by rfl) :
    SJ X W kr Lb L (setLv L [i, j] [k1, k2]) (.Assign [.Tuple [.Name x px, .Name y py] kt pt] (.Tuple [a, b] kt2 pt2) pos) (sPar [i, j] [f, g]) :=
  PS.imp (ps_par hc hN hi hj hij hx hy (eas_cons h1 (eas_cons h2 eas_nil hs2) hs1) hw hs) fun Dn σ H ⟨ex0, Gs, ρ, fp, S, o⟩ => by
    refine ⟨_, ρ, fp, S.si, (flow_out S o).mono fun ds q vs fqs H1 e1 r nd nw => ?_⟩
    obtain ⟨fp', S'⟩ := S.puts (is := [i, j]) e1 r nd nw rfl (fun l hl => by
      rcases List.mem_cons.mp hl with rfl | hl
      · exact li
      · rw [List.mem_singleton.mp hl]
        exact lj)
    have hl := r.lens
    clear nd nw r
    match vs, hl with
    | [v1, v2], _ => exact ⟨v1, v2, rfl, q _ _ _ S'⟩
/-- .. where the model makes a tuple and unpacks it -/
theorem gNames_vs {Q : L2.St → Hp → Prop} {H : Hp} : ∀ (is : List Nat) (vs : List V) (σ : L2.St), is.length = vs.length → Q (setV σ is vs) H → gNames is vs σ H Q
  | [], [], _, _, h => ⟨rfl, h⟩
  | [], _ :: _, _, e, _ => by simp at e
  | _ :: _, [], _, e, _ => by simp at e
  | i :: is, v :: vs, σ, e, h => ⟨v, vs, rfl, gNames_vs is vs _ (by simpa using e) h⟩
theorem sj_parT {is : List Nat} {tg : Expr} {tn : Nat} {tpos : Pos} (hg : PG X tg (gTup X.K is.length (gNames is))) (ha : EAO X W L ks es fs) (hl : is.length = ks.length) (hi : ∀ i ∈ is, i < L.length) (hz : ks.length ≤ sizeLine := by decide) (hs : swapsWithSole [tg] (.Tuple es tn tpos) pos.line X.env = pure false := by rfl) (hw : swappedStores [tg] (.Tuple es tn tpos) X.env = pure none := by with_unfolding_all rfl)
    (h1 : (assignEach [tg] X.env).map (·.2) = [assign tg X.env] := by rfl) : SJ X W kr Lb L (setLv L is ks) (.Assign [tg] (.Tuple es tn tpos) pos) (sPar is fs) :=
  PS.imp (ps_asg (pe_tup ha) hg hs hw h1) fun Dn σ H ⟨ex0, Gs, ρ, fp, S, o⟩ => by
    refine ⟨_, ρ, fp, S.si, (flow_out S o).mono fun ds q vs fqs H1 e1 r nd nw => ⟨by rw [r.lens]; exact hz, fun p hp => ?_⟩⟩
    have e2 : Same H1 (L2.upd H1 p (.tup vs)) := same_upd hp
    obtain ⟨fp', S'⟩ := S.puts (is := is) (e1.trans e2) (r.keep e2 fun a h => .inl h) nd nw hl hi
    exact ⟨p, vs, rfl, .inl (.inl upd_same), by rw [r.lens, hl], gNames_vs is vs σ (by rw [r.lens, hl]) (q _ _ _ S')⟩
end
end Px

namespace Px
open PySem PySem.Spec PyProof.Rows L2
/-! ### the end -/
theorem rl_ints {K : PySem.W.Frag} {ex : AS} {H : Hp} : ∀ ns : List Int, RL K ex H (ns.map .int) (ns.map V.int)
  | [] => by rw [List.map_nil, List.map_nil, RL]
  | n :: ns => by
    rw [List.map_cons, List.map_cons, RL]
    exact ⟨_, _, rfl, by rw [R], rl_ints ns⟩
/-- a law's promise: handed a list of ints it answers True -/
theorem spec_law {K : PySem.W.Frag} {mg : Str → Option Value} {C : List D → Res D} {H : Hp} {a : Addr} {ns : List Int} (h : C [.lst (ns.map .int)] = .ok (.bl true)) (hl : ns.length ≤ sizeLine) (hS : SqL K H a (ns.map V.int)) :
    Spec K mg 1 0 C [.ref a] H (fun v _ => v = .bl true) (fun _ _ _ => False) := by
  refine ⟨rfl, fun _ => False, [.lst (ns.map .int)], fun _ z => z.elim, .cons ?_ .nil, ?_⟩
  · rw [R]
    exact ⟨a, _, rfl, ⟨LsX.of hS (fun z => z), by rw [List.length_map]; exact hl⟩, rl_ints ns⟩
  · rw [h]
    intro v H' fq e r nd nw
    obtain ⟨_, r⟩ := r
    rw [R] at r
    exact r
/-- how a def without defaults binds -/
def BA (fd : FuncData) (ps : List Str) : Prop := ∀ (s : Shared) (us : List Value), us.length = ps.length → BindsTo s fd ⟨us, []⟩ (ps.zip us)
theorem BA.b {K : PySem.W.Frag} {fd : FuncData} {ps : List Str} (h : BA fd ps) : Binds K fd ps [] := fun s us _ hl => by
  rw [List.append_nil] at hl ⊢
  exact h s us hl
theorem txt_fun {K : PySem.W.Frag} {fa : List He.Fa} {fn : List He.FnD} (c : He.SaysE fa fn K) (i j : Nat) {x : Str} {ps : List Str} {st : Stmt} (h : fn[i]? = some ⟨(x, none), x, x, defArgs st, defBody st, defScope st⟩) (hk : fa[j]? = some (.keep x))
    (hb : ∀ (kV doc pm : Value) (an : Option Addr) (cdv ct : Value) (us : List Value), us.length = ps.length → bindArgs (PySem.W.fnOf x x (defArgs st) (defBody st) (defScope st) .none kV doc pm an cdv ct) ⟨us, []⟩ = pure (ps.zip us)) :
    ∃ fd, Fun K x x st (He.ga K x) fd ∧ BA fd ps := by
  obtain ⟨oc, od, osl, kV, doc, pm, an, cdv, ct, l, q⟩ := c.def_ i h
  have F := fun_mk (K := K) (st := st) (x := x) (qual := x) l q (He.keep_ok (c.fact j hk))
  exact ⟨_, F, fun s us hl => .of_eq (hb kV doc pm an cdv ct us hl)⟩
theorem txt_exc {K : PySem.W.Frag} {fa : List He.Fa} {fn : List He.FnD} {h : Heap} {mg : Str → Option Value} (X : K.In h) (G : h.Ns mainGlobals mg) (c : He.SaysE fa fn K) (i j : Nat) {x : Str} (h1 : fa[i]? = some (.glo x)) (h2 : fa[j]? = some (.exc x)) :
    mg x = some (.ref (He.ga K x)) ∧ PySem.W.excIn K (He.ga K x) He.veBase "ValueError.__new__" = true ∧ PySem.W.keepIn K (.ref (He.ga K x)) = true ∧ PySem.W.subIn K (.ref (He.ga K x)) (.type "BaseException") = some true ∧ PySem.W.typeIn K (.ref (He.ga K x)) = some (.type "type") :=
  ⟨He.glo_ok X G (c.fact i h1), He.exc_ok (c.fact j h2)⟩
/-- a law over a head by facts, exceptions let -/
theorem walk_px {l : PySem.W.OpenLaw} {n k : Nat} {q : Program} {loose : List Str} {XP : (Str → Option Value) → Heap → Prop} {YP : World → Heap → Prop} {d : DefRec} {x : Str}
    (hn : l.most = some n) (hn2 : n ≤ sizeLine) (hdf : d.params.defaults = []) (hr : Room k callerA)
    (F : ∀ (w : World) (mg : Str → Option Value) (fa : Addr) (h : Heap), YP w h → h.Ns mainGlobals mg → mg d.name = some (.ref fa) →
      ∃ (K : PySem.W.Frag) (fd : FuncData) (sp : Sp), K.In h ∧ (∀ (s : Shared) (u : Value), BindsTo s fd ⟨[u], []⟩ [(x, u)]) ∧
        (∀ (H : Hp) (a : Addr) (ns : List Int), ns.length ≤ n → (∀ z ∈ ns, Builtin.Int.intBits z ≤ 1048576) → Only H → SqL K H a (ns.map V.int) → sp [.ref a] H (fun v _ => v = .bl true) fun _ _ _ => False) ∧
        ∀ base : Heap, K.In base → base.Ns mainGlobals mg → FnOk l.prog w K mg base (L2.CX l.prog w) k fa fd [x] sp) :
    PySem.W.WalkO q loose XP YP l.row.toRowW d [] (fun f vs => PySem.call f vs) := by
  refine Att.attach_callB hn hdf fun w s₀ s₁ mg mb fa o pm cd doc a vs ns G Y ho hd hcd hmg hobj hints hlen hbits hg => ?_
  obtain ⟨K, fd, sp, KX, hb, hsp, hF⟩ := F w mg fa _ Y G.T.g hmg
  exact law_call KX G.T.g G.T.b G.T.builtins G.T.nolimit hg hobj hints (Nat.le_trans hlen hn2) hr hF hb (fun H hO hS => hsp H a ns hlen hbits hO hS) fun H e s' ⟨_, _, _, _, _, _, _, _, _, _, _, _, z⟩ => z
end Px

namespace Px
open PySem PySem.Spec PyProof.Rows L2
/-! ### plain reading: tools -/
@[simp] theorem x_eC (d : D) (ρ : Env) : eC d ρ = .ok d := id rfl
@[simp] theorem x_aNil (ρ : Env) : aNil ρ = .ok [] := id rfl
@[simp] theorem x_aCons (f : EF) (g : Env → Res (List D)) (ρ : Env) : aCons f g ρ = f ρ >>= fun d => g ρ >>= fun ds => .ok (d :: ds) := id rfl
@[simp] theorem x_eTup (fs : Env → Res (List D)) (ρ : Env) : eTup fs ρ = fs ρ >>= fun ds => .ok (.tup ds) := id rfl
@[simp] theorem x_eLst (fs : Env → Res (List D)) (ρ : Env) : eLst fs ρ = fs ρ >>= fun ds => .ok (.lst ds) := id rfl
@[simp] theorem x_eOp (o : D → D → Res D) (f g : EF) (ρ : Env) : eOp o f g ρ = f ρ >>= fun a => g ρ >>= fun b => o a b := id rfl
@[simp] theorem x_eUn {α : Type} (o : D → Res α) (f : EF) (ρ : Env) : eUn o f ρ = f ρ >>= o := id rfl
@[simp] theorem x_eCall (o : List D → Res D) (f : Env → Res (List D)) (ρ : Env) : eCall o f ρ = f ρ >>= o := id rfl
@[simp] theorem x_eIf (t : Env → Res Bool) (f g : EF) (ρ : Env) : eIf t f g ρ = t ρ >>= fun b => if b = true then f ρ else g ρ := id rfl
@[simp] theorem x_eNot (f : EF) (ρ : Env) : eNot f ρ = f ρ >>= fun d => dTru d >>= fun b => .ok (.bl (!b)) := id rfl
@[simp] theorem x_eAnd (f g : EF) (ρ : Env) : eAnd f g ρ = f ρ >>= fun d => dTru d >>= fun b => if b = true then g ρ else .ok d := id rfl
@[simp] theorem x_eOr (f g : EF) (ρ : Env) : eOr f g ρ = f ρ >>= fun d => dTru d >>= fun b => if b = true then .ok d else g ρ := id rfl
@[simp] theorem x_bAnd (f g : Env → Res Bool) (ρ : Env) : bAnd f g ρ = f ρ >>= fun b => if b = true then g ρ else .ok false := id rfl
@[simp] theorem x_bOr (f g : Env → Res Bool) (ρ : Env) : bOr f g ρ = f ρ >>= fun b => if b = true then .ok true else g ρ := id rfl
@[simp] theorem x_bNot (f : Env → Res Bool) (ρ : Env) : bNot f ρ = f ρ >>= fun b => .ok (!b) := id rfl
@[simp] theorem x_bYes (ρ : Env) : bYes ρ = .ok true := id rfl
@[simp] theorem x_iSeq (f : EF) (ρ : Env) : iSeq f ρ = f ρ >>= dItems := id rfl
@[simp] theorem x_iCall (o : List D → Res (List D)) (fs : Env → Res (List D)) (ρ : Env) : iCall o fs ρ = fs ρ >>= o := id rfl
@[simp] theorem x_sNext (ρ : Env) : sNext ρ = .next ρ := id rfl
@[simp] theorem x_sRet (f : EF) (ρ : Env) : sRet f ρ = (f ρ).flow ρ fun d => .ret d := id rfl
@[simp] theorem x_sRetN (ρ : Env) : sRetN ρ = .ret .non := id rfl
@[simp] theorem x_sDrop (f : EF) (ρ : Env) : sDrop f ρ = (f ρ).flow ρ fun _ => .next ρ := id rfl
@[simp] theorem x_sIf (t : Env → Res Bool) (F G : SF) (ρ : Env) : sIf t F G ρ = (t ρ).flow ρ fun b => if b = true then F ρ else G ρ := id rfl
@[simp] theorem x_sSet (i : Nat) (f : EF) (ρ : Env) : sSet i f ρ = (f ρ).flow ρ fun d => .next (ρ.set i (some d)) := id rfl
def resF (r : Res Env) : Flow := match r with
  | .ok ρ' => .next ρ'
  | _ => .err
@[simp] theorem resF_ok (ρ : Env) : resF (.ok ρ) = .next ρ := id rfl
@[simp] theorem x_sUnp (gf : Env → D → Res Env) (f : EF) (ρ : Env) : sUnp gf f ρ = (f ρ).flow ρ fun d => resF (gf ρ d) := by
  unfold sUnp
  cases f ρ with
  | ok d =>
    show sUnp.noX' _ = resF _
    cases gf ρ d <;> rfl
  | _ => rfl
@[simp] theorem x_sBreak (ρ : Env) : sBreak ρ = .brk ρ := id rfl
@[simp] theorem x_sCont (ρ : Env) : sCont ρ = .cont ρ := id rfl
@[simp] theorem x_sPar (is : List Nat) (fs : List EF) (ρ : Env) : sPar is fs ρ = (evL fs ρ).flow ρ fun ds => .next (setL ρ is ds) := id rfl
@[simp] theorem x_sRaise (c : Str) (ρ : Env) : sRaise c ρ = .exc c ρ := id rfl
@[simp] theorem x_gfName (i : Nat) (ρ : Env) (d : D) : gfName i ρ d = .ok (ρ.set i (some d)) := id rfl
@[simp] theorem x_gfTup (is : List Nat) (ρ : Env) (ds : List D) : gfTup is ρ (.tup ds) = if ds.length = is.length then .ok (setL ρ is ds) else .err := id rfl
@[simp] theorem x_setL0 (ρ : Env) (ds : List D) : setL ρ [] ds = ρ := by unfold setL; rfl
@[simp] theorem x_setL1 (ρ : Env) (i : Nat) (is : List Nat) (d : D) (ds : List D) : setL ρ (i :: is) (d :: ds) = setL (ρ.set i (some d)) is ds := id rfl
@[simp] theorem x_evL0 (ρ : Env) : evL [] ρ = .ok [] := id rfl
@[simp] theorem x_evL1 (f : EF) (r : List EF) (ρ : Env) : evL (f :: r) ρ = f ρ >>= fun d => evL r ρ >>= fun ds => .ok (d :: ds) := id rfl
@[simp] theorem x_wipe0 (ρ : Env) : wipeE ρ [] = ρ := id rfl
@[simp] theorem x_wipe1 (ρ : Env) (v : Nat) (vs : List Nat) : wipeE ρ (v :: vs) = (wipeE ρ vs).set v none := id rfl
theorem x_sFor (fI : Px.Env → Res (List D)) (gf : Px.Env → D → Res Px.Env) (F : SF) (ρ : Px.Env) : sFor fI gf F ρ = (fI ρ).flow ρ fun ds => forE gf F ds ρ := id rfl
@[simp] theorem x_oNone (ρ : Env) : oNone ρ = .ok none := id rfl
def asI : D → Res (Option Int)
  | .int i => .ok (some i)
  | _ => .err
@[simp] theorem asI_int (i : Int) : asI (.int i) = .ok (some i) := id rfl
@[simp] theorem x_oSome (f : EF) (ρ : Env) : oSome f ρ = f ρ >>= asI := by
  unfold oSome
  cases f ρ with
  | ok d => cases d <;> rfl
  | _ => rfl
@[simp] theorem x_eSl (f : EF) (lo hi : Env → Res (Option Int)) (ρ : Env) : eSl f lo hi ρ = f ρ >>= fun d => lo ρ >>= fun a => hi ρ >>= fun b => dSl d a b := id rfl
@[simp] theorem x_dSl_l (xs : List D) (a b : Option Int) : dSl (.lst xs) a b = .ok (.lst (cut xs a b)) := id rfl
@[simp] theorem x_dSl_t (xs : List D) (a b : Option Int) : dSl (.tup xs) a b = .ok (.tup (cut xs a b)) := id rfl
def vD (o : Option D) : Res D := match o with
  | some d => .ok d
  | none => .err
@[simp] theorem vD_some (d : D) : vD (some d) = .ok d := id rfl
@[simp] theorem x_eVar (i : Nat) (ρ : Env) : eVar i ρ = vD (ρ.getD i none) := id rfl
@[simp] theorem x_asB (b : Bool) : asB (.bl b) = .ok b := id rfl
@[simp] theorem x_tru_n : dTru .non = .ok false := id rfl
@[simp] theorem x_tru_b (b : Bool) : dTru (.bl b) = .ok b := id rfl
@[simp] theorem x_tru_i (i : Int) : dTru (.int i) = .ok (i != 0) := id rfl
@[simp] theorem x_tru_t (xs : List D) : dTru (.tup xs) = .ok (!xs.isEmpty) := id rfl
@[simp] theorem x_tru_l (xs : List D) : dTru (.lst xs) = .ok (!xs.isEmpty) := id rfl
@[simp] theorem x_add (i j : Int) : dAdd (.int i) (.int j) = .ok (.int (i + j)) := id rfl
@[simp] theorem x_add_l (a b : List D) : dAdd (.lst a) (.lst b) = if a.length + b.length ≤ sizeLine then .ok (.lst (a ++ b)) else .err := id rfl
@[simp] theorem x_add_t (a b : List D) : dAdd (.tup a) (.tup b) = if a.length + b.length ≤ sizeLine then .ok (.tup (a ++ b)) else .err := id rfl
@[simp] theorem x_sub (i j : Int) : dSub (.int i) (.int j) = .ok (.int (i - j)) := id rfl
@[simp] theorem x_mod (i j : Int) (h : 0 < j) : dMod (.int i) (.int j) = .ok (.int (i % j)) := by
  show (if _ then _ else _) = _
  rw [if_pos h]
@[simp] theorem x_cmp (p : Int → Int → Bool) (i j : Int) : dCmpI p (.int i) (.int j) = .ok (.bl (p i j)) := id rfl
@[simp] theorem x_len_t (xs : List D) : fLen [.tup xs] = .ok (.int xs.length) := id rfl
@[simp] theorem x_len_l (xs : List D) : fLen [.lst xs] = .ok (.int xs.length) := id rfl
@[simp] theorem x_tup_t (xs : List D) : fTuple [.tup xs] = .ok (.tup xs) := id rfl
@[simp] theorem x_tup_l (xs : List D) : fTuple [.lst xs] = .ok (.tup xs) := id rfl
@[simp] theorem x_list_t (xs : List D) : fList [.tup xs] = .ok (.lst xs) := id rfl
@[simp] theorem x_list_l (xs : List D) : fList [.lst xs] = .ok (.lst xs) := id rfl
@[simp] theorem x_int_i (i : Int) : fInt [.int i] = .ok (.int i) := id rfl
@[simp] theorem x_abs (i : Int) : fAbs [.int i] = .ok (.int (if i < 0 then -i else i)) := id rfl
@[simp] theorem x_items_t (xs : List D) : dItems (.tup xs) = .ok xs := id rfl
@[simp] theorem x_items_l (xs : List D) : dItems (.lst xs) = .ok xs := id rfl
@[simp] theorem x_pow (i : Int) (j : Int) (h : 0 ≤ j ∧ j ≤ 1000000 ∧ i.natAbs < 2 ^ 64) : dPow (.int i) (.int j) = .ok (.int (i ^ j.toNat)) := by
  show (if _ then _ else _) = _
  rw [if_pos h]
theorem sl_eq : sizeLine = 16777216 := sizeLine_eq
@[simp] theorem sKill_x (is : List Nat) (F : SF) (ρ : Env) : sKill is F ρ = F (wipeE ρ is) := id rfl
theorem sSeq_of {F G : SF} {ρ ρ' : Env} (h : F ρ = .next ρ') : sSeq F G ρ = G ρ' := by
  unfold sSeq
  rw [h]
theorem sSeq_ret {F G : SF} {ρ : Env} {d : D} (h : F ρ = .ret d) : sSeq F G ρ = .ret d := by
  unfold sSeq
  rw [h]
@[simp] theorem sSeq_set (i : Nat) (f : EF) (G : SF) (ρ : Env) : sSeq (sSet i f) G ρ = (f ρ).flow ρ fun d => G (ρ.set i (some d)) := by
  unfold sSeq sSet
  cases f ρ <;> rfl
theorem sSeq_def (F G : SF) (ρ : Env) : sSeq F G ρ = match F ρ with
  | .next ρ' => G ρ'
  | r => r := rfl
def seqK (r : Flow) (k : Env → Flow) : Flow := match r with
  | .next ρ' => k ρ'
  | r => r
@[simp] theorem seqK_next (ρ : Env) (k : Env → Flow) : seqK (.next ρ) k = k ρ := id rfl
@[simp] theorem seqK_ret (d : D) (k : Env → Flow) : seqK (.ret d) k = .ret d := id rfl
@[simp] theorem seqK_cont (ρ : Env) (k : Env → Flow) : seqK (.cont ρ) k = .cont ρ := id rfl
@[simp] theorem seqK_brk (ρ : Env) (k : Env → Flow) : seqK (.brk ρ) k = .brk ρ := id rfl
@[simp] theorem seqK_exc (c : Str) (ρ : Env) (k : Env → Flow) : seqK (.exc c ρ) k = .exc c ρ := id rfl
@[simp] theorem sSeq_x (F G : SF) (ρ : Env) : sSeq F G ρ = seqK (F ρ) G := by
  unfold sSeq seqK
  rfl
@[simp] theorem seqK_ite {c : Prop} [Decidable c] (a b : Flow) (k : Env → Flow) : seqK (if c then a else b) k = if c then seqK a k else seqK b k := by split <;> rfl
@[simp] theorem loopK_ite {c : Prop} [Decidable c] (a b : Flow) (k : Env → Flow) : loopK (if c then a else b) k = if c then loopK a k else loopK b k := by split <;> rfl
@[simp] theorem dMul_i (i j : Int) (h : mulOk i j = true) : dMul (.int i) (.int j) = .ok (.int (i * j)) := by
  show (if _ then _ else _) = _
  rw [if_pos h]
@[simp] theorem dDiv_i (i j : Int) (h : 0 < j ∧ j < 1073741824) : dDiv (.int i) (.int j) = .ok (.int (i / j)) := by
  show (if _ then _ else _) = _
  rw [if_pos h]
theorem mulOk_r (i j : Int) (h : -(2 ^ 64) < j ∧ j < 2 ^ 64) : mulOk i j = true := decide_eq_true (.inr h)
theorem mulOk_l (i j : Int) (h : -(2 ^ 64) < i ∧ i < 2 ^ 64) : mulOk i j = true := decide_eq_true (.inl h)
theorem app_ok {i : Nat} {f : EF} {ρ : Env} {xs : List D} {d : D} (h : ρ.getD i none = some (.lst xs)) (hf : f ρ = .ok d) (hl : xs.length < sizeLine) : sAppend i f ρ = .next (ρ.set i (some (.lst (xs ++ [d])))) := by
  unfold sAppend
  rw [h]
  dsimp only
  rw [hf]
  dsimp only [Res.flow]
  rw [if_pos hl]
/-- a walk that neither ends nor leaves -/
theorem for_inv {gf : Env → D → Res Env} {F : SF} {P : Nat → Env → Prop} : ∀ {ds : List D} {n : Nat} {ρ : Env}, P n ρ →
    (∀ i d, ds[i]? = some d → ∀ ρ, P (n + i) ρ → ∃ ρ1 ρ', gf ρ d = .ok ρ1 ∧ (F ρ1 = .next ρ' ∨ F ρ1 = .cont ρ') ∧ P (n + i + 1) ρ') → ∃ ρ', forE gf F ds ρ = .next ρ' ∧ P (n + ds.length) ρ'
  | [], n, ρ, h, _ => ⟨ρ, rfl, h⟩
  | d :: ds, n, ρ, h, st => by
    obtain ⟨ρ1, ρ', e1, e2, p⟩ := st 0 d rfl ρ h
    obtain ⟨ρ2, e3, p2⟩ := for_inv (ds := ds) (n := n + 1) p fun i d' hi ρ hp => by
      have := st (i + 1) d' hi ρ (by rw [show n + (i + 1) = n + 1 + i by omega]; exact hp)
      rw [show n + (i + 1) + 1 = n + 1 + i + 1 by omega] at this
      exact this
    refine ⟨ρ2, ?_, by rw [List.length_cons, show n + (ds.length + 1) = n + 1 + ds.length by omega]; exact p2⟩
    unfold forE
    rw [e1]
    dsimp only [Res.must]
    rcases e2 with e2 | e2 <;> (rw [e2]; exact e3)
/-- a walk that looks for the first that ends it -/
def Scan (P : Env → Prop) (o : Option D) (fl : Flow) : Prop := match o with
  | some r => fl = .ret r
  | none => ∃ ρ, (fl = .next ρ ∨ fl = .cont ρ) ∧ P ρ
theorem for_scan {gf : Env → D → Res Env} {F : SF} {P : Env → Prop} {bad : D → Option D} : ∀ {ds : List D} {ρ : Env}, P ρ →
    (∀ d ∈ ds, ∀ ρ, P ρ → ∃ ρ1, gf ρ d = .ok ρ1 ∧ Scan P (bad d) (F ρ1)) → match ds.findSome? bad with
      | some r => forE gf F ds ρ = .ret r
      | none => ∃ ρ', forE gf F ds ρ = .next ρ' ∧ P ρ'
  | [], ρ, h, _ => ⟨ρ, rfl, h⟩
  | d :: ds, ρ, h, st => by
    obtain ⟨ρ1, e1, sc⟩ := st d List.mem_cons_self ρ h
    unfold forE
    rw [e1]
    dsimp only [Res.must]
    rw [List.findSome?_cons]
    cases e : bad d with
    | some r =>
      rw [e] at sc
      have sc : F ρ1 = .ret r := sc
      rw [sc]
      rfl
    | none =>
      rw [e] at sc
      obtain ⟨ρ', e2, p⟩ := sc
      have ih := for_scan (ds := ds) p fun d' hd => st d' (List.mem_cons_of_mem _ hd)
      dsimp only
      rcases e2 with e2 | e2 <;> (rw [e2]; exact ih)
theorem lc_map {i : Nat} {f : EF} {ρ : Env} {g : D → D} : ∀ {ds : List D}, (∀ d ∈ ds, f (ρ.set i (some d)) = .ok (g d)) → lcE (gfName i) bYes f ρ ds = .ok (ds.map g)
  | [], _ => rfl
  | d :: ds, h => by
    have := lc_map (ds := ds) fun d' hd => h d' (List.mem_cons_of_mem _ hd)
    simp [lcE, h d List.mem_cons_self, this]
@[simp] theorem atI_nat {α : Type} (xs : List α) (n : Nat) : atI xs (n : Int) = xs[n]? := by
  unfold atI ixN
  by_cases h : n < xs.length
  · have : ((n : Int) < xs.length) := by omega
    simp [this]
  · have : ¬ ((n : Int) < xs.length) := by omega
    simp [this]
    omega
theorem dIx_lst {xs : List D} {n : Nat} {d : D} (h : xs[n]? = some d) : dIx (.lst xs) (.int n) = .ok d := by
  simp [dIx, h]
theorem dIx_tup {xs : List D} {n : Nat} {d : D} (h : xs[n]? = some d) : dIx (.tup xs) (.int n) = .ok d := by
  simp [dIx, h]
@[simp] theorem rng_zero (n : Nat) : rng 0 n = (List.range n).map fun i => .int (i : Nat) := by
  simp [rng]
theorem dRng1_nat (n : Nat) (h : n ≤ 16777216) : dRng1 [.int n] = .ok ((List.range n).map fun i => .int (i : Nat)) := by
  have : ((n : Int) ≤ 16777216 ∧ -(2 ^ 62) ≤ (n : Int)) := ⟨by omega, by omega⟩
  simp only [dRng1]
  rw [if_pos this]
  simp
@[simp] theorem x_eq_ii (i j : Int) : dEq (.int i) (.int j) = .ok (.bl (i == j)) := by
  simp [dEq, okN, eqD]
@[simp] theorem x_ne_ii (i j : Int) : dNe (.int i) (.int j) = .ok (.bl (!(i == j))) := by
  simp [dNe, okN, eqD]
theorem x_eq_ss (a b : Str) (h : PyData.strOk a = true) (h2 : PyData.strOk b = true) : dEq (.str a) (.str b) = .ok (.bl (a == b)) := by
  simp [dEq, okN, eqD, h, h2]
theorem x_ne_ss (a b : Str) (h : PyData.strOk a = true) (h2 : PyData.strOk b = true) : dNe (.str a) (.str b) = .ok (.bl (!(a == b))) := by
  simp [dNe, okN, eqD, h, h2]
@[simp] theorem x_is_n (d : D) : dIs d .non = .ok (.bl (isNon d)) := by
  cases d <;> rfl
@[simp] theorem x_isNot_n (d : D) : dIsNot d .non = .ok (.bl (!isNon d)) := by
  cases d <;> rfl
@[simp] theorem isNon_n : isNon .non = true := id rfl
@[simp] theorem isNon_i (i : Int) : isNon (.int i) = false := id rfl
@[simp] theorem isNon_s (i : Str) : isNon (.str i) = false := id rfl
@[simp] theorem isNon_t (i : List D) : isNon (.tup i) = false := id rfl
@[simp] theorem isNon_l (i : List D) : isNon (.lst i) = false := id rfl
@[simp] theorem isNon_b (i : Bool) : isNon (.bl i) = false := id rfl
@[simp] theorem isi_n (p : D → Bool) : dIsi p .non = .ok (.bl (p .non)) := id rfl
@[simp] theorem isi_b (p : D → Bool) (b : Bool) : dIsi p (.bl b) = .ok (.bl (p (.bl b))) := id rfl
@[simp] theorem isi_i (p : D → Bool) (b : Int) : dIsi p (.int b) = .ok (.bl (p (.int b))) := id rfl
@[simp] theorem isi_s (p : D → Bool) (b : Str) : dIsi p (.str b) = .ok (.bl (p (.str b))) := id rfl
@[simp] theorem isi_t (p : D → Bool) (b : List D) : dIsi p (.tup b) = .ok (.bl (p (.tup b))) := id rfl
@[simp] theorem isi_l (p : D → Bool) (b : List D) : dIsi p (.lst b) = .ok (.bl (p (.lst b))) := id rfl
@[simp] theorem k_ii (i : Int) : isInt (.int i) = true := id rfl
@[simp] theorem k_ib (i : Bool) : isInt (.bl i) = true := id rfl
@[simp] theorem k_in : isInt .non = false := id rfl
@[simp] theorem k_is (i : Str) : isInt (.str i) = false := id rfl
@[simp] theorem k_it (i : List D) : isInt (.tup i) = false := id rfl
@[simp] theorem k_il (i : List D) : isInt (.lst i) = false := id rfl
@[simp] theorem k_bi (i : Int) : isBool (.int i) = false := id rfl
@[simp] theorem k_bb (i : Bool) : isBool (.bl i) = true := id rfl
@[simp] theorem k_bn : isBool .non = false := id rfl
@[simp] theorem k_bs (i : Str) : isBool (.str i) = false := id rfl
@[simp] theorem k_bt (i : List D) : isBool (.tup i) = false := id rfl
@[simp] theorem k_bl (i : List D) : isBool (.lst i) = false := id rfl
@[simp] theorem k_si (i : Int) : isStr (.int i) = false := id rfl
@[simp] theorem k_sb (i : Bool) : isStr (.bl i) = false := id rfl
@[simp] theorem k_sn : isStr .non = false := id rfl
@[simp] theorem k_ss (i : Str) : isStr (.str i) = true := id rfl
@[simp] theorem k_st (i : List D) : isStr (.tup i) = false := id rfl
@[simp] theorem k_sl (i : List D) : isStr (.lst i) = false := id rfl
@[simp] theorem k_ti (i : Int) : isTup (.int i) = false := id rfl
@[simp] theorem k_tb (i : Bool) : isTup (.bl i) = false := id rfl
@[simp] theorem k_tn : isTup .non = false := id rfl
@[simp] theorem k_ts (i : Str) : isTup (.str i) = false := id rfl
@[simp] theorem k_tt (i : List D) : isTup (.tup i) = true := id rfl
@[simp] theorem k_tl (i : List D) : isTup (.lst i) = false := id rfl
@[simp] theorem k_li (i : Int) : isLst (.int i) = false := id rfl
@[simp] theorem k_lb (i : Bool) : isLst (.bl i) = false := id rfl
@[simp] theorem k_ln : isLst .non = false := id rfl
@[simp] theorem k_ls (i : Str) : isLst (.str i) = false := id rfl
@[simp] theorem k_lt (i : List D) : isLst (.tup i) = false := id rfl
@[simp] theorem k_ll (i : List D) : isLst (.lst i) = true := id rfl
theorem isi_ok {n : Nat} {p : D → Bool} {d : D} (h : okN n d = true) : dIsi p d = .ok (.bl (p d)) := by
  cases d with
  | dic _ _ => rw [okN] at h <;> first | cases h | (intro q; cases q)
  | set _ => rw [okN] at h <;> first | cases h | (intro q; cases q)
  | exc _ => rw [okN] at h <;> first | cases h | (intro q; cases q)
  | oth => rw [okN] at h <;> first | cases h | (intro q; cases q)
  | _ => rfl
@[simp] theorem x_min2 (i j : Int) : fMin [.int i, .int j] = .ok (.int (if j < i then j else i)) := id rfl
@[simp] theorem x_max2 (i j : Int) : fMax [.int i, .int j] = .ok (.int (if j > i then j else i)) := id rfl
theorem x_min_l (b : Int) (bs : List Int) : fMin [.lst ((b :: bs).map .int)] = .ok (.int (bs.foldl min b)) := by
  simp only [fMin, nums_map]
theorem x_min_t (b : Int) (bs : List Int) : fMin [.tup ((b :: bs).map .int)] = .ok (.int (bs.foldl min b)) := by
  simp only [fMin, nums_map]
theorem x_all (bs : List Bool) : fAll [.lst (bs.map .bl)] = .ok (.bl (bs.all fun z => z)) := by
  simp only [fAll, bools_map]
theorem x_any (bs : List Bool) : fAny [.lst (bs.map .bl)] = .ok (.bl (bs.any fun z => z)) := by
  simp only [fAny, bools_map]
/-- a comprehension: what holds of each -/
theorem lc_ex {gf : Px.Env → D → Res Px.Env} {f : EF} {ρ : Px.Env} {Q : D → Prop} : ∀ {ds : List D}, (∀ d ∈ ds, ∃ ρ1 y, gf ρ d = .ok ρ1 ∧ f ρ1 = .ok y ∧ Q y) → ∃ ys, lcE gf bYes f ρ ds = .ok ys ∧ ys.length = ds.length ∧ ∀ y ∈ ys, Q y
  | [], _ => ⟨[], rfl, rfl, fun y h => nomatch h⟩
  | d :: ds, h => by
    obtain ⟨ρ1, y, e1, e2, q⟩ := h d List.mem_cons_self
    obtain ⟨ys, e3, hl, hq⟩ := lc_ex (ds := ds) fun d' hd => h d' (List.mem_cons_of_mem _ hd)
    refine ⟨y :: ys, ?_, by simp [hl], fun z hz => ?_⟩
    · simp [lcE, e1, e2, e3]
    · rcases List.mem_cons.mp hz with rfl | hz
      · exact q
      · exact hq z hz
/-- a comprehension of bools -/
theorem lc_bools {gf : Px.Env → D → Res Px.Env} {f : EF} {ρ : Px.Env} {p : D → Bool} : ∀ {ds : List D}, (∀ d ∈ ds, ∃ ρ1, gf ρ d = .ok ρ1 ∧ f ρ1 = .ok (.bl (p d))) → lcE gf bYes f ρ ds = .ok ((ds.map p).map .bl)
  | [], _ => rfl
  | d :: ds, h => by
    obtain ⟨ρ1, e1, e2⟩ := h d List.mem_cons_self
    have := lc_bools (ds := ds) fun d' hd => h d' (List.mem_cons_of_mem _ hd)
    simp [lcE, e1, e2, this]
theorem imin_lt (a b x : Int) : min a b < x ↔ a < x ∨ b < x := by omega
theorem cut_hi {α : Type} (xs : List α) (n : Nat) : cut xs none (some (n : Int)) = xs.take n := by
  unfold cut
  rw [HT.sIx_none, HT.sIx_nat, List.drop_zero, Nat.sub_zero]
  apply List.take_eq_take_iff.mpr
  omega
theorem cut_lo {α : Type} (xs : List α) (n : Nat) : cut xs (some (n : Int)) none = xs.drop n := by
  unfold cut
  rw [HT.sIx_none, HT.sIx_nat]
  rw [List.take_of_length_le (by simp)]
  apply List.drop_eq_drop_iff.mpr
  omega
theorem cut_lh {α : Type} (xs : List α) (a b : Nat) : cut xs (some (a : Int)) (some (b : Int)) = (xs.drop a).take (b - a) := by
  unfold cut
  rw [HT.sIx_nat, HT.sIx_nat]
  have e : xs.drop (min a xs.length) = xs.drop a := List.drop_eq_drop_iff.mpr (by omega)
  rw [e]
  apply List.take_eq_take_iff.mpr
  simp
  omega
end Px

namespace K08
open PySem PySem.Spec PyProof.Rows L2 Px
/-! _law_draws -/
def B__law_draws_2 : SF := (sSeq (sIf (eUn asB (eOp (dCmpI iGt) (eVar 5) (eC (.int 0)))) (sSeq (sAppend 2 (eOp dMod (eCall fInt (aCons (eVar 5) aNil)) (eC (.int 1009))))
  (sSet 5 (eOp dDiv (eVar 5) (eC (.int 1009))))) sNext)
  (sKill [6] sNext))
def B__law_draws_1 : SF := (sSeq (sSet 5 (eCall fAbs (aCons (eVar 4) aNil)))
  (sSeq (sSet 3 (eOp dMod (eCall fInt (aCons (eOp dAdd (eOp dAdd (eOp dMul (eVar 3) (eC (.int 48271))) (eVar 5)) (eC (.int 11))) aNil)) (eC (.int 2147483647))))
  (sSeq (sIf (eUn asB (eOp (dCmpI iGe) (eVar 5) (eOp dPow (eC (.int 10)) (eC (.int 18))))) (sSeq (sFor (iCall dRng1 (aCons (eC (.int 60)) aNil)) (gfName 6)
  B__law_draws_2)
  (sKill [5, 6] sNext)) (sAppend 2 (eOp dMod (eOp dDiv (eCall fInt (aCons (eOp dAdd (eOp dMul (eVar 3) (eC (.int 16807))) (eC (.int 5))) aNil)) (eC (.int 3))) (eC (.int 65521)))))
  (sKill [4, 5, 6] sNext))))
def B__law_draws_3 : SF := (sSeq (sIf (eUn asB (eOp (dCmpI iLt) (eCall fLen (aCons (eVar 2) aNil)) (eVar 1))) (sSeq (sSet 3 (eOp dMod (eCall fInt (aCons (eOp dAdd (eOp dAdd (eOp dMul (eVar 3) (eC (.int 69621))) (eVar 6)) (eC (.int 1))) aNil)) (eC (.int 2147483647))))
  (sAppend 2 (eOp dMod (eOp dDiv (eCall fInt (aCons (eVar 3) aNil)) (eC (.int 7))) (eC (.int 65521))))) sNext)
  (sKill [6] sNext))
def F__law_draws : SF := (sSeq (sSet 2 (eC (.lst [])))
  (sSeq (sSet 3 (eC (.int 7)))
  (sSeq (sFor (iSeq (eSl (eVar 0) oNone (oSome (eC (.int 63))))) (gfName 4)
  B__law_draws_1)
  (sKill [4, 5, 6] (sSeq (sFor (iCall dRng1 (aCons (eVar 1) aNil)) (gfName 6)
  B__law_draws_3)
  (sKill [3, 6] (sRet (eSl (eVar 2) oNone (oSome (eVar 1))))))))))
def C__law_draws : List D → Res D := fnE 7 F__law_draws
/-! _law_prices -/
def F__law_prices : SF := (sSeq (sUnp (gfTup [1, 2]) (eOp dIx (eLst (aCons (eTup (aCons (eC (.int 1)) (aCons (eC (.int 1)) aNil))) (aCons (eTup (aCons (eC (.int 2)) (aCons (eC (.int 3)) aNil))) (aCons (eTup (aCons (eC (.int 3)) (aCons (eC (.int 1)) aNil))) (aCons (eTup (aCons (eC (.int 0)) (aCons (eC (.int 2)) aNil))) (aCons (eTup (aCons (eC (.int 5)) (aCons (eC (.int 5)) aNil))) (aCons (eTup (aCons (eC (.int 1)) (aCons (eC (.int 0)) aNil))) aNil))))))) (eOp dMod (eVar 0) (eC (.int 6)))))
  (sRet (eTup (aCons (eVar 1) (aCons (eVar 2) (aCons (eOp dIx (eLst (aCons (eC .non) (aCons (eC (.int 1)) (aCons (eOp dAdd (eVar 1) (eVar 2)) (aCons (eOp dAdd (eOp dAdd (eVar 1) (eVar 2)) (eC (.int 1))) (aCons (eC (.int 2)) (aCons (eC (.int 0)) aNil))))))) (eOp dMod (eOp dDiv (eVar 0) (eC (.int 6))) (eC (.int 6)))) aNil))))))
def C__law_prices : List D → Res D := fnE 3 F__law_prices
/-! _law_ahead -/
def B__law_ahead_2 : SF := (sSeq (sSet 7 (eIf (eUn asB (eOp (dEq) (eTup (aCons (eVar 4) (aCons (eVar 6) aNil))) (eTup (aCons (eC (.int 0)) (aCons (eC (.int 0)) aNil))))) (eLst (aCons (eC (.int 0)) aNil)) (eC (.lst []))))
  (sSeq (sIf (eUn asB (eOp (dCmpI iGt) (eVar 4) (eC (.int 0)))) (sAppend 7 (eOp dAdd (eOp dIx (eOp dIx (eVar 3) (eOp dSub (eVar 4) (eC (.int 1)))) (eVar 6)) (eOp dIx (eVar 2) (eC (.int 0))))) sNext)
  (sSeq (sIf (eUn asB (eOp (dCmpI iGt) (eVar 6) (eC (.int 0)))) (sAppend 7 (eOp dAdd (eOp dIx (eVar 5) (eOp dSub (eVar 6) (eC (.int 1)))) (eOp dIx (eVar 2) (eC (.int 1))))) sNext)
  (sSeq (sIf (bAnd (eUn asB (eOp (dCmpI iGt) (eVar 4) (eC (.int 0)))) (eUn asB (eOp (dCmpI iGt) (eVar 6) (eC (.int 0))))) (sSeq (sSet 8 (eOp (dEq) (eOp dIx (eVar 0) (eOp dSub (eVar 4) (eC (.int 1)))) (eOp dIx (eVar 1) (eOp dSub (eVar 6) (eC (.int 1))))))
  (sIf (bOr (eUn dTru (eVar 8)) (eUn asB (eOp (dIsNot) (eOp dIx (eVar 2) (eC (.int 2))) (eC .non)))) (sAppend 7 (eOp dAdd (eOp dIx (eOp dIx (eVar 3) (eOp dSub (eVar 4) (eC (.int 1)))) (eOp dSub (eVar 6) (eC (.int 1)))) (eIf (eUn dTru (eVar 8)) (eC (.int 0)) (eOp dIx (eVar 2) (eC (.int 2)))))) sNext)) sNext)
  (sSeq (sAppend 5 (eCall fMin (aCons (eVar 7) aNil)))
  (sKill [6, 7, 8] sNext))))))
def B__law_ahead_1 : SF := (sSeq (sSet 5 (eC (.lst [])))
  (sSeq (sFor (iCall dRng1 (aCons (eOp dAdd (eCall fLen (aCons (eVar 1) aNil)) (eC (.int 1))) aNil)) (gfName 6)
  B__law_ahead_2)
  (sKill [6, 7, 8] (sSeq (sAppend 3 (eVar 5))
  (sKill [4, 6, 7, 8] sNext)))))
def F__law_ahead : SF := (sSeq (sSet 3 (eC (.lst [])))
  (sSeq (sFor (iCall dRng1 (aCons (eOp dAdd (eCall fLen (aCons (eVar 0) aNil)) (eC (.int 1))) aNil)) (gfName 4)
  B__law_ahead_1)
  (sKill [4, 6, 7, 8] (sRet (eCall fTuple (aCons (eLc (iSeq (eVar 3)) [5] (gfName 5) bYes (eCall fTuple (aCons (eVar 5) aNil))) aNil))))))
def C__law_ahead : List D → Res D := fnE 9 F__law_ahead
/-! _law_put -/
def F__law_put : SF := (sSeq (sSet 4 (eOp dIx (eVar 0) (eVar 1)))
  (sRet (eOp dAdd (eOp dAdd (eSl (eVar 0) oNone (oSome (eVar 1))) (eTup (aCons (eOp dAdd (eOp dAdd (eSl (eVar 4) oNone (oSome (eVar 2))) (eTup (aCons (eVar 3) aNil))) (eSl (eVar 4) (oSome (eOp dAdd (eVar 2) (eC (.int 1)))) oNone)) aNil))) (eSl (eVar 0) (oSome (eOp dAdd (eVar 1) (eC (.int 1)))) oNone))))
def C__law_put : List D → Res D := fnE 5 F__law_put
/-! _law_bent -/
def B__law_bent_1 : SF := (sSeq (sAppend 4 (eCall fTuple (aCons (eLc (iSeq (eVar 1)) [8] (gfName 8) bYes (eCall fTuple (aCons (eLc (iSeq (eVar 8)) [9] (gfName 9) bYes (eCall fMin (aCons (eVar 5) (aCons (eVar 9) aNil)))) aNil))) aNil)))
  (sKill [5] sNext))
def B__law_bent_2 : SF := (sSeq (sAppend 4 (eCall C__law_put (aCons (eVar 1) (aCons (eVar 2) (aCons (eVar 3) (aCons (eVar 6) aNil))))))
  (sKill [6] sNext))
def F__law_bent : SF := (sSeq (sPar [2, 3] [(eOp dMod (eCall fInt (aCons (eOp dIx (eVar 0) (eC (.int 0))) aNil)) (eCall fLen (aCons (eVar 1) aNil))), (eOp dMod (eCall fInt (aCons (eOp dIx (eVar 0) (eC (.int 1))) aNil)) (eCall fLen (aCons (eOp dIx (eVar 1) (eC (.int 0))) aNil)))])
  (sSeq (sSet 4 (eLst (aCons (eVar 1) (aCons (eCall fList (aCons (eVar 1) aNil)) (aCons (eC .non) (aCons (eC (.int 7)) (aCons (eTup aNil) (aCons (eSl (eVar 1) (oSome (eC (.int 1))) oNone) (aCons (eOp dAdd (eVar 1) (eSl (eVar 1) oNone (oSome (eC (.int 1))))) (aCons (eUn dRev (eVar 1)) (aCons (eCall fTuple (aCons (eLc (iSeq (eVar 1)) [8] (gfName 8) bYes (eSl (eVar 8) (oSome (eC (.int 1))) oNone)) aNil)) (aCons (eCall fTuple (aCons (eLc (iSeq (eVar 1)) [8] (gfName 8) bYes (eOp dAdd (eVar 8) (eTup (aCons (eC (.int 0)) aNil)))) aNil)) (aCons (eCall fTuple (aCons (eLc (iSeq (eVar 1)) [8] (gfName 8) bYes (eUn dRev (eVar 8))) aNil)) aNil)))))))))))))
  (sSeq (sFor (iCall dRng1 (aCons (eC (.int 4)) aNil)) (gfName 5)
  B__law_bent_1)
  (sKill [5] (sSeq (sAppend 4 (eCall fTuple (aCons (eLc (iSeq (eVar 1)) [8] (gfName 8) bYes (eCall fTuple (aCons (eLc (iSeq (eVar 8)) [9] (gfName 9) bYes (eOp dDiv (eVar 9) (eC (.int 2)))) aNil))) aNil)))
  (sSeq (sAppend 4 (eCall fTuple (aCons (eLc (iSeq (eVar 1)) [8] (gfName 8) bYes (eCall fTuple (aCons (eLc (iSeq (eVar 8)) [9] (gfName 9) bYes (eOp dAdd (eVar 9) (eC (.int 1)))) aNil))) aNil)))
  (sSeq (sFor (iSeq (eLst (aCons (eOp dAdd (eOp dIx (eOp dIx (eVar 1) (eVar 2)) (eVar 3)) (eC (.int 1))) (aCons (eCall fMax (aCons (eC (.int 0)) (aCons (eOp dSub (eOp dIx (eOp dIx (eVar 1) (eVar 2)) (eVar 3)) (eC (.int 1))) aNil))) (aCons (eC (.int 0)) (aCons (eOp dPow (eC (.int 10)) (eC (.int 9))) (aCons (eUn dNeg (eC (.int 1))) (aCons (eC (.bl true)) (aCons (eC .non) (aCons (eC (.str "0")) (aCons (eTup (aCons (eC (.int 0)) aNil)) aNil))))))))))) (gfName 6)
  B__law_bent_2)
  (sKill [6] (sSeq (sSet 7 (eCall C__law_put (aCons (eVar 1) (aCons (eOp dMod (eCall fInt (aCons (eOp dIx (eVar 0) (eC (.int 2))) aNil)) (eCall fLen (aCons (eVar 1) aNil))) (aCons (eOp dMod (eCall fInt (aCons (eOp dIx (eVar 0) (eC (.int 3))) aNil)) (eCall fLen (aCons (eOp dIx (eVar 1) (eC (.int 0))) aNil))) (aCons (eOp dMod (eCall fInt (aCons (eOp dIx (eVar 0) (eC (.int 4))) aNil)) (eC (.int 5))) aNil))))))
  (sRet (eOp dAdd (eOp dAdd (eVar 4) (eLst (aCons (eVar 7) (aCons (eCall C__law_put (aCons (eVar 7) (aCons (eVar 2) (aCons (eVar 3) (aCons (eOp dMod (eCall fInt (aCons (eOp dIx (eVar 0) (eC (.int 5))) aNil)) (eC (.int 5))) aNil))))) aNil)))) (eLc (iSeq (eLst (aCons (eCall fList (aCons (eOp dIx (eVar 1) (eVar 2)) aNil)) (aCons (eC .non) (aCons (eSl (eOp dIx (eVar 1) (eVar 2)) (oSome (eC (.int 1))) oNone) aNil))))) [8] (gfName 8) bYes (eOp dAdd (eOp dAdd (eSl (eVar 1) oNone (oSome (eVar 2))) (eTup (aCons (eVar 8) aNil))) (eSl (eVar 1) (oSome (eOp dAdd (eVar 2) (eC (.int 1)))) oNone))))))))))))))
def C__law_bent : List D → Res D := fnE 10 F__law_bent
/-! _law_text -/
def F__law_text : SF := (sSeq (sSet 3 (eOp dMod (eCall fInt (aCons (eOp dIx (eVar 0) (eC (.int 0))) aNil)) (eOp dAdd (eVar 1) (eC (.int 1)))))
  (sRet (eCall fTuple (aCons (eLc (iCall dRng1 (aCons (eVar 3) aNil)) [4] (gfName 4) bYes (eOp dIx (eC (.str "abcdefgh")) (eOp dMod (eOp dDiv (eCall fInt (aCons (eOp dAdd (eOp dMul (eCall fInt (aCons (eOp dIx (eVar 0) (eOp dAdd (eC (.int 1)) (eOp dMod (eVar 4) (eOp dSub (eCall fLen (aCons (eVar 0) aNil)) (eC (.int 1)))))) aNil)) (eOp dAdd (eVar 4) (eC (.int 3)))) (eOp dMul (eVar 4) (eC (.int 17)))) aNil)) (eC (.int 5))) (eVar 2)))) aNil))))
def C__law_text : List D → Res D := fnE 5 F__law_text
/-! _law_due -/
def B__law_due_1 : SF := (sSeq (sIf (bNot (eUn dTru (eCall fAll (aCons (eLc (iSeq (eVar 4)) [7] (gfName 7) bYes (eAnd (eUn (dIsi isInt) (eVar 7)) (eAnd (eNot (eUn (dIsi isBool) (eVar 7))) (eOp (dCmpI iGe) (eVar 7) (eC (.int 0)))))) aNil)))) (sRet (eC (.str "form"))) sNext)
  (sKill [4] sNext))
def B__law_due_3 : SF := (sSeq (sSet 6 (eC (.lst [])))
  (sSeq (sIf (eUn asB (eOp (dCmpI iGt) (eVar 4) (eC (.int 0)))) (sAppend 6 (eOp dAdd (eOp dIx (eOp dIx (eVar 3) (eOp dSub (eVar 4) (eC (.int 1)))) (eVar 5)) (eOp dIx (eVar 2) (eC (.int 0))))) sNext)
  (sSeq (sIf (eUn asB (eOp (dCmpI iGt) (eVar 5) (eC (.int 0)))) (sAppend 6 (eOp dAdd (eOp dIx (eOp dIx (eVar 3) (eVar 4)) (eOp dSub (eVar 5) (eC (.int 1)))) (eOp dIx (eVar 2) (eC (.int 1))))) sNext)
  (sSeq (sIf (bAnd (eUn asB (eOp (dCmpI iGt) (eVar 4) (eC (.int 0)))) (bAnd (eUn asB (eOp (dCmpI iGt) (eVar 5) (eC (.int 0)))) (eUn asB (eOp (dEq) (eOp dIx (eVar 0) (eOp dSub (eVar 4) (eC (.int 1)))) (eOp dIx (eVar 1) (eOp dSub (eVar 5) (eC (.int 1)))))))) (sAppend 6 (eOp dIx (eOp dIx (eVar 3) (eOp dSub (eVar 4) (eC (.int 1)))) (eOp dSub (eVar 5) (eC (.int 1))))) sNext)
  (sSeq (sIf (bAnd (eUn asB (eOp (dCmpI iGt) (eVar 4) (eC (.int 0)))) (bAnd (eUn asB (eOp (dCmpI iGt) (eVar 5) (eC (.int 0)))) (bAnd (eUn asB (eOp (dNe) (eOp dIx (eVar 0) (eOp dSub (eVar 4) (eC (.int 1)))) (eOp dIx (eVar 1) (eOp dSub (eVar 5) (eC (.int 1)))))) (eUn asB (eOp (dIsNot) (eOp dIx (eVar 2) (eC (.int 2))) (eC .non)))))) (sAppend 6 (eOp dAdd (eOp dIx (eOp dIx (eVar 3) (eOp dSub (eVar 4) (eC (.int 1)))) (eOp dSub (eVar 5) (eC (.int 1)))) (eOp dIx (eVar 2) (eC (.int 2))))) sNext)
  (sSeq (sIf (bAnd (eUn asB (eOp (dCmpI iGt) (eCall fLen (aCons (eVar 6) aNil)) (eC (.int 0)))) (eUn asB (eOp (dCmpI iGt) (eOp dIx (eOp dIx (eVar 3) (eVar 4)) (eVar 5)) (eCall fMin (aCons (eVar 6) aNil))))) (sRet (eTup (aCons (eVar 4) (aCons (eVar 5) aNil)))) sNext)
  (sKill [5, 6] sNext)))))))
def B__law_due_2 : SF := (sSeq (sFor (iCall dRng1 (aCons (eOp dAdd (eCall fLen (aCons (eVar 1) aNil)) (eC (.int 1))) aNil)) (gfName 5)
  B__law_due_3)
  (sKill [5, 6] (sKill [4, 5, 6] sNext)))
def F__law_due : SF := (sSeq (sIf (bOr (bNot (eUn dTru (eUn (dIsi isTup) (eVar 3)))) (bOr (eUn asB (eOp (dNe) (eCall fLen (aCons (eVar 3) aNil)) (eOp dAdd (eCall fLen (aCons (eVar 0) aNil)) (eC (.int 1))))) (bNot (eUn dTru (eCall fAll (aCons (eLc (iSeq (eVar 3)) [4] (gfName 4) bYes (eAnd (eUn (dIsi isTup) (eVar 4)) (eOp (dEq) (eCall fLen (aCons (eVar 4) aNil)) (eOp dAdd (eCall fLen (aCons (eVar 1) aNil)) (eC (.int 1)))))) aNil)))))) (sRet (eC (.str "form"))) sNext)
  (sSeq (sFor (iSeq (eVar 3)) (gfName 4)
  B__law_due_1)
  (sKill [4] (sSeq (sIf (eUn asB (eOp (dNe) (eOp dIx (eOp dIx (eVar 3) (eC (.int 0))) (eC (.int 0))) (eC (.int 0)))) (sRet (eC (.str "start"))) sNext)
  (sSeq (sFor (iCall dRng1 (aCons (eOp dAdd (eCall fLen (aCons (eVar 0) aNil)) (eC (.int 1))) aNil)) (gfName 4)
  B__law_due_2)
  (sKill [4, 5, 6] (sRet (eC .non))))))))
def C__law_due : List D → Res D := fnE 8 F__law_due
/-! is_line -/
def F_is_line : SF := (sRet (eAnd (eUn (dIsi isStr) (eVar 0)) (eOp (dNotIn) (eC (.str "\n")) (eVar 0))))
def C_is_line : List D → Res D := fnE 1 F_is_line
/-! is_text -/
def F_is_text : SF := (sRet (eAnd (eUn (dIsi isTup) (eVar 0)) (eCall fAll (aCons (eLc (iSeq (eVar 0)) [1] (gfName 1) bYes (eCall C_is_line (aCons (eVar 1) aNil))) aNil))))
def C_is_text : List D → Res D := fnE 2 F_is_text
/-! check_short -/
def F_check_short : SF := (sIf (bNot (eUn dTru (eCall fAll (aCons (eLc (iSeq (eVar 0)) [1] (gfName 1) bYes (eAnd (eCall C_is_text (aCons (eVar 1) aNil)) (eOp (dCmpI iLe) (eCall fLen (aCons (eVar 1) aNil)) (eC (.int 60))))) aNil)))) (sRaise "BadText") sNext)
def C_check_short : List D → Res D := fnE 2 F_check_short
/-! _is_price -/
def F__is_price : SF := (sRet (eAnd (eUn (dIsi isInt) (eVar 0)) (eAnd (eNot (eUn (dIsi isBool) (eVar 0))) (eChain (dCmpI iLe) (dCmpI iLe) (eC (.int 0)) (eVar 0) (eC (.int 1000))))))
def C__is_price : List D → Res D := fnE 1 F__is_price
/-! check_prices -/
def F_check_prices : SF := (sSeq (sIf (bOr (bNot (eUn dTru (eUn (dIsi isTup) (eVar 0)))) (eUn asB (eOp (dNe) (eCall fLen (aCons (eVar 0) aNil)) (eC (.int 3))))) (sRaise "BadPrices") sNext)
  (sIf (bOr (bNot (eUn dTru (eCall fAll (aCons (eLc (iSeq (eSl (eVar 0) oNone (oSome (eC (.int 2))))) [1] (gfName 1) bYes (eCall C__is_price (aCons (eVar 1) aNil))) aNil)))) (bAnd (eUn asB (eOp (dIsNot) (eOp dIx (eVar 0) (eC (.int 2))) (eC .non))) (bNot (eUn dTru (eCall C__is_price (aCons (eOp dIx (eVar 0) (eC (.int 2))) aNil)))))) (sRaise "BadPrices") sNext))
def C_check_prices : List D → Res D := fnE 2 F_check_prices
/-! _are_levels -/
def B__are_levels_1 : SF := (sSeq (sIf (bOr (bNot (eUn dTru (eUn (dIsi isTup) (eVar 3)))) (eUn asB (eOp (dNe) (eCall fLen (aCons (eVar 3) aNil)) (eOp dAdd (eCall fLen (aCons (eVar 1) aNil)) (eC (.int 1)))))) (sRet (eC (.bl false))) sNext)
  (sSeq (sIf (bNot (eUn dTru (eCall fAll (aCons (eLc (iSeq (eVar 3)) [4] (gfName 4) bYes (eAnd (eUn (dIsi isInt) (eVar 4)) (eAnd (eNot (eUn (dIsi isBool) (eVar 4))) (eOp (dCmpI iGe) (eVar 4) (eC (.int 0)))))) aNil)))) (sRet (eC (.bl false))) sNext)
  (sKill [3] sNext)))
def F__are_levels : SF := (sSeq (sIf (bOr (bNot (eUn dTru (eUn (dIsi isTup) (eVar 2)))) (eUn asB (eOp (dNe) (eCall fLen (aCons (eVar 2) aNil)) (eOp dAdd (eCall fLen (aCons (eVar 0) aNil)) (eC (.int 1)))))) (sRet (eC (.bl false))) sNext)
  (sSeq (sFor (iSeq (eVar 2)) (gfName 3)
  B__are_levels_1)
  (sKill [3] (sRet (eC (.bl true))))))
def C__are_levels : List D → Res D := fnE 5 F__are_levels
/-! step -/
def F_step : SF := (sRet (eTup (aCons (eIf (eUn asB (eOp (dEq) (eVar 0) (eC (.str "i")))) (eC (.int 0)) (eC (.int 1))) (aCons (eIf (eUn asB (eOp (dEq) (eVar 0) (eC (.str "o")))) (eC (.int 0)) (eC (.int 1))) aNil))))
def C_step : List D → Res D := fnE 1 F_step
/-! price_of -/
def F_price_of : SF := (sRet (eDLit (((eC (.str "k")), (eC (.int 0))) :: (((eC (.str "o")), (eOp dIx (eVar 0) (eC (.int 0)))) :: (((eC (.str "i")), (eOp dIx (eVar 0) (eC (.int 1)))) :: (((eC (.str "x")), (eOp dIx (eVar 0) (eC (.int 2)))) :: [])))) (eVar 1)))
def C_price_of : List D → Res D := fnE 2 F_price_of
/-! can_be -/
def F_can_be : SF := (sSeq (sUnp (gfTup [4, 5]) (eVar 2))
  (sSeq (sUnp (gfTup [6, 7]) (eCall C_step (aCons (eVar 3) aNil)))
  (sSeq (sIf (bOr (eUn asB (eOp (dCmpI iGt) (eOp dAdd (eVar 4) (eVar 6)) (eCall fLen (aCons (eVar 0) aNil)))) (eUn asB (eOp (dCmpI iGt) (eOp dAdd (eVar 5) (eVar 7)) (eCall fLen (aCons (eVar 1) aNil))))) (sRet (eC (.bl false))) sNext)
  (sSeq (sIf (eUn asB (eOp (dEq) (eVar 3) (eC (.str "k")))) (sRet (eOp (dEq) (eOp dIx (eVar 0) (eVar 4)) (eOp dIx (eVar 1) (eVar 5)))) sNext)
  (sRet (eOr (eOp (dNe) (eVar 3) (eC (.str "x"))) (eOp (dNe) (eOp dIx (eVar 0) (eVar 4)) (eOp dIx (eVar 1) (eVar 5)))))))))
def C_can_be : List D → Res D := fnE 8 F_can_be
/-! levels_fault -/
def B_levels_fault_3 : SF := (sSeq (sUnp (gfTup [7, 8]) (eCall C_step (aCons (eVar 6) aNil)))
  (sSeq (sSet 9 (eTup (aCons (eOp dSub (eVar 4) (eVar 7)) (aCons (eOp dSub (eVar 5) (eVar 8)) aNil))))
  (sSeq (sSet 10 (eCall C_price_of (aCons (eVar 2) (aCons (eVar 6) aNil))))
  (sSeq (sIf (bAnd (eUn asB (eOp (dIsNot) (eVar 10) (eC .non))) (bAnd (eUn asB (eOp (dCmpI iGe) (eCall fMin (aCons (eVar 9) aNil)) (eC (.int 0)))) (eUn dTru (eCall C_can_be (aCons (eVar 0) (aCons (eVar 1) (aCons (eVar 9) (aCons (eVar 6) aNil)))))))) (sIf (eUn asB (eOp (dCmpI iGt) (eOp dIx (eOp dIx (eVar 3) (eVar 4)) (eVar 5)) (eOp dAdd (eOp dIx (eOp dIx (eVar 3) (eOp dIx (eVar 9) (eC (.int 0)))) (eOp dIx (eVar 9) (eC (.int 1)))) (eVar 10)))) (sRet (eTup (aCons (eVar 4) (aCons (eVar 5) aNil)))) sNext) sNext)
  (sKill [6, 7, 8, 9, 10] sNext)))))
def B_levels_fault_2 : SF := (sSeq (sFor (iSeq (eC (.str "kiox"))) (gfName 6)
  B_levels_fault_3)
  (sKill [6, 7, 8, 9, 10] (sKill [5, 6, 7, 8, 9, 10] sNext)))
def B_levels_fault_1 : SF := (sSeq (sFor (iCall dRng1 (aCons (eOp dAdd (eCall fLen (aCons (eVar 1) aNil)) (eC (.int 1))) aNil)) (gfName 5)
  B_levels_fault_2)
  (sKill [5, 6, 7, 8, 9, 10] (sKill [4, 5, 6, 7, 8, 9, 10] sNext)))
def F_levels_fault : SF := (sSeq (sDrop (eCall C_check_short (aCons (eLst (aCons (eVar 0) (aCons (eVar 1) aNil))) aNil)))
  (sSeq (sDrop (eCall C_check_prices (aCons (eVar 2) aNil)))
  (sSeq (sIf (bNot (eUn dTru (eCall C__are_levels (aCons (eVar 0) (aCons (eVar 1) (aCons (eVar 3) aNil)))))) (sRet (eC (.str "form"))) sNext)
  (sSeq (sIf (eUn asB (eOp (dNe) (eOp dIx (eOp dIx (eVar 3) (eC (.int 0))) (eC (.int 0))) (eC (.int 0)))) (sRet (eC (.str "start"))) sNext)
  (sSeq (sFor (iCall dRng1 (aCons (eOp dAdd (eCall fLen (aCons (eVar 0) aNil)) (eC (.int 1))) aNil)) (gfName 4)
  B_levels_fault_1)
  (sKill [4, 5, 6, 7, 8, 9, 10] (sRet (eC .non))))))))
def C_levels_fault : List D → Res D := fnE 11 F_levels_fault
/-! law -/
def B_law_2 : SF := (sSeq (sSet 9 (eCall C__law_due (aCons (eVar 4) (aCons (eVar 5) (aCons (eVar 6) (aCons (eVar 8) aNil))))))
  (sSeq (sIf (eUn asB (eOp (dNe) (eCall C_levels_fault (aCons (eVar 4) (aCons (eVar 5) (aCons (eVar 6) (aCons (eVar 8) aNil))))) (eVar 9))) (sRet (eC (.bl false))) sNext)
  (sSeq (sIf (bAnd (eUn asB (eOp (dIs) (eVar 9) (eC .non))) (eUn dTru (eCall fAny (aCons (eLc (iCall dRng1 (aCons (eOp dAdd (eCall fLen (aCons (eVar 4) aNil)) (eC (.int 1))) aNil)) [10] (gfName 10) bYes (eCall fAny (aCons (eLc (iCall dRng1 (aCons (eOp dAdd (eCall fLen (aCons (eVar 5) aNil)) (eC (.int 1))) aNil)) [12] (gfName 12) bYes (eOp (dCmpI iGt) (eOp dIx (eOp dIx (eVar 8) (eVar 10)) (eVar 12)) (eOp dIx (eOp dIx (eVar 7) (eVar 10)) (eVar 12)))) aNil))) aNil)))) (sRet (eC (.bl false))) sNext)
  (sKill [8, 9] sNext))))
def B_law_4 : SF := (sSeq (sIf (eUn asB (eOp (dIs) (eCall C_levels_fault (aCons (eVar 4) (aCons (eVar 5) (aCons (eVar 6) (aCons (eCall C__law_put (aCons (eVar 7) (aCons (eVar 10) (aCons (eVar 11) (aCons (eOp dAdd (eOp dIx (eOp dIx (eVar 7) (eVar 10)) (eVar 11)) (eC (.int 1))) aNil))))) aNil))))) (eC .non))) (sRet (eC (.bl false))) sNext)
  (sKill [11] sNext))
def B_law_3 : SF := (sSeq (sFor (iCall dRng1 (aCons (eOp dAdd (eCall fLen (aCons (eVar 5) aNil)) (eC (.int 1))) aNil)) (gfName 11)
  B_law_4)
  (sKill [11] (sKill [11] sNext)))
def B_law_1 : SF := (sSeq (sSet 3 (eOp dAdd (eC (.int 1)) (eOp dMod (eCall fInt (aCons (eOp dIx (eVar 1) (eVar 2)) aNil)) (eC (.int 4)))))
  (sSeq (sPar [4, 5] [(eCall C__law_text (aCons (eSl (eVar 1) (oSome (eOp dAdd (eC (.int 3)) (eOp dMul (eC (.int 8)) (eVar 2)))) (oSome (eOp dAdd (eC (.int 14)) (eOp dMul (eC (.int 8)) (eVar 2))))) (aCons (eC (.int 8)) (aCons (eVar 3) aNil)))), (eCall C__law_text (aCons (eSl (eVar 1) (oSome (eOp dAdd (eC (.int 28)) (eOp dMul (eC (.int 4)) (eVar 2)))) (oSome (eOp dAdd (eC (.int 40)) (eOp dMul (eC (.int 4)) (eVar 2))))) (aCons (eC (.int 8)) (aCons (eVar 3) aNil))))])
  (sSeq (sSet 6 (eCall C__law_prices (aCons (eCall fInt (aCons (eOp dIx (eVar 1) (eOp dAdd (eC (.int 50)) (eVar 2))) aNil)) aNil)))
  (sSeq (sSet 7 (eCall C__law_ahead (aCons (eVar 4) (aCons (eVar 5) (aCons (eVar 6) aNil)))))
  (sSeq (sFor (iSeq (eCall C__law_bent (aCons (eSl (eVar 1) (oSome (eC (.int 53))) oNone) (aCons (eVar 7) aNil)))) (gfName 8)
  B_law_2)
  (sKill [8, 9] (sSeq (sFor (iCall dRng1 (aCons (eOp dAdd (eCall fLen (aCons (eVar 4) aNil)) (eC (.int 1))) aNil)) (gfName 10)
  B_law_3)
  (sKill [11] (sKill [2, 3, 4, 5, 6, 7, 8, 9, 11] sNext)))))))))
def F_law : SF := (sSeq (sSet 1 (eCall C__law_draws (aCons (eVar 0) (aCons (eC (.int 60)) aNil))))
  (sSeq (sFor (iCall dRng1 (aCons (eC (.int 3)) aNil)) (gfName 2)
  B_law_1)
  (sKill [2, 3, 4, 5, 6, 7, 8, 9, 10, 11] (sRet (eC (.bl true))))))
def C_law : List D → Res D := fnE 13 F_law
end K08
namespace K08
open PySem PySem.Spec PyProof.Rows L2 Px
def topS (i : Nat) : Stmt := PySem.Challenge.pw_patchwright_k08_levels_of_scripts.main.body.getD i (.Pass ⟨0, 0, 0, 0⟩)
/-! _law_draws -/
abbrev s__law_draws : Stmt := topS 27
abbrev n__law_draws : List Str := ["script", "many", "draws", "seed", "cell", "number", "k"]
theorem sc__law_draws : FnScope n__law_draws ["script", "many"] (defScope s__law_draws) := ⟨rfl, rfl, rfl, by decide +kernel, rfl, by decide +kernel, by decide +kernel⟩
/-! _law_prices -/
abbrev s__law_prices : Stmt := topS 29
abbrev n__law_prices : List Str := ["draw", "out", "into"]
theorem sc__law_prices : FnScope n__law_prices ["draw"] (defScope s__law_prices) := ⟨rfl, rfl, rfl, by decide +kernel, rfl, by decide +kernel, by decide +kernel⟩
/-! _law_ahead -/
abbrev s__law_ahead : Stmt := topS 30
abbrev n__law_ahead : List Str := ["old", "new", "prices", "rows", "row", "line", "place", "ways", "alike"]
theorem sc__law_ahead : FnScope n__law_ahead ["old", "new", "prices"] (defScope s__law_ahead) := ⟨rfl, rfl, rfl, by decide +kernel, rfl, by decide +kernel, by decide +kernel⟩
/-! _law_put -/
abbrev s__law_put : Stmt := topS 32
abbrev n__law_put : List Str := ["levels", "row", "place", "item", "line"]
theorem sc__law_put : FnScope n__law_put ["levels", "row", "place", "item"] (defScope s__law_put) := ⟨rfl, rfl, rfl, by decide +kernel, rfl, by decide +kernel, by decide +kernel⟩
/-! _law_bent -/
abbrev s__law_bent : Stmt := topS 33
abbrev n__law_bent : List Str := ["draws", "due", "row", "place", "found", "most", "item", "other", "line", "one"]
theorem sc__law_bent : FnScope n__law_bent ["draws", "due"] (defScope s__law_bent) := ⟨rfl, rfl, rfl, by decide +kernel, rfl, by decide +kernel, by decide +kernel⟩
/-! _law_text -/
abbrev s__law_text : Stmt := topS 28
abbrev n__law_text : List Str := ["draws", "most", "kinds", "size", "k"]
theorem sc__law_text : FnScope n__law_text ["draws", "most", "kinds"] (defScope s__law_text) := ⟨rfl, rfl, rfl, by decide +kernel, rfl, by decide +kernel, by decide +kernel⟩
/-! _law_due -/
abbrev s__law_due : Stmt := topS 31
abbrev n__law_due : List Str := ["old", "new", "prices", "levels", "row", "place", "most", "one"]
theorem sc__law_due : FnScope n__law_due ["old", "new", "prices", "levels"] (defScope s__law_due) := ⟨rfl, rfl, rfl, by decide +kernel, rfl, by decide +kernel, by decide +kernel⟩
/-! is_line -/
abbrev s_is_line : Stmt := topS 6
abbrev n_is_line : List Str := ["value"]
theorem sc_is_line : FnScope n_is_line ["value"] (defScope s_is_line) := ⟨rfl, rfl, rfl, by decide +kernel, rfl, by decide +kernel, by decide +kernel⟩
/-! is_text -/
abbrev s_is_text : Stmt := topS 7
abbrev n_is_text : List Str := ["value", "line"]
theorem sc_is_text : FnScope n_is_text ["value"] (defScope s_is_text) := ⟨rfl, rfl, rfl, by decide +kernel, rfl, by decide +kernel, by decide +kernel⟩
/-! check_short -/
abbrev s_check_short : Stmt := topS 16
abbrev n_check_short : List Str := ["values", "value"]
theorem sc_check_short : FnScope n_check_short ["values"] (defScope s_check_short) := ⟨rfl, rfl, rfl, by decide +kernel, rfl, by decide +kernel, by decide +kernel⟩
/-! _is_price -/
abbrev s__is_price : Stmt := topS 19
abbrev n__is_price : List Str := ["value"]
theorem sc__is_price : FnScope n__is_price ["value"] (defScope s__is_price) := ⟨rfl, rfl, rfl, by decide +kernel, rfl, by decide +kernel, by decide +kernel⟩
/-! check_prices -/
abbrev s_check_prices : Stmt := topS 20
abbrev n_check_prices : List Str := ["value", "one"]
theorem sc_check_prices : FnScope n_check_prices ["value"] (defScope s_check_prices) := ⟨rfl, rfl, rfl, by decide +kernel, rfl, by decide +kernel, by decide +kernel⟩
/-! _are_levels -/
abbrev s__are_levels : Stmt := topS 24
abbrev n__are_levels : List Str := ["old", "new", "value", "row", "one"]
theorem sc__are_levels : FnScope n__are_levels ["old", "new", "value"] (defScope s__are_levels) := ⟨rfl, rfl, rfl, by decide +kernel, rfl, by decide +kernel, by decide +kernel⟩
/-! step -/
abbrev s_step : Stmt := topS 17
abbrev n_step : List Str := ["sign"]
theorem sc_step : FnScope n_step ["sign"] (defScope s_step) := ⟨rfl, rfl, rfl, by decide +kernel, rfl, by decide +kernel, by decide +kernel⟩
/-! price_of -/
abbrev s_price_of : Stmt := topS 21
abbrev n_price_of : List Str := ["prices", "sign"]
theorem sc_price_of : FnScope n_price_of ["prices", "sign"] (defScope s_price_of) := ⟨rfl, rfl, rfl, by decide +kernel, rfl, by decide +kernel, by decide +kernel⟩
/-! can_be -/
abbrev s_can_be : Stmt := topS 18
abbrev n_can_be : List Str := ["old", "new", "here", "sign", "row", "place", "more", "further"]
theorem sc_can_be : FnScope n_can_be ["old", "new", "here", "sign"] (defScope s_can_be) := ⟨rfl, rfl, rfl, by decide +kernel, rfl, by decide +kernel, by decide +kernel⟩
/-! levels_fault -/
abbrev s_levels_fault : Stmt := topS 25
abbrev n_levels_fault : List Str := ["old", "new", "prices", "levels", "row", "place", "sign", "more", "further", "before", "price"]
theorem sc_levels_fault : FnScope n_levels_fault ["old", "new", "prices", "levels"] (defScope s_levels_fault) := ⟨rfl, rfl, rfl, by decide +kernel, rfl, by decide +kernel, by decide +kernel⟩
/-! law -/
abbrev s_law : Stmt := topS 34
abbrev n_law : List Str := ["script", "draws", "turn", "kinds", "old", "new", "prices", "due", "value", "fault", "row", "place", "k"]
theorem sc_law : FnScope n_law ["script"] (defScope s_law) := ⟨rfl, rfl, rfl, by decide +kernel, rfl, by decide +kernel, by decide +kernel⟩
structure Txt (K : PySem.W.Frag) (mg : Str → Option Value) : Prop where
  F__law_draws : ∃ fd, Fun K "_law_draws" "_law_draws" s__law_draws (He.ga K "_law_draws") fd ∧ BA fd ["script", "many"]
  g__law_draws : mg "_law_draws" = some (.ref (He.ga K "_law_draws"))
  F__law_prices : ∃ fd, Fun K "_law_prices" "_law_prices" s__law_prices (He.ga K "_law_prices") fd ∧ BA fd ["draw"]
  g__law_prices : mg "_law_prices" = some (.ref (He.ga K "_law_prices"))
  F__law_ahead : ∃ fd, Fun K "_law_ahead" "_law_ahead" s__law_ahead (He.ga K "_law_ahead") fd ∧ BA fd ["old", "new", "prices"]
  g__law_ahead : mg "_law_ahead" = some (.ref (He.ga K "_law_ahead"))
  F__law_put : ∃ fd, Fun K "_law_put" "_law_put" s__law_put (He.ga K "_law_put") fd ∧ BA fd ["levels", "row", "place", "item"]
  g__law_put : mg "_law_put" = some (.ref (He.ga K "_law_put"))
  F__law_bent : ∃ fd, Fun K "_law_bent" "_law_bent" s__law_bent (He.ga K "_law_bent") fd ∧ BA fd ["draws", "due"]
  g__law_bent : mg "_law_bent" = some (.ref (He.ga K "_law_bent"))
  F__law_text : ∃ fd, Fun K "_law_text" "_law_text" s__law_text (He.ga K "_law_text") fd ∧ BA fd ["draws", "most", "kinds"]
  g__law_text : mg "_law_text" = some (.ref (He.ga K "_law_text"))
  F__law_due : ∃ fd, Fun K "_law_due" "_law_due" s__law_due (He.ga K "_law_due") fd ∧ BA fd ["old", "new", "prices", "levels"]
  g__law_due : mg "_law_due" = some (.ref (He.ga K "_law_due"))
  F_is_line : ∃ fd, Fun K "is_line" "is_line" s_is_line (He.ga K "is_line") fd ∧ BA fd ["value"]
  g_is_line : mg "is_line" = some (.ref (He.ga K "is_line"))
  F_is_text : ∃ fd, Fun K "is_text" "is_text" s_is_text (He.ga K "is_text") fd ∧ BA fd ["value"]
  g_is_text : mg "is_text" = some (.ref (He.ga K "is_text"))
  F_check_short : ∃ fd, Fun K "check_short" "check_short" s_check_short (He.ga K "check_short") fd ∧ BA fd ["values"]
  g_check_short : mg "check_short" = some (.ref (He.ga K "check_short"))
  F__is_price : ∃ fd, Fun K "_is_price" "_is_price" s__is_price (He.ga K "_is_price") fd ∧ BA fd ["value"]
  g__is_price : mg "_is_price" = some (.ref (He.ga K "_is_price"))
  F_check_prices : ∃ fd, Fun K "check_prices" "check_prices" s_check_prices (He.ga K "check_prices") fd ∧ BA fd ["value"]
  g_check_prices : mg "check_prices" = some (.ref (He.ga K "check_prices"))
  F__are_levels : ∃ fd, Fun K "_are_levels" "_are_levels" s__are_levels (He.ga K "_are_levels") fd ∧ BA fd ["old", "new", "value"]
  g__are_levels : mg "_are_levels" = some (.ref (He.ga K "_are_levels"))
  F_step : ∃ fd, Fun K "step" "step" s_step (He.ga K "step") fd ∧ BA fd ["sign"]
  g_step : mg "step" = some (.ref (He.ga K "step"))
  F_price_of : ∃ fd, Fun K "price_of" "price_of" s_price_of (He.ga K "price_of") fd ∧ BA fd ["prices", "sign"]
  g_price_of : mg "price_of" = some (.ref (He.ga K "price_of"))
  F_can_be : ∃ fd, Fun K "can_be" "can_be" s_can_be (He.ga K "can_be") fd ∧ BA fd ["old", "new", "here", "sign"]
  g_can_be : mg "can_be" = some (.ref (He.ga K "can_be"))
  F_levels_fault : ∃ fd, Fun K "levels_fault" "levels_fault" s_levels_fault (He.ga K "levels_fault") fd ∧ BA fd ["old", "new", "prices", "levels"]
  g_levels_fault : mg "levels_fault" = some (.ref (He.ga K "levels_fault"))
  F_law : ∃ fd, Fun K "law" "law" s_law (He.ga K "law") fd ∧ BA fd ["script"]
  g_law : mg "law" = some (.ref (He.ga K "law"))
  z_abs : mg "abs" = none
  z_int : mg "int" = none
  z_range : mg "range" = none
  z_len : mg "len" = none
  z_min : mg "min" = none
  z_tuple : mg "tuple" = none
  z_list : mg "list" = none
  z_max : mg "max" = none
  z_isinstance : mg "isinstance" = none
  z_all : mg "all" = none
  z_bool : mg "bool" = none
  z_str : mg "str" = none
  z_any : mg "any" = none
  c_END : ∃ t, mg "END" = some (.str "\n" t)
  c_MOST_LINES : ∃ t, mg "MOST_LINES" = some (.int 60 t)
  c_MOST_PRICE : ∃ t, mg "MOST_PRICE" = some (.int 1000 t)
  c_OUT : ∃ t, mg "OUT" = some (.str "o" t)
  c_INTO : ∃ t, mg "INTO" = some (.str "i" t)
  c_EXCHANGE : ∃ t, mg "EXCHANGE" = some (.str "x" t)
  c_KEEP : ∃ t, mg "KEEP" = some (.str "k" t)
  c_FORM : ∃ t, mg "FORM" = some (.str "form" t)
  c_SIGNS : ∃ t, mg "SIGNS" = some (.str "kiox" t)
  e_BadText : mg "BadText" = some (.ref (He.ga K "BadText")) ∧ PySem.W.excIn K (He.ga K "BadText") He.veBase "ValueError.__new__" = true ∧ PySem.W.keepIn K (.ref (He.ga K "BadText")) = true ∧ PySem.W.subIn K (.ref (He.ga K "BadText")) (.type "BaseException") = some true ∧ PySem.W.typeIn K (.ref (He.ga K "BadText")) = some (.type "type")
  e_BadPrices : mg "BadPrices" = some (.ref (He.ga K "BadPrices")) ∧ PySem.W.excIn K (He.ga K "BadPrices") He.veBase "ValueError.__new__" = true ∧ PySem.W.keepIn K (.ref (He.ga K "BadPrices")) = true ∧ PySem.W.subIn K (.ref (He.ga K "BadPrices")) (.type "BaseException") = some true ∧ PySem.W.typeIn K (.ref (He.ga K "BadPrices")) = some (.type "type")
section
variable {P : Program} {w : World} {K : PySem.W.Frag} {mg : Str → Option Value}
theorem ok__law_draws (T : Txt K mg) : ∃ fd, (∀ base : Heap, FnOk P w K mg base (L2.CX P w) 1 (He.ga K "_law_draws") fd ["script", "many"] (Spec K mg 2 0 C__law_draws)) ∧ BA fd ["script", "many"] ∧ PySem.W.keepIn K (.ref (He.ga K "_law_draws")) = true := by
  obtain ⟨fd, F, b⟩ := T.F__law_draws
  exact ⟨fd, fun base => fn_ok (N := n__law_draws) (nN := 7) (k := 0) (kr := 0) (L := [0, 0, 0, 0, 0, 0, 0]) (L' := [0, 0, 0, 0, 0, 0, 0]) (FF := F__law_draws) F sc__law_draws rfl rfl rfl rfl fun cdv A outer s H E hr => ((sjs_cons (L1 := [0, 0, 1, 0, 0, 0, 0]) (sj_set (i := 2) (k := 1) sc__law_draws.nd rfl (.inl (by kernel_rfl)) (eo_nil) (by decide) rfl (.inl rfl))
  (sjs_cons (L1 := [0, 0, 1, 0, 0, 0, 0]) (sj_set (i := 3) (k := 0) sc__law_draws.nd rfl (.inl (by kernel_rfl)) eo_int (by decide) rfl (.inl rfl))
  (sjs_cons (L1 := [0, 0, 1, 0, 0, 0, 0]) (sj_for (passes_of rfl) rfl (ei_seq (EO.up (k := 1) (n := 0) (eo_sl (eb_var (n := 1) (i := 0) rfl (.inl (by kernel_rfl)) (by decide)) ep_none (ep_some (EO.up (k := 0) (n := 0) eo_int))))) (pg_name (i := 4) sc__law_draws.nd rfl (.inl (by kernel_rfl)) (.inl rfl)) (gs_name 4) (by decide)
  (sjs_cons (L1 := [0, 0, 1, 0, 0, 0, 0]) (sj_set (i := 5) (k := 0) sc__law_draws.nd rfl (.inl (by kernel_rfl)) (eo_callB c_abs fAbs_nx (gl_of (by kernel_rfl)) T.z_abs (by decide +kernel) (ea_cons (eb_var (n := 0) (i := 4) rfl (.inl (by kernel_rfl)) (by decide)) ea_nil)) (by decide) rfl (.inl rfl))
  (sjs_cons (L1 := [0, 0, 1, 0, 0, 0, 0]) (sj_set (i := 3) (k := 0) sc__law_draws.nd rfl (.inl (by kernel_rfl)) (eo_op o_mod dMod_nx (EO.up (k := 0) (n := 0) (eo_callTy c_int fInt_nx (gl_of (by kernel_rfl)) T.z_int (by decide +kernel) (ea_cons (EO.up (k := 1) (n := 0) (eo_op o_add dAdd_nx (EO.up (k := 1) (n := 1) (eo_op o_add dAdd_nx (EO.up (k := 0) (n := 1) (eo_op o_mul dMul_nx (eb_var (n := 0) (i := 3) rfl (.inl (by kernel_rfl)) (by decide)) (EO.up (k := 0) (n := 0) eo_int))) (eb_var (n := 1) (i := 5) rfl (.inl (by kernel_rfl)) (by decide)))) (EO.up (k := 0) (n := 1) eo_int))) ea_nil))) (EO.up (k := 0) (n := 0) eo_int)) (by decide) rfl (.inl rfl))
  (sjs_cons (L1 := [0, 0, 1, 0, 0, 0, 0]) (sj_if (et_cmp o_ge dCmpI_nx (eb_var (n := 0) (i := 5) rfl (.inl (by kernel_rfl)) (by decide)) (EO.up (k := 0) (n := 0) (eo_op o_pow dPow_nx (EO.up (k := 0) (n := 0) eo_int) (EO.up (k := 0) (n := 0) eo_int))) (nomark _)) (sjs_cons (L1 := [0, 0, 1, 0, 0, 0, 0]) (sj_for (passes_of rfl) rfl (ei_range1 (gl_of (by kernel_rfl)) T.z_range (ea_cons (EO.up (k := 0) (n := 0) eo_int) ea_nil)) (pg_name (i := 6) sc__law_draws.nd rfl (.inl (by kernel_rfl)) (.inl rfl)) (gs_name 6) (by decide)
  (sjs_cons (L1 := [0, 0, 1, 0, 0, 0, 0]) (sj_if (et_cmp o_gt dCmpI_nx (eb_var (n := 0) (i := 5) rfl (.inl (by kernel_rfl)) (by decide)) (EO.up (k := 0) (n := 0) eo_int) (nomark _)) (sjs_cons (L1 := [0, 0, 1, 0, 0, 0, 0]) (sj_append (i := 2) (k := 0) rfl (.inl (by kernel_rfl)) rfl (eo_op o_mod dMod_nx (EO.up (k := 0) (n := 0) (eo_callTy c_int fInt_nx (gl_of (by kernel_rfl)) T.z_int (by decide +kernel) (ea_cons (eb_var (n := 0) (i := 5) rfl (.inl (by kernel_rfl)) (by decide)) ea_nil))) (EO.up (k := 0) (n := 0) eo_int)))
  (sjs_one (sj_set (i := 5) (k := 0) sc__law_draws.nd rfl (.inl (by kernel_rfl)) (eo_op o_div dDiv_nx (eb_var (n := 0) (i := 5) rfl (.inl (by kernel_rfl)) (by decide)) (EO.up (k := 0) (n := 0) eo_int)) (by decide) rfl (.inl rfl)))) sjs_nil)
  (sjs_kill [6] sjs_nil)))
  (sjs_kill [5, 6] sjs_nil)) (sjs_one (sj_append (i := 2) (k := 0) rfl (.inl (by kernel_rfl)) rfl (eo_op o_mod dMod_nx (EO.up (k := 0) (n := 0) (eo_op o_div dDiv_nx (EO.up (k := 0) (n := 0) (eo_callTy c_int fInt_nx (gl_of (by kernel_rfl)) T.z_int (by decide +kernel) (ea_cons (EO.up (k := 1) (n := 0) (eo_op o_add dAdd_nx (EO.up (k := 0) (n := 1) (eo_op o_mul dMul_nx (eb_var (n := 0) (i := 3) rfl (.inl (by kernel_rfl)) (by decide)) (EO.up (k := 0) (n := 0) eo_int))) (EO.up (k := 0) (n := 1) eo_int))) ea_nil))) (EO.up (k := 0) (n := 0) eo_int))) (EO.up (k := 0) (n := 0) eo_int)))))
  (sjs_kill [4, 5, 6] sjs_nil)))))
  (sjs_kill [4, 5, 6] (sjs_cons (L1 := [0, 0, 1, 0, 0, 0, 0]) (sj_for (passes_of rfl) rfl (ei_range1 (gl_of (by kernel_rfl)) T.z_range (ea_cons (eb_var (n := 0) (i := 1) rfl (.inl (by kernel_rfl)) (by decide)) ea_nil)) (pg_name (i := 6) sc__law_draws.nd rfl (.inl (by kernel_rfl)) (.inl rfl)) (gs_name 6) (by decide)
  (sjs_cons (L1 := [0, 0, 1, 0, 0, 0, 0]) (sj_if (et_cmp o_lt dCmpI_nx (EO.up (k := 0) (n := 0) (eo_callB c_len fLen_nx (gl_of (by kernel_rfl)) T.z_len (by decide +kernel) (ea_cons (eb_var (n := 1) (i := 2) rfl (.inl (by kernel_rfl)) (by decide)) ea_nil))) (eb_var (n := 0) (i := 1) rfl (.inl (by kernel_rfl)) (by decide)) (nomark _)) (sjs_cons (L1 := [0, 0, 1, 0, 0, 0, 0]) (sj_set (i := 3) (k := 0) sc__law_draws.nd rfl (.inl (by kernel_rfl)) (eo_op o_mod dMod_nx (EO.up (k := 0) (n := 0) (eo_callTy c_int fInt_nx (gl_of (by kernel_rfl)) T.z_int (by decide +kernel) (ea_cons (EO.up (k := 1) (n := 0) (eo_op o_add dAdd_nx (EO.up (k := 1) (n := 1) (eo_op o_add dAdd_nx (EO.up (k := 0) (n := 1) (eo_op o_mul dMul_nx (eb_var (n := 0) (i := 3) rfl (.inl (by kernel_rfl)) (by decide)) (EO.up (k := 0) (n := 0) eo_int))) (eb_var (n := 1) (i := 6) rfl (.inl (by kernel_rfl)) (by decide)))) (EO.up (k := 0) (n := 1) eo_int))) ea_nil))) (EO.up (k := 0) (n := 0) eo_int)) (by decide) rfl (.inl rfl))
  (sjs_one (sj_append (i := 2) (k := 0) rfl (.inl (by kernel_rfl)) rfl (eo_op o_mod dMod_nx (EO.up (k := 0) (n := 0) (eo_op o_div dDiv_nx (EO.up (k := 0) (n := 0) (eo_callTy c_int fInt_nx (gl_of (by kernel_rfl)) T.z_int (by decide +kernel) (ea_cons (eb_var (n := 0) (i := 3) rfl (.inl (by kernel_rfl)) (by decide)) ea_nil))) (EO.up (k := 0) (n := 0) eo_int))) (EO.up (k := 0) (n := 0) eo_int))))) sjs_nil)
  (sjs_kill [6] sjs_nil)))
  (sjs_kill [3, 6] (sjs_one (sj_ret (EB.o (EO.b (k := 1) (eo_sl (eb_var (n := 1) (i := 2) rfl (.inl (by kernel_rfl)) (by decide)) ep_none (ep_some (eb_var (n := 0) (i := 1) rfl (.inl (by kernel_rfl)) (by decide))))))))))))))), b, F.kp⟩
theorem ok__law_prices (T : Txt K mg) : ∃ fd, (∀ base : Heap, FnOk P w K mg base (L2.CX P w) 1 (He.ga K "_law_prices") fd ["draw"] (Spec K mg 1 0 C__law_prices)) ∧ BA fd ["draw"] ∧ PySem.W.keepIn K (.ref (He.ga K "_law_prices")) = true := by
  obtain ⟨fd, F, b⟩ := T.F__law_prices
  exact ⟨fd, fun base => fn_ok (N := n__law_prices) (nN := 3) (k := 0) (kr := 0) (L := [0, 0, 0]) (L' := [0, 0, 0]) (FF := F__law_prices) F sc__law_prices rfl rfl rfl rfl fun cdv A outer s H E hr => ((sjs_cons (L1 := [0, 0, 0]) (sj_unp (pg_tup rfl (pgs_cons (pg_name (i := 1) sc__law_prices.nd rfl (.inl (by kernel_rfl)) (.inl rfl)) (pgs_cons (pg_name (i := 2) sc__law_prices.nd rfl (.inl (by kernel_rfl)) (.inl rfl)) pgs_nil))) (gs_tup [1, 2]) (eb_ix (EO.up (k := 1) (n := 1) (eo_lst (ea_cons (EO.up (k := 0) (n := 0) (eo_tup (ea_cons (EO.up (k := 0) (n := 0) eo_int) (ea_cons (EO.up (k := 0) (n := 0) eo_int) ea_nil)))) (ea_cons (EO.up (k := 0) (n := 0) (eo_tup (ea_cons (EO.up (k := 0) (n := 0) eo_int) (ea_cons (EO.up (k := 0) (n := 0) eo_int) ea_nil)))) (ea_cons (EO.up (k := 0) (n := 0) (eo_tup (ea_cons (EO.up (k := 0) (n := 0) eo_int) (ea_cons (EO.up (k := 0) (n := 0) eo_int) ea_nil)))) (ea_cons (EO.up (k := 0) (n := 0) (eo_tup (ea_cons (EO.up (k := 0) (n := 0) eo_int) (ea_cons (EO.up (k := 0) (n := 0) eo_int) ea_nil)))) (ea_cons (EO.up (k := 0) (n := 0) (eo_tup (ea_cons (EO.up (k := 0) (n := 0) eo_int) (ea_cons (EO.up (k := 0) (n := 0) eo_int) ea_nil)))) (ea_cons (EO.up (k := 0) (n := 0) (eo_tup (ea_cons (EO.up (k := 0) (n := 0) eo_int) (ea_cons (EO.up (k := 0) (n := 0) eo_int) ea_nil)))) ea_nil)))))))) (EO.up (k := 0) (n := 0) (eo_op o_mod dMod_nx (eb_var (n := 0) (i := 0) rfl (.inl (by kernel_rfl)) (by decide)) (EO.up (k := 0) (n := 0) eo_int)))) (by decide))
  (sjs_one (sj_ret (eo_tup (ea_cons (eb_var (n := 0) (i := 1) rfl (.inl (by kernel_rfl)) (by decide)) (ea_cons (eb_var (n := 0) (i := 2) rfl (.inl (by kernel_rfl)) (by decide)) (ea_cons (eb_ix (EO.up (k := 1) (n := 1) (eo_lst (ea_cons (EO.up (k := 0) (n := 0) eo_non) (ea_cons (EO.up (k := 0) (n := 0) eo_int) (ea_cons (EO.up (k := 1) (n := 0) (eo_op o_add dAdd_nx (eb_var (n := 1) (i := 1) rfl (.inl (by kernel_rfl)) (by decide)) (eb_var (n := 1) (i := 2) rfl (.inl (by kernel_rfl)) (by decide)))) (ea_cons (EO.up (k := 1) (n := 0) (eo_op o_add dAdd_nx (EO.up (k := 1) (n := 1) (eo_op o_add dAdd_nx (eb_var (n := 1) (i := 1) rfl (.inl (by kernel_rfl)) (by decide)) (eb_var (n := 1) (i := 2) rfl (.inl (by kernel_rfl)) (by decide)))) (EO.up (k := 0) (n := 1) eo_int))) (ea_cons (EO.up (k := 0) (n := 0) eo_int) (ea_cons (EO.up (k := 0) (n := 0) eo_int) ea_nil)))))))) (EO.up (k := 0) (n := 0) (eo_op o_mod dMod_nx (EO.up (k := 0) (n := 0) (eo_op o_div dDiv_nx (eb_var (n := 0) (i := 0) rfl (.inl (by kernel_rfl)) (by decide)) (EO.up (k := 0) (n := 0) eo_int))) (EO.up (k := 0) (n := 0) eo_int)))) ea_nil)))))))), b, F.kp⟩
theorem ok__law_ahead (T : Txt K mg) : ∃ fd, (∀ base : Heap, FnOk P w K mg base (L2.CX P w) 1 (He.ga K "_law_ahead") fd ["old", "new", "prices"] (Spec K mg 3 0 C__law_ahead)) ∧ BA fd ["old", "new", "prices"] ∧ PySem.W.keepIn K (.ref (He.ga K "_law_ahead")) = true := by
  obtain ⟨fd, F, b⟩ := T.F__law_ahead
  exact ⟨fd, fun base => fn_ok (N := n__law_ahead) (nN := 9) (k := 0) (kr := 0) (L := [0, 0, 0, 0, 0, 0, 0, 0, 0]) (L' := [0, 0, 0, 0, 0, 0, 0, 0, 0]) (FF := F__law_ahead) F sc__law_ahead rfl rfl rfl rfl fun cdv A outer s H E hr => ((sjs_cons (L1 := [0, 0, 0, 1, 0, 0, 0, 0, 0]) (sj_set (i := 3) (k := 1) sc__law_ahead.nd rfl (.inl (by kernel_rfl)) (eo_nil) (by decide) rfl (.inl rfl))
  (sjs_cons (L1 := [0, 0, 0, 1, 0, 0, 0, 0, 0]) (sj_for (passes_of rfl) rfl (ei_range1 (gl_of (by kernel_rfl)) T.z_range (ea_cons (EO.up (k := 1) (n := 0) (eo_op o_add dAdd_nx (EO.up (k := 0) (n := 1) (eo_callB c_len fLen_nx (gl_of (by kernel_rfl)) T.z_len (by decide +kernel) (ea_cons (eb_var (n := 1) (i := 0) rfl (.inl (by kernel_rfl)) (by decide)) ea_nil))) (EO.up (k := 0) (n := 1) eo_int))) ea_nil)) (pg_name (i := 4) sc__law_ahead.nd rfl (.inl (by kernel_rfl)) (.inl rfl)) (gs_name 4) (by decide)
  (sjs_cons (L1 := [0, 0, 0, 1, 0, 1, 0, 0, 0]) (sj_set (i := 5) (k := 1) sc__law_ahead.nd rfl (.inl (by kernel_rfl)) (eo_nil) (by decide) rfl (.inl rfl))
  (sjs_cons (L1 := [0, 0, 0, 1, 0, 1, 0, 0, 0]) (sj_for (passes_of rfl) rfl (ei_range1 (gl_of (by kernel_rfl)) T.z_range (ea_cons (EO.up (k := 1) (n := 0) (eo_op o_add dAdd_nx (EO.up (k := 0) (n := 1) (eo_callB c_len fLen_nx (gl_of (by kernel_rfl)) T.z_len (by decide +kernel) (ea_cons (eb_var (n := 1) (i := 1) rfl (.inl (by kernel_rfl)) (by decide)) ea_nil))) (EO.up (k := 0) (n := 1) eo_int))) ea_nil)) (pg_name (i := 6) sc__law_ahead.nd rfl (.inl (by kernel_rfl)) (.inl rfl)) (gs_name 6) (by decide)
  (sjs_cons (L1 := [0, 0, 0, 1, 0, 1, 0, 1, 0]) (sj_set (i := 7) (k := 1) sc__law_ahead.nd rfl (.inl (by kernel_rfl)) (eo_if (et_cmp (o_eq hr.units) dEq_nx (EO.up (k := 0) (n := 1) (eo_tup (ea_cons (eb_var (n := 0) (i := 4) rfl (.inl (by kernel_rfl)) (by decide)) (ea_cons (eb_var (n := 0) (i := 6) rfl (.inl (by kernel_rfl)) (by decide)) ea_nil)))) (EO.up (k := 0) (n := 1) (eo_tup (ea_cons (EO.up (k := 0) (n := 0) eo_int) (ea_cons (EO.up (k := 0) (n := 0) eo_int) ea_nil)))) (nomark _)) (eo_lst (ea_cons (EO.up (k := 0) (n := 0) eo_int) ea_nil)) (eo_nil)) (by decide) rfl (.inl rfl))
  (sjs_cons (L1 := [0, 0, 0, 1, 0, 1, 0, 1, 0]) (sj_if (et_cmp o_gt dCmpI_nx (eb_var (n := 0) (i := 4) rfl (.inl (by kernel_rfl)) (by decide)) (EO.up (k := 0) (n := 0) eo_int) (nomark _)) (sjs_one (sj_append (i := 7) (k := 0) rfl (.inl (by kernel_rfl)) rfl (EB.o (EO.b (k := 1) (eo_op o_add dAdd_nx (eb_ix (eb_ix (eb_var (n := 3) (i := 3) rfl (.inl (by kernel_rfl)) (by decide)) (EO.up (k := 0) (n := 0) (eo_op o_sub dSub_nx (eb_var (n := 0) (i := 4) rfl (.inl (by kernel_rfl)) (by decide)) (EO.up (k := 0) (n := 0) eo_int)))) (eb_var (n := 0) (i := 6) rfl (.inl (by kernel_rfl)) (by decide))) (eb_ix (eb_var (n := 2) (i := 2) rfl (.inl (by kernel_rfl)) (by decide)) (EO.up (k := 0) (n := 0) eo_int))))))) sjs_nil)
  (sjs_cons (L1 := [0, 0, 0, 1, 0, 1, 0, 1, 0]) (sj_if (et_cmp o_gt dCmpI_nx (eb_var (n := 0) (i := 6) rfl (.inl (by kernel_rfl)) (by decide)) (EO.up (k := 0) (n := 0) eo_int) (nomark _)) (sjs_one (sj_append (i := 7) (k := 0) rfl (.inl (by kernel_rfl)) rfl (EB.o (EO.b (k := 1) (eo_op o_add dAdd_nx (eb_ix (eb_var (n := 2) (i := 5) rfl (.inl (by kernel_rfl)) (by decide)) (EO.up (k := 0) (n := 0) (eo_op o_sub dSub_nx (eb_var (n := 0) (i := 6) rfl (.inl (by kernel_rfl)) (by decide)) (EO.up (k := 0) (n := 0) eo_int)))) (eb_ix (eb_var (n := 2) (i := 2) rfl (.inl (by kernel_rfl)) (by decide)) (EO.up (k := 0) (n := 0) eo_int))))))) sjs_nil)
  (sjs_cons (L1 := [0, 0, 0, 1, 0, 1, 0, 1, 0]) (sj_if (et_w (ew_and (et_cmp o_gt dCmpI_nx (eb_var (n := 0) (i := 4) rfl (.inl (by kernel_rfl)) (by decide)) (EO.up (k := 0) (n := 0) eo_int) (nomark _)) (ew_and1 (et_cmp o_gt dCmpI_nx (eb_var (n := 0) (i := 6) rfl (.inl (by kernel_rfl)) (by decide)) (EO.up (k := 0) (n := 0) eo_int) (nomark _))))) (sjs_cons (L1 := [0, 0, 0, 1, 0, 1, 0, 1, 0]) (sj_set (i := 8) (k := 0) sc__law_ahead.nd rfl (.inl (by kernel_rfl)) (eo_cmp (o_eq hr.units) dEq_nx (eb_ix (eb_var (n := 2) (i := 0) rfl (.inl (by kernel_rfl)) (by decide)) (EO.up (k := 0) (n := 0) (eo_op o_sub dSub_nx (eb_var (n := 0) (i := 4) rfl (.inl (by kernel_rfl)) (by decide)) (EO.up (k := 0) (n := 0) eo_int)))) (eb_ix (eb_var (n := 2) (i := 1) rfl (.inl (by kernel_rfl)) (by decide)) (EO.up (k := 0) (n := 0) (eo_op o_sub dSub_nx (eb_var (n := 0) (i := 6) rfl (.inl (by kernel_rfl)) (by decide)) (EO.up (k := 0) (n := 0) eo_int)))) (nomark _)) (by decide) rfl (.inl rfl))
  (sjs_one (sj_if (et_w (ew_or (et_val (eb_var (n := 1) (i := 8) rfl (.inl (by kernel_rfl)) (by decide))) (ew_or1 (et_cmp o_isNot dIsNot_nx (eb_ix (eb_var (n := 2) (i := 2) rfl (.inl (by kernel_rfl)) (by decide)) (EO.up (k := 0) (n := 0) eo_int)) (EO.up (k := 0) (n := 1) eo_non) (nomark _))))) (sjs_one (sj_append (i := 7) (k := 0) rfl (.inl (by kernel_rfl)) rfl (EB.o (EO.b (k := 1) (eo_op o_add dAdd_nx (eb_ix (eb_ix (eb_var (n := 3) (i := 3) rfl (.inl (by kernel_rfl)) (by decide)) (EO.up (k := 0) (n := 0) (eo_op o_sub dSub_nx (eb_var (n := 0) (i := 4) rfl (.inl (by kernel_rfl)) (by decide)) (EO.up (k := 0) (n := 0) eo_int)))) (EO.up (k := 0) (n := 0) (eo_op o_sub dSub_nx (eb_var (n := 0) (i := 6) rfl (.inl (by kernel_rfl)) (by decide)) (EO.up (k := 0) (n := 0) eo_int)))) (eb_if (et_val (eb_var (n := 1) (i := 8) rfl (.inl (by kernel_rfl)) (by decide))) (EO.up (k := 0) (n := 1) eo_int) (eb_ix (eb_var (n := 2) (i := 2) rfl (.inl (by kernel_rfl)) (by decide)) (EO.up (k := 0) (n := 0) eo_int)))))))) sjs_nil))) sjs_nil)
  (sjs_cons (L1 := [0, 0, 0, 1, 0, 1, 0, 1, 0]) (sj_append (i := 5) (k := 0) rfl (.inl (by kernel_rfl)) rfl (eo_callB (c_min rfl hr.hd hr.units) fMin_nx (gl_of (by kernel_rfl)) T.z_min (by decide +kernel) (ea_cons (eb_var (n := 1) (i := 7) rfl (.inl (by kernel_rfl)) (by decide)) ea_nil)))
  (sjs_kill [6, 7, 8] (sjs_drop 7 sjs_nil))))))))
  (sjs_kill [6, 7, 8] (sjs_drop 5 (sjs_cons (L1 := [0, 0, 0, 1, 0, 0, 0, 0, 0]) (sj_append (i := 3) (k := 0) rfl (.inl (by kernel_rfl)) rfl (EB.o (eb_var (n := 0) (i := 5) rfl (.inl (by kernel_rfl)) (by decide))))
  (sjs_kill [4, 6, 7, 8] sjs_nil)))))))
  (sjs_kill [4, 6, 7, 8] (sjs_one (sj_ret (eo_callTy c_tuple fTuple_nx (gl_of (by kernel_rfl)) T.z_tuple (by decide +kernel) (ea_cons (EO.up (k := 1) (n := 1) (eo_lc (own := [("line", 5)]) rfl sc__law_ahead.nd (ei_seq (eb_var (n := 1) (i := 3) rfl (.inl (by kernel_rfl)) (by decide))) (blkOk_by (by kernel_rfl)) (fun _ _ _ _ _ => (pg_name (i := 5) sc__law_ahead.nd rfl (.inl (by kernel_rfl)) (.inr (by kernel_rfl)))) (fun _ _ _ _ _ => ets_nil) (fun _ _ _ _ _ => (eo_callTy c_tuple fTuple_nx (gl_of (by kernel_rfl)) T.z_tuple (by decide +kernel) (ea_cons (eb_var (n := 1) (i := 5) rfl (.inl (by kernel_rfl)) (by decide)) ea_nil))) (gs_name 5) (by decide) (by decide))) ea_nil)))))))), b, F.kp⟩
theorem ok__law_put (T : Txt K mg) : ∃ fd, (∀ base : Heap, FnOk P w K mg base (L2.CX P w) 1 (He.ga K "_law_put") fd ["levels", "row", "place", "item"] (Spec K mg 4 0 C__law_put)) ∧ BA fd ["levels", "row", "place", "item"] ∧ PySem.W.keepIn K (.ref (He.ga K "_law_put")) = true := by
  obtain ⟨fd, F, b⟩ := T.F__law_put
  exact ⟨fd, fun base => fn_ok (N := n__law_put) (nN := 5) (k := 0) (kr := 0) (L := [0, 0, 0, 0, 0]) (L' := [0, 0, 0, 0, 0]) (FF := F__law_put) F sc__law_put rfl rfl rfl rfl fun cdv A outer s H E hr => ((sjs_cons (L1 := [0, 0, 0, 0, 0]) (sj_set (i := 4) (k := 0) sc__law_put.nd rfl (.inl (by kernel_rfl)) (EB.o (eb_ix (eb_var (n := 1) (i := 0) rfl (.inl (by kernel_rfl)) (by decide)) (eb_var (n := 0) (i := 1) rfl (.inl (by kernel_rfl)) (by decide)))) (by decide) rfl (.inl rfl))
  (sjs_one (sj_ret (EB.o (EO.b (k := 1) (eo_op o_add dAdd_nx (EO.up (k := 1) (n := 1) (eo_op o_add dAdd_nx (EO.up (k := 1) (n := 1) (eo_sl (eb_var (n := 1) (i := 0) rfl (.inl (by kernel_rfl)) (by decide)) ep_none (ep_some (eb_var (n := 0) (i := 1) rfl (.inl (by kernel_rfl)) (by decide))))) (EO.up (k := 0) (n := 1) (eo_tup (ea_cons (EO.up (k := 1) (n := 0) (eo_op o_add dAdd_nx (EO.up (k := 1) (n := 1) (eo_op o_add dAdd_nx (EO.up (k := 1) (n := 1) (eo_sl (eb_var (n := 1) (i := 4) rfl (.inl (by kernel_rfl)) (by decide)) ep_none (ep_some (eb_var (n := 0) (i := 2) rfl (.inl (by kernel_rfl)) (by decide))))) (EO.up (k := 0) (n := 1) (eo_tup (ea_cons (eb_var (n := 0) (i := 3) rfl (.inl (by kernel_rfl)) (by decide)) ea_nil))))) (EO.up (k := 1) (n := 1) (eo_sl (eb_var (n := 1) (i := 4) rfl (.inl (by kernel_rfl)) (by decide)) (ep_some (EO.up (k := 1) (n := 0) (eo_op o_add dAdd_nx (eb_var (n := 1) (i := 2) rfl (.inl (by kernel_rfl)) (by decide)) (EO.up (k := 0) (n := 1) eo_int)))) ep_none)))) ea_nil))))) (EO.up (k := 1) (n := 1) (eo_sl (eb_var (n := 1) (i := 0) rfl (.inl (by kernel_rfl)) (by decide)) (ep_some (EO.up (k := 1) (n := 0) (eo_op o_add dAdd_nx (eb_var (n := 1) (i := 1) rfl (.inl (by kernel_rfl)) (by decide)) (EO.up (k := 0) (n := 1) eo_int)))) ep_none))))))))), b, F.kp⟩
theorem ok__law_bent (T : Txt K mg) : ∃ fd, (∀ base : Heap, FnOk P w K mg base (L2.CX P w) 2 (He.ga K "_law_bent") fd ["draws", "due"] (Spec K mg 2 0 C__law_bent)) ∧ BA fd ["draws", "due"] ∧ PySem.W.keepIn K (.ref (He.ga K "_law_bent")) = true := by
  obtain ⟨fd, F, b⟩ := T.F__law_bent
  obtain ⟨fd__law_put, G__law_put, b__law_put, k__law_put⟩ := ok__law_put (P := P) (w := w) T
  exact ⟨fd, fun base => fn_ok (N := n__law_bent) (nN := 10) (k := 1) (kr := 0) (L := [0, 0, 0, 0, 0, 0, 0, 0, 0, 0]) (L' := [0, 0, 0, 0, 0, 0, 0, 0, 0, 0]) (FF := F__law_bent) F sc__law_bent rfl rfl rfl rfl fun cdv A outer s H E hr => ((sjs_cons (L1 := [0, 0, 0, 0, 0, 0, 0, 0, 0, 0]) (sj_parT (is := [2, 3]) (ks := [0, 0]) (pg_tup rfl (pgs_cons (pg_name (i := 2) sc__law_bent.nd rfl (.inr (by kernel_rfl)) (.inl rfl)) (pgs_cons (pg_name (i := 3) sc__law_bent.nd rfl (.inl (by kernel_rfl)) (.inl rfl)) pgs_nil))) (eas_cons (k := 0) (eo_op o_mod dMod_nx (EO.up (k := 0) (n := 0) (eo_callTy c_int fInt_nx (gl_of (by kernel_rfl)) T.z_int (by decide +kernel) (ea_cons (eb_ix (eb_var (n := 1) (i := 0) rfl (.inl (by kernel_rfl)) (by decide)) (EO.up (k := 0) (n := 0) eo_int)) ea_nil))) (EO.up (k := 0) (n := 0) (eo_callB c_len fLen_nx (gl_of (by kernel_rfl)) T.z_len (by decide +kernel) (ea_cons (eb_var (n := 1) (i := 1) rfl (.inr (.inl (by kernel_rfl))) (by decide)) ea_nil)))) (eas_cons (k := 0) (eo_op o_mod dMod_nx (EO.up (k := 0) (n := 0) (eo_callTy c_int fInt_nx (gl_of (by kernel_rfl)) T.z_int (by decide +kernel) (ea_cons (eb_ix (eb_var (n := 1) (i := 0) rfl (.inl (by kernel_rfl)) (by decide)) (EO.up (k := 0) (n := 0) eo_int)) ea_nil))) (EO.up (k := 0) (n := 0) (eo_callB c_len fLen_nx (gl_of (by kernel_rfl)) T.z_len (by decide +kernel) (ea_cons (eb_ix (eb_var (n := 2) (i := 1) rfl (.inr (.inl (by kernel_rfl))) (by decide)) (EO.up (k := 0) (n := 0) eo_int)) ea_nil)))) eas_nil)) (by decide) (by decide))
  (sjs_cons (L1 := [0, 0, 0, 0, 1, 0, 0, 0, 0, 0]) (sj_set (i := 4) (k := 1) sc__law_bent.nd rfl (.inl (by kernel_rfl)) (eo_lst (ea_cons (eb_var (n := 0) (i := 1) rfl (.inr (.inl (by kernel_rfl))) (by decide)) (ea_cons (EO.up (k := 1) (n := 0) (eo_callTy c_list fList_nx (gl_of (by kernel_rfl)) T.z_list (by decide +kernel) (ea_cons (eb_var (n := 1) (i := 1) rfl (.inr (.inl (by kernel_rfl))) (by decide)) ea_nil))) (ea_cons (EO.up (k := 0) (n := 0) eo_non) (ea_cons (EO.up (k := 0) (n := 0) eo_int) (ea_cons (EO.up (k := 0) (n := 0) (eo_tup ea_nil)) (ea_cons (EO.up (k := 1) (n := 0) (eo_sl (eb_var (n := 1) (i := 1) rfl (.inr (.inl (by kernel_rfl))) (by decide)) (ep_some (EO.up (k := 0) (n := 0) eo_int)) ep_none)) (ea_cons (EO.up (k := 1) (n := 0) (eo_op o_add dAdd_nx (eb_var (n := 1) (i := 1) rfl (.inr (.inl (by kernel_rfl))) (by decide)) (EO.up (k := 1) (n := 1) (eo_sl (eb_var (n := 1) (i := 1) rfl (.inr (.inl (by kernel_rfl))) (by decide)) ep_none (ep_some (EO.up (k := 0) (n := 0) eo_int)))))) (ea_cons (EO.up (k := 1) (n := 0) (eo_rev (eb_var (n := 1) (i := 1) rfl (.inr (.inl (by kernel_rfl))) (by decide)))) (ea_cons (EO.up (k := 0) (n := 0) (eo_callTy c_tuple fTuple_nx (gl_of (by kernel_rfl)) T.z_tuple (by decide +kernel) (ea_cons (EO.up (k := 1) (n := 1) (eo_lc (own := [("line", 8)]) rfl sc__law_bent.nd (ei_seq (eb_var (n := 1) (i := 1) rfl (.inr (.inl (by kernel_rfl))) (by decide))) (blkOk_by (by kernel_rfl)) (fun _ _ _ _ _ => (pg_name (i := 8) sc__law_bent.nd rfl (.inl (by kernel_rfl)) (.inr (by kernel_rfl)))) (fun _ _ _ _ _ => ets_nil) (fun _ _ _ _ _ => (EB.o (EO.b (k := 1) (eo_sl (eb_var (n := 1) (i := 8) rfl (.inl (by kernel_rfl)) (by decide)) (ep_some (EO.up (k := 0) (n := 0) eo_int)) ep_none)))) (gs_name 8) (by decide) (by decide))) ea_nil))) (ea_cons (EO.up (k := 0) (n := 0) (eo_callTy c_tuple fTuple_nx (gl_of (by kernel_rfl)) T.z_tuple (by decide +kernel) (ea_cons (EO.up (k := 1) (n := 1) (eo_lc (own := [("line", 8)]) rfl sc__law_bent.nd (ei_seq (eb_var (n := 1) (i := 1) rfl (.inr (.inl (by kernel_rfl))) (by decide))) (blkOk_by (by kernel_rfl)) (fun _ _ _ _ _ => (pg_name (i := 8) sc__law_bent.nd rfl (.inl (by kernel_rfl)) (.inr (by kernel_rfl)))) (fun _ _ _ _ _ => ets_nil) (fun _ _ _ _ _ => (EB.o (EO.b (k := 1) (eo_op o_add dAdd_nx (eb_var (n := 1) (i := 8) rfl (.inl (by kernel_rfl)) (by decide)) (EO.up (k := 0) (n := 1) (eo_tup (ea_cons (EO.up (k := 0) (n := 0) eo_int) ea_nil))))))) (gs_name 8) (by decide) (by decide))) ea_nil))) (ea_cons (EO.up (k := 0) (n := 0) (eo_callTy c_tuple fTuple_nx (gl_of (by kernel_rfl)) T.z_tuple (by decide +kernel) (ea_cons (EO.up (k := 1) (n := 1) (eo_lc (own := [("line", 8)]) rfl sc__law_bent.nd (ei_seq (eb_var (n := 1) (i := 1) rfl (.inr (.inl (by kernel_rfl))) (by decide))) (blkOk_by (by kernel_rfl)) (fun _ _ _ _ _ => (pg_name (i := 8) sc__law_bent.nd rfl (.inl (by kernel_rfl)) (.inr (by kernel_rfl)))) (fun _ _ _ _ _ => ets_nil) (fun _ _ _ _ _ => (EB.o (EO.b (k := 1) (eo_rev (eb_var (n := 1) (i := 8) rfl (.inl (by kernel_rfl)) (by decide)))))) (gs_name 8) (by decide) (by decide))) ea_nil))) ea_nil)))))))))))) (by decide) rfl (.inl rfl))
  (sjs_cons (L1 := [0, 0, 0, 0, 1, 0, 0, 0, 0, 0]) (sj_for (passes_of rfl) rfl (ei_range1 (gl_of (by kernel_rfl)) T.z_range (ea_cons (EO.up (k := 0) (n := 0) eo_int) ea_nil)) (pg_name (i := 5) sc__law_bent.nd rfl (.inr (by kernel_rfl)) (.inl rfl)) (gs_name 5) (by decide)
  (sjs_cons (L1 := [0, 0, 0, 0, 1, 0, 0, 0, 0, 0]) (sj_append (i := 4) (k := 0) rfl (.inl (by kernel_rfl)) rfl (eo_callTy c_tuple fTuple_nx (gl_of (by kernel_rfl)) T.z_tuple (by decide +kernel) (ea_cons (EO.up (k := 1) (n := 1) (eo_lc (own := [("line", 8)]) rfl sc__law_bent.nd (ei_seq (eb_var (n := 1) (i := 1) rfl (.inr (.inl (by kernel_rfl))) (by decide))) (blkOk_by (by kernel_rfl)) (fun _ _ _ _ _ => (pg_name (i := 8) sc__law_bent.nd rfl (.inl (by kernel_rfl)) (.inr (by kernel_rfl)))) (fun _ _ _ _ _ => ets_nil) (fun _ _ _ _ _ => (eo_callTy c_tuple fTuple_nx (gl_of (by kernel_rfl)) T.z_tuple (by decide +kernel) (ea_cons (EO.up (k := 1) (n := 1) (eo_lc (own := [("one", 9)]) rfl sc__law_bent.nd (ei_seq (eb_var (n := 1) (i := 8) rfl (.inl (by kernel_rfl)) (by decide))) (blkOk_by (by kernel_rfl)) (fun _ _ _ _ _ => (pg_name (i := 9) sc__law_bent.nd rfl (.inl (by kernel_rfl)) (.inr (by kernel_rfl)))) (fun _ _ _ _ _ => ets_nil) (fun _ _ _ _ _ => (eo_callB (c_min rfl hr.hd hr.units) fMin_nx (gl_of (by kernel_rfl)) T.z_min (by decide +kernel) (ea_cons (eb_var (n := 1) (i := 5) rfl (.inr (.inl (by kernel_rfl))) (by decide)) (ea_cons (eb_var (n := 1) (i := 9) rfl (.inl (by kernel_rfl)) (by decide)) ea_nil)))) (gs_name 9) (by decide) (by decide))) ea_nil))) (gs_name 8) (by decide) (by decide))) ea_nil)))
  (sjs_kill [5] sjs_nil)))
  (sjs_kill [5] (sjs_cons (L1 := [0, 0, 0, 0, 1, 0, 0, 0, 0, 0]) (sj_append (i := 4) (k := 0) rfl (.inl (by kernel_rfl)) rfl (eo_callTy c_tuple fTuple_nx (gl_of (by kernel_rfl)) T.z_tuple (by decide +kernel) (ea_cons (EO.up (k := 1) (n := 1) (eo_lc (own := [("line", 8)]) rfl sc__law_bent.nd (ei_seq (eb_var (n := 1) (i := 1) rfl (.inr (.inl (by kernel_rfl))) (by decide))) (blkOk_by (by kernel_rfl)) (fun _ _ _ _ _ => (pg_name (i := 8) sc__law_bent.nd rfl (.inl (by kernel_rfl)) (.inr (by kernel_rfl)))) (fun _ _ _ _ _ => ets_nil) (fun _ _ _ _ _ => (eo_callTy c_tuple fTuple_nx (gl_of (by kernel_rfl)) T.z_tuple (by decide +kernel) (ea_cons (EO.up (k := 1) (n := 1) (eo_lc (own := [("one", 9)]) rfl sc__law_bent.nd (ei_seq (eb_var (n := 1) (i := 8) rfl (.inl (by kernel_rfl)) (by decide))) (blkOk_by (by kernel_rfl)) (fun _ _ _ _ _ => (pg_name (i := 9) sc__law_bent.nd rfl (.inl (by kernel_rfl)) (.inr (by kernel_rfl)))) (fun _ _ _ _ _ => ets_nil) (fun _ _ _ _ _ => (eo_op o_div dDiv_nx (eb_var (n := 0) (i := 9) rfl (.inl (by kernel_rfl)) (by decide)) (EO.up (k := 0) (n := 0) eo_int))) (gs_name 9) (by decide) (by decide))) ea_nil))) (gs_name 8) (by decide) (by decide))) ea_nil)))
  (sjs_cons (L1 := [0, 0, 0, 0, 1, 0, 0, 0, 0, 0]) (sj_append (i := 4) (k := 0) rfl (.inl (by kernel_rfl)) rfl (eo_callTy c_tuple fTuple_nx (gl_of (by kernel_rfl)) T.z_tuple (by decide +kernel) (ea_cons (EO.up (k := 1) (n := 1) (eo_lc (own := [("line", 8)]) rfl sc__law_bent.nd (ei_seq (eb_var (n := 1) (i := 1) rfl (.inr (.inl (by kernel_rfl))) (by decide))) (blkOk_by (by kernel_rfl)) (fun _ _ _ _ _ => (pg_name (i := 8) sc__law_bent.nd rfl (.inl (by kernel_rfl)) (.inr (by kernel_rfl)))) (fun _ _ _ _ _ => ets_nil) (fun _ _ _ _ _ => (eo_callTy c_tuple fTuple_nx (gl_of (by kernel_rfl)) T.z_tuple (by decide +kernel) (ea_cons (EO.up (k := 1) (n := 1) (eo_lc (own := [("one", 9)]) rfl sc__law_bent.nd (ei_seq (eb_var (n := 1) (i := 8) rfl (.inl (by kernel_rfl)) (by decide))) (blkOk_by (by kernel_rfl)) (fun _ _ _ _ _ => (pg_name (i := 9) sc__law_bent.nd rfl (.inl (by kernel_rfl)) (.inr (by kernel_rfl)))) (fun _ _ _ _ _ => ets_nil) (fun _ _ _ _ _ => (EB.o (EO.b (k := 1) (eo_op o_add dAdd_nx (eb_var (n := 1) (i := 9) rfl (.inl (by kernel_rfl)) (by decide)) (EO.up (k := 0) (n := 1) eo_int))))) (gs_name 9) (by decide) (by decide))) ea_nil))) (gs_name 8) (by decide) (by decide))) ea_nil)))
  (sjs_cons (L1 := [0, 0, 0, 0, 1, 0, 0, 0, 0, 0]) (sj_for (passes_of rfl) rfl (ei_seq (EO.up (k := 1) (n := 0) (eo_lst (ea_cons (EO.up (k := 1) (n := 0) (eo_op o_add dAdd_nx (eb_ix (eb_ix (eb_var (n := 3) (i := 1) rfl (.inr (.inl (by kernel_rfl))) (by decide)) (eb_var (n := 0) (i := 2) rfl (.inr (.inl (by kernel_rfl))) (by decide))) (eb_var (n := 0) (i := 3) rfl (.inl (by kernel_rfl)) (by decide))) (EO.up (k := 0) (n := 1) eo_int))) (ea_cons (EO.up (k := 0) (n := 0) (eo_callB (c_max rfl hr.hd hr.units) fMax_nx (gl_of (by kernel_rfl)) T.z_max (by decide +kernel) (ea_cons (EO.up (k := 0) (n := 1) eo_int) (ea_cons (EO.up (k := 0) (n := 1) (eo_op o_sub dSub_nx (eb_ix (eb_ix (eb_var (n := 2) (i := 1) rfl (.inr (.inl (by kernel_rfl))) (by decide)) (eb_var (n := 0) (i := 2) rfl (.inr (.inl (by kernel_rfl))) (by decide))) (eb_var (n := 0) (i := 3) rfl (.inl (by kernel_rfl)) (by decide))) (EO.up (k := 0) (n := 0) eo_int))) ea_nil)))) (ea_cons (EO.up (k := 0) (n := 0) eo_int) (ea_cons (EO.up (k := 0) (n := 0) (eo_op o_pow dPow_nx (EO.up (k := 0) (n := 0) eo_int) (EO.up (k := 0) (n := 0) eo_int))) (ea_cons (EO.up (k := 0) (n := 0) (eo_un o_neg dNeg_nx (EO.up (k := 0) (n := 0) eo_int))) (ea_cons (EO.up (k := 0) (n := 0) eo_bl) (ea_cons (EO.up (k := 0) (n := 0) eo_non) (ea_cons (EO.up (k := 0) (n := 0) eo_str) (ea_cons (EO.up (k := 0) (n := 0) (eo_tup (ea_cons (EO.up (k := 0) (n := 0) eo_int) ea_nil))) ea_nil)))))))))))) (pg_name (i := 6) sc__law_bent.nd rfl (.inl (by kernel_rfl)) (.inl rfl)) (gs_name 6) (by decide)
  (sjs_cons (L1 := [0, 0, 0, 0, 1, 0, 0, 0, 0, 0]) (sj_append (i := 4) (k := 0) rfl (.inl (by kernel_rfl)) rfl (eo_call (G__law_put base) (hr.mono (by decide)) (gl_of (by kernel_rfl)) T.g__law_put k__law_put b__law_put.b (takes_of rfl rfl rfl rfl) (ea_cons (eb_var (n := 0) (i := 1) rfl (.inr (.inl (by kernel_rfl))) (by decide)) (ea_cons (eb_var (n := 0) (i := 2) rfl (.inr (.inl (by kernel_rfl))) (by decide)) (ea_cons (eb_var (n := 0) (i := 3) rfl (.inl (by kernel_rfl)) (by decide)) (ea_cons (eb_var (n := 0) (i := 6) rfl (.inl (by kernel_rfl)) (by decide)) ea_nil))))))
  (sjs_kill [6] sjs_nil)))
  (sjs_kill [6] (sjs_cons (L1 := [0, 0, 0, 0, 1, 0, 0, 0, 0, 0]) (sj_set (i := 7) (k := 0) sc__law_bent.nd rfl (.inl (by kernel_rfl)) (eo_call (G__law_put base) (hr.mono (by decide)) (gl_of (by kernel_rfl)) T.g__law_put k__law_put b__law_put.b (takes_of rfl rfl rfl rfl) (ea_cons (eb_var (n := 0) (i := 1) rfl (.inr (.inl (by kernel_rfl))) (by decide)) (ea_cons (EO.up (k := 0) (n := 0) (eo_op o_mod dMod_nx (EO.up (k := 0) (n := 0) (eo_callTy c_int fInt_nx (gl_of (by kernel_rfl)) T.z_int (by decide +kernel) (ea_cons (eb_ix (eb_var (n := 1) (i := 0) rfl (.inl (by kernel_rfl)) (by decide)) (EO.up (k := 0) (n := 0) eo_int)) ea_nil))) (EO.up (k := 0) (n := 0) (eo_callB c_len fLen_nx (gl_of (by kernel_rfl)) T.z_len (by decide +kernel) (ea_cons (eb_var (n := 1) (i := 1) rfl (.inr (.inl (by kernel_rfl))) (by decide)) ea_nil))))) (ea_cons (EO.up (k := 0) (n := 0) (eo_op o_mod dMod_nx (EO.up (k := 0) (n := 0) (eo_callTy c_int fInt_nx (gl_of (by kernel_rfl)) T.z_int (by decide +kernel) (ea_cons (eb_ix (eb_var (n := 1) (i := 0) rfl (.inl (by kernel_rfl)) (by decide)) (EO.up (k := 0) (n := 0) eo_int)) ea_nil))) (EO.up (k := 0) (n := 0) (eo_callB c_len fLen_nx (gl_of (by kernel_rfl)) T.z_len (by decide +kernel) (ea_cons (eb_ix (eb_var (n := 2) (i := 1) rfl (.inr (.inl (by kernel_rfl))) (by decide)) (EO.up (k := 0) (n := 0) eo_int)) ea_nil))))) (ea_cons (EO.up (k := 0) (n := 0) (eo_op o_mod dMod_nx (EO.up (k := 0) (n := 0) (eo_callTy c_int fInt_nx (gl_of (by kernel_rfl)) T.z_int (by decide +kernel) (ea_cons (eb_ix (eb_var (n := 1) (i := 0) rfl (.inl (by kernel_rfl)) (by decide)) (EO.up (k := 0) (n := 0) eo_int)) ea_nil))) (EO.up (k := 0) (n := 0) eo_int))) ea_nil))))) (by decide) rfl (.inl rfl))
  (sjs_one (sj_ret (EB.o (EO.b (k := 1) (eo_op o_add dAdd_nx (EO.up (k := 1) (n := 1) (eo_op o_add dAdd_nx (eb_var (n := 1) (i := 4) rfl (.inl (by kernel_rfl)) (by decide)) (EO.up (k := 1) (n := 1) (eo_lst (ea_cons (eb_var (n := 0) (i := 7) rfl (.inl (by kernel_rfl)) (by decide)) (ea_cons (EO.up (k := 0) (n := 0) (eo_call (G__law_put base) (hr.mono (by decide)) (gl_of (by kernel_rfl)) T.g__law_put k__law_put b__law_put.b (takes_of rfl rfl rfl rfl) (ea_cons (eb_var (n := 0) (i := 7) rfl (.inl (by kernel_rfl)) (by decide)) (ea_cons (eb_var (n := 0) (i := 2) rfl (.inr (.inl (by kernel_rfl))) (by decide)) (ea_cons (eb_var (n := 0) (i := 3) rfl (.inl (by kernel_rfl)) (by decide)) (ea_cons (EO.up (k := 0) (n := 0) (eo_op o_mod dMod_nx (EO.up (k := 0) (n := 0) (eo_callTy c_int fInt_nx (gl_of (by kernel_rfl)) T.z_int (by decide +kernel) (ea_cons (eb_ix (eb_var (n := 1) (i := 0) rfl (.inl (by kernel_rfl)) (by decide)) (EO.up (k := 0) (n := 0) eo_int)) ea_nil))) (EO.up (k := 0) (n := 0) eo_int))) ea_nil)))))) ea_nil)))))) (EO.up (k := 1) (n := 1) (eo_lc (own := [("line", 8)]) rfl sc__law_bent.nd (ei_seq (EO.up (k := 1) (n := 1) (eo_lst (ea_cons (EO.up (k := 1) (n := 0) (eo_callTy c_list fList_nx (gl_of (by kernel_rfl)) T.z_list (by decide +kernel) (ea_cons (eb_ix (eb_var (n := 2) (i := 1) rfl (.inr (.inl (by kernel_rfl))) (by decide)) (eb_var (n := 0) (i := 2) rfl (.inr (.inl (by kernel_rfl))) (by decide))) ea_nil))) (ea_cons (EO.up (k := 0) (n := 0) eo_non) (ea_cons (EO.up (k := 1) (n := 0) (eo_sl (eb_ix (eb_var (n := 2) (i := 1) rfl (.inr (.inl (by kernel_rfl))) (by decide)) (eb_var (n := 0) (i := 2) rfl (.inr (.inl (by kernel_rfl))) (by decide))) (ep_some (EO.up (k := 0) (n := 0) eo_int)) ep_none)) ea_nil)))))) (blkOk_by (by kernel_rfl)) (fun _ _ _ _ _ => (pg_name (i := 8) sc__law_bent.nd rfl (.inl (by kernel_rfl)) (.inr (by kernel_rfl)))) (fun _ _ _ _ _ => ets_nil) (fun _ _ _ _ _ => (EB.o (EO.b (k := 1) (eo_op o_add dAdd_nx (EO.up (k := 1) (n := 1) (eo_op o_add dAdd_nx (EO.up (k := 1) (n := 1) (eo_sl (eb_var (n := 1) (i := 1) rfl (.inr (.inl (by kernel_rfl))) (by decide)) ep_none (ep_some (eb_var (n := 0) (i := 2) rfl (.inr (.inl (by kernel_rfl))) (by decide))))) (EO.up (k := 0) (n := 1) (eo_tup (ea_cons (eb_var (n := 0) (i := 8) rfl (.inl (by kernel_rfl)) (by decide)) ea_nil))))) (EO.up (k := 1) (n := 1) (eo_sl (eb_var (n := 1) (i := 1) rfl (.inr (.inl (by kernel_rfl))) (by decide)) (ep_some (EO.up (k := 1) (n := 0) (eo_op o_add dAdd_nx (eb_var (n := 1) (i := 2) rfl (.inr (.inl (by kernel_rfl))) (by decide)) (EO.up (k := 0) (n := 1) eo_int)))) ep_none)))))) (gs_name 8) (by decide) (by decide)))))))))))))))))), b, F.kp⟩
theorem ok__law_text (T : Txt K mg) : ∃ fd, (∀ base : Heap, FnOk P w K mg base (L2.CX P w) 1 (He.ga K "_law_text") fd ["draws", "most", "kinds"] (Spec K mg 3 0 C__law_text)) ∧ BA fd ["draws", "most", "kinds"] ∧ PySem.W.keepIn K (.ref (He.ga K "_law_text")) = true := by
  obtain ⟨fd, F, b⟩ := T.F__law_text
  exact ⟨fd, fun base => fn_ok (N := n__law_text) (nN := 5) (k := 0) (kr := 0) (L := [0, 0, 0, 0, 0]) (L' := [0, 0, 0, 0, 0]) (FF := F__law_text) F sc__law_text rfl rfl rfl rfl fun cdv A outer s H E hr => ((sjs_cons (L1 := [0, 0, 0, 0, 0]) (sj_set (i := 3) (k := 0) sc__law_text.nd rfl (.inl (by kernel_rfl)) (eo_op o_mod dMod_nx (EO.up (k := 0) (n := 0) (eo_callTy c_int fInt_nx (gl_of (by kernel_rfl)) T.z_int (by decide +kernel) (ea_cons (eb_ix (eb_var (n := 1) (i := 0) rfl (.inr (.inl (by kernel_rfl))) (by decide)) (EO.up (k := 0) (n := 0) eo_int)) ea_nil))) (EO.up (k := 1) (n := 0) (eo_op o_add dAdd_nx (eb_var (n := 1) (i := 1) rfl (.inl (by kernel_rfl)) (by decide)) (EO.up (k := 0) (n := 1) eo_int)))) (by decide) rfl (.inl rfl))
  (sjs_one (sj_ret (eo_callTy c_tuple fTuple_nx (gl_of (by kernel_rfl)) T.z_tuple (by decide +kernel) (ea_cons (EO.up (k := 1) (n := 1) (eo_lc (own := [("k", 4)]) rfl sc__law_text.nd (ei_range1 (gl_of (by kernel_rfl)) T.z_range (ea_cons (eb_var (n := 0) (i := 3) rfl (.inl (by kernel_rfl)) (by decide)) ea_nil)) (blkOk_by (by kernel_rfl)) (fun _ _ _ _ _ => (pg_name (i := 4) sc__law_text.nd rfl (.inl (by kernel_rfl)) (.inr (by kernel_rfl)))) (fun _ _ _ _ _ => ets_nil) (fun _ _ _ _ _ => (EB.o (eb_ix (EO.up (k := 0) (n := 1) eo_str) (EO.up (k := 0) (n := 0) (eo_op o_mod dMod_nx (EO.up (k := 0) (n := 0) (eo_op o_div dDiv_nx (EO.up (k := 0) (n := 0) (eo_callTy c_int fInt_nx (gl_of (by kernel_rfl)) T.z_int (by decide +kernel) (ea_cons (EO.up (k := 1) (n := 0) (eo_op o_add dAdd_nx (EO.up (k := 0) (n := 1) (eo_op o_mul dMul_nx (EO.up (k := 0) (n := 0) (eo_callTy c_int fInt_nx (gl_of (by kernel_rfl)) T.z_int (by decide +kernel) (ea_cons (eb_ix (eb_var (n := 1) (i := 0) rfl (.inr (.inl (by kernel_rfl))) (by decide)) (EO.up (k := 1) (n := 0) (eo_op o_add dAdd_nx (EO.up (k := 0) (n := 1) eo_int) (EO.up (k := 0) (n := 1) (eo_op o_mod dMod_nx (eb_var (n := 0) (i := 4) rfl (.inl (by kernel_rfl)) (by decide)) (EO.up (k := 0) (n := 0) (eo_op o_sub dSub_nx (EO.up (k := 0) (n := 0) (eo_callB c_len fLen_nx (gl_of (by kernel_rfl)) T.z_len (by decide +kernel) (ea_cons (eb_var (n := 1) (i := 0) rfl (.inr (.inl (by kernel_rfl))) (by decide)) ea_nil))) (EO.up (k := 0) (n := 0) eo_int)))))))) ea_nil))) (EO.up (k := 1) (n := 0) (eo_op o_add dAdd_nx (eb_var (n := 1) (i := 4) rfl (.inl (by kernel_rfl)) (by decide)) (EO.up (k := 0) (n := 1) eo_int))))) (EO.up (k := 0) (n := 1) (eo_op o_mul dMul_nx (eb_var (n := 0) (i := 4) rfl (.inl (by kernel_rfl)) (by decide)) (EO.up (k := 0) (n := 0) eo_int))))) ea_nil))) (EO.up (k := 0) (n := 0) eo_int))) (eb_var (n := 0) (i := 2) rfl (.inr (.inl (by kernel_rfl))) (by decide))))))) (gs_name 4) (by decide) (by decide))) ea_nil)))))), b, F.kp⟩
theorem ok__law_due (T : Txt K mg) : ∃ fd, (∀ base : Heap, FnOk P w K mg base (L2.CX P w) 1 (He.ga K "_law_due") fd ["old", "new", "prices", "levels"] (Spec K mg 4 0 C__law_due)) ∧ BA fd ["old", "new", "prices", "levels"] ∧ PySem.W.keepIn K (.ref (He.ga K "_law_due")) = true := by
  obtain ⟨fd, F, b⟩ := T.F__law_due
  exact ⟨fd, fun base => fn_ok (N := n__law_due) (nN := 8) (k := 0) (kr := 0) (L := [0, 0, 0, 0, 0, 0, 0, 0]) (L' := [0, 0, 0, 0, 0, 0, 0, 0]) (FF := F__law_due) F sc__law_due rfl rfl rfl rfl fun cdv A outer s H E hr => ((sjs_cons (L1 := [0, 0, 0, 0, 0, 0, 0, 0]) (sj_if (et_w (ew_or (et_not (et_val (EO.up (k := 0) (n := 1) (eo_isi kind_tup (gl_of (by kernel_rfl)) T.z_isinstance (gl_of (by kernel_rfl)) T.z_tuple (by decide +kernel) (eb_var (n := 1) (i := 3) rfl (.inl (by kernel_rfl)) (by decide)))))) (ew_or (et_cmp (o_ne hr.units) dNe_nx (EO.up (k := 0) (n := 1) (eo_callB c_len fLen_nx (gl_of (by kernel_rfl)) T.z_len (by decide +kernel) (ea_cons (eb_var (n := 1) (i := 3) rfl (.inl (by kernel_rfl)) (by decide)) ea_nil))) (EO.up (k := 1) (n := 1) (eo_op o_add dAdd_nx (EO.up (k := 0) (n := 1) (eo_callB c_len fLen_nx (gl_of (by kernel_rfl)) T.z_len (by decide +kernel) (ea_cons (eb_var (n := 1) (i := 0) rfl (.inl (by kernel_rfl)) (by decide)) ea_nil))) (EO.up (k := 0) (n := 1) eo_int))) (nomark _)) (ew_or1 (et_not (et_val (EO.up (k := 0) (n := 1) (eo_callB (c_all rfl) fAll_nx (gl_of (by kernel_rfl)) T.z_all (by decide +kernel) (ea_cons (EO.up (k := 1) (n := 1) (eo_lc (own := [("row", 4)]) rfl sc__law_due.nd (ei_seq (eb_var (n := 1) (i := 3) rfl (.inl (by kernel_rfl)) (by decide))) (blkOk_by (by kernel_rfl)) (fun _ _ _ _ _ => (pg_name (i := 4) sc__law_due.nd rfl (.inl (by kernel_rfl)) (.inr (by kernel_rfl)))) (fun _ _ _ _ _ => ets_nil) (fun _ _ _ _ _ => (EB.o (eb_and (EO.up (k := 0) (n := 0) (eo_isi kind_tup (gl_of (by kernel_rfl)) T.z_isinstance (gl_of (by kernel_rfl)) T.z_tuple (by decide +kernel) (eb_var (n := 1) (i := 4) rfl (.inl (by kernel_rfl)) (by decide)))) (eb_one (EO.up (k := 0) (n := 0) (eo_cmp (o_eq hr.units) dEq_nx (EO.up (k := 0) (n := 1) (eo_callB c_len fLen_nx (gl_of (by kernel_rfl)) T.z_len (by decide +kernel) (ea_cons (eb_var (n := 1) (i := 4) rfl (.inl (by kernel_rfl)) (by decide)) ea_nil))) (EO.up (k := 1) (n := 1) (eo_op o_add dAdd_nx (EO.up (k := 0) (n := 1) (eo_callB c_len fLen_nx (gl_of (by kernel_rfl)) T.z_len (by decide +kernel) (ea_cons (eb_var (n := 1) (i := 1) rfl (.inr (.inl (by kernel_rfl))) (by decide)) ea_nil))) (EO.up (k := 0) (n := 1) eo_int))) (nomark _))))))) (gs_name 4) (by decide) (by decide))) ea_nil))))))))) (sjs_one (sj_ret eo_str)) sjs_nil)
  (sjs_cons (L1 := [0, 0, 0, 0, 0, 0, 0, 0]) (sj_for (passes_of rfl) rfl (ei_seq (eb_var (n := 0) (i := 3) rfl (.inl (by kernel_rfl)) (by decide))) (pg_name (i := 4) sc__law_due.nd rfl (.inl (by kernel_rfl)) (.inl rfl)) (gs_name 4) (by decide)
  (sjs_cons (L1 := [0, 0, 0, 0, 0, 0, 0, 0]) (sj_if (et_not (et_val (EO.up (k := 0) (n := 1) (eo_callB (c_all rfl) fAll_nx (gl_of (by kernel_rfl)) T.z_all (by decide +kernel) (ea_cons (EO.up (k := 1) (n := 1) (eo_lc (own := [("one", 7)]) rfl sc__law_due.nd (ei_seq (eb_var (n := 1) (i := 4) rfl (.inl (by kernel_rfl)) (by decide))) (blkOk_by (by kernel_rfl)) (fun _ _ _ _ _ => (pg_name (i := 7) sc__law_due.nd rfl (.inl (by kernel_rfl)) (.inr (by kernel_rfl)))) (fun _ _ _ _ _ => ets_nil) (fun _ _ _ _ _ => (EB.o (eb_and (EO.up (k := 0) (n := 0) (eo_isi kind_int (gl_of (by kernel_rfl)) T.z_isinstance (gl_of (by kernel_rfl)) T.z_int (by decide +kernel) (eb_var (n := 1) (i := 7) rfl (.inl (by kernel_rfl)) (by decide)))) (eb_and (EO.up (k := 0) (n := 0) (eo_not (EO.up (k := 0) (n := 1) (eo_isi kind_bool (gl_of (by kernel_rfl)) T.z_isinstance (gl_of (by kernel_rfl)) T.z_bool (by decide +kernel) (eb_var (n := 1) (i := 7) rfl (.inl (by kernel_rfl)) (by decide)))))) (eb_one (EO.up (k := 0) (n := 0) (eo_cmp o_ge dCmpI_nx (eb_var (n := 0) (i := 7) rfl (.inl (by kernel_rfl)) (by decide)) (EO.up (k := 0) (n := 0) eo_int) (nomark _)))))))) (gs_name 7) (by decide) (by decide))) ea_nil))))) (sjs_one (sj_ret eo_str)) sjs_nil)
  (sjs_kill [4] sjs_nil)))
  (sjs_kill [4] (sjs_cons (L1 := [0, 0, 0, 0, 0, 0, 0, 0]) (sj_if (et_cmp (o_ne hr.units) dNe_nx (eb_ix (eb_ix (eb_var (n := 3) (i := 3) rfl (.inl (by kernel_rfl)) (by decide)) (EO.up (k := 0) (n := 0) eo_int)) (EO.up (k := 0) (n := 0) eo_int)) (EO.up (k := 0) (n := 1) eo_int) (nomark _)) (sjs_one (sj_ret eo_str)) sjs_nil)
  (sjs_cons (L1 := [0, 0, 0, 0, 0, 0, 0, 0]) (sj_for (passes_of rfl) rfl (ei_range1 (gl_of (by kernel_rfl)) T.z_range (ea_cons (EO.up (k := 1) (n := 0) (eo_op o_add dAdd_nx (EO.up (k := 0) (n := 1) (eo_callB c_len fLen_nx (gl_of (by kernel_rfl)) T.z_len (by decide +kernel) (ea_cons (eb_var (n := 1) (i := 0) rfl (.inl (by kernel_rfl)) (by decide)) ea_nil))) (EO.up (k := 0) (n := 1) eo_int))) ea_nil)) (pg_name (i := 4) sc__law_due.nd rfl (.inl (by kernel_rfl)) (.inl rfl)) (gs_name 4) (by decide)
  (sjs_cons (L1 := [0, 0, 0, 0, 0, 0, 0, 0]) (sj_for (passes_of rfl) rfl (ei_range1 (gl_of (by kernel_rfl)) T.z_range (ea_cons (EO.up (k := 1) (n := 0) (eo_op o_add dAdd_nx (EO.up (k := 0) (n := 1) (eo_callB c_len fLen_nx (gl_of (by kernel_rfl)) T.z_len (by decide +kernel) (ea_cons (eb_var (n := 1) (i := 1) rfl (.inr (.inl (by kernel_rfl))) (by decide)) ea_nil))) (EO.up (k := 0) (n := 1) eo_int))) ea_nil)) (pg_name (i := 5) sc__law_due.nd rfl (.inl (by kernel_rfl)) (.inl rfl)) (gs_name 5) (by decide)
  (sjs_cons (L1 := [0, 0, 0, 0, 0, 0, 1, 0]) (sj_set (i := 6) (k := 1) sc__law_due.nd rfl (.inl (by kernel_rfl)) (eo_nil) (by decide) rfl (.inl rfl))
  (sjs_cons (L1 := [0, 0, 0, 0, 0, 0, 1, 0]) (sj_if (et_cmp o_gt dCmpI_nx (eb_var (n := 0) (i := 4) rfl (.inl (by kernel_rfl)) (by decide)) (EO.up (k := 0) (n := 0) eo_int) (nomark _)) (sjs_one (sj_append (i := 6) (k := 0) rfl (.inl (by kernel_rfl)) rfl (EB.o (EO.b (k := 1) (eo_op o_add dAdd_nx (eb_ix (eb_ix (eb_var (n := 3) (i := 3) rfl (.inl (by kernel_rfl)) (by decide)) (EO.up (k := 0) (n := 0) (eo_op o_sub dSub_nx (eb_var (n := 0) (i := 4) rfl (.inl (by kernel_rfl)) (by decide)) (EO.up (k := 0) (n := 0) eo_int)))) (eb_var (n := 0) (i := 5) rfl (.inl (by kernel_rfl)) (by decide))) (eb_ix (eb_var (n := 2) (i := 2) rfl (.inl (by kernel_rfl)) (by decide)) (EO.up (k := 0) (n := 0) eo_int))))))) sjs_nil)
  (sjs_cons (L1 := [0, 0, 0, 0, 0, 0, 1, 0]) (sj_if (et_cmp o_gt dCmpI_nx (eb_var (n := 0) (i := 5) rfl (.inl (by kernel_rfl)) (by decide)) (EO.up (k := 0) (n := 0) eo_int) (nomark _)) (sjs_one (sj_append (i := 6) (k := 0) rfl (.inl (by kernel_rfl)) rfl (EB.o (EO.b (k := 1) (eo_op o_add dAdd_nx (eb_ix (eb_ix (eb_var (n := 3) (i := 3) rfl (.inl (by kernel_rfl)) (by decide)) (eb_var (n := 0) (i := 4) rfl (.inl (by kernel_rfl)) (by decide))) (EO.up (k := 0) (n := 0) (eo_op o_sub dSub_nx (eb_var (n := 0) (i := 5) rfl (.inl (by kernel_rfl)) (by decide)) (EO.up (k := 0) (n := 0) eo_int)))) (eb_ix (eb_var (n := 2) (i := 2) rfl (.inl (by kernel_rfl)) (by decide)) (EO.up (k := 0) (n := 0) eo_int))))))) sjs_nil)
  (sjs_cons (L1 := [0, 0, 0, 0, 0, 0, 1, 0]) (sj_if (et_w (ew_and (et_cmp o_gt dCmpI_nx (eb_var (n := 0) (i := 4) rfl (.inl (by kernel_rfl)) (by decide)) (EO.up (k := 0) (n := 0) eo_int) (nomark _)) (ew_and (et_cmp o_gt dCmpI_nx (eb_var (n := 0) (i := 5) rfl (.inl (by kernel_rfl)) (by decide)) (EO.up (k := 0) (n := 0) eo_int) (nomark _)) (ew_and1 (et_cmp (o_eq hr.units) dEq_nx (eb_ix (eb_var (n := 2) (i := 0) rfl (.inl (by kernel_rfl)) (by decide)) (EO.up (k := 0) (n := 0) (eo_op o_sub dSub_nx (eb_var (n := 0) (i := 4) rfl (.inl (by kernel_rfl)) (by decide)) (EO.up (k := 0) (n := 0) eo_int)))) (eb_ix (eb_var (n := 2) (i := 1) rfl (.inr (.inl (by kernel_rfl))) (by decide)) (EO.up (k := 0) (n := 0) (eo_op o_sub dSub_nx (eb_var (n := 0) (i := 5) rfl (.inl (by kernel_rfl)) (by decide)) (EO.up (k := 0) (n := 0) eo_int)))) (nomark _)))))) (sjs_one (sj_append (i := 6) (k := 0) rfl (.inl (by kernel_rfl)) rfl (EB.o (eb_ix (eb_ix (eb_var (n := 2) (i := 3) rfl (.inl (by kernel_rfl)) (by decide)) (EO.up (k := 0) (n := 0) (eo_op o_sub dSub_nx (eb_var (n := 0) (i := 4) rfl (.inl (by kernel_rfl)) (by decide)) (EO.up (k := 0) (n := 0) eo_int)))) (EO.up (k := 0) (n := 0) (eo_op o_sub dSub_nx (eb_var (n := 0) (i := 5) rfl (.inl (by kernel_rfl)) (by decide)) (EO.up (k := 0) (n := 0) eo_int))))))) sjs_nil)
  (sjs_cons (L1 := [0, 0, 0, 0, 0, 0, 1, 0]) (sj_if (et_w (ew_and (et_cmp o_gt dCmpI_nx (eb_var (n := 0) (i := 4) rfl (.inl (by kernel_rfl)) (by decide)) (EO.up (k := 0) (n := 0) eo_int) (nomark _)) (ew_and (et_cmp o_gt dCmpI_nx (eb_var (n := 0) (i := 5) rfl (.inl (by kernel_rfl)) (by decide)) (EO.up (k := 0) (n := 0) eo_int) (nomark _)) (ew_and (et_cmp (o_ne hr.units) dNe_nx (eb_ix (eb_var (n := 2) (i := 0) rfl (.inl (by kernel_rfl)) (by decide)) (EO.up (k := 0) (n := 0) (eo_op o_sub dSub_nx (eb_var (n := 0) (i := 4) rfl (.inl (by kernel_rfl)) (by decide)) (EO.up (k := 0) (n := 0) eo_int)))) (eb_ix (eb_var (n := 2) (i := 1) rfl (.inr (.inl (by kernel_rfl))) (by decide)) (EO.up (k := 0) (n := 0) (eo_op o_sub dSub_nx (eb_var (n := 0) (i := 5) rfl (.inl (by kernel_rfl)) (by decide)) (EO.up (k := 0) (n := 0) eo_int)))) (nomark _)) (ew_and1 (et_cmp o_isNot dIsNot_nx (eb_ix (eb_var (n := 2) (i := 2) rfl (.inl (by kernel_rfl)) (by decide)) (EO.up (k := 0) (n := 0) eo_int)) (EO.up (k := 0) (n := 1) eo_non) (nomark _))))))) (sjs_one (sj_append (i := 6) (k := 0) rfl (.inl (by kernel_rfl)) rfl (EB.o (EO.b (k := 1) (eo_op o_add dAdd_nx (eb_ix (eb_ix (eb_var (n := 3) (i := 3) rfl (.inl (by kernel_rfl)) (by decide)) (EO.up (k := 0) (n := 0) (eo_op o_sub dSub_nx (eb_var (n := 0) (i := 4) rfl (.inl (by kernel_rfl)) (by decide)) (EO.up (k := 0) (n := 0) eo_int)))) (EO.up (k := 0) (n := 0) (eo_op o_sub dSub_nx (eb_var (n := 0) (i := 5) rfl (.inl (by kernel_rfl)) (by decide)) (EO.up (k := 0) (n := 0) eo_int)))) (eb_ix (eb_var (n := 2) (i := 2) rfl (.inl (by kernel_rfl)) (by decide)) (EO.up (k := 0) (n := 0) eo_int))))))) sjs_nil)
  (sjs_cons (L1 := [0, 0, 0, 0, 0, 0, 1, 0]) (sj_if (et_w (ew_and (et_cmp o_gt dCmpI_nx (EO.up (k := 0) (n := 0) (eo_callB c_len fLen_nx (gl_of (by kernel_rfl)) T.z_len (by decide +kernel) (ea_cons (eb_var (n := 1) (i := 6) rfl (.inl (by kernel_rfl)) (by decide)) ea_nil))) (EO.up (k := 0) (n := 0) eo_int) (nomark _)) (ew_and1 (et_cmp o_gt dCmpI_nx (eb_ix (eb_ix (eb_var (n := 2) (i := 3) rfl (.inl (by kernel_rfl)) (by decide)) (eb_var (n := 0) (i := 4) rfl (.inl (by kernel_rfl)) (by decide))) (eb_var (n := 0) (i := 5) rfl (.inl (by kernel_rfl)) (by decide))) (EO.up (k := 0) (n := 0) (eo_callB (c_min rfl hr.hd hr.units) fMin_nx (gl_of (by kernel_rfl)) T.z_min (by decide +kernel) (ea_cons (eb_var (n := 1) (i := 6) rfl (.inl (by kernel_rfl)) (by decide)) ea_nil))) (nomark _))))) (sjs_one (sj_ret (eo_tup (ea_cons (eb_var (n := 0) (i := 4) rfl (.inl (by kernel_rfl)) (by decide)) (ea_cons (eb_var (n := 0) (i := 5) rfl (.inl (by kernel_rfl)) (by decide)) ea_nil))))) sjs_nil)
  (sjs_kill [5, 6] (sjs_drop 6 sjs_nil)))))))))
  (sjs_kill [5, 6] (sjs_kill [4, 5, 6] sjs_nil))))
  (sjs_kill [4, 5, 6] (sjs_one (sj_ret eo_non))))))))), b, F.kp⟩
theorem ok_is_line (T : Txt K mg) : ∃ fd, (∀ base : Heap, FnOk P w K mg base (L2.CX P w) 1 (He.ga K "is_line") fd ["value"] (Spec K mg 1 0 C_is_line)) ∧ BA fd ["value"] ∧ PySem.W.keepIn K (.ref (He.ga K "is_line")) = true := by
  obtain ⟨fd, F, b⟩ := T.F_is_line
  exact ⟨fd, fun base => fn_ok (N := n_is_line) (nN := 1) (k := 0) (kr := 0) (L := [0]) (L' := [0]) (FF := F_is_line) F sc_is_line rfl rfl rfl rfl fun cdv A outer s H E hr => ((sjs_one (sj_ret (EB.o (eb_and (EO.up (k := 0) (n := 0) (eo_isi kind_str (gl_of (by kernel_rfl)) T.z_isinstance (gl_of (by kernel_rfl)) T.z_str (by decide +kernel) (eb_var (n := 1) (i := 0) rfl (.inl (by kernel_rfl)) (by decide)))) (eb_one (EO.up (k := 0) (n := 0) (eo_cmp (o_notIn (hu65 hr)) dNotIn_nx (EO.up (k := 0) (n := 1) (eo_gstr (gl_of (by kernel_rfl)) T.c_END.choose_spec)) (eb_var (n := 1) (i := 0) rfl (.inl (by kernel_rfl)) (by decide)) (by rfl))))))))), b, F.kp⟩
theorem ok_is_text (T : Txt K mg) : ∃ fd, (∀ base : Heap, FnOk P w K mg base (L2.CX P w) 2 (He.ga K "is_text") fd ["value"] (Spec K mg 1 0 C_is_text)) ∧ BA fd ["value"] ∧ PySem.W.keepIn K (.ref (He.ga K "is_text")) = true := by
  obtain ⟨fd, F, b⟩ := T.F_is_text
  obtain ⟨fd_is_line, G_is_line, b_is_line, k_is_line⟩ := ok_is_line (P := P) (w := w) T
  exact ⟨fd, fun base => fn_ok (N := n_is_text) (nN := 2) (k := 1) (kr := 0) (L := [0, 0]) (L' := [0, 0]) (FF := F_is_text) F sc_is_text rfl rfl rfl rfl fun cdv A outer s H E hr => ((sjs_one (sj_ret (EB.o (eb_and (EO.up (k := 0) (n := 0) (eo_isi kind_tup (gl_of (by kernel_rfl)) T.z_isinstance (gl_of (by kernel_rfl)) T.z_tuple (by decide +kernel) (eb_var (n := 1) (i := 0) rfl (.inl (by kernel_rfl)) (by decide)))) (eb_one (EO.up (k := 0) (n := 0) (eo_callB (c_all rfl) fAll_nx (gl_of (by kernel_rfl)) T.z_all (by decide +kernel) (ea_cons (EO.up (k := 1) (n := 1) (eo_lc (own := [("line", 1)]) rfl sc_is_text.nd (ei_seq (eb_var (n := 1) (i := 0) rfl (.inl (by kernel_rfl)) (by decide))) (blkOk_by (by kernel_rfl)) (fun _ _ _ _ _ => (pg_name (i := 1) sc_is_text.nd rfl (.inl (by kernel_rfl)) (.inr (by kernel_rfl)))) (fun _ _ _ _ _ => ets_nil) (fun _ _ _ _ _ => (eo_call (G_is_line base) (hr.mono (by decide)) (gl_of (by kernel_rfl)) T.g_is_line k_is_line b_is_line.b takes0 (ea_cons (eb_var (n := 0) (i := 1) rfl (.inl (by kernel_rfl)) (by decide)) ea_nil))) (gs_name 1) (by decide) (by decide))) ea_nil))))))))), b, F.kp⟩
theorem ok_check_short (T : Txt K mg) : ∃ fd, (∀ base : Heap, FnOk P w K mg base (L2.CX P w) 3 (He.ga K "check_short") fd ["values"] (Spec K mg 1 0 C_check_short)) ∧ BA fd ["values"] ∧ PySem.W.keepIn K (.ref (He.ga K "check_short")) = true := by
  obtain ⟨fd, F, b⟩ := T.F_check_short
  obtain ⟨fd_is_text, G_is_text, b_is_text, k_is_text⟩ := ok_is_text (P := P) (w := w) T
  exact ⟨fd, fun base => fn_ok (N := n_check_short) (nN := 2) (k := 2) (kr := 0) (L := [0, 0]) (L' := [0, 0]) (FF := F_check_short) F sc_check_short rfl rfl rfl rfl fun cdv A outer s H E hr => ((sjs_one (sj_if (et_not (et_val (EO.up (k := 0) (n := 1) (eo_callB (c_all rfl) fAll_nx (gl_of (by kernel_rfl)) T.z_all (by decide +kernel) (ea_cons (EO.up (k := 1) (n := 1) (eo_lc (own := [("value", 1)]) rfl sc_check_short.nd (ei_seq (eb_var (n := 1) (i := 0) rfl (.inl (by kernel_rfl)) (by decide))) (blkOk_by (by kernel_rfl)) (fun _ _ _ _ _ => (pg_name (i := 1) sc_check_short.nd rfl (.inl (by kernel_rfl)) (.inr (by kernel_rfl)))) (fun _ _ _ _ _ => ets_nil) (fun _ _ _ _ _ => (EB.o (eb_and (EO.up (k := 0) (n := 0) (eo_call (G_is_text base) (hr.mono (by decide)) (gl_of (by kernel_rfl)) T.g_is_text k_is_text b_is_text.b takes0 (ea_cons (eb_var (n := 0) (i := 1) rfl (.inl (by kernel_rfl)) (by decide)) ea_nil))) (eb_one (EO.up (k := 0) (n := 0) (eo_cmp o_le dCmpI_nx (EO.up (k := 0) (n := 0) (eo_callB c_len fLen_nx (gl_of (by kernel_rfl)) T.z_len (by decide +kernel) (ea_cons (eb_var (n := 1) (i := 1) rfl (.inl (by kernel_rfl)) (by decide)) ea_nil))) (EO.up (k := 0) (n := 0) (eo_gint (gl_of (by kernel_rfl)) T.c_MOST_LINES.choose_spec)) (nomark _))))))) (gs_name 1) (by decide) (by decide))) ea_nil))))) (sjs_one (sj_raise rfl (takes_of rfl rfl rfl rfl) PySem.F.excBase_ValueError T.e_BadText.2.1 T.e_BadText.1 T.e_BadText.2.2.1 (raises_own T.e_BadText.2.2.2.1 T.e_BadText.2.2.2.2) (gl_of (by kernel_rfl)))) sjs_nil))), b, F.kp⟩
theorem ok__is_price (T : Txt K mg) : ∃ fd, (∀ base : Heap, FnOk P w K mg base (L2.CX P w) 1 (He.ga K "_is_price") fd ["value"] (Spec K mg 1 0 C__is_price)) ∧ BA fd ["value"] ∧ PySem.W.keepIn K (.ref (He.ga K "_is_price")) = true := by
  obtain ⟨fd, F, b⟩ := T.F__is_price
  exact ⟨fd, fun base => fn_ok (N := n__is_price) (nN := 1) (k := 0) (kr := 0) (L := [0]) (L' := [0]) (FF := F__is_price) F sc__is_price rfl rfl rfl rfl fun cdv A outer s H E hr => ((sjs_one (sj_ret (EB.o (eb_and (EO.up (k := 0) (n := 0) (eo_isi kind_int (gl_of (by kernel_rfl)) T.z_isinstance (gl_of (by kernel_rfl)) T.z_int (by decide +kernel) (eb_var (n := 1) (i := 0) rfl (.inl (by kernel_rfl)) (by decide)))) (eb_and (EO.up (k := 0) (n := 0) (eo_not (EO.up (k := 0) (n := 1) (eo_isi kind_bool (gl_of (by kernel_rfl)) T.z_isinstance (gl_of (by kernel_rfl)) T.z_bool (by decide +kernel) (eb_var (n := 1) (i := 0) rfl (.inl (by kernel_rfl)) (by decide)))))) (eb_one (EO.up (k := 0) (n := 0) (eo_chain o_le dCmpI_nx o_le dCmpI_nx (EO.up (k := 0) (n := 0) eo_int) (eb_var (n := 0) (i := 0) rfl (.inl (by kernel_rfl)) (by decide)) (EO.up (k := 0) (n := 0) (eo_gint (gl_of (by kernel_rfl)) T.c_MOST_PRICE.choose_spec))))))))))), b, F.kp⟩
theorem ok_check_prices (T : Txt K mg) : ∃ fd, (∀ base : Heap, FnOk P w K mg base (L2.CX P w) 2 (He.ga K "check_prices") fd ["value"] (Spec K mg 1 0 C_check_prices)) ∧ BA fd ["value"] ∧ PySem.W.keepIn K (.ref (He.ga K "check_prices")) = true := by
  obtain ⟨fd, F, b⟩ := T.F_check_prices
  obtain ⟨fd__is_price, G__is_price, b__is_price, k__is_price⟩ := ok__is_price (P := P) (w := w) T
  exact ⟨fd, fun base => fn_ok (N := n_check_prices) (nN := 2) (k := 1) (kr := 0) (L := [0, 0]) (L' := [0, 0]) (FF := F_check_prices) F sc_check_prices rfl rfl rfl rfl fun cdv A outer s H E hr => ((sjs_cons (L1 := [0, 0]) (sj_if (et_w (ew_or (et_not (et_val (EO.up (k := 0) (n := 1) (eo_isi kind_tup (gl_of (by kernel_rfl)) T.z_isinstance (gl_of (by kernel_rfl)) T.z_tuple (by decide +kernel) (eb_var (n := 1) (i := 0) rfl (.inl (by kernel_rfl)) (by decide)))))) (ew_or1 (et_cmp (o_ne hr.units) dNe_nx (EO.up (k := 0) (n := 1) (eo_callB c_len fLen_nx (gl_of (by kernel_rfl)) T.z_len (by decide +kernel) (ea_cons (eb_var (n := 1) (i := 0) rfl (.inl (by kernel_rfl)) (by decide)) ea_nil))) (EO.up (k := 0) (n := 1) eo_int) (nomark _))))) (sjs_one (sj_raise rfl (takes_of rfl rfl rfl rfl) PySem.F.excBase_ValueError T.e_BadPrices.2.1 T.e_BadPrices.1 T.e_BadPrices.2.2.1 (raises_own T.e_BadPrices.2.2.2.1 T.e_BadPrices.2.2.2.2) (gl_of (by kernel_rfl)))) sjs_nil)
  (sjs_one (sj_if (et_w (ew_or (et_not (et_val (EO.up (k := 0) (n := 1) (eo_callB (c_all rfl) fAll_nx (gl_of (by kernel_rfl)) T.z_all (by decide +kernel) (ea_cons (EO.up (k := 1) (n := 1) (eo_lc (own := [("one", 1)]) rfl sc_check_prices.nd (ei_seq (EO.up (k := 1) (n := 1) (eo_sl (eb_var (n := 1) (i := 0) rfl (.inl (by kernel_rfl)) (by decide)) ep_none (ep_some (EO.up (k := 0) (n := 0) eo_int))))) (blkOk_by (by kernel_rfl)) (fun _ _ _ _ _ => (pg_name (i := 1) sc_check_prices.nd rfl (.inl (by kernel_rfl)) (.inr (by kernel_rfl)))) (fun _ _ _ _ _ => ets_nil) (fun _ _ _ _ _ => (eo_call (G__is_price base) (hr.mono (by decide)) (gl_of (by kernel_rfl)) T.g__is_price k__is_price b__is_price.b takes0 (ea_cons (eb_var (n := 0) (i := 1) rfl (.inl (by kernel_rfl)) (by decide)) ea_nil))) (gs_name 1) (by decide) (by decide))) ea_nil))))) (ew_or1 (et_w (ew_and (et_cmp o_isNot dIsNot_nx (eb_ix (eb_var (n := 2) (i := 0) rfl (.inl (by kernel_rfl)) (by decide)) (EO.up (k := 0) (n := 0) eo_int)) (EO.up (k := 0) (n := 1) eo_non) (nomark _)) (ew_and1 (et_not (et_val (EO.up (k := 0) (n := 1) (eo_call (G__is_price base) (hr.mono (by decide)) (gl_of (by kernel_rfl)) T.g__is_price k__is_price b__is_price.b (takes_of rfl rfl rfl rfl) (ea_cons (eb_ix (eb_var (n := 1) (i := 0) rfl (.inl (by kernel_rfl)) (by decide)) (EO.up (k := 0) (n := 0) eo_int)) ea_nil))))))))))) (sjs_one (sj_raise rfl (takes_of rfl rfl rfl rfl) PySem.F.excBase_ValueError T.e_BadPrices.2.1 T.e_BadPrices.1 T.e_BadPrices.2.2.1 (raises_own T.e_BadPrices.2.2.2.1 T.e_BadPrices.2.2.2.2) (gl_of (by kernel_rfl)))) sjs_nil)))), b, F.kp⟩
theorem ok__are_levels (T : Txt K mg) : ∃ fd, (∀ base : Heap, FnOk P w K mg base (L2.CX P w) 1 (He.ga K "_are_levels") fd ["old", "new", "value"] (Spec K mg 3 0 C__are_levels)) ∧ BA fd ["old", "new", "value"] ∧ PySem.W.keepIn K (.ref (He.ga K "_are_levels")) = true := by
  obtain ⟨fd, F, b⟩ := T.F__are_levels
  exact ⟨fd, fun base => fn_ok (N := n__are_levels) (nN := 5) (k := 0) (kr := 0) (L := [0, 0, 0, 0, 0]) (L' := [0, 0, 0, 0, 0]) (FF := F__are_levels) F sc__are_levels rfl rfl rfl rfl fun cdv A outer s H E hr => ((sjs_cons (L1 := [0, 0, 0, 0, 0]) (sj_if (et_w (ew_or (et_not (et_val (EO.up (k := 0) (n := 1) (eo_isi kind_tup (gl_of (by kernel_rfl)) T.z_isinstance (gl_of (by kernel_rfl)) T.z_tuple (by decide +kernel) (eb_var (n := 1) (i := 2) rfl (.inl (by kernel_rfl)) (by decide)))))) (ew_or1 (et_cmp (o_ne hr.units) dNe_nx (EO.up (k := 0) (n := 1) (eo_callB c_len fLen_nx (gl_of (by kernel_rfl)) T.z_len (by decide +kernel) (ea_cons (eb_var (n := 1) (i := 2) rfl (.inl (by kernel_rfl)) (by decide)) ea_nil))) (EO.up (k := 1) (n := 1) (eo_op o_add dAdd_nx (EO.up (k := 0) (n := 1) (eo_callB c_len fLen_nx (gl_of (by kernel_rfl)) T.z_len (by decide +kernel) (ea_cons (eb_var (n := 1) (i := 0) rfl (.inl (by kernel_rfl)) (by decide)) ea_nil))) (EO.up (k := 0) (n := 1) eo_int))) (nomark _))))) (sjs_one (sj_ret eo_bl)) sjs_nil)
  (sjs_cons (L1 := [0, 0, 0, 0, 0]) (sj_for (passes_of rfl) rfl (ei_seq (eb_var (n := 0) (i := 2) rfl (.inl (by kernel_rfl)) (by decide))) (pg_name (i := 3) sc__are_levels.nd rfl (.inl (by kernel_rfl)) (.inl rfl)) (gs_name 3) (by decide)
  (sjs_cons (L1 := [0, 0, 0, 0, 0]) (sj_if (et_w (ew_or (et_not (et_val (EO.up (k := 0) (n := 1) (eo_isi kind_tup (gl_of (by kernel_rfl)) T.z_isinstance (gl_of (by kernel_rfl)) T.z_tuple (by decide +kernel) (eb_var (n := 1) (i := 3) rfl (.inl (by kernel_rfl)) (by decide)))))) (ew_or1 (et_cmp (o_ne hr.units) dNe_nx (EO.up (k := 0) (n := 1) (eo_callB c_len fLen_nx (gl_of (by kernel_rfl)) T.z_len (by decide +kernel) (ea_cons (eb_var (n := 1) (i := 3) rfl (.inl (by kernel_rfl)) (by decide)) ea_nil))) (EO.up (k := 1) (n := 1) (eo_op o_add dAdd_nx (EO.up (k := 0) (n := 1) (eo_callB c_len fLen_nx (gl_of (by kernel_rfl)) T.z_len (by decide +kernel) (ea_cons (eb_var (n := 1) (i := 1) rfl (.inl (by kernel_rfl)) (by decide)) ea_nil))) (EO.up (k := 0) (n := 1) eo_int))) (nomark _))))) (sjs_one (sj_ret eo_bl)) sjs_nil)
  (sjs_cons (L1 := [0, 0, 0, 0, 0]) (sj_if (et_not (et_val (EO.up (k := 0) (n := 1) (eo_callB (c_all rfl) fAll_nx (gl_of (by kernel_rfl)) T.z_all (by decide +kernel) (ea_cons (EO.up (k := 1) (n := 1) (eo_lc (own := [("one", 4)]) rfl sc__are_levels.nd (ei_seq (eb_var (n := 1) (i := 3) rfl (.inl (by kernel_rfl)) (by decide))) (blkOk_by (by kernel_rfl)) (fun _ _ _ _ _ => (pg_name (i := 4) sc__are_levels.nd rfl (.inl (by kernel_rfl)) (.inr (by kernel_rfl)))) (fun _ _ _ _ _ => ets_nil) (fun _ _ _ _ _ => (EB.o (eb_and (EO.up (k := 0) (n := 0) (eo_isi kind_int (gl_of (by kernel_rfl)) T.z_isinstance (gl_of (by kernel_rfl)) T.z_int (by decide +kernel) (eb_var (n := 1) (i := 4) rfl (.inl (by kernel_rfl)) (by decide)))) (eb_and (EO.up (k := 0) (n := 0) (eo_not (EO.up (k := 0) (n := 1) (eo_isi kind_bool (gl_of (by kernel_rfl)) T.z_isinstance (gl_of (by kernel_rfl)) T.z_bool (by decide +kernel) (eb_var (n := 1) (i := 4) rfl (.inl (by kernel_rfl)) (by decide)))))) (eb_one (EO.up (k := 0) (n := 0) (eo_cmp o_ge dCmpI_nx (eb_var (n := 0) (i := 4) rfl (.inl (by kernel_rfl)) (by decide)) (EO.up (k := 0) (n := 0) eo_int) (nomark _)))))))) (gs_name 4) (by decide) (by decide))) ea_nil))))) (sjs_one (sj_ret eo_bl)) sjs_nil)
  (sjs_kill [3] sjs_nil))))
  (sjs_kill [3] (sjs_one (sj_ret eo_bl)))))), b, F.kp⟩
theorem ok_step (T : Txt K mg) : ∃ fd, (∀ base : Heap, FnOk P w K mg base (L2.CX P w) 1 (He.ga K "step") fd ["sign"] (Spec K mg 1 0 C_step)) ∧ BA fd ["sign"] ∧ PySem.W.keepIn K (.ref (He.ga K "step")) = true := by
  obtain ⟨fd, F, b⟩ := T.F_step
  exact ⟨fd, fun base => fn_ok (N := n_step) (nN := 1) (k := 0) (kr := 0) (L := [0]) (L' := [0]) (FF := F_step) F sc_step rfl rfl rfl rfl fun cdv A outer s H E hr => ((sjs_one (sj_ret (eo_tup (ea_cons (eb_if (et_cmp (o_eq hr.units) dEq_nx (eb_var (n := 1) (i := 0) rfl (.inl (by kernel_rfl)) (by decide)) (EO.up (k := 0) (n := 1) (eo_gstr (gl_of (by kernel_rfl)) T.c_INTO.choose_spec)) (nomark _)) (EO.up (k := 0) (n := 0) eo_int) (EO.up (k := 0) (n := 0) eo_int)) (ea_cons (eb_if (et_cmp (o_eq hr.units) dEq_nx (eb_var (n := 1) (i := 0) rfl (.inl (by kernel_rfl)) (by decide)) (EO.up (k := 0) (n := 1) (eo_gstr (gl_of (by kernel_rfl)) T.c_OUT.choose_spec)) (nomark _)) (EO.up (k := 0) (n := 0) eo_int) (EO.up (k := 0) (n := 0) eo_int)) ea_nil)))))), b, F.kp⟩
theorem ok_price_of (T : Txt K mg) : ∃ fd, (∀ base : Heap, FnOk P w K mg base (L2.CX P w) 1 (He.ga K "price_of") fd ["prices", "sign"] (Spec K mg 2 0 C_price_of)) ∧ BA fd ["prices", "sign"] ∧ PySem.W.keepIn K (.ref (He.ga K "price_of")) = true := by
  obtain ⟨fd, F, b⟩ := T.F_price_of
  exact ⟨fd, fun base => fn_ok (N := n_price_of) (nN := 2) (k := 0) (kr := 0) (L := [0, 0]) (L' := [0, 0]) (FF := F_price_of) F sc_price_of rfl rfl rfl rfl fun cdv A outer s H E hr => ((sjs_one (sj_ret (EB.o (eb_dlit (hu_of hr) (eps_cons (EO.up (k := 0) (n := 0) (eo_gstr (gl_of (by kernel_rfl)) T.c_KEEP.choose_spec)) (EO.up (k := 0) (n := 0) eo_int) (eps_cons (EO.up (k := 0) (n := 0) (eo_gstr (gl_of (by kernel_rfl)) T.c_OUT.choose_spec)) (eb_ix (eb_var (n := 1) (i := 0) rfl (.inl (by kernel_rfl)) (by decide)) (EO.up (k := 0) (n := 0) eo_int)) (eps_cons (EO.up (k := 0) (n := 0) (eo_gstr (gl_of (by kernel_rfl)) T.c_INTO.choose_spec)) (eb_ix (eb_var (n := 1) (i := 0) rfl (.inl (by kernel_rfl)) (by decide)) (EO.up (k := 0) (n := 0) eo_int)) (eps_cons (EO.up (k := 0) (n := 0) (eo_gstr (gl_of (by kernel_rfl)) T.c_EXCHANGE.choose_spec)) (eb_ix (eb_var (n := 1) (i := 0) rfl (.inl (by kernel_rfl)) (by decide)) (EO.up (k := 0) (n := 0) eo_int)) eps_nil)))) (eb_var (n := 0) (i := 1) rfl (.inl (by kernel_rfl)) (by decide))))))), b, F.kp⟩
theorem ok_can_be (T : Txt K mg) : ∃ fd, (∀ base : Heap, FnOk P w K mg base (L2.CX P w) 2 (He.ga K "can_be") fd ["old", "new", "here", "sign"] (Spec K mg 4 0 C_can_be)) ∧ BA fd ["old", "new", "here", "sign"] ∧ PySem.W.keepIn K (.ref (He.ga K "can_be")) = true := by
  obtain ⟨fd, F, b⟩ := T.F_can_be
  obtain ⟨fd_step, G_step, b_step, k_step⟩ := ok_step (P := P) (w := w) T
  exact ⟨fd, fun base => fn_ok (N := n_can_be) (nN := 8) (k := 1) (kr := 0) (L := [0, 0, 0, 0, 0, 0, 0, 0]) (L' := [0, 0, 0, 0, 0, 0, 0, 0]) (FF := F_can_be) F sc_can_be rfl rfl rfl rfl fun cdv A outer s H E hr => ((sjs_cons (L1 := [0, 0, 0, 0, 0, 0, 0, 0]) (sj_unp (pg_tup rfl (pgs_cons (pg_name (i := 4) sc_can_be.nd rfl (.inl (by kernel_rfl)) (.inl rfl)) (pgs_cons (pg_name (i := 5) sc_can_be.nd rfl (.inl (by kernel_rfl)) (.inl rfl)) pgs_nil))) (gs_tup [4, 5]) (eb_var (n := 0) (i := 2) rfl (.inl (by kernel_rfl)) (by decide)) (by decide))
  (sjs_cons (L1 := [0, 0, 0, 0, 0, 0, 0, 0]) (sj_unp (pg_tup rfl (pgs_cons (pg_name (i := 6) sc_can_be.nd rfl (.inl (by kernel_rfl)) (.inl rfl)) (pgs_cons (pg_name (i := 7) sc_can_be.nd rfl (.inl (by kernel_rfl)) (.inl rfl)) pgs_nil))) (gs_tup [6, 7]) (EO.up (k := 0) (n := 0) (eo_call (G_step base) (hr.mono (by decide)) (gl_of (by kernel_rfl)) T.g_step k_step b_step.b (takes_of rfl rfl rfl rfl) (ea_cons (eb_var (n := 0) (i := 3) rfl (.inl (by kernel_rfl)) (by decide)) ea_nil))) (by decide))
  (sjs_cons (L1 := [0, 0, 0, 0, 0, 0, 0, 0]) (sj_if (et_w (ew_or (et_cmp o_gt dCmpI_nx (EO.up (k := 1) (n := 0) (eo_op o_add dAdd_nx (eb_var (n := 1) (i := 4) rfl (.inl (by kernel_rfl)) (by decide)) (eb_var (n := 1) (i := 6) rfl (.inl (by kernel_rfl)) (by decide)))) (EO.up (k := 0) (n := 0) (eo_callB c_len fLen_nx (gl_of (by kernel_rfl)) T.z_len (by decide +kernel) (ea_cons (eb_var (n := 1) (i := 0) rfl (.inl (by kernel_rfl)) (by decide)) ea_nil))) (nomark _)) (ew_or1 (et_cmp o_gt dCmpI_nx (EO.up (k := 1) (n := 0) (eo_op o_add dAdd_nx (eb_var (n := 1) (i := 5) rfl (.inl (by kernel_rfl)) (by decide)) (eb_var (n := 1) (i := 7) rfl (.inl (by kernel_rfl)) (by decide)))) (EO.up (k := 0) (n := 0) (eo_callB c_len fLen_nx (gl_of (by kernel_rfl)) T.z_len (by decide +kernel) (ea_cons (eb_var (n := 1) (i := 1) rfl (.inl (by kernel_rfl)) (by decide)) ea_nil))) (nomark _))))) (sjs_one (sj_ret eo_bl)) sjs_nil)
  (sjs_cons (L1 := [0, 0, 0, 0, 0, 0, 0, 0]) (sj_if (et_cmp (o_eq hr.units) dEq_nx (eb_var (n := 1) (i := 3) rfl (.inl (by kernel_rfl)) (by decide)) (EO.up (k := 0) (n := 1) (eo_gstr (gl_of (by kernel_rfl)) T.c_KEEP.choose_spec)) (nomark _)) (sjs_one (sj_ret (eo_cmp (o_eq hr.units) dEq_nx (eb_ix (eb_var (n := 2) (i := 0) rfl (.inl (by kernel_rfl)) (by decide)) (eb_var (n := 0) (i := 4) rfl (.inl (by kernel_rfl)) (by decide))) (eb_ix (eb_var (n := 2) (i := 1) rfl (.inl (by kernel_rfl)) (by decide)) (eb_var (n := 0) (i := 5) rfl (.inl (by kernel_rfl)) (by decide))) (nomark _)))) sjs_nil)
  (sjs_one (sj_ret (EB.o (eb_or (EO.up (k := 0) (n := 0) (eo_cmp (o_ne hr.units) dNe_nx (eb_var (n := 1) (i := 3) rfl (.inl (by kernel_rfl)) (by decide)) (EO.up (k := 0) (n := 1) (eo_gstr (gl_of (by kernel_rfl)) T.c_EXCHANGE.choose_spec)) (nomark _))) (eb_one (EO.up (k := 0) (n := 0) (eo_cmp (o_ne hr.units) dNe_nx (eb_ix (eb_var (n := 2) (i := 0) rfl (.inl (by kernel_rfl)) (by decide)) (eb_var (n := 0) (i := 4) rfl (.inl (by kernel_rfl)) (by decide))) (eb_ix (eb_var (n := 2) (i := 1) rfl (.inl (by kernel_rfl)) (by decide)) (eb_var (n := 0) (i := 5) rfl (.inl (by kernel_rfl)) (by decide))) (nomark _))))))))))))), b, F.kp⟩
theorem ok_levels_fault (T : Txt K mg) : ∃ fd, (∀ base : Heap, FnOk P w K mg base (L2.CX P w) 4 (He.ga K "levels_fault") fd ["old", "new", "prices", "levels"] (Spec K mg 4 0 C_levels_fault)) ∧ BA fd ["old", "new", "prices", "levels"] ∧ PySem.W.keepIn K (.ref (He.ga K "levels_fault")) = true := by
  obtain ⟨fd, F, b⟩ := T.F_levels_fault
  obtain ⟨fd_check_short, G_check_short, b_check_short, k_check_short⟩ := ok_check_short (P := P) (w := w) T
  obtain ⟨fd_check_prices, G_check_prices, b_check_prices, k_check_prices⟩ := ok_check_prices (P := P) (w := w) T
  obtain ⟨fd__are_levels, G__are_levels, b__are_levels, k__are_levels⟩ := ok__are_levels (P := P) (w := w) T
  obtain ⟨fd_step, G_step, b_step, k_step⟩ := ok_step (P := P) (w := w) T
  obtain ⟨fd_price_of, G_price_of, b_price_of, k_price_of⟩ := ok_price_of (P := P) (w := w) T
  obtain ⟨fd_can_be, G_can_be, b_can_be, k_can_be⟩ := ok_can_be (P := P) (w := w) T
  exact ⟨fd, fun base => fn_ok (N := n_levels_fault) (nN := 11) (k := 3) (kr := 0) (L := [0, 0, 0, 0, 0, 0, 0, 0, 0, 0, 0]) (L' := [0, 0, 0, 0, 0, 0, 0, 0, 0, 0, 0]) (FF := F_levels_fault) F sc_levels_fault rfl rfl rfl rfl fun cdv A outer s H E hr => ((sjs_cons (L1 := [0, 0, 0, 0, 0, 0, 0, 0, 0, 0, 0]) (sj_expr (EO.up (k := 0) (n := 0) (eo_call (G_check_short base) (hr.mono (by decide)) (gl_of (by kernel_rfl)) T.g_check_short k_check_short b_check_short.b (takes_of rfl rfl rfl rfl) (ea_cons (EO.up (k := 1) (n := 0) (eo_lst (ea_cons (eb_var (n := 0) (i := 0) rfl (.inl (by kernel_rfl)) (by decide)) (ea_cons (eb_var (n := 0) (i := 1) rfl (.inl (by kernel_rfl)) (by decide)) ea_nil)))) ea_nil))))
  (sjs_cons (L1 := [0, 0, 0, 0, 0, 0, 0, 0, 0, 0, 0]) (sj_expr (EO.up (k := 0) (n := 0) (eo_call (G_check_prices base) (hr.mono (by decide)) (gl_of (by kernel_rfl)) T.g_check_prices k_check_prices b_check_prices.b (takes_of rfl rfl rfl rfl) (ea_cons (eb_var (n := 0) (i := 2) rfl (.inl (by kernel_rfl)) (by decide)) ea_nil))))
  (sjs_cons (L1 := [0, 0, 0, 0, 0, 0, 0, 0, 0, 0, 0]) (sj_if (et_not (et_val (EO.up (k := 0) (n := 1) (eo_call (G__are_levels base) (hr.mono (by decide)) (gl_of (by kernel_rfl)) T.g__are_levels k__are_levels b__are_levels.b (takes_of rfl rfl rfl rfl) (ea_cons (eb_var (n := 0) (i := 0) rfl (.inl (by kernel_rfl)) (by decide)) (ea_cons (eb_var (n := 0) (i := 1) rfl (.inl (by kernel_rfl)) (by decide)) (ea_cons (eb_var (n := 0) (i := 3) rfl (.inl (by kernel_rfl)) (by decide)) ea_nil))))))) (sjs_one (sj_ret (eo_gstr (gl_of (by kernel_rfl)) T.c_FORM.choose_spec))) sjs_nil)
  (sjs_cons (L1 := [0, 0, 0, 0, 0, 0, 0, 0, 0, 0, 0]) (sj_if (et_cmp (o_ne hr.units) dNe_nx (eb_ix (eb_ix (eb_var (n := 3) (i := 3) rfl (.inl (by kernel_rfl)) (by decide)) (EO.up (k := 0) (n := 0) eo_int)) (EO.up (k := 0) (n := 0) eo_int)) (EO.up (k := 0) (n := 1) eo_int) (nomark _)) (sjs_one (sj_ret eo_str)) sjs_nil)
  (sjs_cons (L1 := [0, 0, 0, 0, 0, 0, 0, 0, 0, 0, 0]) (sj_for (passes_of rfl) rfl (ei_range1 (gl_of (by kernel_rfl)) T.z_range (ea_cons (EO.up (k := 1) (n := 0) (eo_op o_add dAdd_nx (EO.up (k := 0) (n := 1) (eo_callB c_len fLen_nx (gl_of (by kernel_rfl)) T.z_len (by decide +kernel) (ea_cons (eb_var (n := 1) (i := 0) rfl (.inl (by kernel_rfl)) (by decide)) ea_nil))) (EO.up (k := 0) (n := 1) eo_int))) ea_nil)) (pg_name (i := 4) sc_levels_fault.nd rfl (.inl (by kernel_rfl)) (.inl rfl)) (gs_name 4) (by decide)
  (sjs_cons (L1 := [0, 0, 0, 0, 0, 0, 0, 0, 0, 0, 0]) (sj_for (passes_of rfl) rfl (ei_range1 (gl_of (by kernel_rfl)) T.z_range (ea_cons (EO.up (k := 1) (n := 0) (eo_op o_add dAdd_nx (EO.up (k := 0) (n := 1) (eo_callB c_len fLen_nx (gl_of (by kernel_rfl)) T.z_len (by decide +kernel) (ea_cons (eb_var (n := 1) (i := 1) rfl (.inl (by kernel_rfl)) (by decide)) ea_nil))) (EO.up (k := 0) (n := 1) eo_int))) ea_nil)) (pg_name (i := 5) sc_levels_fault.nd rfl (.inl (by kernel_rfl)) (.inl rfl)) (gs_name 5) (by decide)
  (sjs_cons (L1 := [0, 0, 0, 0, 0, 0, 0, 0, 0, 0, 0]) (sj_for (passes_of rfl) rfl (ei_seq (EO.up (k := 0) (n := 0) (eo_gstr (gl_of (by kernel_rfl)) T.c_SIGNS.choose_spec))) (pg_name (i := 6) sc_levels_fault.nd rfl (.inl (by kernel_rfl)) (.inl rfl)) (gs_name 6) (by decide)
  (sjs_cons (L1 := [0, 0, 0, 0, 0, 0, 0, 0, 0, 0, 0]) (sj_unp (pg_tup rfl (pgs_cons (pg_name (i := 7) sc_levels_fault.nd rfl (.inl (by kernel_rfl)) (.inl rfl)) (pgs_cons (pg_name (i := 8) sc_levels_fault.nd rfl (.inl (by kernel_rfl)) (.inl rfl)) pgs_nil))) (gs_tup [7, 8]) (EO.up (k := 0) (n := 0) (eo_call (G_step base) (hr.mono (by decide)) (gl_of (by kernel_rfl)) T.g_step k_step b_step.b (takes_of rfl rfl rfl rfl) (ea_cons (eb_var (n := 0) (i := 6) rfl (.inl (by kernel_rfl)) (by decide)) ea_nil))) (by decide))
  (sjs_cons (L1 := [0, 0, 0, 0, 0, 0, 0, 0, 0, 0, 0]) (sj_set (i := 9) (k := 0) sc_levels_fault.nd rfl (.inl (by kernel_rfl)) (eo_tup (ea_cons (EO.up (k := 0) (n := 0) (eo_op o_sub dSub_nx (eb_var (n := 0) (i := 4) rfl (.inl (by kernel_rfl)) (by decide)) (eb_var (n := 0) (i := 7) rfl (.inl (by kernel_rfl)) (by decide)))) (ea_cons (EO.up (k := 0) (n := 0) (eo_op o_sub dSub_nx (eb_var (n := 0) (i := 5) rfl (.inl (by kernel_rfl)) (by decide)) (eb_var (n := 0) (i := 8) rfl (.inl (by kernel_rfl)) (by decide)))) ea_nil))) (by decide) rfl (.inl rfl))
  (sjs_cons (L1 := [0, 0, 0, 0, 0, 0, 0, 0, 0, 0, 0]) (sj_set (i := 10) (k := 0) sc_levels_fault.nd rfl (.inl (by kernel_rfl)) (eo_call (G_price_of base) (hr.mono (by decide)) (gl_of (by kernel_rfl)) T.g_price_of k_price_of b_price_of.b (takes_of rfl rfl rfl rfl) (ea_cons (eb_var (n := 0) (i := 2) rfl (.inl (by kernel_rfl)) (by decide)) (ea_cons (eb_var (n := 0) (i := 6) rfl (.inl (by kernel_rfl)) (by decide)) ea_nil))) (by decide) rfl (.inl rfl))
  (sjs_cons (L1 := [0, 0, 0, 0, 0, 0, 0, 0, 0, 0, 0]) (sj_if (et_w (ew_and (et_cmp o_isNot dIsNot_nx (eb_var (n := 1) (i := 10) rfl (.inl (by kernel_rfl)) (by decide)) (EO.up (k := 0) (n := 1) eo_non) (nomark _)) (ew_and (et_cmp o_ge dCmpI_nx (EO.up (k := 0) (n := 0) (eo_callB (c_min rfl hr.hd hr.units) fMin_nx (gl_of (by kernel_rfl)) T.z_min (by decide +kernel) (ea_cons (eb_var (n := 1) (i := 9) rfl (.inl (by kernel_rfl)) (by decide)) ea_nil))) (EO.up (k := 0) (n := 0) eo_int) (nomark _)) (ew_and1 (et_val (EO.up (k := 0) (n := 1) (eo_call (G_can_be base) (hr.mono (by decide)) (gl_of (by kernel_rfl)) T.g_can_be k_can_be b_can_be.b (takes_of rfl rfl rfl rfl) (ea_cons (eb_var (n := 0) (i := 0) rfl (.inl (by kernel_rfl)) (by decide)) (ea_cons (eb_var (n := 0) (i := 1) rfl (.inl (by kernel_rfl)) (by decide)) (ea_cons (eb_var (n := 0) (i := 9) rfl (.inl (by kernel_rfl)) (by decide)) (ea_cons (eb_var (n := 0) (i := 6) rfl (.inl (by kernel_rfl)) (by decide)) ea_nil))))))))))) (sjs_one (sj_if (et_cmp o_gt dCmpI_nx (eb_ix (eb_ix (eb_var (n := 2) (i := 3) rfl (.inl (by kernel_rfl)) (by decide)) (eb_var (n := 0) (i := 4) rfl (.inl (by kernel_rfl)) (by decide))) (eb_var (n := 0) (i := 5) rfl (.inl (by kernel_rfl)) (by decide))) (EO.up (k := 1) (n := 0) (eo_op o_add dAdd_nx (eb_ix (eb_ix (eb_var (n := 3) (i := 3) rfl (.inl (by kernel_rfl)) (by decide)) (eb_ix (eb_var (n := 1) (i := 9) rfl (.inl (by kernel_rfl)) (by decide)) (EO.up (k := 0) (n := 0) eo_int))) (eb_ix (eb_var (n := 1) (i := 9) rfl (.inl (by kernel_rfl)) (by decide)) (EO.up (k := 0) (n := 0) eo_int))) (eb_var (n := 1) (i := 10) rfl (.inl (by kernel_rfl)) (by decide)))) (nomark _)) (sjs_one (sj_ret (eo_tup (ea_cons (eb_var (n := 0) (i := 4) rfl (.inl (by kernel_rfl)) (by decide)) (ea_cons (eb_var (n := 0) (i := 5) rfl (.inl (by kernel_rfl)) (by decide)) ea_nil))))) sjs_nil)) sjs_nil)
  (sjs_kill [6, 7, 8, 9, 10] sjs_nil))))))
  (sjs_kill [6, 7, 8, 9, 10] (sjs_kill [5, 6, 7, 8, 9, 10] sjs_nil))))
  (sjs_kill [5, 6, 7, 8, 9, 10] (sjs_kill [4, 5, 6, 7, 8, 9, 10] sjs_nil))))
  (sjs_kill [4, 5, 6, 7, 8, 9, 10] (sjs_one (sj_ret eo_non))))))))), b, F.kp⟩
theorem ok_law (T : Txt K mg) : ∃ fd, (∀ base : Heap, FnOk P w K mg base (L2.CX P w) 5 (He.ga K "law") fd ["script"] (Spec K mg 1 0 C_law)) ∧ BA fd ["script"] ∧ PySem.W.keepIn K (.ref (He.ga K "law")) = true := by
  obtain ⟨fd, F, b⟩ := T.F_law
  obtain ⟨fd__law_draws, G__law_draws, b__law_draws, k__law_draws⟩ := ok__law_draws (P := P) (w := w) T
  obtain ⟨fd__law_text, G__law_text, b__law_text, k__law_text⟩ := ok__law_text (P := P) (w := w) T
  obtain ⟨fd__law_prices, G__law_prices, b__law_prices, k__law_prices⟩ := ok__law_prices (P := P) (w := w) T
  obtain ⟨fd__law_ahead, G__law_ahead, b__law_ahead, k__law_ahead⟩ := ok__law_ahead (P := P) (w := w) T
  obtain ⟨fd__law_bent, G__law_bent, b__law_bent, k__law_bent⟩ := ok__law_bent (P := P) (w := w) T
  obtain ⟨fd__law_due, G__law_due, b__law_due, k__law_due⟩ := ok__law_due (P := P) (w := w) T
  obtain ⟨fd_levels_fault, G_levels_fault, b_levels_fault, k_levels_fault⟩ := ok_levels_fault (P := P) (w := w) T
  obtain ⟨fd__law_put, G__law_put, b__law_put, k__law_put⟩ := ok__law_put (P := P) (w := w) T
  exact ⟨fd, fun base => fn_ok (N := n_law) (nN := 13) (k := 4) (kr := 0) (L := [0, 0, 0, 0, 0, 0, 0, 0, 0, 0, 0, 0, 0]) (L' := [0, 0, 0, 0, 0, 0, 0, 0, 0, 0, 0, 0, 0]) (FF := F_law) F sc_law rfl rfl rfl rfl fun cdv A outer s H E hr => ((sjs_cons (L1 := [0, 0, 0, 0, 0, 0, 0, 0, 0, 0, 0, 0, 0]) (sj_set (i := 1) (k := 0) sc_law.nd rfl (.inl (by kernel_rfl)) (eo_call (G__law_draws base) (hr.mono (by decide)) (gl_of (by kernel_rfl)) T.g__law_draws k__law_draws b__law_draws.b (takes_of rfl rfl rfl rfl) (ea_cons (eb_var (n := 0) (i := 0) rfl (.inl (by kernel_rfl)) (by decide)) (ea_cons (EO.up (k := 0) (n := 0) eo_int) ea_nil))) (by decide) rfl (.inl rfl))
  (sjs_cons (L1 := [0, 0, 0, 0, 0, 0, 0, 0, 0, 0, 0, 0, 0]) (sj_for (passes_of rfl) rfl (ei_range1 (gl_of (by kernel_rfl)) T.z_range (ea_cons (EO.up (k := 0) (n := 0) eo_int) ea_nil)) (pg_name (i := 2) sc_law.nd rfl (.inl (by kernel_rfl)) (.inl rfl)) (gs_name 2) (by decide)
  (sjs_cons (L1 := [0, 0, 0, 0, 0, 0, 0, 0, 0, 0, 0, 0, 0]) (sj_set (i := 3) (k := 0) sc_law.nd rfl (.inl (by kernel_rfl)) (EB.o (EO.b (k := 1) (eo_op o_add dAdd_nx (EO.up (k := 0) (n := 1) eo_int) (EO.up (k := 0) (n := 1) (eo_op o_mod dMod_nx (EO.up (k := 0) (n := 0) (eo_callTy c_int fInt_nx (gl_of (by kernel_rfl)) T.z_int (by decide +kernel) (ea_cons (eb_ix (eb_var (n := 1) (i := 1) rfl (.inl (by kernel_rfl)) (by decide)) (eb_var (n := 0) (i := 2) rfl (.inl (by kernel_rfl)) (by decide))) ea_nil))) (EO.up (k := 0) (n := 0) eo_int)))))) (by decide) rfl (.inl rfl))
  (sjs_cons (L1 := [0, 0, 0, 0, 0, 0, 0, 0, 0, 0, 0, 0, 0]) (sj_parT (is := [4, 5]) (ks := [0, 0]) (pg_tup rfl (pgs_cons (pg_name (i := 4) sc_law.nd rfl (.inl (by kernel_rfl)) (.inl rfl)) (pgs_cons (pg_name (i := 5) sc_law.nd rfl (.inr (by kernel_rfl)) (.inl rfl)) pgs_nil))) (eas_cons (k := 0) (eo_call (G__law_text base) (hr.mono (by decide)) (gl_of (by kernel_rfl)) T.g__law_text k__law_text b__law_text.b (takes_of rfl rfl rfl rfl) (ea_cons (EO.up (k := 1) (n := 0) (eo_sl (eb_var (n := 1) (i := 1) rfl (.inl (by kernel_rfl)) (by decide)) (ep_some (EO.up (k := 1) (n := 0) (eo_op o_add dAdd_nx (EO.up (k := 0) (n := 1) eo_int) (EO.up (k := 0) (n := 1) (eo_op o_mul dMul_nx (EO.up (k := 0) (n := 0) eo_int) (eb_var (n := 0) (i := 2) rfl (.inl (by kernel_rfl)) (by decide))))))) (ep_some (EO.up (k := 1) (n := 0) (eo_op o_add dAdd_nx (EO.up (k := 0) (n := 1) eo_int) (EO.up (k := 0) (n := 1) (eo_op o_mul dMul_nx (EO.up (k := 0) (n := 0) eo_int) (eb_var (n := 0) (i := 2) rfl (.inl (by kernel_rfl)) (by decide))))))))) (ea_cons (EO.up (k := 0) (n := 0) eo_int) (ea_cons (eb_var (n := 0) (i := 3) rfl (.inl (by kernel_rfl)) (by decide)) ea_nil)))) (eas_cons (k := 0) (eo_call (G__law_text base) (hr.mono (by decide)) (gl_of (by kernel_rfl)) T.g__law_text k__law_text b__law_text.b (takes_of rfl rfl rfl rfl) (ea_cons (EO.up (k := 1) (n := 0) (eo_sl (eb_var (n := 1) (i := 1) rfl (.inl (by kernel_rfl)) (by decide)) (ep_some (EO.up (k := 1) (n := 0) (eo_op o_add dAdd_nx (EO.up (k := 0) (n := 1) eo_int) (EO.up (k := 0) (n := 1) (eo_op o_mul dMul_nx (EO.up (k := 0) (n := 0) eo_int) (eb_var (n := 0) (i := 2) rfl (.inl (by kernel_rfl)) (by decide))))))) (ep_some (EO.up (k := 1) (n := 0) (eo_op o_add dAdd_nx (EO.up (k := 0) (n := 1) eo_int) (EO.up (k := 0) (n := 1) (eo_op o_mul dMul_nx (EO.up (k := 0) (n := 0) eo_int) (eb_var (n := 0) (i := 2) rfl (.inl (by kernel_rfl)) (by decide))))))))) (ea_cons (EO.up (k := 0) (n := 0) eo_int) (ea_cons (eb_var (n := 0) (i := 3) rfl (.inl (by kernel_rfl)) (by decide)) ea_nil)))) eas_nil)) (by decide) (by decide))
  (sjs_cons (L1 := [0, 0, 0, 0, 0, 0, 0, 0, 0, 0, 0, 0, 0]) (sj_set (i := 6) (k := 0) sc_law.nd rfl (.inl (by kernel_rfl)) (eo_call (G__law_prices base) (hr.mono (by decide)) (gl_of (by kernel_rfl)) T.g__law_prices k__law_prices b__law_prices.b (takes_of rfl rfl rfl rfl) (ea_cons (EO.up (k := 0) (n := 0) (eo_callTy c_int fInt_nx (gl_of (by kernel_rfl)) T.z_int (by decide +kernel) (ea_cons (eb_ix (eb_var (n := 1) (i := 1) rfl (.inl (by kernel_rfl)) (by decide)) (EO.up (k := 1) (n := 0) (eo_op o_add dAdd_nx (EO.up (k := 0) (n := 1) eo_int) (eb_var (n := 1) (i := 2) rfl (.inl (by kernel_rfl)) (by decide))))) ea_nil))) ea_nil)) (by decide) rfl (.inl rfl))
  (sjs_cons (L1 := [0, 0, 0, 0, 0, 0, 0, 0, 0, 0, 0, 0, 0]) (sj_set (i := 7) (k := 0) sc_law.nd rfl (.inr (by kernel_rfl)) (eo_call (G__law_ahead base) (hr.mono (by decide)) (gl_of (by kernel_rfl)) T.g__law_ahead k__law_ahead b__law_ahead.b (takes_of rfl rfl rfl rfl) (ea_cons (eb_var (n := 0) (i := 4) rfl (.inl (by kernel_rfl)) (by decide)) (ea_cons (eb_var (n := 0) (i := 5) rfl (.inr (.inl (by kernel_rfl))) (by decide)) (ea_cons (eb_var (n := 0) (i := 6) rfl (.inl (by kernel_rfl)) (by decide)) ea_nil)))) (by decide) rfl (.inl rfl))
  (sjs_cons (L1 := [0, 0, 0, 0, 0, 0, 0, 0, 0, 0, 0, 0, 0]) (sj_for (passes_of rfl) rfl (ei_seq (EO.up (k := 0) (n := 0) (eo_call (G__law_bent base) (hr.mono (by decide)) (gl_of (by kernel_rfl)) T.g__law_bent k__law_bent b__law_bent.b (takes_of rfl rfl rfl rfl) (ea_cons (EO.up (k := 1) (n := 0) (eo_sl (eb_var (n := 1) (i := 1) rfl (.inl (by kernel_rfl)) (by decide)) (ep_some (EO.up (k := 0) (n := 0) eo_int)) ep_none)) (ea_cons (eb_var (n := 0) (i := 7) rfl (.inr (.inl (by kernel_rfl))) (by decide)) ea_nil))))) (pg_name (i := 8) sc_law.nd rfl (.inr (by kernel_rfl)) (.inl rfl)) (gs_name 8) (by decide)
  (sjs_cons (L1 := [0, 0, 0, 0, 0, 0, 0, 0, 0, 0, 0, 0, 0]) (sj_set (i := 9) (k := 0) sc_law.nd rfl (.inl (by kernel_rfl)) (eo_call (G__law_due base) (hr.mono (by decide)) (gl_of (by kernel_rfl)) T.g__law_due k__law_due b__law_due.b (takes_of rfl rfl rfl rfl) (ea_cons (eb_var (n := 0) (i := 4) rfl (.inl (by kernel_rfl)) (by decide)) (ea_cons (eb_var (n := 0) (i := 5) rfl (.inr (.inl (by kernel_rfl))) (by decide)) (ea_cons (eb_var (n := 0) (i := 6) rfl (.inl (by kernel_rfl)) (by decide)) (ea_cons (eb_var (n := 0) (i := 8) rfl (.inr (.inl (by kernel_rfl))) (by decide)) ea_nil))))) (by decide) rfl (.inl rfl))
  (sjs_cons (L1 := [0, 0, 0, 0, 0, 0, 0, 0, 0, 0, 0, 0, 0]) (sj_if (et_cmp (o_ne hr.units) dNe_nx (EO.up (k := 0) (n := 1) (eo_call (G_levels_fault base) (hr.mono (by decide)) (gl_of (by kernel_rfl)) T.g_levels_fault k_levels_fault b_levels_fault.b (takes_of rfl rfl rfl rfl) (ea_cons (eb_var (n := 0) (i := 4) rfl (.inl (by kernel_rfl)) (by decide)) (ea_cons (eb_var (n := 0) (i := 5) rfl (.inr (.inl (by kernel_rfl))) (by decide)) (ea_cons (eb_var (n := 0) (i := 6) rfl (.inl (by kernel_rfl)) (by decide)) (ea_cons (eb_var (n := 0) (i := 8) rfl (.inr (.inl (by kernel_rfl))) (by decide)) ea_nil)))))) (eb_var (n := 1) (i := 9) rfl (.inl (by kernel_rfl)) (by decide)) (nomark _)) (sjs_one (sj_ret eo_bl)) sjs_nil)
  (sjs_cons (L1 := [0, 0, 0, 0, 0, 0, 0, 0, 0, 0, 0, 0, 0]) (sj_if (et_w (ew_and (et_cmp o_is dIs_nx (eb_var (n := 1) (i := 9) rfl (.inl (by kernel_rfl)) (by decide)) (EO.up (k := 0) (n := 1) eo_non) (nomark _)) (ew_and1 (et_val (EO.up (k := 0) (n := 1) (eo_callB (c_any rfl) fAny_nx (gl_of (by kernel_rfl)) T.z_any (by decide +kernel) (ea_cons (EO.up (k := 1) (n := 1) (eo_lc (own := [("row", 10)]) rfl sc_law.nd (ei_range1 (gl_of (by kernel_rfl)) T.z_range (ea_cons (EO.up (k := 1) (n := 0) (eo_op o_add dAdd_nx (EO.up (k := 0) (n := 1) (eo_callB c_len fLen_nx (gl_of (by kernel_rfl)) T.z_len (by decide +kernel) (ea_cons (eb_var (n := 1) (i := 4) rfl (.inl (by kernel_rfl)) (by decide)) ea_nil))) (EO.up (k := 0) (n := 1) eo_int))) ea_nil)) (blkOk_by (by kernel_rfl)) (fun _ _ _ _ _ => (pg_name (i := 10) sc_law.nd rfl (.inr (by kernel_rfl)) (.inl (by kernel_rfl)))) (fun _ _ _ _ _ => ets_nil) (fun _ _ _ _ _ => (eo_callB (c_any rfl) fAny_nx (gl_of (by kernel_rfl)) T.z_any (by decide +kernel) (ea_cons (EO.up (k := 1) (n := 1) (eo_lc (own := [("k", 12)]) rfl sc_law.nd (ei_range1 (gl_of (by kernel_rfl)) T.z_range (ea_cons (EO.up (k := 1) (n := 0) (eo_op o_add dAdd_nx (EO.up (k := 0) (n := 1) (eo_callB c_len fLen_nx (gl_of (by kernel_rfl)) T.z_len (by decide +kernel) (ea_cons (eb_var (n := 1) (i := 5) rfl (.inr (.inl (by kernel_rfl))) (by decide)) ea_nil))) (EO.up (k := 0) (n := 1) eo_int))) ea_nil)) (blkOk_by (by kernel_rfl)) (fun _ _ _ _ _ => (pg_name (i := 12) sc_law.nd rfl (.inl (by kernel_rfl)) (.inr (by kernel_rfl)))) (fun _ _ _ _ _ => ets_nil) (fun _ _ _ _ _ => (eo_cmp o_gt dCmpI_nx (eb_ix (eb_ix (eb_var (n := 2) (i := 8) rfl (.inr (.inl (by kernel_rfl))) (by decide)) (eb_var (n := 0) (i := 10) rfl (.inr (.inl (by kernel_rfl))) (by decide))) (eb_var (n := 0) (i := 12) rfl (.inl (by kernel_rfl)) (by decide))) (eb_ix (eb_ix (eb_var (n := 2) (i := 7) rfl (.inr (.inl (by kernel_rfl))) (by decide)) (eb_var (n := 0) (i := 10) rfl (.inr (.inl (by kernel_rfl))) (by decide))) (eb_var (n := 0) (i := 12) rfl (.inl (by kernel_rfl)) (by decide))) (nomark _))) (gs_name 12) (by decide) (by decide))) ea_nil))) (gs_name 10) (by decide) (by decide))) ea_nil))))))) (sjs_one (sj_ret eo_bl)) sjs_nil)
  (sjs_kill [8, 9] sjs_nil)))))
  (sjs_kill [8, 9] (sjs_cons (L1 := [0, 0, 0, 0, 0, 0, 0, 0, 0, 0, 0, 0, 0]) (sj_for (passes_of rfl) rfl (ei_range1 (gl_of (by kernel_rfl)) T.z_range (ea_cons (EO.up (k := 1) (n := 0) (eo_op o_add dAdd_nx (EO.up (k := 0) (n := 1) (eo_callB c_len fLen_nx (gl_of (by kernel_rfl)) T.z_len (by decide +kernel) (ea_cons (eb_var (n := 1) (i := 4) rfl (.inl (by kernel_rfl)) (by decide)) ea_nil))) (EO.up (k := 0) (n := 1) eo_int))) ea_nil)) (pg_name (i := 10) sc_law.nd rfl (.inl (by kernel_rfl)) (.inl rfl)) (gs_name 10) (by decide)
  (sjs_cons (L1 := [0, 0, 0, 0, 0, 0, 0, 0, 0, 0, 0, 0, 0]) (sj_for (passes_of rfl) rfl (ei_range1 (gl_of (by kernel_rfl)) T.z_range (ea_cons (EO.up (k := 1) (n := 0) (eo_op o_add dAdd_nx (EO.up (k := 0) (n := 1) (eo_callB c_len fLen_nx (gl_of (by kernel_rfl)) T.z_len (by decide +kernel) (ea_cons (eb_var (n := 1) (i := 5) rfl (.inr (.inl (by kernel_rfl))) (by decide)) ea_nil))) (EO.up (k := 0) (n := 1) eo_int))) ea_nil)) (pg_name (i := 11) sc_law.nd rfl (.inl (by kernel_rfl)) (.inl rfl)) (gs_name 11) (by decide)
  (sjs_cons (L1 := [0, 0, 0, 0, 0, 0, 0, 0, 0, 0, 0, 0, 0]) (sj_if (et_cmp o_is dIs_nx (EO.up (k := 0) (n := 1) (eo_call (G_levels_fault base) (hr.mono (by decide)) (gl_of (by kernel_rfl)) T.g_levels_fault k_levels_fault b_levels_fault.b (takes_of rfl rfl rfl rfl) (ea_cons (eb_var (n := 0) (i := 4) rfl (.inl (by kernel_rfl)) (by decide)) (ea_cons (eb_var (n := 0) (i := 5) rfl (.inr (.inl (by kernel_rfl))) (by decide)) (ea_cons (eb_var (n := 0) (i := 6) rfl (.inl (by kernel_rfl)) (by decide)) (ea_cons (EO.up (k := 0) (n := 0) (eo_call (G__law_put base) (hr.mono (by decide)) (gl_of (by kernel_rfl)) T.g__law_put k__law_put b__law_put.b (takes_of rfl rfl rfl rfl) (ea_cons (eb_var (n := 0) (i := 7) rfl (.inr (.inl (by kernel_rfl))) (by decide)) (ea_cons (eb_var (n := 0) (i := 10) rfl (.inl (by kernel_rfl)) (by decide)) (ea_cons (eb_var (n := 0) (i := 11) rfl (.inl (by kernel_rfl)) (by decide)) (ea_cons (EO.up (k := 1) (n := 0) (eo_op o_add dAdd_nx (eb_ix (eb_ix (eb_var (n := 3) (i := 7) rfl (.inr (.inl (by kernel_rfl))) (by decide)) (eb_var (n := 0) (i := 10) rfl (.inl (by kernel_rfl)) (by decide))) (eb_var (n := 0) (i := 11) rfl (.inl (by kernel_rfl)) (by decide))) (EO.up (k := 0) (n := 1) eo_int))) ea_nil)))))) ea_nil)))))) (EO.up (k := 0) (n := 1) eo_non) (nomark _)) (sjs_one (sj_ret eo_bl)) sjs_nil)
  (sjs_kill [11] sjs_nil)))
  (sjs_kill [11] (sjs_kill [11] sjs_nil))))
  (sjs_kill [11] (sjs_kill [2, 3, 4, 5, 6, 7, 8, 9, 11] sjs_nil))))))))))
  (sjs_kill [2, 3, 4, 5, 6, 7, 8, 9, 10, 11] (sjs_one (sj_ret eo_bl)))))), b, F.kp⟩
end
end K08
namespace K08
open PySem PySem.Spec PyProof.Rows L2 Px
def fa_0 : List He.Fa := [.keep "_law_draws", .glo "_law_draws", .keep "_law_prices", .glo "_law_prices", .keep "_law_ahead", .glo "_law_ahead", .keep "_law_put", .glo "_law_put", .keep "_law_bent", .glo "_law_bent", .keep "_law_text", .glo "_law_text", .keep "_law_due", .glo "_law_due", .keep "is_line", .glo "is_line", .keep "is_text", .glo "is_text", .keep "check_short", .glo "check_short", .keep "_is_price", .glo "_is_price", .keep "check_prices", .glo "check_prices", .keep "_are_levels", .glo "_are_levels", .keep "step", .glo "step", .keep "price_of", .glo "price_of"]
def fa_1 : List He.Fa := [.keep "can_be", .glo "can_be", .keep "levels_fault", .glo "levels_fault", .keep "law", .glo "law", .free "abs", .free "int", .free "range", .free "len", .free "min", .free "tuple", .free "list", .free "max", .free "isinstance", .free "all", .free "bool", .free "str", .free "any", .str "END" "\n", .int "MOST_LINES" 60, .int "MOST_PRICE" 1000, .str "OUT" "o", .str "INTO" "i", .str "EXCHANGE" "x", .str "KEEP" "k", .str "FORM" "form", .str "SIGNS" "kiox", .glo "BadText", .exc "BadText"]
def fa_2 : List He.Fa := [.glo "BadPrices", .exc "BadPrices"]
def fa : List He.Fa := fa_0 ++ fa_1 ++ fa_2
def fn_0 : List He.FnD := [⟨("_law_draws", none), "_law_draws", "_law_draws", defArgs s__law_draws, defBody s__law_draws, defScope s__law_draws⟩, ⟨("_law_prices", none), "_law_prices", "_law_prices", defArgs s__law_prices, defBody s__law_prices, defScope s__law_prices⟩, ⟨("_law_ahead", none), "_law_ahead", "_law_ahead", defArgs s__law_ahead, defBody s__law_ahead, defScope s__law_ahead⟩, ⟨("_law_put", none), "_law_put", "_law_put", defArgs s__law_put, defBody s__law_put, defScope s__law_put⟩, ⟨("_law_bent", none), "_law_bent", "_law_bent", defArgs s__law_bent, defBody s__law_bent, defScope s__law_bent⟩, ⟨("_law_text", none), "_law_text", "_law_text", defArgs s__law_text, defBody s__law_text, defScope s__law_text⟩, ⟨("_law_due", none), "_law_due", "_law_due", defArgs s__law_due, defBody s__law_due, defScope s__law_due⟩, ⟨("is_line", none), "is_line", "is_line", defArgs s_is_line, defBody s_is_line, defScope s_is_line⟩, ⟨("is_text", none), "is_text", "is_text", defArgs s_is_text, defBody s_is_text, defScope s_is_text⟩, ⟨("check_short", none), "check_short", "check_short", defArgs s_check_short, defBody s_check_short, defScope s_check_short⟩, ⟨("_is_price", none), "_is_price", "_is_price", defArgs s__is_price, defBody s__is_price, defScope s__is_price⟩, ⟨("check_prices", none), "check_prices", "check_prices", defArgs s_check_prices, defBody s_check_prices, defScope s_check_prices⟩, ⟨("_are_levels", none), "_are_levels", "_are_levels", defArgs s__are_levels, defBody s__are_levels, defScope s__are_levels⟩, ⟨("step", none), "step", "step", defArgs s_step, defBody s_step, defScope s_step⟩, ⟨("price_of", none), "price_of", "price_of", defArgs s_price_of, defBody s_price_of, defScope s_price_of⟩, ⟨("can_be", none), "can_be", "can_be", defArgs s_can_be, defBody s_can_be, defScope s_can_be⟩, ⟨("levels_fault", none), "levels_fault", "levels_fault", defArgs s_levels_fault, defBody s_levels_fault, defScope s_levels_fault⟩, ⟨("law", none), "law", "law", defArgs s_law, defBody s_law, defScope s_law⟩]
def fn : List He.FnD := fn_0
def loose_0 : List Str := ["PatchError", "BadText", "BadPrices", "END", "is_line", "is_text", "MOST_LINES", "MOST_PRICE", "KEEP", "OUT", "INTO", "EXCHANGE", "SIGNS", "check_short", "step", "can_be", "_is_price", "check_prices", "price_of", "FORM", "_are_levels", "levels_fault", "_law_draws", "_law_text", "_law_prices", "_law_ahead", "_law_due", "_law_put", "_law_bent"]
def loose : List Str := loose_0
abbrev R_ : PySem.W.OpenRow := PySem.W.OpenLaw.row PySem.Challenge.rw_patchwright_k08_levels_of_scripts
abbrev hk : PySem.W.Hook := He.hookE 4 fa fn
def ob (s : PySem.W.SharedT) : He.Al := He.obsG 4 fa fn (HandSHeadRun.getT s)
theorem ob_eq (s : PySem.W.SharedT) : ob s = hk.obs s.abs := He.obsG_eq (HandSHeadRun.getT_eq s)
theorem run (w : World) : HandSHeadRun.RunEq R_ (PySem.W.view R_.prog [34]) hk ob 4000 loose w := by
  intro os
  kernel_rfl
theorem txt {K : PySem.W.Frag} {h : Heap} {mg : Str → Option Value} (X : K.In h) (G : h.Ns mainGlobals mg) (c : He.SaysE fa fn K) : Txt K mg :=
  ⟨(txt_fun c 0 0 rfl rfl fun _ _ _ _ _ _ us hl => match us, hl with | [_, _], _ => rfl),
   (He.glo_ok X G (c.fact 1 rfl)),
   (txt_fun c 1 2 rfl rfl fun _ _ _ _ _ _ us hl => match us, hl with | [_], _ => rfl),
   (He.glo_ok X G (c.fact 3 rfl)),
   (txt_fun c 2 4 rfl rfl fun _ _ _ _ _ _ us hl => match us, hl with | [_, _, _], _ => rfl),
   (He.glo_ok X G (c.fact 5 rfl)),
   (txt_fun c 3 6 rfl rfl fun _ _ _ _ _ _ us hl => match us, hl with | [_, _, _, _], _ => rfl),
   (He.glo_ok X G (c.fact 7 rfl)),
   (txt_fun c 4 8 rfl rfl fun _ _ _ _ _ _ us hl => match us, hl with | [_, _], _ => rfl),
   (He.glo_ok X G (c.fact 9 rfl)),
   (txt_fun c 5 10 rfl rfl fun _ _ _ _ _ _ us hl => match us, hl with | [_, _, _], _ => rfl),
   (He.glo_ok X G (c.fact 11 rfl)),
   (txt_fun c 6 12 rfl rfl fun _ _ _ _ _ _ us hl => match us, hl with | [_, _, _, _], _ => rfl),
   (He.glo_ok X G (c.fact 13 rfl)),
   (txt_fun c 7 14 rfl rfl fun _ _ _ _ _ _ us hl => match us, hl with | [_], _ => rfl),
   (He.glo_ok X G (c.fact 15 rfl)),
   (txt_fun c 8 16 rfl rfl fun _ _ _ _ _ _ us hl => match us, hl with | [_], _ => rfl),
   (He.glo_ok X G (c.fact 17 rfl)),
   (txt_fun c 9 18 rfl rfl fun _ _ _ _ _ _ us hl => match us, hl with | [_], _ => rfl),
   (He.glo_ok X G (c.fact 19 rfl)),
   (txt_fun c 10 20 rfl rfl fun _ _ _ _ _ _ us hl => match us, hl with | [_], _ => rfl),
   (He.glo_ok X G (c.fact 21 rfl)),
   (txt_fun c 11 22 rfl rfl fun _ _ _ _ _ _ us hl => match us, hl with | [_], _ => rfl),
   (He.glo_ok X G (c.fact 23 rfl)),
   (txt_fun c 12 24 rfl rfl fun _ _ _ _ _ _ us hl => match us, hl with | [_, _, _], _ => rfl),
   (He.glo_ok X G (c.fact 25 rfl)),
   (txt_fun c 13 26 rfl rfl fun _ _ _ _ _ _ us hl => match us, hl with | [_], _ => rfl),
   (He.glo_ok X G (c.fact 27 rfl)),
   (txt_fun c 14 28 rfl rfl fun _ _ _ _ _ _ us hl => match us, hl with | [_, _], _ => rfl),
   (He.glo_ok X G (c.fact 29 rfl)),
   (txt_fun c 15 30 rfl rfl fun _ _ _ _ _ _ us hl => match us, hl with | [_, _, _, _], _ => rfl),
   (He.glo_ok X G (c.fact 31 rfl)),
   (txt_fun c 16 32 rfl rfl fun _ _ _ _ _ _ us hl => match us, hl with | [_, _, _, _], _ => rfl),
   (He.glo_ok X G (c.fact 33 rfl)),
   (txt_fun c 17 34 rfl rfl fun _ _ _ _ _ _ us hl => match us, hl with | [_], _ => rfl),
   (He.glo_ok X G (c.fact 35 rfl)),
   (He.free_ok X G (c.fact 36 rfl)),
   (He.free_ok X G (c.fact 37 rfl)),
   (He.free_ok X G (c.fact 38 rfl)),
   (He.free_ok X G (c.fact 39 rfl)),
   (He.free_ok X G (c.fact 40 rfl)),
   (He.free_ok X G (c.fact 41 rfl)),
   (He.free_ok X G (c.fact 42 rfl)),
   (He.free_ok X G (c.fact 43 rfl)),
   (He.free_ok X G (c.fact 44 rfl)),
   (He.free_ok X G (c.fact 45 rfl)),
   (He.free_ok X G (c.fact 46 rfl)),
   (He.free_ok X G (c.fact 47 rfl)),
   (He.free_ok X G (c.fact 48 rfl)),
   (He.str_ok X G (c.fact 49 rfl)),
   (He.int_ok X G (c.fact 50 rfl)),
   (He.int_ok X G (c.fact 51 rfl)),
   (He.str_ok X G (c.fact 52 rfl)),
   (He.str_ok X G (c.fact 53 rfl)),
   (He.str_ok X G (c.fact 54 rfl)),
   (He.str_ok X G (c.fact 55 rfl)),
   (He.str_ok X G (c.fact 56 rfl)),
   (He.str_ok X G (c.fact 57 rfl)),
   (txt_exc X G c 58 59 rfl rfl),
   (txt_exc X G c 60 61 rfl rfl)⟩
theorem top (pure : ∀ ns : List Int, ns.length ≤ 63 → C_law [.lst (ns.map .int)] = .ok (.bl true)) : PySem.Challenge.rw_patchwright_k08_levels_of_scripts.Holds := by
  w_on; o_law
  refine HandSHeadRun.head_any (r := PySem.W.OpenLaw.row PySem.Challenge.rw_patchwright_k08_levels_of_scripts) (q := PySem.W.view (PySem.W.OpenLaw.row PySem.Challenge.rw_patchwright_k08_levels_of_scripts).prog [34]) (H := hk) (ob := ob) (M := 4000) (loose := loose) (d := HandSHeadRun.topDef (PySem.W.OpenLaw.row PySem.Challenge.rw_patchwright_k08_levels_of_scripts).prog 34) (kwd := []) ob_eq
    (by kernel_rfl) (fun s => by kernel_rfl) run (by kernel_rfl) (by kernel_rfl) (by kernel_rfl) (by rfl) (by first | assumption | decide +kernel) (by decide +kernel) ⟨rfl, rfl, rfl, rfl, rfl, by decide +kernel⟩ ?hw ?hc
  case hw => w_witness2
  case hc =>
    refine walk_px (l := PySem.Challenge.rw_patchwright_k08_levels_of_scripts) (n := 63) (k := 5) (x := "script") rfl (by decide) (by kernel_rfl) ⟨rfl, by decide, by decide⟩ ?F
    intro w mg fa h Y G hmg0
    obtain ⟨K, KX, c⟩ := Y
    have T := txt KX G c
    have hmg : mg ("law" : PySem.Str) = some (.ref fa) := by
      have e : (HandSHeadRun.topDef (PySem.W.OpenLaw.row PySem.Challenge.rw_patchwright_k08_levels_of_scripts).prog 34).name = ("law" : PySem.Str) := by kernel_rfl
      rw [← e]
      exact hmg0
    have e := hmg.symm.trans T.g_law
    cases e
    obtain ⟨fd, Fl, b, kp⟩ := ok_law (P := (PySem.Challenge.rw_patchwright_k08_levels_of_scripts).prog) (w := w) T
    exact ⟨K, fd, Spec K mg 1 0 C_law, KX, fun s v => b s [v] rfl, fun H a ns hl _ _ hS => spec_law (pure ns hl) (Nat.le_trans hl (by decide)) hS, fun base _ _ => Fl base⟩
end K08
namespace K08
open PySem PySem.Spec PyProof.Rows L2 Px
/-! ### the law's draws -/
theorem dr_inner (sc : D) (many seed : Int) (cell : D) (ds : List Int) (num : Int) (k : D) (hl : ds.length < 16777216) (hd : ∀ d ∈ ds, 0 ≤ d) :
    ∃ (ds' : List Int) (num' : Int), B__law_draws_2 [some sc, some (.int many), some (.lst (ds.map .int)), some (.int seed), some cell, some (.int num), some k] = .next [some sc, some (.int many), some (.lst (ds'.map .int)), some (.int seed), some cell, some (.int num'), none] ∧ ds'.length ≤ ds.length + 1 ∧ ∀ d ∈ ds', 0 ≤ d := by
  unfold B__law_draws_2
  by_cases h : 0 < num
  · refine ⟨ds ++ [num % 1009], num / 1009, ?_, by simp, ?_⟩
    · simp [h, sAppend, sl_eq, hl]
    · intro d hm
      rcases List.mem_append.mp hm with hm | hm
      · exact hd d hm
      · simp at hm
        omega
  · exact ⟨ds, num, by simp [h], by omega, hd⟩
theorem dr_outer (sc : D) (many seed : Int) (c : Int) (a b k : Option D) (ds : List Int) (hl : ds.length + 60 < 16777216) (hd : ∀ d ∈ ds, 0 ≤ d) :
    ∃ (ds' : List Int) (seed' : Int), B__law_draws_1 [some sc, some (.int many), some (.lst (ds.map .int)), some (.int seed), some (.int c), a, b] = .next [some sc, some (.int many), some (.lst (ds'.map .int)), some (.int seed'), none, none, none] ∧ ds'.length ≤ ds.length + 60 ∧ ∀ d ∈ ds', 0 ≤ d := by
  unfold B__law_draws_1
  generalize hn : (if c < 0 then -c else c) = num
  by_cases h : 10 ^ 18 ≤ num
  · obtain ⟨ρ', e, p⟩ := for_inv (gf := gfName 6) (F := B__law_draws_2) (ds := (List.range 60).map fun i => .int (i : Nat)) (n := 0)
      (ρ := [some sc, some (.int many), some (.lst (ds.map .int)), some (.int ((seed * 48271 + num + 11) % 2147483647)), some (.int c), some (.int num), b])
      (P := fun m ρ => ∃ (ds' : List Int) (num' : Int) (k : Option D), ρ = [some sc, some (.int many), some (.lst (ds'.map .int)), some (.int ((seed * 48271 + num + 11) % 2147483647)), some (.int c), some (.int num'), k] ∧ ds'.length ≤ ds.length + m ∧ ∀ d ∈ ds', 0 ≤ d)
      ⟨ds, num, b, rfl, by omega, hd⟩ (fun i d hi ρ hp => by
        obtain ⟨ds1, num1, k1, rfl, hl1, hd1⟩ := hp
        have hi2 : i < 60 := by
          have := (List.getElem?_eq_some_iff.mp hi).1
          simpa using this
        obtain ⟨ds2, num2, e2, hl2, hd2⟩ := dr_inner sc many ((seed * 48271 + num + 11) % 2147483647) (.int c) ds1 num1 d (by omega) hd1
        exact ⟨_, _, rfl, .inl e2, ds2, num2, none, rfl, by omega, hd2⟩)
    obtain ⟨ds', num', k', rfl, hl', hd'⟩ := p
    refine ⟨ds', (seed * 48271 + num + 11) % 2147483647, ?_, by simpa using hl', hd'⟩
    have hm : mulOk seed 48271 = true := mulOk_r _ _ (by decide)
    have e0 := dRng1_nat 60 (by omega)
    have e0 : dRng1 [.int 60] = .ok ((List.range 60).map fun i => .int (i : Nat)) := e0
    have h' : (1000000000000000000 : Int) ≤ num := h
    simp [hn, hm, h', x_sFor, e0, e]
  · refine ⟨ds ++ [((seed * 48271 + num + 11) % 2147483647 * 16807 + 5) / 3 % 65521], (seed * 48271 + num + 11) % 2147483647, ?_, by simp, ?_⟩
    · have hm : mulOk seed 48271 = true := mulOk_r _ _ (by decide)
      have hm2 : mulOk ((seed * 48271 + num + 11) % 2147483647) 16807 = true := mulOk_r _ _ (by decide)
      have h' : ¬ (1000000000000000000 : Int) ≤ num := h
      simp [hn, hm, hm2, h', sAppend, sl_eq, show ds.length < 16777216 by omega]
    · intro d hm
      rcases List.mem_append.mp hm with hm | hm
      · exact hd d hm
      · simp at hm
        omega
theorem dr_more (sc : D) (many : Nat) (seed : Int) (j : Nat) (ds : List Int) (hl : ds.length < 16777216) (hd : ∀ d ∈ ds, 0 ≤ d) :
    ∃ (ds' : List Int) (seed' : Int), B__law_draws_3 [some sc, some (.int many), some (.lst (ds.map .int)), some (.int seed), none, none, some (.int (j : Nat))] = .next [some sc, some (.int many), some (.lst (ds'.map .int)), some (.int seed'), none, none, none] ∧ (∀ d ∈ ds', 0 ≤ d) ∧
      (many ≤ ds.length → ds'.length = ds.length) ∧ (ds.length < many → ds'.length = ds.length + 1) := by
  unfold B__law_draws_3
  by_cases h : ds.length < many
  · have hm : mulOk seed 69621 = true := mulOk_r _ _ (by decide)
    refine ⟨ds ++ [(seed * 69621 + j + 1) % 2147483647 / 7 % 65521], (seed * 69621 + j + 1) % 2147483647, ?_, ?_, by omega, by simp⟩
    · simp [h, hm, sAppend, sl_eq, hl]
    · intro d hm
      rcases List.mem_append.mp hm with hm | hm
      · exact hd d hm
      · simp at hm
        omega
  · exact ⟨ds, seed, by simp [h], hd, fun _ => rfl, fun z => absurd z h⟩
theorem draws_ok (ns : List Int) (hn : ns.length ≤ 63) (many : Nat) (hm : many ≤ 1000) : ∃ ds : List Int, ds.length = many ∧ (∀ d ∈ ds, 0 ≤ d) ∧ C__law_draws [.lst (ns.map .int), .int many] = .ok (.lst (ds.map .int)) := by
  obtain ⟨ρ1, e1, ds1, seed1, a1, b1, k1, rfl, hl1, hd1⟩ := for_inv (gf := gfName 4) (F := B__law_draws_1) (ds := (ns.map D.int).take 63) (n := 0)
      (ρ := [some (.lst (ns.map .int)), some (.int many), some (.lst []), some (.int 7), none, none, none])
      (P := fun m ρ => ∃ (ds' : List Int) (seed : Int) (a b c : Option D), ρ = [some (.lst (ns.map .int)), some (.int many), some (.lst (ds'.map .int)), some (.int seed), a, b, c] ∧ ds'.length ≤ 60 * m ∧ ∀ d ∈ ds', 0 ≤ d)
      ⟨[], 7, none, none, none, rfl, by simp, by simp⟩ (fun i d hi ρ hp => by
        obtain ⟨ds1, seed, a, b, c, rfl, hl1, hd1⟩ := hp
        have hi2 := (List.getElem?_eq_some_iff.mp hi).1
        have hmem := List.mem_of_getElem? hi
        obtain ⟨z, hz, rfl⟩ := List.mem_map.mp (List.mem_of_mem_take hmem)
        simp at hi2
        obtain ⟨ds2, seed2, e2, hl2, hd2⟩ := dr_outer (.lst (ns.map .int)) many seed z b c none ds1 (by omega) hd1
        exact ⟨_, _, rfl, .inl e2, ds2, seed2, none, none, none, rfl, by omega, hd2⟩)
  have hl1' : ds1.length ≤ 60 * 63 := by
    simp at hl1
    omega
  obtain ⟨ρ2, e2, ds2, seed2, c2, rfl, hd2, hl2, hg2⟩ := for_inv (gf := gfName 6) (F := B__law_draws_3) (ds := (List.range many).map fun i => .int (i : Nat)) (n := 0)
      (ρ := [some (.lst (ns.map .int)), some (.int many), some (.lst (ds1.map .int)), some (.int seed1), none, none, none])
      (P := fun m ρ => ∃ (ds' : List Int) (seed : Int) (c : Option D), ρ = [some (.lst (ns.map .int)), some (.int many), some (.lst (ds'.map .int)), some (.int seed), none, none, c] ∧ (∀ d ∈ ds', 0 ≤ d) ∧ ds'.length ≤ 60 * 63 + m ∧ (m ≤ ds'.length ∨ many ≤ ds'.length))
      ⟨ds1, seed1, none, rfl, hd1, by omega, .inl (by omega)⟩ (fun i d hi ρ hp => by
        obtain ⟨ds3, seed3, c3, rfl, hd3, hl3, hg3⟩ := hp
        have hi2 := (List.getElem?_eq_some_iff.mp hi).1
        simp at hi2
        have hd : d = .int (i : Nat) := by
          rw [List.getElem?_map, List.getElem?_range hi2] at hi
          exact (Option.some.inj hi).symm
        subst hd
        obtain ⟨ds4, seed4, e4, hd4, n4, y4⟩ := dr_more (.lst (ns.map .int)) many seed3 i ds3 (by omega) hd3
        refine ⟨_, _, rfl, .inl e4, ds4, seed4, none, rfl, hd4, ?_, ?_⟩
        · by_cases q : ds3.length < many
          · rw [y4 q]; omega
          · rw [n4 (by omega)]; omega
        · by_cases q : ds3.length < many
          · rw [y4 q]; omega
          · rw [n4 (by omega)]; omega)
  simp only [List.length_map, List.length_range, Nat.zero_add] at hl2 hg2
  refine ⟨ds2.take many, by simp; omega, fun d h => hd2 d (List.mem_of_mem_take h), ?_⟩
  have e0 := dRng1_nat many (by omega)
  have ec : cut (ns.map D.int) none (some 63) = (ns.map D.int).take 63 := cut_hi _ 63
  simp [C__law_draws, fnE, startE, F__law_draws, x_sFor, ec, e1, e0, e2, cut_hi]
/-! ### levels -/
structure Tx (x : D) (m : Nat) (o : Nat → Str) : Prop where
  len : fLen [x] = .ok (.int (m : Nat))
  small : m ≤ 60
  ix : ∀ r, r < m → dIx x (.int (r : Nat)) = .ok (.str (o r))
  ok : ∀ r, r < m → PyData.strOk (o r) = true
def pD (p : Option Int) : D := match p with
  | some p => .int p
  | none => .non
structure Lev (m n : Nat) (v : D) (row : Nat → List D) (f : Nat → Nat → Int) : Prop where
  rows : ∀ r, r ≤ m → dIx v (.int (r : Nat)) = .ok (.tup (row r))
  cells : ∀ r, r ≤ m → ∀ c, c ≤ n → dIx (.tup (row r)) (.int (c : Nat)) = .ok (.int (f r c))
section
variable (o w : Nat → Str) (p0 p1 : Int) (p2 : Option Int)
def cand (f : Nat → Nat → Int) (r c : Nat) : List Int :=
  match r, c with
  | 0, 0 => []
  | r + 1, 0 => [f r 0 + p0]
  | 0, c + 1 => [f 0 c + p1]
  | r + 1, c + 1 => [f r (c + 1) + p0, f (r + 1) c + p1] ++ (if o r = w c then [f r c] else match p2 with
    | some p => [f r c + p]
    | none => [])
def badB (f : Nat → Nat → Int) (r c : Nat) : Bool := (cand o w p0 p1 p2 f r c).any fun x => decide (x < f r c)
end
theorem due3 {m n : Nat} {x y : D} {o w : Nat → Str} {p0 p1 : Int} {p2 : Option Int} {lev : D} {row : Nat → List D} {f : Nat → Nat → Int} (hx : Tx x m o) (hy : Tx y n w) (hl : Lev m n lev row f) {r c : Nat} (hr : r ≤ m) (hc : c ≤ n) (g : Option D) :
    B__law_due_3 [some x, some y, some (.tup [.int p0, .int p1, pD p2]), some lev, some (.int (r : Nat)), some (.int (c : Nat)), g, none] =
      if badB o w p0 p1 p2 f r c = true then .ret (.tup [.int (r : Nat), .int (c : Nat)]) else .next [some x, some y, some (.tup [.int p0, .int p1, pD p2]), some lev, some (.int (r : Nat)), none, none, none] := by
  have q0 : dIx (.tup [.int p0, .int p1, pD p2]) (.int 0) = .ok (.int p0) := rfl
  have q1 : dIx (.tup [.int p0, .int p1, pD p2]) (.int 1) = .ok (.int p1) := rfl
  have q2 : dIx (.tup [.int p0, .int p1, pD p2]) (.int 2) = .ok (pD p2) := rfl
  have h00 := hl.rows r hr
  have h01 := hl.cells r hr c hc
  have min1 := fun a : Int => x_min_l a []
  have min2 := fun a b : Int => x_min_l a [b]
  have min3 := fun a b d : Int => x_min_l a [b, d]
  simp only [List.map_cons, List.map_nil, List.foldl_cons, List.foldl_nil] at min1 min2 min3
  unfold B__law_due_3
  cases r with
  | zero =>
    cases c with
    | zero => simp [badB, cand]
    | succ c =>
      have h11 := hl.cells 0 hr c (by omega)
      simp at h00 h01 h11
      simp [badB, cand, h00, h01, h11, q0, q1, q2, sAppend, sl_eq, min1]
  | succ r =>
    have h10 := hl.rows r (by omega)
    have e1 : (((r + 1 : Nat) : Int)) - 1 = (r : Int) := by omega
    have g1 : (0 : Int) < (r : Int) + 1 := by omega
    cases c with
    | zero =>
      have h11 := hl.cells r (by omega) 0 hc
      simp at h00 h01 h11
      simp [badB, cand, h00, h01, h10, h11, q0, q1, q2, sAppend, sl_eq, min1, g1]
    | succ c =>
      have e2 : (((c + 1 : Nat) : Int)) - 1 = (c : Int) := by omega
      have g2 : (0 : Int) < (c : Int) + 1 := by omega
      have h11 := hl.cells r (by omega) (c + 1) hc
      have h12 := hl.cells r (by omega) c (by omega)
      have h13 := hl.cells (r + 1) hr c (by omega)
      have ho := hx.ix r (by omega)
      have hw := hy.ix c (by omega)
      have hE := x_eq_ss (o r) (w c) (hx.ok r (by omega)) (hy.ok c (by omega))
      have hN := x_ne_ss (o r) (w c) (hx.ok r (by omega)) (hy.ok c (by omega))
      simp at h00 h01 h11 h13
      by_cases ha : o r = w c
      · rw [ha] at ho hE hN
        simp only [beq_self_eq_true, Bool.not_true] at hE hN
        simp [badB, cand, h00, h01, h10, h11, h12, h13, q0, q1, q2, sAppend, sl_eq, min3, g1, g2, ho, hw, hE, hN, ha, imin_lt, or_assoc]
      · cases p2 with
        | none =>
          simp only [pD] at q0 q1 q2
          simp [badB, cand, h00, h01, h10, h11, h12, h13, q0, q1, q2, sAppend, sl_eq, min2, g1, g2, ho, hw, hE, hN, ha, imin_lt, pD, or_assoc]
        | some p =>
          simp only [pD] at q0 q1 q2
          simp [badB, cand, h00, h01, h10, h11, h12, h13, q0, q1, q2, sAppend, sl_eq, min3, g1, g2, ho, hw, hE, hN, ha, imin_lt, pD, or_assoc]
def orRet (o : Option D) (k : Px.Flow) : Px.Flow := match o with
  | some r => .ret r
  | none => k
theorem for_scan1 {gf : Px.Env → D → Res Px.Env} {F : SF} {ρ0 : Px.Env} {bad : D → Option D} : ∀ {ds : List D}, (∀ d ∈ ds, ∃ ρ1, gf ρ0 d = .ok ρ1 ∧ F ρ1 = orRet (bad d) (.next ρ0)) → forE gf F ds ρ0 = orRet (ds.findSome? bad) (.next ρ0)
  | [], _ => rfl
  | d :: ds, h => by
    obtain ⟨ρ1, e1, e2⟩ := h d List.mem_cons_self
    have ih := for_scan1 (ds := ds) fun d' hd => h d' (List.mem_cons_of_mem _ hd)
    unfold forE
    rw [e1]
    dsimp only [Res.must]
    rw [e2, List.findSome?_cons]
    cases bad d with
    | some r => rfl
    | none => exact ih
def nats (k : Nat) : List D := (List.range k).map fun i => .int (i : Nat)
theorem mem_nats {k : Nat} {d : D} (h : d ∈ nats k) : ∃ i, i < k ∧ d = .int (i : Nat) := by
  obtain ⟨i, hi, rfl⟩ := List.mem_map.mp h
  exact ⟨i, List.mem_range.mp hi, rfl⟩
theorem rng1_nats (k : Nat) (h : k ≤ 100) : dRng1 [.int (k : Nat)] = .ok (nats k) := dRng1_nat k (by omega)
theorem rng1_nats1 (k : Nat) (h : k ≤ 60) : dRng1 [.int ((k : Int) + 1)] = .ok (nats (k + 1)) := dRng1_nat (k + 1) (by omega)
section
variable (o w : Nat → Str) (p0 p1 : Int) (p2 : Option Int) (m n : Nat) (f : Nat → Nat → Int)
def cellF (r : Nat) (d : D) : Option D := match d with
  | .int c => if badB o w p0 p1 p2 f r c.toNat = true then some (.tup [.int (r : Nat), .int c]) else none
  | _ => none
def rowF (d : D) : Option D := match d with
  | .int r => (nats (n + 1)).findSome? (cellF o w p0 p1 p2 f r.toNat)
  | _ => none
def faultF : Option D := (nats (m + 1)).findSome? (rowF o w p0 p1 p2 n f)
end
section
variable {m n : Nat} {x y : D} {o w : Nat → Str} {p0 p1 : Int} {p2 : Option Int} {lev : D} {row : Nat → List D} {f : Nat → Nat → Int}
theorem due2 (hx : Tx x m o) (hy : Tx y n w) (hl : Lev m n lev row f) {r : Nat} (hr : r ≤ m) :
    B__law_due_2 [some x, some y, some (.tup [.int p0, .int p1, pD p2]), some lev, some (.int (r : Nat)), none, none, none] =
      orRet (rowF o w p0 p1 p2 n f (.int (r : Nat))) (.next [some x, some y, some (.tup [.int p0, .int p1, pD p2]), some lev, none, none, none, none]) := by
  have e := for_scan1 (gf := gfName 5) (F := B__law_due_3) (ρ0 := [some x, some y, some (.tup [.int p0, .int p1, pD p2]), some lev, some (.int (r : Nat)), none, none, none])
    (bad := cellF o w p0 p1 p2 f r) (ds := nats (n + 1)) fun d hd => by
      obtain ⟨c, hc, rfl⟩ := mem_nats hd
      refine ⟨_, rfl, ?_⟩
      have := due3 (p0 := p0) (p1 := p1) (p2 := p2) hx hy hl hr (show c ≤ n by omega) none
      refine this.trans ?_
      simp only [cellF, Int.toNat_natCast]
      split <;> rfl
  unfold B__law_due_2
  simp [x_sFor, hy.len, rng1_nats1 n hy.small, e, rowF]
  cases (nats (n + 1)).findSome? (cellF o w p0 p1 p2 f r) <;> simp [orRet]
theorem due_main (hx : Tx x m o) (hy : Tx y n w) (hl : Lev m n lev row f) :
    sFor (iCall dRng1 (aCons (eOp dAdd (eCall fLen (aCons (eVar 0) aNil)) (eC (.int 1))) aNil)) (gfName 4) B__law_due_2 [some x, some y, some (.tup [.int p0, .int p1, pD p2]), some lev, none, none, none, none] =
      orRet (faultF o w p0 p1 p2 m n f) (.next [some x, some y, some (.tup [.int p0, .int p1, pD p2]), some lev, none, none, none, none]) := by
  have e := for_scan1 (gf := gfName 4) (F := B__law_due_2) (ρ0 := [some x, some y, some (.tup [.int p0, .int p1, pD p2]), some lev, none, none, none, none])
    (bad := rowF o w p0 p1 p2 n f) (ds := nats (m + 1)) fun d hd => by
      obtain ⟨c, hc, rfl⟩ := mem_nats hd
      exact ⟨_, rfl, due2 hx hy hl (by omega)⟩
  simp [x_sFor, hx.len, rng1_nats1 m hx.small, e, faultF]
/-! the other reading -/
theorem st_k : C_step [.str "k"] = .ok (.tup [.int 1, .int 1]) := by kernel_rfl
theorem st_i : C_step [.str "i"] = .ok (.tup [.int 0, .int 1]) := by kernel_rfl
theorem st_o : C_step [.str "o"] = .ok (.tup [.int 1, .int 0]) := by kernel_rfl
theorem st_x : C_step [.str "x"] = .ok (.tup [.int 1, .int 1]) := by kernel_rfl
theorem pr_k (p0 p1 : Int) (q : D) : C_price_of [.tup [.int p0, .int p1, q], .str "k"] = .ok (.int 0) := by kernel_rfl
theorem pr_i (p0 p1 : Int) (q : D) : C_price_of [.tup [.int p0, .int p1, q], .str "i"] = .ok (.int p1) := by kernel_rfl
theorem pr_o (p0 p1 : Int) (q : D) : C_price_of [.tup [.int p0, .int p1, q], .str "o"] = .ok (.int p0) := by kernel_rfl
theorem pr_x (p0 p1 : Int) (q : D) : C_price_of [.tup [.int p0, .int p1, q], .str "x"] = .ok q := by kernel_rfl
theorem sg : dItems (.str "kiox") = .ok [.str "k", .str "i", .str "o", .str "x"] := by kernel_rfl
theorem cb_k (hx : Tx x m o) (hy : Tx y n w) {r c : Nat} (hr : r < m) (hc : c < n) : C_can_be [x, y, .tup [.int (r : Nat), .int (c : Nat)], .str "k"] = .ok (.bl (o r == w c)) := by
  have h1 : ¬ ((m : Int) < (r : Int) + 1) := by omega
  have h2 : ¬ ((n : Int) < (c : Int) + 1) := by omega
  have hE := x_eq_ss (o r) (w c) (hx.ok r hr) (hy.ok c hc)
  have hk : dEq (.str "k") (.str "k") = .ok (.bl true) := by kernel_rfl
  simp [C_can_be, fnE, startE, F_can_be, st_k, hx.len, hy.len, hx.ix r hr, hy.ix c hc, h1, h2, hE, hk]
theorem cb_x (hx : Tx x m o) (hy : Tx y n w) {r c : Nat} (hr : r < m) (hc : c < n) : C_can_be [x, y, .tup [.int (r : Nat), .int (c : Nat)], .str "x"] = .ok (.bl (!(o r == w c))) := by
  have h1 : ¬ ((m : Int) < (r : Int) + 1) := by omega
  have h2 : ¬ ((n : Int) < (c : Int) + 1) := by omega
  have hE := x_ne_ss (o r) (w c) (hx.ok r hr) (hy.ok c hc)
  have hk : dEq (.str "x") (.str "k") = .ok (.bl false) := by kernel_rfl
  have hk2 : dNe (.str "x") (.str "x") = .ok (.bl false) := by kernel_rfl
  simp [C_can_be, fnE, startE, F_can_be, st_x, hx.len, hy.len, hx.ix r hr, hy.ix c hc, h1, h2, hE, hk, hk2]
theorem cb_i (hx : Tx x m o) (hy : Tx y n w) {r c : Nat} (hr : r ≤ m) (hc : c < n) : C_can_be [x, y, .tup [.int (r : Nat), .int (c : Nat)], .str "i"] = .ok (.bl true) := by
  have h1 : ¬ ((m : Int) < (r : Int)) := by omega
  have h2 : ¬ ((n : Int) < (c : Int) + 1) := by omega
  have hk : dEq (.str "i") (.str "k") = .ok (.bl false) := by kernel_rfl
  have hk2 : dNe (.str "i") (.str "x") = .ok (.bl true) := by kernel_rfl
  simp [C_can_be, fnE, startE, F_can_be, st_i, hx.len, hy.len, h1, h2, hk, hk2]
theorem cb_o (hx : Tx x m o) (hy : Tx y n w) {r c : Nat} (hr : r < m) (hc : c ≤ n) : C_can_be [x, y, .tup [.int (r : Nat), .int (c : Nat)], .str "o"] = .ok (.bl true) := by
  have h1 : ¬ ((m : Int) < (r : Int) + 1) := by omega
  have h2 : ¬ ((n : Int) < (c : Int)) := by omega
  have hk : dEq (.str "o") (.str "k") = .ok (.bl false) := by kernel_rfl
  have hk2 : dNe (.str "o") (.str "x") = .ok (.bl true) := by kernel_rfl
  simp [C_can_be, fnE, startE, F_can_be, st_o, hx.len, hy.len, h1, h2, hk, hk2]
end
section
variable {m n : Nat} {x y : D} {o w : Nat → Str} {p0 p1 : Int} {p2 : Option Int} {lev : D} {row : Nat → List D} {f : Nat → Nat → Int}
/-- one sign of levels_fault -/
theorem lf3_k (hx : Tx x m o) (hy : Tx y n w) (hl : Lev m n lev row f) {r c : Nat} (hr : r ≤ m) (hc : c ≤ n) :
    B_levels_fault_3 [some x, some y, some (.tup [.int p0, .int p1, pD p2]), some lev, some (.int (r : Nat)), some (.int (c : Nat)), some (.str "k"), none, none, none, none] =
      if 0 < r ∧ 0 < c ∧ o (r - 1) = w (c - 1) ∧ f (r - 1) (c - 1) < f r c then .ret (.tup [.int (r : Nat), .int (c : Nat)]) else .next [some x, some y, some (.tup [.int p0, .int p1, pD p2]), some lev, some (.int (r : Nat)), some (.int (c : Nat)), none, none, none, none, none] := by
  have h00 := hl.rows r hr
  have h01 := hl.cells r hr c hc
  have mt : ∀ a b : Int, fMin [.tup [.int a, .int b]] = .ok (.int (min a b)) := fun a b => x_min_t a [b]
  unfold B_levels_fault_3
  cases r with
  | zero =>
    have z : ¬ (0 : Int) ≤ min (-1) ((c : Int) - 1) := by omega
    simp [st_k, pr_k, mt, z]
  | succ r =>
    cases c with
    | zero =>
      have z : ¬ (0 : Int) ≤ min (r : Int) (-1) := by omega
      simp [st_k, pr_k, mt, z]
    | succ c =>
      have z : (0 : Int) ≤ min (r : Int) (c : Int) := by omega
      have e1 : (((r + 1 : Nat) : Int)) - 1 = (r : Int) := by omega
      have e2 : (((c + 1 : Nat) : Int)) - 1 = (c : Int) := by omega
      have h10 := hl.rows r (by omega)
      have h12 := hl.cells r (by omega) c (by omega)
      have i0 : dIx (.tup [.int (r : Nat), .int (c : Nat)]) (.int 0) = .ok (.int (r : Nat)) := rfl
      have i1 : dIx (.tup [.int (r : Nat), .int (c : Nat)]) (.int 1) = .ok (.int (c : Nat)) := rfl
      have cb := cb_k hx hy (show r < m by omega) (show c < n by omega)
      simp at h00 h01
      by_cases ha : o r = w c
      · by_cases hf : f r c < f (r + 1) (c + 1)
        · simp [st_k, pr_k, mt, z, h00, h01, h10, h12, i0, i1, cb, ha, hf]
        · simp [st_k, pr_k, mt, z, h00, h01, h10, h12, i0, i1, cb, ha, hf]
      · simp [st_k, pr_k, mt, z, h00, h01, h10, h12, i0, i1, cb, ha]
theorem lf3_x (hx : Tx x m o) (hy : Tx y n w) (hl : Lev m n lev row f) {r c : Nat} (hr : r ≤ m) (hc : c ≤ n) :
    B_levels_fault_3 [some x, some y, some (.tup [.int p0, .int p1, pD p2]), some lev, some (.int (r : Nat)), some (.int (c : Nat)), some (.str "x"), none, none, none, none] =
      if 0 < r ∧ 0 < c ∧ ¬ o (r - 1) = w (c - 1) ∧ (∃ p, p2 = some p ∧ f (r - 1) (c - 1) + p < f r c) then .ret (.tup [.int (r : Nat), .int (c : Nat)]) else .next [some x, some y, some (.tup [.int p0, .int p1, pD p2]), some lev, some (.int (r : Nat)), some (.int (c : Nat)), none, none, none, none, none] := by
  have h00 := hl.rows r hr
  have h01 := hl.cells r hr c hc
  have mt : ∀ a b : Int, fMin [.tup [.int a, .int b]] = .ok (.int (min a b)) := fun a b => x_min_t a [b]
  unfold B_levels_fault_3
  cases p2 with
  | none => simp [st_x, pr_x, pD]
  | some p =>
  cases r with
  | zero =>
    have z : ¬ (0 : Int) ≤ min (-1) ((c : Int) - 1) := by omega
    simp [st_x, pr_x, mt, z, pD]
  | succ r =>
    cases c with
    | zero =>
      have z : ¬ (0 : Int) ≤ min (r : Int) (-1) := by omega
      simp [st_x, pr_x, mt, z, pD]
    | succ c =>
      have z : (0 : Int) ≤ min (r : Int) (c : Int) := by omega
      have e1 : (((r + 1 : Nat) : Int)) - 1 = (r : Int) := by omega
      have e2 : (((c + 1 : Nat) : Int)) - 1 = (c : Int) := by omega
      have h10 := hl.rows r (by omega)
      have h12 := hl.cells r (by omega) c (by omega)
      have i0 : dIx (.tup [.int (r : Nat), .int (c : Nat)]) (.int 0) = .ok (.int (r : Nat)) := rfl
      have i1 : dIx (.tup [.int (r : Nat), .int (c : Nat)]) (.int 1) = .ok (.int (c : Nat)) := rfl
      have cb := cb_x hx hy (show r < m by omega) (show c < n by omega)
      simp at h00 h01
      by_cases ha : o r = w c
      · simp [st_x, pr_x, mt, z, h00, h01, h10, h12, i0, i1, cb, ha, pD]
      · by_cases hf : f r c + p < f (r + 1) (c + 1)
        · simp [st_x, pr_x, mt, z, h00, h01, h10, h12, i0, i1, cb, ha, hf, pD]
        · simp [st_x, pr_x, mt, z, h00, h01, h10, h12, i0, i1, cb, ha, hf, pD]
theorem lf3_i (hx : Tx x m o) (hy : Tx y n w) (hl : Lev m n lev row f) {r c : Nat} (hr : r ≤ m) (hc : c ≤ n) :
    B_levels_fault_3 [some x, some y, some (.tup [.int p0, .int p1, pD p2]), some lev, some (.int (r : Nat)), some (.int (c : Nat)), some (.str "i"), none, none, none, none] =
      if 0 < c ∧ f r (c - 1) + p1 < f r c then .ret (.tup [.int (r : Nat), .int (c : Nat)]) else .next [some x, some y, some (.tup [.int p0, .int p1, pD p2]), some lev, some (.int (r : Nat)), some (.int (c : Nat)), none, none, none, none, none] := by
  have h00 := hl.rows r hr
  have h01 := hl.cells r hr c hc
  have mt : ∀ a b : Int, fMin [.tup [.int a, .int b]] = .ok (.int (min a b)) := fun a b => x_min_t a [b]
  unfold B_levels_fault_3
  cases c with
  | zero =>
    have z : ¬ (0 : Int) ≤ min (r : Int) (-1) := by omega
    simp [st_i, pr_i, mt, z]
  | succ c =>
    have z : (0 : Int) ≤ min (r : Int) (c : Int) := by omega
    have e2 : (((c + 1 : Nat) : Int)) - 1 = (c : Int) := by omega
    have h12 := hl.cells r hr c (by omega)
    have i0 : dIx (.tup [.int (r : Nat), .int (c : Nat)]) (.int 0) = .ok (.int (r : Nat)) := rfl
    have i1 : dIx (.tup [.int (r : Nat), .int (c : Nat)]) (.int 1) = .ok (.int (c : Nat)) := rfl
    have cb := cb_i hx hy hr (show c < n by omega)
    simp at h01
    by_cases hf : f r c + p1 < f r (c + 1)
    · simp [st_i, pr_i, mt, z, h00, h01, h12, i0, i1, cb, hf]
    · simp [st_i, pr_i, mt, z, h00, h01, h12, i0, i1, cb, hf]
theorem lf3_o (hx : Tx x m o) (hy : Tx y n w) (hl : Lev m n lev row f) {r c : Nat} (hr : r ≤ m) (hc : c ≤ n) :
    B_levels_fault_3 [some x, some y, some (.tup [.int p0, .int p1, pD p2]), some lev, some (.int (r : Nat)), some (.int (c : Nat)), some (.str "o"), none, none, none, none] =
      if 0 < r ∧ f (r - 1) c + p0 < f r c then .ret (.tup [.int (r : Nat), .int (c : Nat)]) else .next [some x, some y, some (.tup [.int p0, .int p1, pD p2]), some lev, some (.int (r : Nat)), some (.int (c : Nat)), none, none, none, none, none] := by
  have h00 := hl.rows r hr
  have h01 := hl.cells r hr c hc
  have mt : ∀ a b : Int, fMin [.tup [.int a, .int b]] = .ok (.int (min a b)) := fun a b => x_min_t a [b]
  unfold B_levels_fault_3
  cases r with
  | zero =>
    have z : ¬ (0 : Int) ≤ min (-1) (c : Int) := by omega
    simp [st_o, pr_o, mt, z]
  | succ r =>
    have z : (0 : Int) ≤ min (r : Int) (c : Int) := by omega
    have e2 : (((r + 1 : Nat) : Int)) - 1 = (r : Int) := by omega
    have h10 := hl.rows r (by omega)
    have h12 := hl.cells r (by omega) c hc
    have i0 : dIx (.tup [.int (r : Nat), .int (c : Nat)]) (.int 0) = .ok (.int (r : Nat)) := rfl
    have i1 : dIx (.tup [.int (r : Nat), .int (c : Nat)]) (.int 1) = .ok (.int (c : Nat)) := rfl
    have cb := cb_o hx hy (show r < m by omega) hc
    simp at h00 h01
    by_cases hf : f r c + p0 < f (r + 1) c
    · simp [st_o, pr_o, mt, z, h00, h01, h10, h12, i0, i1, cb, hf]
    · simp [st_o, pr_o, mt, z, h00, h01, h10, h12, i0, i1, cb, hf]
end
section
variable {m n : Nat} {x y : D} {o w : Nat → Str} {p0 p1 : Int} {p2 : Option Int} {lev : D} {row : Nat → List D} {f : Nat → Nat → Int}
theorem badB_iff (r c : Nat) : badB o w p0 p1 p2 f r c = true ↔ ((0 < r ∧ 0 < c ∧ o (r - 1) = w (c - 1) ∧ f (r - 1) (c - 1) < f r c) ∨ (0 < c ∧ f r (c - 1) + p1 < f r c) ∨ (0 < r ∧ f (r - 1) c + p0 < f r c) ∨ (0 < r ∧ 0 < c ∧ ¬ o (r - 1) = w (c - 1) ∧ (∃ p, p2 = some p ∧ f (r - 1) (c - 1) + p < f r c))) := by
  unfold badB cand
  cases r with
  | zero =>
    cases c with
    | zero => simp
    | succ c => simp
  | succ r =>
    cases c with
    | zero => simp
    | succ c =>
      by_cases ha : o r = w c
      · simp [ha]
        constructor
        · rintro (h | h | h) <;> simp [h]
        · rintro (h | h | h) <;> simp [h]
      · cases p2 with
        | none =>
          simp [ha]
          constructor
          · rintro (h | h) <;> simp [h]
          · rintro (h | h) <;> simp [h]
        | some p =>
          simp [ha]
          constructor
          · rintro (h | h | h) <;> simp [h]
          · rintro (h | h | h) <;> simp [h]
theorem lf2 (hx : Tx x m o) (hy : Tx y n w) (hl : Lev m n lev row f) {r c : Nat} (hr : r ≤ m) (hc : c ≤ n) :
    B_levels_fault_2 [some x, some y, some (.tup [.int p0, .int p1, pD p2]), some lev, some (.int (r : Nat)), some (.int (c : Nat)), none, none, none, none, none] =
      orRet (cellF o w p0 p1 p2 f r (.int (c : Nat))) (.next [some x, some y, some (.tup [.int p0, .int p1, pD p2]), some lev, some (.int (r : Nat)), none, none, none, none, none, none]) := by
  have hk := lf3_k (p0 := p0) (p1 := p1) (p2 := p2) hx hy hl hr hc
  have hi := lf3_i (p0 := p0) (p1 := p1) (p2 := p2) hx hy hl hr hc
  have ho := lf3_o (p0 := p0) (p1 := p1) (p2 := p2) hx hy hl hr hc
  have hz := lf3_x (p0 := p0) (p1 := p1) (p2 := p2) hx hy hl hr hc
  have hb := badB_iff (o := o) (w := w) (p0 := p0) (p1 := p1) (p2 := p2) (f := f) r c
  have hC : cellF o w p0 p1 p2 f r (.int (c : Nat)) = if badB o w p0 p1 p2 f r c = true then some (.tup [.int (r : Nat), .int (c : Nat)]) else none := by
    simp only [cellF, Int.toNat_natCast]
  rw [hC]
  unfold B_levels_fault_2
  simp only [sSeq_x, x_sFor, x_iSeq, x_eC, Res.bind_ok, sg, flow_ok, forE, x_gfName, must_ok, List.set_cons_succ, List.set_cons_zero]
  by_cases a : 0 < r ∧ 0 < c ∧ o (r - 1) = w (c - 1) ∧ f (r - 1) (c - 1) < f r c
  · rw [if_pos (hb.mpr (.inl a)), hk, if_pos a]
    rfl
  · rw [hk, if_neg a]
    simp only [loopK_next, List.set_cons_succ, List.set_cons_zero]
    by_cases b : 0 < c ∧ f r (c - 1) + p1 < f r c
    · rw [if_pos (hb.mpr (.inr (.inl b))), hi, if_pos b]
      rfl
    · rw [hi, if_neg b]
      simp only [loopK_next, List.set_cons_succ, List.set_cons_zero]
      by_cases cc : 0 < r ∧ f (r - 1) c + p0 < f r c
      · rw [if_pos (hb.mpr (.inr (.inr (.inl cc)))), ho, if_pos cc]
        rfl
      · rw [ho, if_neg cc]
        simp only [loopK_next, List.set_cons_succ, List.set_cons_zero]
        by_cases e : 0 < r ∧ 0 < c ∧ ¬ o (r - 1) = w (c - 1) ∧ (∃ p, p2 = some p ∧ f (r - 1) (c - 1) + p < f r c)
        · rw [if_pos (hb.mpr (.inr (.inr (.inr e)))), hz, if_pos e]
          rfl
        · have : ¬ badB o w p0 p1 p2 f r c = true := fun z => by
            rcases hb.mp z with z | z | z | z
            · exact a z
            · exact b z
            · exact cc z
            · exact e z
          rw [hz, if_neg e, if_neg this]
          simp [orRet]
theorem lf1 (hx : Tx x m o) (hy : Tx y n w) (hl : Lev m n lev row f) {r : Nat} (hr : r ≤ m) :
    B_levels_fault_1 [some x, some y, some (.tup [.int p0, .int p1, pD p2]), some lev, some (.int (r : Nat)), none, none, none, none, none, none] =
      orRet (rowF o w p0 p1 p2 n f (.int (r : Nat))) (.next [some x, some y, some (.tup [.int p0, .int p1, pD p2]), some lev, none, none, none, none, none, none, none]) := by
  have e := for_scan1 (gf := gfName 5) (F := B_levels_fault_2) (ρ0 := [some x, some y, some (.tup [.int p0, .int p1, pD p2]), some lev, some (.int (r : Nat)), none, none, none, none, none, none])
    (bad := cellF o w p0 p1 p2 f r) (ds := nats (n + 1)) fun d hd => by
      obtain ⟨c, hc, rfl⟩ := mem_nats hd
      exact ⟨_, rfl, lf2 hx hy hl hr (show c ≤ n by omega)⟩
  unfold B_levels_fault_1
  simp [x_sFor, hy.len, rng1_nats1 n hy.small, e, rowF]
  cases (nats (n + 1)).findSome? (cellF o w p0 p1 p2 f r) <;> simp [orRet]
theorem lf_main (hx : Tx x m o) (hy : Tx y n w) (hl : Lev m n lev row f) :
    sFor (iCall dRng1 (aCons (eOp dAdd (eCall fLen (aCons (eVar 0) aNil)) (eC (.int 1))) aNil)) (gfName 4) B_levels_fault_1 [some x, some y, some (.tup [.int p0, .int p1, pD p2]), some lev, none, none, none, none, none, none, none] =
      orRet (faultF o w p0 p1 p2 m n f) (.next [some x, some y, some (.tup [.int p0, .int p1, pD p2]), some lev, none, none, none, none, none, none, none]) := by
  have e := for_scan1 (gf := gfName 4) (F := B_levels_fault_1) (ρ0 := [some x, some y, some (.tup [.int p0, .int p1, pD p2]), some lev, none, none, none, none, none, none, none])
    (bad := rowF o w p0 p1 p2 n f) (ds := nats (m + 1)) fun d hd => by
      obtain ⟨c, hc, rfl⟩ := mem_nats hd
      exact ⟨_, rfl, lf1 hx hy hl (by omega)⟩
  simp [x_sFor, hx.len, rng1_nats1 m hx.small, e, faultF]
end
@[simp] theorem x_all_c {α : Type} (p : α → Bool) (xs : List α) : fAll [.lst (xs.map (D.bl ∘ p))] = .ok (.bl (xs.all p)) := by
  rw [← List.map_map, x_all, List.all_map]
  rfl
@[simp] theorem x_any_c {α : Type} (p : α → Bool) (xs : List α) : fAny [.lst (xs.map (D.bl ∘ p))] = .ok (.bl (xs.any p)) := by
  rw [← List.map_map, x_any, List.any_map]
  rfl
/-! ### shapes -/
def cellOk : D → Bool
  | .int i => decide (0 ≤ i)
  | _ => false
def isRow (n : Nat) : D → Bool
  | .tup cs => ((cs.length : Int) == (n : Int) + 1)
  | _ => false
def rowCs : D → Bool
  | .tup cs => cs.all cellOk
  | _ => false
def rowOk (n : Nat) (d : D) : Bool := isRow n d && rowCs d
def levOk (m n : Nat) : D → Bool
  | .tup rs => ((rs.length : Int) == (m : Int) + 1) && (rs.all (rowOk n))
  | _ => false
def rowAt (v : D) (r : Nat) : List D := match v with
  | .tup rs => (match rs[r]? with
    | some (.tup cs) => cs
    | _ => [])
  | _ => []
def cellAt (v : D) (r c : Nat) : Int := match (rowAt v r)[c]? with
  | some (.int i) => i
  | _ => 0
theorem fs_const {p : D → Bool} {z : D} : ∀ ds : List D, (ds.findSome? fun d => if p d = true then none else some z) = if ds.all p = true then none else some z
  | [] => rfl
  | d :: ds => by
    rw [List.findSome?_cons, fs_const ds, List.all_cons]
    cases p d <;> simp
theorem levOk_lev {m n : Nat} {v : D} (h : levOk m n v = true) : Lev m n v (rowAt v) (cellAt v) := by
  cases v with
  | tup rs =>
    simp [levOk] at h
    obtain ⟨hl, ha⟩ := h
    have hl : rs.length = m + 1 := by omega
    have key : ∀ r, r ≤ m → ∃ cs, rs[r]? = some (.tup cs) ∧ cs.length = n + 1 ∧ ∀ c ∈ cs, cellOk c = true := fun r hr => by
      have hlt : r < rs.length := by omega
      have hm := ha rs[r] (List.getElem_mem hlt)
      cases e : rs[r] with
      | tup cs =>
        rw [e] at hm
        simp [rowOk, isRow, rowCs] at hm
        exact ⟨cs, by rw [List.getElem?_eq_getElem hlt, e], by omega, hm.2⟩
      | _ =>
        rw [e] at hm
        simp [rowOk, isRow] at hm
    refine ⟨fun r hr => ?_, fun r hr c hc => ?_⟩
    · obtain ⟨cs, e, _, _⟩ := key r hr
      rw [dIx_tup e]
      simp [rowAt, e]
    · obtain ⟨cs, e, hl2, hc2⟩ := key r hr
      have hlt : c < cs.length := by omega
      have hm := hc2 cs[c] (List.getElem_mem hlt)
      have er : rowAt (.tup rs) r = cs := by simp [rowAt, e]
      rw [er]
      cases e3 : cs[c] with
      | int i =>
        have e4 : cs[c]? = some (.int i) := by rw [List.getElem?_eq_getElem hlt, e3]
        rw [dIx_tup e4]
        simp [cellAt, er, e4]
      | _ =>
        rw [e3] at hm
        cases hm
  | _ => simp [levOk] at h
theorem ok_tup {k : Nat} {xs : List D} (h : okN k (.tup xs) = true) : ∃ j, ∀ d ∈ xs, okN j d = true := by
  cases k with
  | zero => rw [okN] at h; cases h
  | succ k =>
    rw [okN, okL_all] at h
    exact ⟨k, List.all_eq_true.mp h⟩
def resV (o w : Nat → Str) (p0 p1 : Int) (p2 : Option Int) (m n : Nat) (v : D) : D :=
  if levOk m n v = true then (if cellAt v 0 0 = 0 then (faultF o w p0 p1 p2 m n (cellAt v)).getD .non else .str "start") else .str "form"
theorem cell_b {k : Nat} {d : D} (h : okN k d = true) (f : EF) (ρ : Px.Env) (hf : f ρ = .ok d) : eAnd (eUn (dIsi isInt) f) (eAnd (eNot (eUn (dIsi isBool) f)) (eOp (dCmpI iGe) f (eC (.int 0)))) ρ = .ok (.bl (cellOk d)) := by
  have h1 := isi_ok (p := isInt) h
  have h2 := isi_ok (p := isBool) h
  simp only [x_eAnd, x_eUn, x_eNot, x_eOp, x_eC, hf, Res.bind_ok, h1, h2, x_tru_b]
  cases d <;> simp [Px.isInt, isBool, cellOk]
theorem row_b {k n : Nat} {d : D} (h : okN k d = true) (f : EF) (y : D) (g : EF) (ρ : Px.Env) (hf : f ρ = .ok d) (hg : g ρ = .ok y) (hy : fLen [y] = .ok (.int (n : Nat))) : eAnd (eUn (dIsi isTup) f) (eOp dEq (eCall fLen (aCons f aNil)) (eOp dAdd (eCall fLen (aCons g aNil)) (eC (.int 1)))) ρ = .ok (.bl (isRow n d)) := by
  have h1 := isi_ok (p := isTup) h
  simp only [x_eAnd, x_eUn, x_eNot, x_eOp, x_eC, x_eCall, x_aCons, x_aNil, hf, hg, hy, Res.bind_ok, h1, x_tru_b]
  cases d <;> simp [isTup, isRow]
section
variable {m n : Nat} {x y : D} {o w : Nat → Str} {p0 p1 : Int} {p2 : Option Int}
theorem due1 {pr v d : D} {k : Nat} (hr : isRow n d = true) (h : okN k d = true) : B__law_due_1 [some x, some y, some pr, some v, some d, none, none, none] = orRet (if rowCs d = true then none else some (.str "form")) (.next [some x, some y, some pr, some v, none, none, none, none]) := by
  cases d with
  | tup cs =>
    obtain ⟨j, hj⟩ := ok_tup h
    have e := lc_bools (gf := gfName 7) (f := eAnd (eUn (dIsi isInt) (eVar 7)) (eAnd (eNot (eUn (dIsi isBool) (eVar 7))) (eOp (dCmpI iGe) (eVar 7) (eC (.int 0))))) (ρ := [some x, some y, some pr, some v, some (.tup cs), none, none, none]) (p := cellOk) (ds := cs) fun d hd => ⟨_, rfl, cell_b (hj d hd) (eVar 7) _ rfl⟩
    unfold B__law_due_1
    simp only [sSeq_x, x_sIf, x_bNot, x_eUn, x_eCall, x_aCons, x_aNil, eLc, x_iSeq, x_eVar, List.getD_cons_succ, List.getD_cons_zero, vD_some, Res.bind_ok, x_items_t, x_wipe0, x_wipe1, List.set_cons_succ, List.set_cons_zero, e, x_all, x_tru_b, flow_ok]
    have e2 : ((cs.map cellOk).all fun z => z) = cs.all cellOk := by rw [List.all_map]; rfl
    rw [e2]
    cases hc : cs.all cellOk <;> simp [rowCs, hc, orRet]
  | _ => simp [isRow] at hr
theorem due_all (hx : Tx x m o) (hy : Tx y n w) {v : D} {k : Nat} (hv : okN k v = true) : C__law_due [x, y, .tup [.int p0, .int p1, pD p2], v] = .ok (resV o w p0 p1 p2 m n v) := by
  have h1 := isi_ok (p := isTup) hv
  cases v with
  | tup rs =>
    obtain ⟨j, hj⟩ := ok_tup hv
    have e := lc_bools (gf := gfName 4) (f := eAnd (eUn (dIsi isTup) (eVar 4)) (eOp dEq (eCall fLen (aCons (eVar 4) aNil)) (eOp dAdd (eCall fLen (aCons (eVar 1) aNil)) (eC (.int 1))))) (ρ := [some x, some y, some (.tup [.int p0, .int p1, pD p2]), some (.tup rs), none, none, none, none]) (p := isRow n) (ds := rs) fun d hd => ⟨_, rfl, row_b (hj d hd) (eVar 4) y (eVar 1) _ rfl rfl hy.len⟩
    have e2 : ((rs.map (isRow n)).all fun z => z) = rs.all (isRow n) := by rw [List.all_map]; rfl
    by_cases hl : (rs.length : Int) = (m : Int) + 1
    · by_cases hR : rs.all (isRow n) = true
      · have hR2 := List.all_eq_true.mp hR
        have e3 := for_scan1 (gf := gfName 4) (F := B__law_due_1) (ρ0 := [some x, some y, some (.tup [.int p0, .int p1, pD p2]), some (.tup rs), none, none, none, none]) (bad := fun d => if rowCs d = true then none else some (.str "form")) (ds := rs) fun d hd => ⟨_, rfl, due1 (hR2 d hd) (hj d hd)⟩
        rw [fs_const] at e3
        by_cases hC : rs.all rowCs = true
        · have hlo : levOk m n (.tup rs) = true := by
            simp only [levOk, Bool.and_eq_true, beq_iff_eq]
            refine ⟨hl, List.all_eq_true.mpr fun d hd => ?_⟩
            rw [rowOk, hR2 d hd, List.all_eq_true.mp hC d hd]
            rfl
          have L := levOk_lev hlo
          have q1 := L.rows 0 (by omega)
          have q2 := L.cells 0 (by omega) 0 (by omega)
          simp only [Int.natCast_zero] at q1 q2
          have dm := due_main (p0 := p0) (p1 := p1) (p2 := p2) hx hy L
          simp [C__law_due, fnE, startE, F__law_due, hx.len, hl, eLc, e, e2, x_all, hR, x_sFor (iSeq (eVar 3)), e3, hC, orRet, q1, q2, resV, hlo, dm]
          by_cases hz : cellAt (.tup rs) 0 0 = 0
          · simp [hz]
            cases faultF o w p0 p1 p2 m n (cellAt (.tup rs)) <;> simp
          · simp [hz]
        · have hlo : ¬ levOk m n (.tup rs) = true := fun z => by
            simp only [levOk, Bool.and_eq_true] at z
            refine hC (List.all_eq_true.mpr fun d hd => ?_)
            have := List.all_eq_true.mp z.2 d hd
            rw [rowOk, Bool.and_eq_true] at this
            exact this.2
          simp [C__law_due, fnE, startE, F__law_due, hx.len, hl, eLc, e, e2, x_all, hR, x_sFor (iSeq (eVar 3)), e3, hC, orRet, resV, hlo]
      · have hlo : ¬ levOk m n (.tup rs) = true := fun z => by
          simp only [levOk, Bool.and_eq_true] at z
          refine hR (List.all_eq_true.mpr fun d hd => ?_)
          have := List.all_eq_true.mp z.2 d hd
          rw [rowOk, Bool.and_eq_true] at this
          exact this.1
        simp [C__law_due, fnE, startE, F__law_due, hx.len, hl, eLc, e, e2, x_all, hR, resV, hlo]
    · have hlo : ¬ levOk m n (.tup rs) = true := fun z => by
        simp only [levOk, Bool.and_eq_true, beq_iff_eq] at z
        exact hl z.1
      simp [C__law_due, fnE, startE, F__law_due, hx.len, hl, resV, hlo]
  | _ => simp [C__law_due, fnE, startE, F__law_due, h1, isTup, resV, levOk]
end
section
variable {m n : Nat} {x y : D} {o w : Nat → Str} {p0 p1 : Int} {p2 : Option Int}
theorem lv1 (hy : Tx y n w) {v d : D} {k : Nat} (h : okN k d = true) : B__are_levels_1 [some x, some y, some v, some d, none] = orRet (if rowOk n d = true then none else some (.bl false)) (.next [some x, some y, some v, none, none]) := by
  have h1 := isi_ok (p := isTup) h
  unfold B__are_levels_1
  cases d with
  | tup cs =>
    obtain ⟨j, hj⟩ := ok_tup h
    have e := lc_bools (gf := gfName 4) (f := eAnd (eUn (dIsi Px.isInt) (eVar 4)) (eAnd (eNot (eUn (dIsi isBool) (eVar 4))) (eOp (dCmpI iGe) (eVar 4) (eC (.int 0))))) (ρ := [some x, some y, some v, some (.tup cs), none]) (p := cellOk) (ds := cs) fun d hd => ⟨_, rfl, cell_b (hj d hd) (eVar 4) _ rfl⟩
    by_cases hl : (cs.length : Int) = (n : Int) + 1
    · cases hc : cs.all cellOk <;> simp [hy.len, hl, eLc, e, hc, rowOk, isRow, rowCs, orRet]
    · simp [hy.len, hl, rowOk, isRow, orRet]
  | _ => simp [h1, isTup, rowOk, isRow, orRet]
theorem are_all (hx : Tx x m o) (hy : Tx y n w) {v : D} {k : Nat} (hv : okN k v = true) : C__are_levels [x, y, v] = .ok (.bl (levOk m n v)) := by
  have h1 := isi_ok (p := isTup) hv
  cases v with
  | tup rs =>
    obtain ⟨j, hj⟩ := ok_tup hv
    have e3 := for_scan1 (gf := gfName 3) (F := B__are_levels_1) (ρ0 := [some x, some y, some (.tup rs), none, none]) (bad := fun d => if rowOk n d = true then none else some (.bl false)) (ds := rs) fun d hd => ⟨_, rfl, lv1 hy (hj d hd)⟩
    rw [fs_const] at e3
    by_cases hl : (rs.length : Int) = (m : Int) + 1
    · cases hR : rs.all (rowOk n) <;> simp [C__are_levels, fnE, startE, F__are_levels, hx.len, hl, x_sFor, e3, hR, orRet, levOk]
    · simp [C__are_levels, fnE, startE, F__are_levels, hx.len, hl, levOk]
  | _ => simp [C__are_levels, fnE, startE, F__are_levels, h1, isTup, levOk]
theorem lf_all (hx : Tx x m o) (hy : Tx y n w) (hcs : C_check_short [.lst [x, y]] = .ok .non) (hcp : C_check_prices [.tup [.int p0, .int p1, pD p2]] = .ok .non) {v : D} {k : Nat} (hv : okN k v = true) :
    C_levels_fault [x, y, .tup [.int p0, .int p1, pD p2], v] = .ok (resV o w p0 p1 p2 m n v) := by
  have ha := are_all hx hy hv
  by_cases hlo : levOk m n v = true
  · have L := levOk_lev hlo
    have q1 := L.rows 0 (by omega)
    have q2 := L.cells 0 (by omega) 0 (by omega)
    simp only [Int.natCast_zero] at q1 q2
    have dm := lf_main (p0 := p0) (p1 := p1) (p2 := p2) hx hy L
    by_cases hz : cellAt v 0 0 = 0
    · simp [C_levels_fault, fnE, startE, F_levels_fault, hcs, hcp, ha, hlo, q1, q2, resV, dm, hz]
      cases faultF o w p0 p1 p2 m n (cellAt v) <;> simp [orRet]
    · simp [C_levels_fault, fnE, startE, F_levels_fault, hcs, hcp, ha, hlo, q1, q2, resV, hz]
  · simp [C_levels_fault, fnE, startE, F_levels_fault, hcs, hcp, ha, hlo, resV]
/-! faults and cells -/
theorem fault_none {f : Nat → Nat → Int} : faultF o w p0 p1 p2 m n f = none ↔ ∀ r, r ≤ m → ∀ c, c ≤ n → badB o w p0 p1 p2 f r c = false := by
  have cell : ∀ r c : Nat, cellF o w p0 p1 p2 f r (.int (c : Nat)) = none ↔ badB o w p0 p1 p2 f r c = false := fun r c => by
    simp only [cellF, Int.toNat_natCast]
    by_cases h : badB o w p0 p1 p2 f r c = true <;> simp [h]
  have rowq : ∀ r : Nat, rowF o w p0 p1 p2 n f (.int (r : Nat)) = none ↔ ∀ c, c ≤ n → badB o w p0 p1 p2 f r c = false := fun r => by
    simp only [rowF, Int.toNat_natCast, List.findSome?_eq_none_iff]
    constructor
    · intro h c hc
      exact (cell r c).mp (h _ (List.mem_map.mpr ⟨c, List.mem_range.mpr (by omega), rfl⟩))
    · intro h d hd
      obtain ⟨c, hc, rfl⟩ := mem_nats hd
      exact (cell r c).mpr (h c (by omega))
  simp only [faultF, List.findSome?_eq_none_iff]
  constructor
  · intro h r hr
    exact (rowq r).mp (h _ (List.mem_map.mpr ⟨r, List.mem_range.mpr (by omega), rfl⟩))
  · intro h d hd
    obtain ⟨r, hr, rfl⟩ := mem_nats hd
    exact (rowq r).mpr (h r (by omega))
theorem fault_some {f : Nat → Nat → Int} {d : D} (h : faultF o w p0 p1 p2 m n f = some d) : ∃ r c : Nat, d = .tup [.int (r : Nat), .int (c : Nat)] := by
  obtain ⟨d1, h1, h2⟩ := List.exists_of_findSome?_eq_some h
  obtain ⟨r, hr, rfl⟩ := mem_nats h1
  simp only [rowF, Int.toNat_natCast] at h2
  obtain ⟨d3, h3, h4⟩ := List.exists_of_findSome?_eq_some h2
  obtain ⟨c, hc, rfl⟩ := mem_nats h3
  simp only [cellF, Int.toNat_natCast] at h4
  split at h4
  · exact ⟨r, c, (Option.some.inj h4).symm⟩
  · cases h4
theorem resV_cases (v : D) : (∃ s : Str, resV o w p0 p1 p2 m n v = .str s ∧ PyData.strOk s = true) ∨ (∃ r c : Nat, resV o w p0 p1 p2 m n v = .tup [.int (r : Nat), .int (c : Nat)]) ∨
    (resV o w p0 p1 p2 m n v = .non ∧ levOk m n v = true ∧ cellAt v 0 0 = 0 ∧ ∀ r, r ≤ m → ∀ c, c ≤ n → badB o w p0 p1 p2 (cellAt v) r c = false) := by
  unfold resV
  by_cases h1 : levOk m n v = true
  · rw [if_pos h1]
    by_cases h2 : cellAt v 0 0 = 0
    · rw [if_pos h2]
      cases e : faultF o w p0 p1 p2 m n (cellAt v) with
      | some d =>
        obtain ⟨r, c, rfl⟩ := fault_some e
        exact .inr (.inl ⟨r, c, rfl⟩)
      | none => exact .inr (.inr ⟨rfl, h1, h2, fault_none.mp e⟩)
    · rw [if_neg h2]
      exact .inl ⟨_, rfl, by decide +kernel⟩
  · rw [if_neg h1]
    exact .inl ⟨_, rfl, by decide +kernel⟩
theorem resV_ne (v : D) : dNe (resV o w p0 p1 p2 m n v) (resV o w p0 p1 p2 m n v) = .ok (.bl false) := by
  rcases resV_cases (o := o) (w := w) (p0 := p0) (p1 := p1) (p2 := p2) (m := m) (n := n) v with ⟨s, e, h⟩ | ⟨r, c, e⟩ | ⟨e, _⟩ <;> rw [e]
  · rw [x_ne_ss s s h h]
    simp
  · simp [dNe, okN, okL, eqD, eqDL]
  · simp [dNe, okN, eqD]
end
/-! ### the least levels -/
section
variable (o w : Nat → Str) (p0 p1 : Int) (p2 : Option Int)
def via (p2 : Option Int) (b a : Int) : Int := match p2 with
  | some p => min b (a + p)
  | none => b
def A : Nat → Nat → Int
  | 0, 0 => 0
  | 0, c + 1 => A 0 c + p1
  | r + 1, 0 => A r 0 + p0
  | r + 1, c + 1 => if o r = w c then min (min (A r (c + 1) + p0) (A (r + 1) c + p1)) (A r c) else via p2 (min (A r (c + 1) + p0) (A (r + 1) c + p1)) (A r c)
  termination_by r c => (r, c)
end
section
variable {m n : Nat} {o w : Nat → Str} {p0 p1 : Int} {p2 : Option Int} {f : Nat → Nat → Int}
/-- levels that hold lie nowhere above the least -/
theorem holds_le (h0 : f 0 0 = 0) (h : ∀ r, r ≤ m → ∀ c, c ≤ n → badB o w p0 p1 p2 f r c = false) : ∀ r c, r ≤ m → c ≤ n → f r c ≤ A o w p0 p1 p2 r c
  | 0, 0, _, _ => by rw [A, h0]; exact Int.le_refl 0
  | 0, c + 1, hr, hc => by
    have ih := holds_le h0 h 0 c hr (by omega)
    have hb := h 0 hr (c + 1) hc
    simp [badB, cand] at hb
    rw [A]
    omega
  | r + 1, 0, hr, hc => by
    have ih := holds_le h0 h r 0 (by omega) hc
    have hb := h (r + 1) hr 0 hc
    simp [badB, cand] at hb
    rw [A]
    omega
  | r + 1, c + 1, hr, hc => by
    have ih1 := holds_le h0 h r (c + 1) (by omega) hc
    have ih2 := holds_le h0 h (r + 1) c hr (by omega)
    have ih3 := holds_le h0 h r c (by omega) (by omega)
    have hb := h (r + 1) hr (c + 1) hc
    rw [A]
    by_cases ha : o r = w c
    · simp [badB, cand, ha] at hb
      rw [if_pos ha]
      omega
    · rw [if_neg ha]
      cases p2 with
      | none =>
        simp [badB, cand, ha] at hb
        show _ ≤ min _ _
        omega
      | some p =>
        simp [badB, cand, ha] at hb
        show _ ≤ min _ _
        omega
  termination_by r c => (r, c)
/-- one level above the least: a fault there -/
theorem raised_bad {r c : Nat} (hrc : ¬ (r = 0 ∧ c = 0)) (hf : ∀ i j, i ≤ r → j ≤ c → f i j = if i = r ∧ j = c then A o w p0 p1 p2 r c + 1 else A o w p0 p1 p2 i j) : badB o w p0 p1 p2 f r c = true := by
  have e0 : f r c = A o w p0 p1 p2 r c + 1 := by rw [hf _ _ (by omega) (by omega), if_pos ⟨rfl, rfl⟩]
  cases r with
  | zero =>
    cases c with
    | zero => exact absurd ⟨rfl, rfl⟩ hrc
    | succ c =>
      have e1 : f 0 c = A o w p0 p1 p2 0 c := by rw [hf _ _ (by omega) (by omega), if_neg (by omega)]
      rw [A] at e0
      simp [badB, cand, e0, e1]
      omega
  | succ r =>
    cases c with
    | zero =>
      have e1 : f r 0 = A o w p0 p1 p2 r 0 := by rw [hf _ _ (by omega) (by omega), if_neg (by omega)]
      rw [A] at e0
      simp [badB, cand, e0, e1]
      omega
    | succ c =>
      have e1 : f r (c + 1) = A o w p0 p1 p2 r (c + 1) := by rw [hf _ _ (by omega) (by omega), if_neg (by omega)]
      have e2 : f (r + 1) c = A o w p0 p1 p2 (r + 1) c := by rw [hf _ _ (by omega) (by omega), if_neg (by omega)]
      have e3 : f r c = A o w p0 p1 p2 r c := by rw [hf _ _ (by omega) (by omega), if_neg (by omega)]
      rw [A] at e0
      by_cases ha : o r = w c
      · rw [if_pos ha] at e0
        simp [badB, cand, ha, e1, e2, e3]
        omega
      · rw [if_neg ha] at e0
        cases p2 with
        | none =>
          have e0 : f (r + 1) (c + 1) = min _ _ + 1 := e0
          simp [badB, cand, ha, e1, e2]
          omega
        | some p =>
          have e0 : f (r + 1) (c + 1) = min _ _ + 1 := e0
          simp [badB, cand, ha, e1, e2, e3]
          omega
end
/-! ### the law's own levels -/
section
variable (o w : Nat → Str) (p0 p1 : Int) (p2 : Option Int)
def arow (r k : Nat) : List D := (List.range k).map fun c => .int (A o w p0 p1 p2 r c)
def arows (n k : Nat) : List D := (List.range k).map fun r => .lst (arow o w p0 p1 p2 r (n + 1))
def dueR (n k : Nat) : List D := (List.range k).map fun r => .tup (arow o w p0 p1 p2 r (n + 1))
end
section
variable {m n : Nat} {x y : D} {o w : Nat → Str} {p0 p1 : Int} {p2 : Option Int}
theorem arow_succ (r k : Nat) : arow o w p0 p1 p2 r k ++ [.int (A o w p0 p1 p2 r k)] = arow o w p0 p1 p2 r (k + 1) := by
  simp [arow, List.range_succ]
theorem arows_succ (k : Nat) : arows o w p0 p1 p2 n k ++ [.lst (arow o w p0 p1 p2 k (n + 1))] = arows o w p0 p1 p2 n (k + 1) := by
  simp [arows, List.range_succ]
theorem arow_ix {r k i : Nat} (h : i < k) : dIx (.lst (arow o w p0 p1 p2 r k)) (.int (i : Nat)) = .ok (.int (A o w p0 p1 p2 r i)) := dIx_lst (by simp [arow, h])
theorem arows_ix {k i : Nat} (h : i < k) : dIx (.lst (arows o w p0 p1 p2 n k)) (.int (i : Nat)) = .ok (.lst (arow o w p0 p1 p2 i (n + 1))) := dIx_lst (by simp [arows, h])
theorem ah2 (hx : Tx x m o) (hy : Tx y n w) {r c : Nat} (hr : r ≤ m) (hc : c ≤ n) :
    B__law_ahead_2 [some x, some y, some (.tup [.int p0, .int p1, pD p2]), some (.lst (arows o w p0 p1 p2 n r)), some (.int (r : Nat)), some (.lst (arow o w p0 p1 p2 r c)), some (.int (c : Nat)), none, none] =
      .next [some x, some y, some (.tup [.int p0, .int p1, pD p2]), some (.lst (arows o w p0 p1 p2 n r)), some (.int (r : Nat)), some (.lst (arow o w p0 p1 p2 r (c + 1))), none, none, none] := by
  have q0 : dIx (.tup [.int p0, .int p1, pD p2]) (.int 0) = .ok (.int p0) := rfl
  have q1 : dIx (.tup [.int p0, .int p1, pD p2]) (.int 1) = .ok (.int p1) := rfl
  have q2 : dIx (.tup [.int p0, .int p1, pD p2]) (.int 2) = .ok (pD p2) := rfl
  have min1 := fun a : Int => x_min_l a []
  have min2 := fun a b : Int => x_min_l a [b]
  have min3 := fun a b d : Int => x_min_l a [b, d]
  simp only [List.map_cons, List.map_nil, List.foldl_cons, List.foldl_nil] at min1 min2 min3
  have hs := hx.small
  have hs2 := hy.small
  have len : (arow o w p0 p1 p2 r c).length < 16777216 := by
    simp only [arow, List.length_map, List.length_range]
    omega
  have pe : ∀ i j : Int, dEq (.tup [.int i, .int j]) (.tup [.int 0, .int 0]) = .ok (.bl (i == 0 && j == 0)) := fun i j => by
    simp [dEq, okN, okL, eqD, eqDL]
  have sc := arow_succ (o := o) (w := w) (p0 := p0) (p1 := p1) (p2 := p2) r c
  rw [← sc]
  unfold B__law_ahead_2
  cases r with
  | zero =>
    cases c with
    | zero => simp [pe, sAppend, sl_eq, min1, len, A]
    | succ c =>
      have h1 : ¬ ((c : Int) + 1 = 0) := by omega
      have g2 : (0 : Int) < (c : Int) + 1 := by omega
      have i1 := arow_ix (o := o) (w := w) (p0 := p0) (p1 := p1) (p2 := p2) (r := 0) (show c < c + 1 by omega)
      have e2 : (((c + 1 : Nat) : Int)) - 1 = (c : Int) := by omega
      simp [pe, h1, g2, sAppend, sl_eq, min1, len, i1, q1, A]
  | succ r =>
    have h1 : ¬ ((r : Int) + 1 = 0) := by omega
    have g1 : (0 : Int) < (r : Int) + 1 := by omega
    have j1 := arows_ix (o := o) (w := w) (p0 := p0) (p1 := p1) (p2 := p2) (n := n) (show r < r + 1 by omega)
    have i2 := arow_ix (o := o) (w := w) (p0 := p0) (p1 := p1) (p2 := p2) (r := r) (show c < n + 1 by omega)
    cases c with
    | zero =>
      simp at i2
      simp [pe, h1, g1, sAppend, sl_eq, min1, len, j1, i2, q0, A]
    | succ c =>
      have g2 : (0 : Int) < (c : Int) + 1 := by omega
      have i1 := arow_ix (o := o) (w := w) (p0 := p0) (p1 := p1) (p2 := p2) (r := r + 1) (show c < c + 1 by omega)
      have i3 := arow_ix (o := o) (w := w) (p0 := p0) (p1 := p1) (p2 := p2) (r := r) (show c < n + 1 by omega)
      have ho := hx.ix r (by omega)
      have hw := hy.ix c (by omega)
      have hE := x_eq_ss (o r) (w c) (hx.ok r (by omega)) (hy.ok c (by omega))
      simp at i2
      by_cases ha : o r = w c
      · rw [ha] at ho hE
        simp only [beq_self_eq_true] at hE
        simp [pe, h1, g1, g2, sAppend, sl_eq, min3, len, j1, i1, i2, i3, q0, q1, ho, hw, hE, A, ha]
      · cases p2 with
        | none =>
          simp only [pD] at q0 q1 q2
          simp [pe, h1, g1, g2, sAppend, sl_eq, min2, len, j1, i1, i2, i3, q0, q1, q2, ho, hw, hE, A, ha, via, pD]
        | some p =>
          simp only [pD] at q0 q1 q2
          simp [pe, h1, g1, g2, sAppend, sl_eq, min3, len, j1, i1, i2, i3, q0, q1, q2, ho, hw, hE, A, ha, via, pD]
theorem nats_at {k i : Nat} {d : D} (h : (nats k)[i]? = some d) : i < k ∧ d = .int (i : Nat) := by
  have hi := (List.getElem?_eq_some_iff.mp h).1
  simp only [nats, List.length_map, List.length_range] at hi
  rw [nats, List.getElem?_map, List.getElem?_range hi] at h
  exact ⟨hi, (Option.some.inj h).symm⟩
theorem nats_len (k : Nat) : (nats k).length = k := by simp [nats]
theorem ah1 (hx : Tx x m o) (hy : Tx y n w) {r : Nat} (hr : r ≤ m) (g : Option D) :
    B__law_ahead_1 [some x, some y, some (.tup [.int p0, .int p1, pD p2]), some (.lst (arows o w p0 p1 p2 n r)), some (.int (r : Nat)), g, none, none, none] =
      .next [some x, some y, some (.tup [.int p0, .int p1, pD p2]), some (.lst (arows o w p0 p1 p2 n (r + 1))), none, some (.lst (arow o w p0 p1 p2 r (n + 1))), none, none, none] := by
  obtain ⟨ρ', e, p⟩ := for_inv (gf := gfName 6) (F := B__law_ahead_2) (ds := nats (n + 1)) (n := 0)
    (ρ := [some x, some y, some (.tup [.int p0, .int p1, pD p2]), some (.lst (arows o w p0 p1 p2 n r)), some (.int (r : Nat)), some (.lst []), none, none, none])
    (P := fun c ρ => ρ = [some x, some y, some (.tup [.int p0, .int p1, pD p2]), some (.lst (arows o w p0 p1 p2 n r)), some (.int (r : Nat)), some (.lst (arow o w p0 p1 p2 r c)), none, none, none])
    rfl (fun i d hi ρ hp => by
      obtain ⟨h1, rfl⟩ := nats_at hi
      subst hp
      rw [Nat.zero_add]
      exact ⟨_, _, rfl, .inl (ah2 hx hy hr (show i ≤ n by omega)), rfl⟩)
  rw [nats_len, Nat.zero_add] at p
  subst p
  have hs := hx.small
  have len : (arows o w p0 p1 p2 n r).length < 16777216 := by
    simp only [arows, List.length_map, List.length_range]
    omega
  unfold B__law_ahead_1
  simp [x_sFor, hy.len, rng1_nats1 n hy.small, e, sAppend, sl_eq, len, arows_succ]
theorem ahead_ok (hx : Tx x m o) (hy : Tx y n w) : C__law_ahead [x, y, .tup [.int p0, .int p1, pD p2]] = .ok (.tup (dueR o w p0 p1 p2 n (m + 1))) := by
  obtain ⟨ρ', e, g, p⟩ := for_inv (gf := gfName 4) (F := B__law_ahead_1) (ds := nats (m + 1)) (n := 0)
    (ρ := [some x, some y, some (.tup [.int p0, .int p1, pD p2]), some (.lst []), none, none, none, none, none])
    (P := fun c ρ => ∃ g, ρ = [some x, some y, some (.tup [.int p0, .int p1, pD p2]), some (.lst (arows o w p0 p1 p2 n c)), none, g, none, none, none])
    ⟨none, rfl⟩ (fun i d hi ρ hp => by
      obtain ⟨h1, rfl⟩ := nats_at hi
      obtain ⟨g, rfl⟩ := hp
      rw [Nat.zero_add]
      exact ⟨_, _, rfl, .inl (ah1 hx hy (show i ≤ m by omega) g), _, rfl⟩)
  rw [nats_len, Nat.zero_add] at p
  subst p
  have lc := lc_map (i := 5) (f := eCall fTuple (aCons (eVar 5) aNil)) (ρ := [some x, some y, some (.tup [.int p0, .int p1, pD p2]), some (.lst (arows o w p0 p1 p2 n (m + 1))), none, none, none, none, none])
    (g := fun d => match d with
      | .lst xs => .tup xs
      | d => d) (ds := arows o w p0 p1 p2 n (m + 1)) fun d hd => by
      obtain ⟨r, _, rfl⟩ := List.mem_map.mp hd
      simp
  have e2 : (arows o w p0 p1 p2 n (m + 1)).map (fun d => match d with
      | .lst xs => .tup xs
      | d => d) = dueR o w p0 p1 p2 n (m + 1) := by
    simp [arows, dueR]
  rw [e2] at lc
  simp [C__law_ahead, fnE, startE, F__law_ahead, x_sFor, hx.len, rng1_nats1 m hx.small, e, eLc, lc]
end
/-! ### texts, prices -/
def Line (s : Str) : Prop := PyData.strOk s = true ∧ C_is_line [.str s] = .ok (.bl true)
theorem letters (j : Nat) (h : j < 8) : ∃ s, dIx (.str "abcdefgh") (.int (j : Nat)) = .ok (.str s) ∧ Line s := by
  match j, h with
  | 0, _ => exact ⟨"a", by kernel_rfl, by decide +kernel, by kernel_rfl⟩
  | 1, _ => exact ⟨"b", by kernel_rfl, by decide +kernel, by kernel_rfl⟩
  | 2, _ => exact ⟨"c", by kernel_rfl, by decide +kernel, by kernel_rfl⟩
  | 3, _ => exact ⟨"d", by kernel_rfl, by decide +kernel, by kernel_rfl⟩
  | 4, _ => exact ⟨"e", by kernel_rfl, by decide +kernel, by kernel_rfl⟩
  | 5, _ => exact ⟨"f", by kernel_rfl, by decide +kernel, by kernel_rfl⟩
  | 6, _ => exact ⟨"g", by kernel_rfl, by decide +kernel, by kernel_rfl⟩
  | 7, _ => exact ⟨"h", by kernel_rfl, by decide +kernel, by kernel_rfl⟩
theorem ints_ix {ds : List Int} {j : Nat} (h : j < ds.length) : dIx (.lst (ds.map .int)) (.int (j : Nat)) = .ok (.int ds[j]) := dIx_lst (by simp [h])
theorem text_ok (ds : List Int) (hl : 2 ≤ ds.length) (hb : ds.length ≤ 1000) (kinds : Int) (h1 : 1 ≤ kinds) (h2 : kinds ≤ 8) :
    ∃ ss : List Str, C__law_text [.lst (ds.map .int), .int 8, .int kinds] = .ok (.tup (ss.map .str)) ∧ ss.length ≤ 8 ∧ ∀ s ∈ ss, Line s := by
  have i0 := ints_ix (ds := ds) (j := 0) (by omega)
  obtain ⟨sz, hz, hz2⟩ : ∃ sz : Nat, ds[0] % 9 = (sz : Int) ∧ sz ≤ 8 := ⟨(ds[0] % 9).toNat, by omega, by omega⟩
  obtain ⟨ys, e, hl2, hq⟩ := lc_ex (gf := gfName 4) (f := eOp dIx (eC (.str "abcdefgh")) (eOp dMod (eOp dDiv (eCall fInt (aCons (eOp dAdd (eOp dMul (eCall fInt (aCons (eOp dIx (eVar 0) (eOp dAdd (eC (.int 1)) (eOp dMod (eVar 4) (eOp dSub (eCall fLen (aCons (eVar 0) aNil)) (eC (.int 1)))))) aNil)) (eOp dAdd (eVar 4) (eC (.int 3)))) (eOp dMul (eVar 4) (eC (.int 17)))) aNil)) (eC (.int 5))) (eVar 2)))
    (ρ := [some (.lst (ds.map .int)), some (.int 8), some (.int kinds), some (.int (sz : Nat)), none]) (Q := fun y => ∃ s, y = .str s ∧ Line s) (ds := nats sz) fun d hd => by
      obtain ⟨k, hk, rfl⟩ := mem_nats hd
      obtain ⟨j, hj, hj2⟩ : ∃ j : Nat, (1 : Int) + (k : Int) % ((ds.length : Int) - 1) = (j : Int) ∧ j < ds.length := by
        have a1 := Int.emod_nonneg (k : Int) (show (ds.length : Int) - 1 ≠ 0 by omega)
        have a2 := Int.emod_lt_of_pos (k : Int) (show (0 : Int) < (ds.length : Int) - 1 by omega)
        exact ⟨(1 + (k : Int) % ((ds.length : Int) - 1)).toNat, by omega, by omega⟩
      have ij := ints_ix hj2
      obtain ⟨t, ht, ht2⟩ : ∃ t : Nat, (ds[j] * ((k : Int) + 3) + (k : Int) * 17) / 5 % kinds = (t : Int) ∧ t < 8 := by
        have a1 := Int.emod_nonneg ((ds[j] * ((k : Int) + 3) + (k : Int) * 17) / 5) (show kinds ≠ 0 by omega)
        have a2 := Int.emod_lt_of_pos ((ds[j] * ((k : Int) + 3) + (k : Int) * 17) / 5) (show (0 : Int) < kinds by omega)
        exact ⟨((ds[j] * ((k : Int) + 3) + (k : Int) * 17) / 5 % kinds).toNat, by omega, by omega⟩
      obtain ⟨s, hs, hs2⟩ := letters t ht2
      have m1 : mulOk ds[j] ((k : Int) + 3) = true := mulOk_r _ _ (by constructor <;> omega)
      have m2 : mulOk (k : Int) 17 = true := mulOk_r _ _ (by decide)
      have p1 : (0 : Int) < (ds.length : Int) - 1 := by omega
      have p2 : (0 : Int) < kinds := by omega
      refine ⟨_, .str s, rfl, ?_, s, rfl, hs2⟩
      simp only [x_mod _ _ p1, x_mod _ _ p2, x_eOp, x_eC, x_eCall, x_aCons, x_aNil, x_eVar, List.set_cons_succ, List.set_cons_zero, List.getD_cons_succ, List.getD_cons_zero, vD_some, Res.bind_ok, x_len_l, List.length_map, x_sub, x_add, hj, ij, x_int_i, dMul_i _ _ m1, dMul_i _ _ m2, dDiv_i _ 5 (by decide), ht, hs]
  have hss : ∃ ss : List Str, ys = ss.map .str ∧ ∀ s ∈ ss, Line s := by
    clear e hl2
    induction ys with
    | nil => exact ⟨[], rfl, fun s h => nomatch h⟩
    | cons y ys ih =>
      obtain ⟨s, rfl, hs⟩ := hq y List.mem_cons_self
      obtain ⟨ss, rfl, h⟩ := ih fun y h => hq y (List.mem_cons_of_mem _ h)
      exact ⟨s :: ss, rfl, fun z hz => by
        rcases List.mem_cons.mp hz with rfl | hz
        · exact hs
        · exact h z hz⟩
  obtain ⟨ss, rfl, hss⟩ := hss
  rw [nats_len] at hl2
  simp only [List.length_map] at hl2
  have r1 := rng1_nats sz (by omega)
  simp only [Int.natCast_zero] at i0
  exact ⟨ss, by simp [C__law_text, fnE, startE, F__law_text, i0, hz, eLc, r1, e], by omega, hss⟩
theorem text_tx {ss : List Str} (hl : ss.length ≤ 60) (h : ∀ s ∈ ss, Line s) : Tx (.tup (ss.map .str)) ss.length fun r => ss.getD r "" := by
  refine ⟨by simp, hl, fun r hr => dIx_tup (by simp [hr]), fun r hr => ?_⟩
  have := (h ss[r] (List.getElem_mem hr)).1
  simpa [hr] using this
theorem is_text_ok {ss : List Str} (h : ∀ s ∈ ss, Line s) : C_is_text [.tup (ss.map .str)] = .ok (.bl true) := by
  have e := lc_bools (gf := gfName 1) (f := eCall C_is_line (aCons (eVar 1) aNil)) (ρ := [some (.tup (ss.map .str)), none]) (p := fun _ => true) (ds := ss.map .str) fun d hd => by
    obtain ⟨s, hs, rfl⟩ := List.mem_map.mp hd
    refine ⟨_, rfl, ?_⟩
    simp [(h s hs).2]
  have e2 := x_all ((ss.map D.str).map fun _ => true)
  have e3 : (((ss.map D.str).map fun _ => true).all fun z => z) = true := by simp
  rw [e3] at e2
  simp only [C_is_text, fnE, startE, F_is_text, eLc, x_sRet, x_eAnd, x_eUn, x_eCall, x_aCons, x_aNil, x_iSeq, x_eVar, List.map_cons, List.map_nil, List.length_cons, List.length_nil, List.replicate, List.cons_append, List.nil_append, List.getD_cons_zero, vD_some, Res.bind_ok, isi_t, k_tt, x_tru_b, if_true, x_items_t, x_wipe0, x_wipe1, List.set_cons_succ, List.set_cons_zero, e, e2, flow_ok]
theorem short_ok {ss ts : List Str} (h : ∀ s ∈ ss, Line s) (h2 : ∀ s ∈ ts, Line s) (hl : ss.length ≤ 60) (hl2 : ts.length ≤ 60) : C_check_short [.lst [.tup (ss.map .str), .tup (ts.map .str)]] = .ok .non := by
  have i1 := is_text_ok h
  have i2 := is_text_ok h2
  have b1 : ((ss.length : Int) ≤ 60) := by omega
  have b2 : ((ts.length : Int) ≤ 60) := by omega
  have e3 := x_all [true, true]
  simp only [List.map_cons, List.map_nil] at e3
  simp [C_check_short, fnE, startE, F_check_short, eLc, lcE, i1, i2, b1, b2, e3, iLe]
theorem is_price_ok {p : Int} (h : 0 ≤ p) (h2 : p ≤ 1000) : C__is_price [.int p] = .ok (.bl true) := by
  simp [C__is_price, fnE, startE, F__is_price, eChain, h, h2, iLe]
theorem prices_ok (d : Int) (hd : 0 ≤ d) : ∃ (p0 p1 : Int) (p2 : Option Int), C__law_prices [.int d] = .ok (.tup [.int p0, .int p1, pD p2]) ∧ C_check_prices [.tup [.int p0, .int p1, pD p2]] = .ok .non := by
  obtain ⟨p0, p1, e1, a0, a1, b0, b1⟩ : ∃ p0 p1 : Int, dIx (.lst [.tup [.int 1, .int 1], .tup [.int 2, .int 3], .tup [.int 3, .int 1], .tup [.int 0, .int 2], .tup [.int 5, .int 5], .tup [.int 1, .int 0]]) (.int (d % 6)) = .ok (.tup [.int p0, .int p1]) ∧ 0 ≤ p0 ∧ p0 ≤ 5 ∧ 0 ≤ p1 ∧ p1 ≤ 5 := by
    have : d % 6 = 0 ∨ d % 6 = 1 ∨ d % 6 = 2 ∨ d % 6 = 3 ∨ d % 6 = 4 ∨ d % 6 = 5 := by omega
    rcases this with h | h | h | h | h | h <;> rw [h] <;> exact ⟨_, _, rfl, by decide, by decide, by decide, by decide⟩
  obtain ⟨p2, e2, hp⟩ : ∃ p2 : Option Int, dIx (.lst [.non, .int 1, .int (p0 + p1), .int (p0 + p1 + 1), .int 2, .int 0]) (.int (d / 6 % 6)) = .ok (pD p2) ∧ ∀ p, p2 = some p → 0 ≤ p ∧ p ≤ 1000 := by
    have : d / 6 % 6 = 0 ∨ d / 6 % 6 = 1 ∨ d / 6 % 6 = 2 ∨ d / 6 % 6 = 3 ∨ d / 6 % 6 = 4 ∨ d / 6 % 6 = 5 := by omega
    rcases this with h | h | h | h | h | h <;> rw [h]
    · exact ⟨none, rfl, fun p z => nomatch z⟩
    · exact ⟨some 1, rfl, fun p z => by cases z; omega⟩
    · exact ⟨some (p0 + p1), rfl, fun p z => by cases z; omega⟩
    · exact ⟨some (p0 + p1 + 1), rfl, fun p z => by cases z; omega⟩
    · exact ⟨some 2, rfl, fun p z => by cases z; omega⟩
    · exact ⟨some 0, rfl, fun p z => by cases z; omega⟩
  have q0 := is_price_ok a0 (show p0 ≤ 1000 by omega)
  have q1 := is_price_ok b0 (show p1 ≤ 1000 by omega)
  have ec : ∀ q : D, cut [D.int p0, .int p1, q] none (some 2) = [.int p0, .int p1] := fun q => cut_hi _ 2
  have e3 := x_all [true, true]
  simp only [List.map_cons, List.map_nil] at e3
  refine ⟨p0, p1, p2, by simp [C__law_prices, fnE, startE, F__law_prices, e1, e2], ?_⟩
  have i2 : dIx (.tup [.int p0, .int p1, pD p2]) (.int 2) = .ok (pD p2) := rfl
  cases p2 with
  | none =>
    simp only [pD] at i2
    simp [C_check_prices, fnE, startE, F_check_prices, eLc, lcE, ec, q0, q1, e3, i2, pD]
  | some p =>
    have q2 := is_price_ok (hp p rfl).1 (hp p rfl).2
    simp only [pD] at i2
    simp [C_check_prices, fnE, startE, F_check_prices, eLc, lcE, ec, q0, q1, q2, e3, i2, pD]
theorem set_cut {α : Type} (xs : List α) (r : Nat) (z : α) (h : r < xs.length) : xs.take r ++ [z] ++ xs.drop (r + 1) = xs.set r z := by
  rw [List.set_eq_take_append_cons_drop, if_pos h]
  simp
theorem put_ok {rows cs : List D} {r c : Nat} {z : D} (hr : rows[r]? = some (.tup cs)) (hc : c < cs.length) (h1 : rows.length ≤ 1000) (h2 : cs.length ≤ 1000) : C__law_put [.tup rows, .int (r : Nat), .int (c : Nat), z] = .ok (.tup (rows.set r (.tup (cs.set c z)))) := by
  have hr2 := (List.getElem?_eq_some_iff.mp hr).1
  have i1 := dIx_tup hr
  have c1 := cut_lo rows (r + 1)
  have c2 := cut_lo cs (c + 1)
  simp only [Int.natCast_add, Int.cast_ofNat_Int] at c1 c2
  have s1 := set_cut rows r (.tup (cs.set c z)) hr2
  have s2 := set_cut cs c z hc
  have b1 : min c cs.length + 1 ≤ 16777216 := by omega
  have b2 : min c cs.length + 1 + (cs.length - (c + 1)) ≤ 16777216 := by omega
  have b3 : min r rows.length + 1 ≤ 16777216 := by omega
  have b4 : min r rows.length + 1 + (rows.length - (r + 1)) ≤ 16777216 := by omega
  simp [C__law_put, fnE, startE, F__law_put, i1, cut_hi, c1, c2, sl_eq, b1, b2, b3, b4]
  simp only [List.append_assoc, List.cons_append, List.nil_append] at s1 s2
  rw [s2]
  exact s1
/-! ### bent levels -/
theorem okT {k : Nat} {xs : List D} (h : ∀ d ∈ xs, okN k d = true) : okN (k + 1) (.tup xs) = true := by
  rw [okN, okL_all]
  exact List.all_eq_true.mpr h
theorem okLs {k : Nat} {xs : List D} (h : ∀ d ∈ xs, okN k d = true) : okN (k + 1) (.lst xs) = true := by
  rw [okN, okL_all]
  exact List.all_eq_true.mpr h
theorem okI (k : Nat) (i : Int) : okN k (.int i) = true := by rw [okN]
section
variable {m n : Nat} {o w : Nat → Str} {p0 p1 : Int} {p2 : Option Int}
theorem arow_len (r k : Nat) : (arow o w p0 p1 p2 r k).length = k := by simp [arow]
theorem due_len (k : Nat) : (dueR o w p0 p1 p2 n k).length = k := by simp [dueR]
theorem arow_mem {r k : Nat} {d : D} (h : d ∈ arow o w p0 p1 p2 r k) : ∃ i : Int, d = .int i := by
  obtain ⟨c, _, rfl⟩ := List.mem_map.mp h
  exact ⟨_, rfl⟩
theorem arow_ok {r k j : Nat} : ∀ d ∈ arow o w p0 p1 p2 r k, okN j d = true := fun d h => by
  obtain ⟨i, rfl⟩ := arow_mem h
  exact okI _ _
theorem due_mem {k : Nat} {d : D} (h : d ∈ dueR o w p0 p1 p2 n k) : ∃ r, d = .tup (arow o w p0 p1 p2 r (n + 1)) := by
  obtain ⟨c, _, rfl⟩ := List.mem_map.mp h
  exact ⟨_, rfl⟩
theorem due_ok {k j : Nat} : ∀ d ∈ dueR o w p0 p1 p2 n k, okN (j + 1) d = true := fun d h => by
  obtain ⟨i, rfl⟩ := due_mem h
  exact okT arow_ok
theorem due_at {k r : Nat} (h : r < k) : (dueR o w p0 p1 p2 n k)[r]? = some (.tup (arow o w p0 p1 p2 r (n + 1))) := by simp [dueR, h]
theorem arow_at {r k c : Nat} (h : c < k) : (arow o w p0 p1 p2 r k)[c]? = some (.int (A o w p0 p1 p2 r c)) := by simp [arow, h]
theorem set_ok {rows cs : List D} {r c j : Nat} {z : D} (h1 : ∀ d ∈ rows, okN (j + 1) d = true) (h2 : ∀ d ∈ cs, okN j d = true) (hz : okN j z = true) : ∀ d ∈ rows.set r (.tup (cs.set c z)), okN (j + 1) d = true := fun d hd => by
  rcases List.mem_or_eq_of_mem_set hd with hd | rfl
  · exact h1 d hd
  · refine okT fun e he => ?_
    rcases List.mem_or_eq_of_mem_set he with he | rfl
    · exact h2 e he
    · exact hz
/-- a comprehension over the rows, each turned cell by cell -/
theorem cells_lc {ρ : Px.Env} {f : EF} {r k : Nat} (hρ : 9 < ρ.length) (h8 : ρ.getD 8 none = some (.tup (arow o w p0 p1 p2 r k)))
    (hf : ∀ i : Int, ∃ j : Int, f ((wipeE ρ [9]).set 9 (some (.int i))) = .ok (.int j)) :
    ∃ y, eCall fTuple (aCons (eLc (iSeq (eVar 8)) [9] (gfName 9) bYes f) aNil) ρ = .ok y ∧ okN 7 y = true := by
  obtain ⟨ys, e, _, hq⟩ := lc_ex (gf := gfName 9) (f := f) (ρ := wipeE ρ [9]) (Q := fun y => okN 6 y = true) (ds := arow o w p0 p1 p2 r k) fun d hd => by
    obtain ⟨i, rfl⟩ := arow_mem hd
    obtain ⟨j, hj⟩ := hf i
    exact ⟨_, _, rfl, hj, okI _ _⟩
  refine ⟨.tup ys, ?_, okT hq⟩
  simp only [x_eCall, x_aCons, x_aNil, eLc, x_iSeq, x_eVar, h8, vD_some, Res.bind_ok, x_items_t, e, x_tup_l]
def Be (dr due : D) (r c : Nat) (fs : List D) (a b z : Option D) : Px.Env := [some dr, some due, some (.int (r : Nat)), some (.int (c : Nat)), some (.lst fs), a, b, z, none, none]
theorem rows_lc {dr : D} {r c k : Nat} {fs : List D} {a b z : Option D} {f : EF} (hf : ∀ r2 : Nat, ∃ y, f ((Be dr (.tup (dueR o w p0 p1 p2 n k)) r c fs a b z).set 8 (some (.tup (arow o w p0 p1 p2 r2 (n + 1))))) = .ok y ∧ okN 7 y = true) :
    ∃ ys, lcE (gfName 8) bYes f (Be dr (.tup (dueR o w p0 p1 p2 n k)) r c fs a b z) (dueR o w p0 p1 p2 n k) = .ok ys ∧ okN 8 (.tup ys) = true := by
  obtain ⟨ys, e, _, hq⟩ := lc_ex (gf := gfName 8) (f := f) (ρ := Be dr (.tup (dueR o w p0 p1 p2 n k)) r c fs a b z) (Q := fun y => okN 7 y = true) (ds := dueR o w p0 p1 p2 n k) fun d hd => by
    obtain ⟨r2, rfl⟩ := due_mem hd
    obtain ⟨y, h1, h2⟩ := hf r2
    exact ⟨_, _, rfl, h1, h2⟩
  exact ⟨ys, e, okT hq⟩
theorem be1 {dr : D} {r c k : Nat} {fs : List D} {i : Int} {b z : Option D} (hl : fs.length < 1000) :
    ∃ v, B__law_bent_1 (Be dr (.tup (dueR o w p0 p1 p2 n k)) r c fs (some (.int i)) b z) = .next (Be dr (.tup (dueR o w p0 p1 p2 n k)) r c (fs ++ [v]) none b z) ∧ okN 8 v = true := by
  obtain ⟨ys, e, hq⟩ := rows_lc (o := o) (w := w) (p0 := p0) (p1 := p1) (p2 := p2) (n := n) (k := k) (dr := dr) (r := r) (c := c) (fs := fs) (a := some (.int i)) (b := b) (z := z)
    (f := eCall fTuple (aCons (eLc (iSeq (eVar 8)) [9] (gfName 9) bYes (eCall fMin (aCons (eVar 5) (aCons (eVar 9) aNil)))) aNil)) fun r2 => by
      refine cells_lc (o := o) (w := w) (p0 := p0) (p1 := p1) (p2 := p2) (r := r2) (k := n + 1) (by simp [Be]) (by simp [Be]) fun j => ?_
      exact ⟨_, by simp [Be]; rfl⟩
  refine ⟨.tup ys, ?_, hq⟩
  unfold B__law_bent_1
  have e2 : lcE (gfName 8) bYes (eCall fTuple (aCons (eLc (iSeq (eVar 8)) [9] (gfName 9) bYes (eCall fMin (aCons (eVar 5) (aCons (eVar 9) aNil)))) aNil)) [some dr, some (.tup (dueR o w p0 p1 p2 n k)), some (.int (r : Nat)), some (.int (c : Nat)), some (.lst fs), some (.int i), b, z, none, none] (dueR o w p0 p1 p2 n k) = .ok ys := e
  simp [Be, sAppend, eLc, e2, sl_eq, show fs.length < 16777216 by omega]
theorem be2 {dr : D} {r c k : Nat} {fs : List D} {x : D} {a z : Option D} (hl : fs.length < 1000) (hr : r < k) (hc : c ≤ n) (hk : k ≤ 61) (hn : n ≤ 60) (hx : okN 6 x = true) :
    ∃ v, B__law_bent_2 (Be dr (.tup (dueR o w p0 p1 p2 n k)) r c fs a (some x) z) = .next (Be dr (.tup (dueR o w p0 p1 p2 n k)) r c (fs ++ [v]) a none z) ∧ okN 8 v = true := by
  have p := put_ok (z := x) (due_at (o := o) (w := w) (p0 := p0) (p1 := p1) (p2 := p2) (n := n) hr) (c := c) (by rw [arow_len]; omega) (by rw [due_len]; omega) (by rw [arow_len]; omega)
  refine ⟨.tup ((dueR o w p0 p1 p2 n k).set r (.tup ((arow o w p0 p1 p2 r (n + 1)).set c x))), ?_, okT (set_ok due_ok arow_ok hx)⟩
  unfold B__law_bent_2
  simp [Be, sAppend, p, sl_eq, show fs.length < 16777216 by omega]
end
def Xq1 : EF := (eOp dMod (eCall fInt (aCons (eOp dIx (eVar 0) (eC (.int 0))) aNil)) (eCall fLen (aCons (eVar 1) aNil)))
def Xq2 : EF := (eOp dMod (eCall fInt (aCons (eOp dIx (eVar 0) (eC (.int 1))) aNil)) (eCall fLen (aCons (eOp dIx (eVar 1) (eC (.int 0))) aNil)))
def Xf : EF := (eLst (aCons (eVar 1) (aCons (eCall fList (aCons (eVar 1) aNil)) (aCons (eC .non) (aCons (eC (.int 7)) (aCons (eTup aNil) (aCons (eSl (eVar 1) (oSome (eC (.int 1))) oNone) (aCons (eOp dAdd (eVar 1) (eSl (eVar 1) oNone (oSome (eC (.int 1))))) (aCons (eUn dRev (eVar 1)) (aCons (eCall fTuple (aCons (eLc (iSeq (eVar 1)) [8] (gfName 8) bYes (eSl (eVar 8) (oSome (eC (.int 1))) oNone)) aNil)) (aCons (eCall fTuple (aCons (eLc (iSeq (eVar 1)) [8] (gfName 8) bYes (eOp dAdd (eVar 8) (eTup (aCons (eC (.int 0)) aNil)))) aNil)) (aCons (eCall fTuple (aCons (eLc (iSeq (eVar 1)) [8] (gfName 8) bYes (eUn dRev (eVar 8))) aNil)) aNil))))))))))))
def X1 : EF := (eCall fTuple (aCons (eLc (iSeq (eVar 1)) [8] (gfName 8) bYes (eCall fTuple (aCons (eLc (iSeq (eVar 8)) [9] (gfName 9) bYes (eOp dDiv (eVar 9) (eC (.int 2)))) aNil))) aNil))
def X2 : EF := (eCall fTuple (aCons (eLc (iSeq (eVar 1)) [8] (gfName 8) bYes (eCall fTuple (aCons (eLc (iSeq (eVar 8)) [9] (gfName 9) bYes (eOp dAdd (eVar 9) (eC (.int 1)))) aNil))) aNil))
def Xl : EF := (eLst (aCons (eOp dAdd (eOp dIx (eOp dIx (eVar 1) (eVar 2)) (eVar 3)) (eC (.int 1))) (aCons (eCall fMax (aCons (eC (.int 0)) (aCons (eOp dSub (eOp dIx (eOp dIx (eVar 1) (eVar 2)) (eVar 3)) (eC (.int 1))) aNil))) (aCons (eC (.int 0)) (aCons (eOp dPow (eC (.int 10)) (eC (.int 9))) (aCons (eUn dNeg (eC (.int 1))) (aCons (eC (.bl true)) (aCons (eC .non) (aCons (eC (.str "0")) (aCons (eTup (aCons (eC (.int 0)) aNil)) aNil))))))))))
def Xp : EF := (eCall C__law_put (aCons (eVar 1) (aCons (eOp dMod (eCall fInt (aCons (eOp dIx (eVar 0) (eC (.int 2))) aNil)) (eCall fLen (aCons (eVar 1) aNil))) (aCons (eOp dMod (eCall fInt (aCons (eOp dIx (eVar 0) (eC (.int 3))) aNil)) (eCall fLen (aCons (eOp dIx (eVar 1) (eC (.int 0))) aNil))) (aCons (eOp dMod (eCall fInt (aCons (eOp dIx (eVar 0) (eC (.int 4))) aNil)) (eC (.int 5))) aNil)))))
def Xr : EF := (eOp dAdd (eOp dAdd (eVar 4) (eLst (aCons (eVar 7) (aCons (eCall C__law_put (aCons (eVar 7) (aCons (eVar 2) (aCons (eVar 3) (aCons (eOp dMod (eCall fInt (aCons (eOp dIx (eVar 0) (eC (.int 5))) aNil)) (eC (.int 5))) aNil))))) aNil)))) (eLc (iSeq (eLst (aCons (eCall fList (aCons (eOp dIx (eVar 1) (eVar 2)) aNil)) (aCons (eC .non) (aCons (eSl (eOp dIx (eVar 1) (eVar 2)) (oSome (eC (.int 1))) oNone) aNil))))) [8] (gfName 8) bYes (eOp dAdd (eOp dAdd (eSl (eVar 1) oNone (oSome (eVar 2))) (eTup (aCons (eVar 8) aNil))) (eSl (eVar 1) (oSome (eOp dAdd (eVar 2) (eC (.int 1)))) oNone))))
theorem bent_eq : F__law_bent = sSeq (sPar [2, 3] [Xq1, Xq2]) (sSeq (sSet 4 Xf) (sSeq (sFor (iCall dRng1 (aCons (eC (.int 4)) aNil)) (gfName 5) B__law_bent_1) (sKill [5] (sSeq (sAppend 4 X1) (sSeq (sAppend 4 X2) (sSeq (sFor (iSeq Xl) (gfName 6) B__law_bent_2) (sKill [6] (sSeq (sSet 7 Xp) (sRet Xr))))))))) := rfl
mutual
theorem okN_up : ∀ {k : Nat} {d : D}, okN k d = true → okN (k + 1) d = true
  | k, .non, _ => by rw [okN]
  | k, .bl _, _ => by rw [okN]
  | k, .int _, _ => by rw [okN]
  | k, .str _, h => by
    rw [okN] at h ⊢
    exact h
  | 0, .tup _, h => by rw [okN] at h; cases h
  | k + 1, .tup xs, h => by
    rw [okN] at h ⊢
    exact okL_up h
  | 0, .lst _, h => by rw [okN] at h; cases h
  | k + 1, .lst xs, h => by
    rw [okN] at h ⊢
    exact okL_up h
  | k, .dic _ _, h => by simp [okN] at h
  | k, .set _, h => by simp [okN] at h
  | k, .exc _, h => by simp [okN] at h
  | k, .oth, h => by simp [okN] at h
theorem okL_up : ∀ {k : Nat} {xs : List D}, okL k xs = true → okL (k + 1) xs = true
  | k, [], _ => by rw [okL]
  | k, x :: xs, h => by
    rw [okL, Bool.and_eq_true] at h ⊢
    exact ⟨okN_up h.1, okL_up h.2⟩
end
section
variable {m n : Nat} {o w : Nat → Str} {p0 p1 : Int} {p2 : Option Int}
theorem x1_ok {dr : D} {r c k : Nat} {fs : List D} {a b z : Option D} : ∃ v, X1 (Be dr (.tup (dueR o w p0 p1 p2 n k)) r c fs a b z) = .ok v ∧ okN 8 v = true := by
  obtain ⟨ys, e, hq⟩ := rows_lc (o := o) (w := w) (p0 := p0) (p1 := p1) (p2 := p2) (n := n) (k := k) (dr := dr) (r := r) (c := c) (fs := fs) (a := a) (b := b) (z := z)
    (f := eCall fTuple (aCons (eLc (iSeq (eVar 8)) [9] (gfName 9) bYes (eOp dDiv (eVar 9) (eC (.int 2)))) aNil)) fun r2 => by
      refine cells_lc (o := o) (w := w) (p0 := p0) (p1 := p1) (p2 := p2) (r := r2) (k := n + 1) (by simp [Be]) (by simp [Be]) fun j => ?_
      exact ⟨j / 2, by simp [Be]⟩
  simp only [Be] at e ⊢
  exact ⟨.tup ys, by simp [X1, eLc, e], hq⟩
theorem x2_ok {dr : D} {r c k : Nat} {fs : List D} {a b z : Option D} : ∃ v, X2 (Be dr (.tup (dueR o w p0 p1 p2 n k)) r c fs a b z) = .ok v ∧ okN 8 v = true := by
  obtain ⟨ys, e, hq⟩ := rows_lc (o := o) (w := w) (p0 := p0) (p1 := p1) (p2 := p2) (n := n) (k := k) (dr := dr) (r := r) (c := c) (fs := fs) (a := a) (b := b) (z := z)
    (f := eCall fTuple (aCons (eLc (iSeq (eVar 8)) [9] (gfName 9) bYes (eOp dAdd (eVar 9) (eC (.int 1)))) aNil)) fun r2 => by
      refine cells_lc (o := o) (w := w) (p0 := p0) (p1 := p1) (p2 := p2) (r := r2) (k := n + 1) (by simp [Be]) (by simp [Be]) fun j => ?_
      exact ⟨j + 1, by simp [Be]⟩
  simp only [Be] at e ⊢
  exact ⟨.tup ys, by simp [X2, eLc, e], hq⟩
theorem xf_ok {dr : D} {r c k : Nat} {a b z : Option D} (hk : k ≤ 61) (hn : n ≤ 60) : ∃ fs, Xf [some dr, some (.tup (dueR o w p0 p1 p2 n k)), some (.int (r : Nat)), some (.int (c : Nat)), none, a, b, z, none, none] = .ok (.lst fs) ∧ fs.length = 11 ∧ ∀ v ∈ fs, okN 9 v = true := by
  have dl : (dueR o w p0 p1 p2 n k).length = k := due_len k
  have dk : ∀ d ∈ dueR o w p0 p1 p2 n k, okN 7 d = true := due_ok
  have ca := cut_lo (dueR o w p0 p1 p2 n k) 1
  have cb := cut_hi (dueR o w p0 p1 p2 n k) 1
  simp only [Int.cast_ofNat_Int] at ca cb
  have R1 : ∀ f : EF, (∀ r2 : Nat, ∃ y, f ([some dr, some (.tup (dueR o w p0 p1 p2 n k)), some (.int (r : Nat)), some (.int (c : Nat)), none, a, b, z, some (.tup (arow o w p0 p1 p2 r2 (n + 1))), none]) = .ok y ∧ okN 7 y = true) →
      ∃ ys, lcE (gfName 8) bYes f [some dr, some (.tup (dueR o w p0 p1 p2 n k)), some (.int (r : Nat)), some (.int (c : Nat)), none, a, b, z, none, none] (dueR o w p0 p1 p2 n k) = .ok ys ∧ okN 8 (.tup ys) = true := fun f hf => by
    obtain ⟨ys, e, _, hq⟩ := lc_ex (gf := gfName 8) (f := f) (ρ := [some dr, some (.tup (dueR o w p0 p1 p2 n k)), some (.int (r : Nat)), some (.int (c : Nat)), none, a, b, z, none, none]) (Q := fun y => okN 7 y = true) (ds := dueR o w p0 p1 p2 n k) fun d hd => by
      obtain ⟨r2, rfl⟩ := due_mem hd
      obtain ⟨y, h1, h2⟩ := hf r2
      exact ⟨_, _, rfl, h1, h2⟩
    exact ⟨ys, e, okT hq⟩
  obtain ⟨y1, e1, q1⟩ := R1 (eSl (eVar 8) (oSome (eC (.int 1))) oNone) fun r2 => by
    have cc := cut_lo (arow o w p0 p1 p2 r2 (n + 1)) 1
    simp only [Int.cast_ofNat_Int] at cc
    exact ⟨.tup ((arow o w p0 p1 p2 r2 (n + 1)).drop 1), by simp [cc], okT fun d hd => arow_ok d (List.mem_of_mem_drop hd)⟩
  obtain ⟨y2, e2, q2⟩ := R1 (eOp dAdd (eVar 8) (eTup (aCons (eC (.int 0)) aNil))) fun r2 => by
    refine ⟨.tup (arow o w p0 p1 p2 r2 (n + 1) ++ [.int 0]), by simp [arow_len, sl_eq, show n + 1 + 1 ≤ 16777216 by omega], okT fun d hd => ?_⟩
    rcases List.mem_append.mp hd with hd | hd
    · exact arow_ok d hd
    · rw [List.mem_singleton.mp hd]
      exact okI _ _
  obtain ⟨y3, e3, q3⟩ := R1 (eUn dRev (eVar 8)) fun r2 => ⟨.tup (arow o w p0 p1 p2 r2 (n + 1)).reverse, by simp [dRev], okT fun d hd => arow_ok d (List.mem_reverse.mp hd)⟩
  have sz : k + min 1 k ≤ 16777216 := by omega
  refine ⟨[.tup (dueR o w p0 p1 p2 n k), .lst (dueR o w p0 p1 p2 n k), .non, .int 7, .tup [], .tup ((dueR o w p0 p1 p2 n k).drop 1), .tup (dueR o w p0 p1 p2 n k ++ (dueR o w p0 p1 p2 n k).take 1), .tup (dueR o w p0 p1 p2 n k).reverse, .tup y1, .tup y2, .tup y3], ?_, rfl, ?_⟩
  · simp [Xf, eLc, e1, e2, e3, ca, cb, dl, dRev, sl_eq, sz]
  · have up : ∀ d : D, okN 8 d = true → okN 9 d = true := fun d h => okN_up h
    intro v hv
    simp only [List.mem_cons, List.not_mem_nil, or_false] at hv
    rcases hv with rfl | rfl | rfl | rfl | rfl | rfl | rfl | rfl | rfl | rfl | rfl
    · exact up _ (okT dk)
    · exact up _ (okLs dk)
    · rfl
    · rfl
    · rfl
    · exact up _ (okT fun d hd => dk d (List.mem_of_mem_drop hd))
    · refine up _ (okT fun d hd => ?_)
      rcases List.mem_append.mp hd with hd | hd
      · exact dk d hd
      · exact dk d (List.mem_of_mem_take hd)
    · exact up _ (okT fun d hd => dk d (List.mem_reverse.mp hd))
    · exact up _ q1
    · exact up _ q2
    · exact up _ q3
end
section
variable {m n : Nat} {o w : Nat → Str} {p0 p1 : Int} {p2 : Option Int}
def Bx (dr due : D) (r c : Nat) (fs : List D) (a b z : Option D) : Px.Env := [some dr, some due, some (.int (r : Nat)), some (.int (c : Nat)), some (.lst fs), a, b, z, none, none]
theorem due_ix {k r : Nat} (h : r < k) : dIx (.tup (dueR o w p0 p1 p2 n k)) (.int (r : Nat)) = .ok (.tup (arow o w p0 p1 p2 r (n + 1))) := dIx_tup (due_at h)
theorem arow_ixt {k r c : Nat} (h : c < k) : dIx (.tup (arow o w p0 p1 p2 r k)) (.int (c : Nat)) = .ok (.int (A o w p0 p1 p2 r c)) := dIx_tup (arow_at h)
theorem xl_ok {dr : D} {r c k : Nat} {fs : List D} {a b z : Option D} (hr : r < k) (hc : c ≤ n) : ∃ vs, Xl (Be dr (.tup (dueR o w p0 p1 p2 n k)) r c fs a b z) = .ok (.lst vs) ∧ vs.length = 9 ∧ ∀ v ∈ vs, okN 6 v = true := by
  have i1 := due_ix (o := o) (w := w) (p0 := p0) (p1 := p1) (p2 := p2) (n := n) hr
  have i2 := arow_ixt (o := o) (w := w) (p0 := p0) (p1 := p1) (p2 := p2) (r := r) (show c < n + 1 by omega)
  have ng : dNeg (.int 1) = .ok (.int (-1)) := rfl
  refine ⟨[.int (A o w p0 p1 p2 r c + 1), .int (if A o w p0 p1 p2 r c - 1 > 0 then A o w p0 p1 p2 r c - 1 else 0), .int 0, .int 1000000000, .int (-1), .bl true, .non, .str "0", .tup [.int 0]], ?_, rfl, ?_⟩
  · simp [Xl, Be, i1, i2, ng]
  · intro v hv
    simp only [List.mem_cons, List.not_mem_nil, or_false] at hv
    rcases hv with rfl | rfl | rfl | rfl | rfl | rfl | rfl | rfl | rfl
    · exact okI _ _
    · exact okI _ _
    · exact okI _ _
    · exact okI _ _
    · exact okI _ _
    · rfl
    · rfl
    · decide +kernel
    · rfl
def RowsP (n k : Nat) (rows : List D) : Prop := rows.length = k ∧ ∀ d ∈ rows, ∃ cs, d = .tup cs ∧ cs.length = n + 1 ∧ ∀ x ∈ cs, okN 6 x = true
theorem due_rowsP (k : Nat) : RowsP n k (dueR o w p0 p1 p2 n k) := ⟨due_len k, fun d hd => by
  obtain ⟨r, rfl⟩ := due_mem hd
  exact ⟨_, rfl, arow_len _ _, arow_ok⟩⟩
theorem rowsP_ok {k : Nat} {rows : List D} (h : RowsP n k rows) : okN 8 (.tup rows) = true := okT fun d hd => by
  obtain ⟨cs, rfl, _, hc⟩ := h.2 d hd
  exact okT hc
theorem put_rowsP {k : Nat} {rows : List D} (h : RowsP n k rows) {r c : Nat} {z : D} (hr : r < k) (hc : c ≤ n) (hk : k ≤ 61) (hn : n ≤ 60) (hz : okN 6 z = true) : ∃ rows', C__law_put [.tup rows, .int (r : Nat), .int (c : Nat), z] = .ok (.tup rows') ∧ RowsP n k rows' := by
  have hlt : r < rows.length := by rw [h.1]; exact hr
  obtain ⟨cs, e, hl, hcs⟩ := h.2 rows[r] (List.getElem_mem hlt)
  have e2 : rows[r]? = some (.tup cs) := by rw [List.getElem?_eq_getElem hlt, e]
  refine ⟨_, put_ok e2 (by omega) (by rw [h.1]; omega) (by omega), by rw [List.length_set]; exact h.1, fun d hd => ?_⟩
  rcases List.mem_or_eq_of_mem_set hd with hd | rfl
  · exact h.2 d hd
  · refine ⟨_, rfl, by rw [List.length_set]; exact hl, fun x hx => ?_⟩
    rcases List.mem_or_eq_of_mem_set hx with hx | rfl
    · exact hcs x hx
    · exact hz
theorem emod_nat (z : Int) (k : Nat) (h : 0 < k) : ∃ r : Nat, z % (k : Int) = (r : Int) ∧ r < k := by
  have a1 := Int.emod_nonneg z (show (k : Int) ≠ 0 by omega)
  have a2 := Int.emod_lt_of_pos z (show (0 : Int) < (k : Int) by omega)
  exact ⟨(z % (k : Int)).toNat, by omega, by omega⟩
theorem bent_ok (E : List Int) (hE : 6 ≤ E.length) (hm : m ≤ 60) (hn : n ≤ 60) : ∃ vals, C__law_bent [.lst (E.map .int), .tup (dueR o w p0 p1 p2 n (m + 1))] = .ok (.lst vals) ∧ ∀ v ∈ vals, okN 9 v = true := by
  have i0 := ints_ix (ds := E) (j := 0) (by omega)
  have i1 := ints_ix (ds := E) (j := 1) (by omega)
  have i2 := ints_ix (ds := E) (j := 2) (by omega)
  have i3 := ints_ix (ds := E) (j := 3) (by omega)
  have i4 := ints_ix (ds := E) (j := 4) (by omega)
  have i5 := ints_ix (ds := E) (j := 5) (by omega)
  obtain ⟨r, er, hr⟩ := emod_nat E[0] (m + 1) (by omega)
  obtain ⟨c, ec, hc⟩ := emod_nat E[1] (n + 1) (by omega)
  obtain ⟨r2, er2, hr2⟩ := emod_nat E[2] (m + 1) (by omega)
  obtain ⟨c2, ec2, hc2⟩ := emod_nat E[3] (n + 1) (by omega)
  have g1 : (0 : Int) < (m : Int) + 1 := by omega
  have g2 : (0 : Int) < (n : Int) + 1 := by omega
  have d0 := due_ix (o := o) (w := w) (p0 := p0) (p1 := p1) (p2 := p2) (n := n) (show 0 < m + 1 by omega)
  have dr' := due_ix (o := o) (w := w) (p0 := p0) (p1 := p1) (p2 := p2) (n := n) hr
  simp only [Int.cast_ofNat_Int, Int.natCast_add] at i0 i1 i2 i3 i4 i5 d0 er ec er2 ec2
  have f0 : fLen [.tup (dueR o w p0 p1 p2 n (m + 1))] = .ok (.int ((m : Int) + 1)) := by rw [x_len_t, due_len]; rfl
  have f1 : fLen [.tup (arow o w p0 p1 p2 0 (n + 1))] = .ok (.int ((n : Int) + 1)) := by rw [x_len_t, arow_len]; rfl
  -- the places
  have s1 : sPar [2, 3] [Xq1, Xq2] (startE 10 [.lst (E.map .int), .tup (dueR o w p0 p1 p2 n (m + 1))]) = .next [some (.lst (E.map .int)), some (.tup (dueR o w p0 p1 p2 n (m + 1))), some (.int (r : Nat)), some (.int (c : Nat)), none, none, none, none, none, none] := by
    simp [startE, Xq1, Xq2, i0, i1, d0, f0, f1, x_mod _ _ g1, x_mod _ _ g2, er, ec, -x_len_t]
  obtain ⟨fs, s2, hl, ho⟩ := xf_ok (o := o) (w := w) (p0 := p0) (p1 := p1) (p2 := p2) (n := n) (dr := .lst (E.map .int)) (r := r) (c := c) (a := none) (b := none) (z := none) (show m + 1 ≤ 61 by omega) hn
  obtain ⟨ρ3, s3, fs3, rfl, hl3, ho3⟩ := for_inv (gf := gfName 5) (F := B__law_bent_1) (ds := nats 4) (n := 0) (ρ := Be (.lst (E.map .int)) (.tup (dueR o w p0 p1 p2 n (m + 1))) r c fs none none none)
    (P := fun i ρ => ∃ fs', ρ = Be (.lst (E.map .int)) (.tup (dueR o w p0 p1 p2 n (m + 1))) r c fs' none none none ∧ fs'.length = 11 + i ∧ ∀ v ∈ fs', okN 9 v = true) ⟨fs, rfl, by omega, ho⟩ (fun i d hi ρ hp => by
      obtain ⟨h1, rfl⟩ := nats_at hi
      obtain ⟨fs', rfl, h2, h3⟩ := hp
      obtain ⟨v, e, hv⟩ := be1 (o := o) (w := w) (p0 := p0) (p1 := p1) (p2 := p2) (n := n) (k := m + 1) (dr := .lst (E.map .int)) (r := r) (c := c) (fs := fs') (i := (i : Nat)) (b := none) (z := none) (by omega)
      refine ⟨_, _, rfl, .inl e, _, rfl, by simp; omega, fun x hx => ?_⟩
      rcases List.mem_append.mp hx with hx | hx
      · exact h3 x hx
      · rw [List.mem_singleton.mp hx]
        exact okN_up hv)
  rw [nats_len] at hl3
  obtain ⟨v4, s4, ho4⟩ := x1_ok (o := o) (w := w) (p0 := p0) (p1 := p1) (p2 := p2) (n := n) (k := m + 1) (dr := .lst (E.map .int)) (r := r) (c := c) (fs := fs3) (a := none) (b := none) (z := none)
  obtain ⟨v5, s5, ho5⟩ := x2_ok (o := o) (w := w) (p0 := p0) (p1 := p1) (p2 := p2) (n := n) (k := m + 1) (dr := .lst (E.map .int)) (r := r) (c := c) (fs := fs3 ++ [v4]) (a := none) (b := none) (z := none)
  obtain ⟨vs, s6, hl6, ho6⟩ := xl_ok (o := o) (w := w) (p0 := p0) (p1 := p1) (p2 := p2) (n := n) (k := m + 1) (dr := .lst (E.map .int)) (r := r) (c := c) (fs := fs3 ++ [v4] ++ [v5]) (a := none) (b := none) (z := none) hr (by omega)
  obtain ⟨ρ7, s7, fs7, rfl, hl7, ho7⟩ := for_inv (gf := gfName 6) (F := B__law_bent_2) (ds := vs) (n := 0) (ρ := Be (.lst (E.map .int)) (.tup (dueR o w p0 p1 p2 n (m + 1))) r c (fs3 ++ [v4] ++ [v5]) none none none)
    (P := fun i ρ => ∃ fs', ρ = Be (.lst (E.map .int)) (.tup (dueR o w p0 p1 p2 n (m + 1))) r c fs' none none none ∧ fs'.length = 17 + i ∧ ∀ v ∈ fs', okN 9 v = true) ⟨_, rfl, by simp; omega, fun x hx => by
      rcases List.mem_append.mp hx with hx | hx
      · rcases List.mem_append.mp hx with hx | hx
        · exact ho3 x hx
        · rw [List.mem_singleton.mp hx]
          exact okN_up ho4
      · rw [List.mem_singleton.mp hx]
        exact okN_up ho5⟩ (fun i d hi ρ hp => by
      obtain ⟨fs', rfl, h2, h3⟩ := hp
      have hi2 := (List.getElem?_eq_some_iff.mp hi).1
      obtain ⟨v, e, hv⟩ := be2 (o := o) (w := w) (p0 := p0) (p1 := p1) (p2 := p2) (n := n) (k := m + 1) (dr := .lst (E.map .int)) (r := r) (c := c) (fs := fs') (x := d) (a := none) (z := none) (by omega) hr (by omega) (by omega) hn (ho6 d (List.mem_of_getElem? hi))
      refine ⟨_, _, rfl, .inl e, _, rfl, by simp; omega, fun x hx => ?_⟩
      rcases List.mem_append.mp hx with hx | hx
      · exact h3 x hx
      · rw [List.mem_singleton.mp hx]
        exact okN_up hv)
  rw [hl6] at hl7
  obtain ⟨rows8, s8, hp8⟩ := put_rowsP (due_rowsP (o := o) (w := w) (p0 := p0) (p1 := p1) (p2 := p2) (n := n) (m + 1)) (z := .int (E[4] % 5)) hr2 (show c2 ≤ n by omega) (by omega) hn (okI _ _)
  obtain ⟨rows9, s9, hp9⟩ := put_rowsP hp8 (z := .int (E[5] % 5)) hr (show c ≤ n by omega) (by omega) hn (okI _ _)
  have s8' : Xp (Be (.lst (E.map .int)) (.tup (dueR o w p0 p1 p2 n (m + 1))) r c fs7 none none none) = .ok (.tup rows8) := by
    simp [Xp, Be, i2, i3, i4, d0, f0, f1, x_mod _ _ g1, x_mod _ _ g2, er2, ec2, s8, -x_len_t]
  have cl := cut_lo (dueR o w p0 p1 p2 n (m + 1)) (r + 1)
  simp only [Int.natCast_add, Int.cast_ofNat_Int] at cl
  have c1 := cut_lo (arow o w p0 p1 p2 r (n + 1)) 1
  simp only [Int.cast_ofNat_Int] at c1
  have z1 : min r (m + 1) + 1 ≤ 16777216 := by omega
  have z2 : min r (m + 1) + 1 + (m + 1 - (r + 1)) ≤ 16777216 := by omega
  have z6 : min r (m + 1) + 1 + (m - r) ≤ 16777216 := by omega
  have z3 : fs7.length + 2 ≤ 16777216 := by omega
  have z4 : fs7.length + (2 + 3) ≤ 16777216 := by omega
  have z5 : fs7.length + 2 + 3 ≤ 16777216 := by omega
  have s10 : ∃ ys, Xr (Be (.lst (E.map .int)) (.tup (dueR o w p0 p1 p2 n (m + 1))) r c fs7 none none (some (.tup rows8))) = .ok (.lst (fs7 ++ [.tup rows8, .tup rows9] ++ ys)) ∧ ∀ v ∈ ys, okN 9 v = true := by
    refine ⟨[.lst (arow o w p0 p1 p2 r (n + 1)), .non, .tup ((arow o w p0 p1 p2 r (n + 1)).drop 1)].map fun l => .tup ((dueR o w p0 p1 p2 n (m + 1)).take r ++ [l] ++ (dueR o w p0 p1 p2 n (m + 1)).drop (r + 1)), ?_, ?_⟩
    · simp [Xr, Be, i5, s9, dr', eLc, lcE, cut_hi, cl, c1, due_len, sl_eq, z1, z2, z3, z4, z5, z6]
    · intro v hv
      obtain ⟨l, hl, rfl⟩ := List.mem_map.mp hv
      have hl7 : okN 7 l = true := by
        simp only [List.mem_cons, List.not_mem_nil, or_false] at hl
        rcases hl with rfl | rfl | rfl
        · exact okLs arow_ok
        · rfl
        · exact okT fun d hd => arow_ok d (List.mem_of_mem_drop hd)
      refine okT fun d hd => ?_
      rcases List.mem_append.mp hd with hd | hd
      · rcases List.mem_append.mp hd with hd | hd
        · exact due_ok d (List.mem_of_mem_take hd)
        · rw [List.mem_singleton.mp hd]
          exact okN_up hl7
      · exact due_ok d (List.mem_of_mem_drop hd)
  obtain ⟨ys, s10, ho10⟩ := s10
  refine ⟨fs7 ++ [.tup rows8, .tup rows9] ++ ys, ?_, fun v hv => ?_⟩
  · have r4 := rng1_nats 4 (by omega)
    simp only [Int.cast_ofNat_Int] at r4
    simp only [Be] at s3 s4 s5 s6 s7 s8' s10
    have y4 : fs3.length < 16777216 := by omega
    have y5 : fs3.length + 1 < 16777216 := by omega
    simp only [List.append_assoc, List.cons_append, List.nil_append] at s6 s7
    simp [C__law_bent, fnE, bent_eq, s1, s2, x_sFor, r4, s3, sAppend, s4, s5, s6, s7, s8', s10, sl_eq, y4, y5, -x_sPar]
  · rcases List.mem_append.mp hv with hv | hv
    · rcases List.mem_append.mp hv with hv | hv
      · exact ho7 v hv
      · simp only [List.mem_cons, List.not_mem_nil, or_false] at hv
        rcases hv with rfl | rfl
        · exact okN_up (rowsP_ok hp8)
        · exact okN_up (rowsP_ok hp9)
    · exact ho10 v hv
end
/-! ### the law -/
section
variable {m n : Nat} {x y : D} {o w : Nat → Str} {p0 p1 : Int} {p2 : Option Int}
theorem law2 (hx : Tx x m o) (hy : Tx y n w) (hcs : C_check_short [.lst [x, y]] = .ok .non) (hcp : C_check_prices [.tup [.int p0, .int p1, pD p2]] = .ok .non) {v : D} (hv : okN 9 v = true) (s0 s1 s2 s3 g : Option D) :
    B_law_2 [s0, s1, s2, s3, some x, some y, some (.tup [.int p0, .int p1, pD p2]), some (.tup (dueR o w p0 p1 p2 n (m + 1))), some v, none, g, none, none] =
      .next [s0, s1, s2, s3, some x, some y, some (.tup [.int p0, .int p1, pD p2]), some (.tup (dueR o w p0 p1 p2 n (m + 1))), none, none, g, none, none] := by
  have e1 := due_all (p0 := p0) (p1 := p1) (p2 := p2) hx hy hv
  have e2 := lf_all hx hy hcs hcp hv
  have e3 := resV_ne (o := o) (w := w) (p0 := p0) (p1 := p1) (p2 := p2) (m := m) (n := n) v
  rcases resV_cases (o := o) (w := w) (p0 := p0) (p1 := p1) (p2 := p2) (m := m) (n := n) v with ⟨s, e, h⟩ | ⟨r, c, e⟩ | ⟨e, h1, h2, h3⟩
  · rw [e] at e1 e2 e3
    unfold B_law_2
    simp [e1, e2, e3]
  · rw [e] at e1 e2 e3
    unfold B_law_2
    simp [e1, e2, e3]
  · rw [e] at e1 e2 e3
    have L := levOk_lev h1
    have le := holds_le (o := o) (w := w) (p0 := p0) (p1 := p1) (p2 := p2) h2 h3
    have inner : ∀ r : Nat, r ≤ m → lcE (gfName 12) bYes (eOp (dCmpI iGt) (eOp dIx (eOp dIx (eVar 8) (eVar 10)) (eVar 12)) (eOp dIx (eOp dIx (eVar 7) (eVar 10)) (eVar 12))) [s0, s1, s2, s3, some x, some y, some (.tup [.int p0, .int p1, pD p2]), some (.tup (dueR o w p0 p1 p2 n (m + 1))), some v, some .non, some (.int (r : Nat)), none, none] (nats (n + 1)) = .ok (((nats (n + 1)).map fun _ => false).map .bl) := fun r hr =>
      lc_bools (p := fun _ => false) fun d hd => by
        obtain ⟨c, hc, rfl⟩ := mem_nats hd
        have l1 := L.rows r hr
        have l2 := L.cells r hr c (by omega)
        have l3 := due_ix (o := o) (w := w) (p0 := p0) (p1 := p1) (p2 := p2) (n := n) (show r < m + 1 by omega)
        have l4 := arow_ixt (o := o) (w := w) (p0 := p0) (p1 := p1) (p2 := p2) (r := r) hc
        have l5 := le r c hr (by omega)
        refine ⟨_, rfl, ?_⟩
        simp [l1, l2, l3, l4, iGt]
        omega
    have anyF : ∀ ds : List D, fAny [.lst ((ds.map fun _ => false).map .bl)] = .ok (.bl false) := fun ds => by
      rw [x_any]
      simp
    have outer := lc_bools (gf := gfName 10) (f := eCall fAny (aCons (eLc (iCall dRng1 (aCons (eOp dAdd (eCall fLen (aCons (eVar 5) aNil)) (eC (.int 1))) aNil)) [12] (gfName 12) bYes (eOp (dCmpI iGt) (eOp dIx (eOp dIx (eVar 8) (eVar 10)) (eVar 12)) (eOp dIx (eOp dIx (eVar 7) (eVar 10)) (eVar 12)))) aNil))
      (ρ := [s0, s1, s2, s3, some x, some y, some (.tup [.int p0, .int p1, pD p2]), some (.tup (dueR o w p0 p1 p2 n (m + 1))), some v, some .non, none, none, none]) (p := fun _ => false) (ds := nats (m + 1)) fun d hd => by
        obtain ⟨r, hr, rfl⟩ := mem_nats hd
        refine ⟨_, rfl, ?_⟩
        have hi := inner r (by omega)
        simp only [x_eCall, x_aCons, x_aNil, eLc, x_iCall, x_eOp, x_eC, x_eVar, List.set_cons_succ, List.set_cons_zero, List.getD_cons_succ, List.getD_cons_zero, vD_some, Res.bind_ok, hy.len, x_add, rng1_nats1 n hy.small, x_wipe0, x_wipe1, hi, anyF]
    unfold B_law_2
    simp only [sSeq_x, x_sSet, x_sIf, x_eCall, x_aCons, x_aNil, x_eVar, x_eUn, x_eOp, x_eC, x_bAnd, x_iCall, List.set_cons_succ, List.set_cons_zero, List.getD_cons_succ, List.getD_cons_zero, vD_some, Res.bind_ok, e1, e2, e3, flow_ok, seqK_next, x_asB, x_is_n, isNon_n, if_true, eLc, hx.len, x_add, rng1_nats1 m hx.small, x_wipe0, x_wipe1, outer, anyF, x_tru_b, sKill_x, x_sNext, if_false, Bool.false_eq_true]
theorem law4 (hx : Tx x m o) (hy : Tx y n w) (hcs : C_check_short [.lst [x, y]] = .ok .non) (hcp : C_check_prices [.tup [.int p0, .int p1, pD p2]] = .ok .non) {r c : Nat} (hr : r ≤ m) (hc : c ≤ n) (s0 s1 s2 s3 : Option D) :
    B_law_4 [s0, s1, s2, s3, some x, some y, some (.tup [.int p0, .int p1, pD p2]), some (.tup (dueR o w p0 p1 p2 n (m + 1))), none, none, some (.int (r : Nat)), some (.int (c : Nat)), none] =
      .next [s0, s1, s2, s3, some x, some y, some (.tup [.int p0, .int p1, pD p2]), some (.tup (dueR o w p0 p1 p2 n (m + 1))), none, none, some (.int (r : Nat)), none, none] := by
  have hs := hx.small
  have hs2 := hy.small
  have l3 := due_ix (o := o) (w := w) (p0 := p0) (p1 := p1) (p2 := p2) (n := n) (show r < m + 1 by omega)
  have l4 := arow_ixt (o := o) (w := w) (p0 := p0) (p1 := p1) (p2 := p2) (r := r) (show c < n + 1 by omega)
  have p := put_ok (z := .int (A o w p0 p1 p2 r c + 1)) (due_at (o := o) (w := w) (p0 := p0) (p1 := p1) (p2 := p2) (n := n) (show r < m + 1 by omega)) (c := c) (by rw [arow_len]; omega) (by rw [due_len]; omega) (by rw [arow_len]; omega)
  have ok9 : okN 9 (.tup ((dueR o w p0 p1 p2 n (m + 1)).set r (.tup ((arow o w p0 p1 p2 r (n + 1)).set c (.int (A o w p0 p1 p2 r c + 1)))))) = true := okT (set_ok due_ok arow_ok (okI _ _))
  have e2 := lf_all hx hy hcs hcp ok9
  generalize hv : (D.tup ((dueR o w p0 p1 p2 n (m + 1)).set r (.tup ((arow o w p0 p1 p2 r (n + 1)).set c (.int (A o w p0 p1 p2 r c + 1)))))) = v at p e2 ok9
  have cells : ∀ i j, i ≤ m → j ≤ n → cellAt v i j = if i = r ∧ j = c then A o w p0 p1 p2 r c + 1 else A o w p0 p1 p2 i j := fun i j hi hj => by
    rw [← hv]
    have hd := due_at (o := o) (w := w) (p0 := p0) (p1 := p1) (p2 := p2) (n := n) (show i < m + 1 by omega)
    have ha := arow_at (o := o) (w := w) (p0 := p0) (p1 := p1) (p2 := p2) (r := i) (show j < n + 1 by omega)
    by_cases a : i = r
    · subst a
      by_cases b : j = c
      · subst b
        have h1 : i < (dueR o w p0 p1 p2 n (m + 1)).length := by rw [due_len]; omega
        have h2 : j < (arow o w p0 p1 p2 i (n + 1)).length := by rw [arow_len]; omega
        simp [cellAt, rowAt, List.getElem?_set, h1, h2]
      · have h1 : i < (dueR o w p0 p1 p2 n (m + 1)).length := by rw [due_len]; omega
        simp [cellAt, rowAt, List.getElem?_set, h1, b, Ne.symm b, ha]
    · simp [cellAt, rowAt, List.getElem?_set, a, Ne.symm a, hd, ha]
  have non : isNon (resV o w p0 p1 p2 m n v) = false := by
    rcases resV_cases (o := o) (w := w) (p0 := p0) (p1 := p1) (p2 := p2) (m := m) (n := n) v with ⟨s, e, h⟩ | ⟨r, c, e⟩ | ⟨e, h1, h2, h3⟩
    · rw [e]; rfl
    · rw [e]; rfl
    · exfalso
      by_cases z : r = 0 ∧ c = 0
      · obtain ⟨rfl, rfl⟩ := z
        rw [cells 0 0 (by omega) (by omega), if_pos ⟨rfl, rfl⟩, A] at h2
        omega
      · have := raised_bad (o := o) (w := w) (p0 := p0) (p1 := p1) (p2 := p2) (f := cellAt v) z fun i j hi hj => cells i j (by omega) (by omega)
        rw [h3 r hr c hc] at this
        cases this
  unfold B_law_4
  simp [l3, l4, p, e2, non]
theorem law3 (hx : Tx x m o) (hy : Tx y n w) (hcs : C_check_short [.lst [x, y]] = .ok .non) (hcp : C_check_prices [.tup [.int p0, .int p1, pD p2]] = .ok .non) {r : Nat} (hr : r ≤ m) (s0 s1 s2 s3 : Option D) :
    B_law_3 [s0, s1, s2, s3, some x, some y, some (.tup [.int p0, .int p1, pD p2]), some (.tup (dueR o w p0 p1 p2 n (m + 1))), none, none, some (.int (r : Nat)), none, none] =
      .next [s0, s1, s2, s3, some x, some y, some (.tup [.int p0, .int p1, pD p2]), some (.tup (dueR o w p0 p1 p2 n (m + 1))), none, none, some (.int (r : Nat)), none, none] := by
  have e := for_scan1 (gf := gfName 11) (F := B_law_4) (ρ0 := [s0, s1, s2, s3, some x, some y, some (.tup [.int p0, .int p1, pD p2]), some (.tup (dueR o w p0 p1 p2 n (m + 1))), none, none, some (.int (r : Nat)), none, none]) (bad := fun _ => none) (ds := nats (n + 1)) fun d hd => by
    obtain ⟨c, hc, rfl⟩ := mem_nats hd
    exact ⟨_, rfl, law4 hx hy hcs hcp hr (by omega) s0 s1 s2 s3⟩
  have e0 : (nats (n + 1)).findSome? (fun _ => (none : Option D)) = none := by simp
  rw [e0] at e
  unfold B_law_3
  simp [x_sFor, hy.len, rng1_nats1 n hy.small, e, orRet]
end
theorem law1 (ds : List Int) (hl : ds.length = 60) (hd : ∀ d ∈ ds, 0 ≤ d) (sc : Option D) (t : Nat) (ht : t < 3) (g : Option D) :
    ∃ g', B_law_1 [sc, some (.lst (ds.map .int)), some (.int (t : Nat)), none, none, none, none, none, none, none, g, none, none] = .next [sc, some (.lst (ds.map .int)), none, none, none, none, none, none, none, none, g', none, none] := by
  have i1 := ints_ix (ds := ds) (j := t) (by omega)
  have i2 := ints_ix (ds := ds) (j := 50 + t) (by omega)
  have hp := hd ds[50 + t] (List.getElem_mem _)
  obtain ⟨p0, p1, p2, ep, hcp⟩ := prices_ok ds[50 + t] hp
  have k1 : 1 ≤ 1 + ds[t] % 4 := by omega
  have k2 : 1 + ds[t] % 4 ≤ 8 := by omega
  have cA : cut (ds.map D.int) (some (3 + 8 * (t : Int))) (some (14 + 8 * (t : Int))) = ((ds.drop (3 + 8 * t)).take 11).map .int := by
    have := cut_lh (ds.map D.int) (3 + 8 * t) (14 + 8 * t)
    rw [show 14 + 8 * t - (3 + 8 * t) = 11 by omega] at this
    simp only [Int.natCast_add, Int.natCast_mul, Int.cast_ofNat_Int] at this
    rw [this, List.map_take, List.map_drop]
  have cB : cut (ds.map D.int) (some (28 + 4 * (t : Int))) (some (40 + 4 * (t : Int))) = ((ds.drop (28 + 4 * t)).take 12).map .int := by
    have := cut_lh (ds.map D.int) (28 + 4 * t) (40 + 4 * t)
    rw [show 40 + 4 * t - (28 + 4 * t) = 12 by omega] at this
    simp only [Int.natCast_add, Int.natCast_mul, Int.cast_ofNat_Int] at this
    rw [this, List.map_take, List.map_drop]
  have cC : cut (ds.map D.int) (some 53) none = (ds.drop 53).map .int := by
    have := cut_lo (ds.map D.int) 53
    simp only [Int.cast_ofNat_Int] at this
    rw [this, List.map_drop]
  obtain ⟨ss, eS, lS, hS⟩ := text_ok ((ds.drop (3 + 8 * t)).take 11) (by simp; omega) (by simp; omega) (1 + ds[t] % 4) k1 k2
  obtain ⟨ts, eT, lT, hT⟩ := text_ok ((ds.drop (28 + 4 * t)).take 12) (by simp; omega) (by simp; omega) (1 + ds[t] % 4) k1 k2
  have hx := text_tx (ss := ss) (by omega) hS
  have hy := text_tx (ss := ts) (by omega) hT
  have hcs := short_ok hS hT (by omega) (by omega)
  have ah := ahead_ok (p0 := p0) (p1 := p1) (p2 := p2) hx hy
  obtain ⟨vals, eB, hB⟩ := bent_ok (m := ss.length) (n := ts.length) (o := fun r => ss.getD r "") (w := fun r => ts.getD r "") (p0 := p0) (p1 := p1) (p2 := p2) (ds.drop 53) (by simp; omega) (by omega) (by omega)
  have f2 := for_scan1 (gf := gfName 8) (F := B_law_2) (ρ0 := [sc, some (.lst (ds.map .int)), some (.int (t : Nat)), some (.int (1 + ds[t] % 4)), some (.tup (ss.map .str)), some (.tup (ts.map .str)), some (.tup [.int p0, .int p1, pD p2]), some (.tup (dueR (fun r => ss.getD r "") (fun r => ts.getD r "") p0 p1 p2 ts.length (ss.length + 1))), none, none, g, none, none]) (bad := fun _ => none) (ds := vals) fun d hd =>
    ⟨_, rfl, law2 hx hy hcs hcp (hB d hd) sc (some (.lst (ds.map .int))) (some (.int (t : Nat))) (some (.int (1 + ds[t] % 4))) g⟩
  have z0 : vals.findSome? (fun _ => (none : Option D)) = none := by simp
  rw [z0] at f2
  obtain ⟨ρ3, f3, g3, rfl⟩ := for_inv (gf := gfName 10) (F := B_law_3) (ds := nats (ss.length + 1)) (n := 0) (ρ := [sc, some (.lst (ds.map .int)), some (.int (t : Nat)), some (.int (1 + ds[t] % 4)), some (.tup (ss.map .str)), some (.tup (ts.map .str)), some (.tup [.int p0, .int p1, pD p2]), some (.tup (dueR (fun r => ss.getD r "") (fun r => ts.getD r "") p0 p1 p2 ts.length (ss.length + 1))), none, none, g, none, none])
    (P := fun _ ρ => ∃ g, ρ = [sc, some (.lst (ds.map .int)), some (.int (t : Nat)), some (.int (1 + ds[t] % 4)), some (.tup (ss.map .str)), some (.tup (ts.map .str)), some (.tup [.int p0, .int p1, pD p2]), some (.tup (dueR (fun r => ss.getD r "") (fun r => ts.getD r "") p0 p1 p2 ts.length (ss.length + 1))), none, none, g, none, none]) ⟨g, rfl⟩ (fun i d hi ρ hp => by
      obtain ⟨h1, rfl⟩ := nats_at hi
      obtain ⟨g, rfl⟩ := hp
      exact ⟨_, _, rfl, .inl (law3 hx hy hcs hcp (show i ≤ ss.length by omega) sc (some (.lst (ds.map .int))) (some (.int (t : Nat))) (some (.int (1 + ds[t] % 4)))), _, rfl⟩)
  refine ⟨g3, ?_⟩
  have m1 : mulOk 8 (t : Int) = true := mulOk_l _ _ (by decide)
  have m2 : mulOk 4 (t : Int) = true := mulOk_l _ _ (by decide)
  have rl := rng1_nats1 ss.length (by omega)
  have xl := hx.len
  simp only [Int.natCast_add, Int.cast_ofNat_Int] at i2
  unfold B_law_1
  simp only [sSeq_x, x_sSet, x_sPar, x_evL0, x_evL1, x_setL0, x_setL1, x_eCall, x_aCons, x_aNil, x_eVar, x_eOp, x_eC, x_eSl, x_oSome, x_oNone, asI_int, x_iCall, x_iSeq, List.set_cons_succ, List.set_cons_zero, List.getD_cons_succ, List.getD_cons_zero, vD_some, Res.bind_ok, flow_ok, seqK_next, i1, i2, x_int_i, x_mod _ 4 (by decide), x_add, dMul_i _ _ m1, dMul_i _ _ m2, x_dSl_l, cA, cB, cC, eS, eT, ep, ah, eB, x_sFor, x_items_l, f2, orRet, sKill_x, x_wipe0, x_wipe1, xl, rl, f3, x_sNext]
theorem pure_law (ns : List Int) (hn : ns.length ≤ 63) : C_law [.lst (ns.map .int)] = .ok (.bl true) := by
  obtain ⟨ds, hl, hd, e⟩ := draws_ok ns hn 60 (by omega)
  obtain ⟨ρ3, f3, g3, rfl⟩ := for_inv (gf := gfName 2) (F := B_law_1) (ds := nats 3) (n := 0) (ρ := [some (.lst (ns.map .int)), some (.lst (ds.map .int)), none, none, none, none, none, none, none, none, none, none, none])
    (P := fun _ ρ => ∃ g, ρ = [some (.lst (ns.map .int)), some (.lst (ds.map .int)), none, none, none, none, none, none, none, none, g, none, none]) ⟨none, rfl⟩ (fun i d hi ρ hp => by
      obtain ⟨h1, rfl⟩ := nats_at hi
      obtain ⟨g, rfl⟩ := hp
      obtain ⟨g', e⟩ := law1 ds hl hd (some (.lst (ns.map .int))) i h1 g
      exact ⟨_, _, rfl, .inl e, _, rfl⟩)
  have r3 := rng1_nats 3 (by omega)
  simp only [Int.cast_ofNat_Int] at r3 e
  simp [C_law, fnE, startE, F_law, e, x_sFor, r3, f3]
end K08
theorem PySem.Challenge.cw_patchwright_k08_levels_of_scripts_holds : PySem.Challenge.rw_patchwright_k08_levels_of_scripts.Holds := by
  exact K08.top K08.pure_law
