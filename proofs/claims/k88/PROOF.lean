import PyProof.Rows.All
import HandS.ForMost
import HandS.Exc
import HandS.TryOnly
import HandS.TryMany
import HandS.ExcOwn
import HandS.ExcIs
import HandS.WordsExc
import HandS.Flow
import HandS.Deep
import HandS.TupAny
import HandS.TupMul
import HandS.Wide
import HandS.IsInst
import HandS.Text
import KE.DataMinMax
import HandS.Style
import HandS.Head0
import HandS.Head1
import HandS.Head2
import HandS.HeadEnd
import HandS.HeadHook1
import HandS.EndBits
import KE.GoesEnum
import HandS.Zip
import HandS.StrMore
import HandS.Replace
import HandS.RaiseMore
import HandS.Conv
import PyProof.CollectIter
import PyProof.EnumMake
import PyProof.JoinWalk
import KE.SortData
import PySem.Challenge.RW_patchwright_k88_whole_least_deltas
set_option Elab.async false
set_option linter.all false
set_option maxRecDepth 100000
set_option maxHeartbeats 4000000
set_option autoImplicit false
/-! Px: a layer over HandS: expressions and statements as functions over plain data. -/
namespace Px
open PySem PySem.Spec PyProof.Rows L2

/-- plain data -/
inductive D where
  | non
  | bl (b : Bool)
  | int (i : Int)
  | str (s : Str)
  | tup (xs : List D)
  | lst (xs : List D)
  | dic (ks vs : List D)
  | set (xs : List D)
  | exc (c : Str)
  | oth

/-- the outcome of an expression -/
inductive Res (α : Type) where
  | ok (a : α)
  | exc (c : Str)
  | err
namespace Res
def bind {α β : Type} : Res α → (α → Res β) → Res β
  | .ok a, k => k a
  | .exc c, _ => .exc c
  | .err, _ => .err
instance : Monad Res where
  pure := .ok
  bind := Res.bind
@[simp] theorem bind_ok {α β : Type} (a : α) (k : α → Res β) : (Res.ok a >>= k) = k a := id rfl
@[simp] theorem bind_exc {α β : Type} (c : Str) (k : α → Res β) : ((Res.exc c : Res α) >>= k) = .exc c := id rfl
@[simp] theorem bind_err {α β : Type} (k : α → Res β) : ((Res.err : Res α) >>= k) = .err := id rfl
@[simp] theorem pure_ok {α : Type} (a : α) : (pure a : Res α) = .ok a := id rfl
end Res

abbrev Env := List (Option D)
abbrev EF := Env → Res D
inductive Flow where
  | next (ρ : Env) | brk (ρ : Env) | cont (ρ : Env) | ret (d : D) | exc (c : Str) (ρ : Env) | err
abbrev SF := Env → Flow
abbrev AS := Addr → Prop

/-! ### data in the heap -/
/-- a list of the written part -/
def KL (K : PySem.W.Frag) (a : Addr) (xs : List V) : Prop :=
  ∃ (o : Obj) (its : Array Value) (n : Nat), K.lookup a = some o ∧ o.cls = .type "list" ∧ o.dict = none ∧ o.data = .seq its n ∧ its.size ≤ sizeLine ∧ Vals xs its.toList
def LsX (K : PySem.W.Frag) (ex : AS) (H : Hp) (a : Addr) (xs : List V) : Prop := (Rd H a (.lst xs) ∧ ¬ ex a) ∨ KL K a xs
theorem LsX.sq {K : PySem.W.Frag} {ex : AS} {H : Hp} {a : Addr} {xs : List V} (h : LsX K ex H a xs) : SqL K H a xs := by
  rcases h with ⟨h, _⟩ | h
  · exact .inl h
  · exact .inr h
theorem LsX.of {K : PySem.W.Frag} {ex : AS} {H : Hp} {a : Addr} {xs : List V} (h : SqL K H a xs) (n : ¬ ex a) : LsX K ex H a xs := by
  rcases h with h | h
  · exact .inl ⟨h, n⟩
  · exact .inr h

section
variable (K : PySem.W.Frag) (ex : AS) (H : Hp)
mutual
def R : D → V → Prop
  | .non, v => v = .non
  | .bl b, v => v = .bl b
  | .int i, v => v = .int i
  | .str s, v => v = .str s
  | .tup ds, v => ∃ a xs, v = .ref a ∧ (SqT K H a xs ∧ xs.length ≤ sizeLine) ∧ RL ds xs
  | .lst ds, v => ∃ a xs, v = .ref a ∧ (LsX K ex H a xs ∧ xs.length ≤ sizeLine) ∧ RL ds xs
  | .dic _ _, _ => False
  | .set _, _ => False
  | .exc _, _ => False
  | .oth, _ => False
def RL : List D → List V → Prop
  | [], vs => vs = []
  | d :: ds, vs => ∃ v r, vs = v :: r ∧ R d v ∧ RL ds r
end
end
section
variable {K : PySem.W.Frag} {ex ex' : AS} {H H' : Hp}
theorem RL.pair : ∀ {ds : List D} {vs : List V}, RL K ex H ds vs → Paired (R K ex H) ds vs
  | [], vs, h => by
    rw [RL] at h
    subst h
    exact .nil
  | d :: ds, vs, h => by
    rw [RL] at h
    obtain ⟨v, r, rfl, h1, h2⟩ := h
    exact .cons h1 (RL.pair h2)
theorem RL.of : ∀ {ds : List D} {vs : List V}, Paired (R K ex H) ds vs → RL K ex H ds vs
  | _, _, .nil => by rw [RL]
  | _, _, .cons h t => by
    rw [RL]
    exact ⟨_, _, rfl, h, RL.of t⟩
theorem RL.length {ds : List D} {vs : List V} (h : RL K ex H ds vs) : ds.length = vs.length := (RL.pair h).length
theorem Same.seqT {a : Addr} {xs : List V} (e : Same H H') (h : SqT K H a xs) : SqT K H' a xs := by
  rcases h with (h | ⟨o, h⟩) | h
  · exact .inl (.inl (e _ _ h))
  · exact .inl (.inr ⟨o, e _ _ h⟩)
  · exact .inr h
theorem Same.rd {a : Addr} {u : HO} (e : Same H H') (h : Rd H a u) : Rd H' a u := by
  rcases h with h | ⟨o, h⟩
  · exact .inl (e _ _ h)
  · exact .inr ⟨o, e _ _ h⟩
/-- what is not owned stays: sequences at addresses out of ex -/
structure Keep (ex : AS) (H H' : Hp) : Prop where
  tup : ∀ a xs, Rd H a (.tup xs) → Rd H' a (.tup xs)
  lst : ∀ a xs, ¬ ex a → Rd H a (.lst xs) → Rd H' a (.lst xs)
theorem Keep.same (e : Same H H') : Keep ex H H' := ⟨fun _ _ h => Same.rd e h, fun _ _ _ h => Same.rd e h⟩
theorem Keep.lsX (k : Keep ex H H') (m : ∀ a, ex' a → ex a ∨ H a = none) {a : Addr} {xs : List V} (h : LsX K ex H a xs) : LsX K ex' H' a xs := by
  rcases h with ⟨h, n⟩ | h
  · refine .inl ⟨k.lst _ _ n h, fun q => ?_⟩
    rcases m a q with q | q
    · exact n q
    · rcases h with h | ⟨o, h⟩
      · rw [q] at h
        cases h
      · rw [q] at h
        cases h
  · exact .inr h
theorem Keep.sqT (k : Keep ex H H') {a : Addr} {xs : List V} (h : SqT K H a xs) : SqT K H' a xs := by
  rcases h with h | h
  · exact .inl (k.tup _ _ h)
  · exact .inr h
mutual
theorem R.keep (k : Keep ex H H') (m : ∀ a, ex' a → ex a ∨ H a = none) : ∀ (d : D) {v : V}, R K ex H d v → R K ex' H' d v
  | .non, _, h => by
    rw [R] at h ⊢
    exact h
  | .bl _, _, h => by
    rw [R] at h ⊢
    exact h
  | .int _, _, h => by
    rw [R] at h ⊢
    exact h
  | .str _, _, h => by
    rw [R] at h ⊢
    exact h
  | .tup ds, _, h => by
    rw [R] at h ⊢
    obtain ⟨a, xs, e, h1, h2⟩ := h
    exact ⟨a, xs, e, ⟨k.sqT h1.1, h1.2⟩, RL.keep k m ds h2⟩
  | .lst ds, _, h => by
    rw [R] at h ⊢
    obtain ⟨a, xs, e, h1, h2⟩ := h
    exact ⟨a, xs, e, ⟨k.lsX m h1.1, h1.2⟩, RL.keep k m ds h2⟩
  | .dic _ _, _, h => by
    rw [R] at h
    exact h.elim
  | .set _, _, h => by
    rw [R] at h
    exact h.elim
  | .exc _, _, h => by
    rw [R] at h
    exact h.elim
  | .oth, _, h => by
    rw [R] at h
    exact h.elim
theorem RL.keep (k : Keep ex H H') (m : ∀ a, ex' a → ex a ∨ H a = none) : ∀ (ds : List D) {vs : List V}, RL K ex H ds vs → RL K ex' H' ds vs
  | [], _, h => by
    rw [RL] at h ⊢
    exact h
  | d :: ds, _, h => by
    rw [RL] at h ⊢
    obtain ⟨v, r, e, h1, h2⟩ := h
    exact ⟨v, r, e, R.keep k m d h1, RL.keep k m ds h2⟩
end
theorem R.same (e : Same H H') {d : D} {v : V} (h : R K ex H d v) : R K ex H' d v := R.keep (Keep.same e) (fun _ q => .inl q) d h
theorem R.less (m : ∀ a, ex' a → ex a ∨ H a = none) {d : D} {v : V} (h : R K ex H d v) : R K ex' H d v := R.keep (Keep.same (Same.refl H)) m d h

/-! ### borrowed: the topmost n levels may be owned by someone -/
def RB (K : PySem.W.Frag) (ex : AS) (H : Hp) : Nat → D → V → Prop
  | 0, d, v => R K ex H d v
  | n + 1, .lst ds, v => ∃ a xs, v = .ref a ∧ (SqL K H a xs ∧ xs.length ≤ sizeLine) ∧ Paired (RB K ex H n) ds xs
  | _ + 1, d, v => R K ex H d v
theorem RB.of : ∀ {n : Nat} {d : D} {v : V}, R K ex H d v → RB K ex H n d v
  | 0, _, _, h => h
  | n + 1, d, v, h => by
    cases d with
    | lst ds =>
      rw [R] at h
      obtain ⟨a, xs, e, h1, h2⟩ := h
      rw [RB]
      exact ⟨a, xs, e, ⟨h1.1.sq, h1.2⟩, (RL.pair h2).mono fun _ _ q => RB.of q⟩
    | _ =>
      rw [RB] <;> first | exact h | (intro _ q; cases q)
theorem RB.same (e : Same H H') : ∀ {n : Nat} {d : D} {v : V}, RB K ex H n d v → RB K ex H' n d v
  | 0, _, _, h => R.same e h
  | n + 1, d, v, h => by
    cases d with
    | lst ds =>
      rw [RB] at h ⊢
      obtain ⟨a, xs, q, h1, h2⟩ := h
      exact ⟨a, xs, q, ⟨e.seq h1.1, h1.2⟩, h2.mono fun _ _ q => RB.same e q⟩
    | _ =>
      rw [RB] at h ⊢ <;> first | exact R.same e h | (intro _ q; cases q)
theorem RB.up : ∀ {n : Nat} {d : D} {v : V}, RB K ex H n d v → RB K ex H (n + 1) d v
  | 0, _, _, h => RB.of h
  | n + 1, d, v, h => by
    cases d with
    | lst ds =>
      rw [RB] at h ⊢
      obtain ⟨a, xs, q, h1, h2⟩ := h
      exact ⟨a, xs, q, h1, h2.mono fun _ _ q => RB.up q⟩
    | _ =>
      rw [RB] at h ⊢ <;> first | exact h | (intro _ q; cases q)

/-! ### owned: the topmost k levels stand at addresses of their own -/
inductive P3 {α β γ : Type} (F : α → β → γ → Prop) : List α → List β → List γ → Prop
  | nil : P3 F [] [] []
  | cons {a : α} {b : β} {c : γ} {as : List α} {bs : List β} {cs : List γ} : F a b c → P3 F as bs cs → P3 F (a :: as) (b :: bs) (c :: cs)
theorem P3.mono {α β γ : Type} {F G : α → β → γ → Prop} (h : ∀ a b c, F a b c → G a b c) : ∀ {as : List α} {bs : List β} {cs : List γ}, P3 F as bs cs → P3 G as bs cs
  | _, _, _, .nil => .nil
  | _, _, _, .cons x t => .cons (h _ _ _ x) (P3.mono h t)
def RO (K : PySem.W.Frag) (ex : AS) (H : Hp) : Nat → D → V → List Addr → Prop
  | 0, d, v, fp => fp = [] ∧ R K ex H d v
  | k + 1, .lst ds, v, fp => ∃ a xs fps, v = .ref a ∧ (H a = some (.lst xs) ∧ xs.length ≤ sizeLine) ∧ fp = a :: fps.flatten ∧ P3 (RO K ex H k) ds xs fps
  | _ + 1, d, v, fp => fp = [] ∧ R K ex H d v
theorem RO.keep : ∀ {k : Nat} {d : D} {v : V} {fp : List Addr}, Keep ex H H' → (∀ a, ex' a → ex a ∨ H a = none) → (∀ a ∈ fp, ∀ o, H a = some o → H' a = some o) → RO K ex H k d v fp → RO K ex' H' k d v fp
  | 0, d, _, _, kp, m, _, h => by
    rw [RO] at h ⊢
    exact ⟨h.1, R.keep kp m d h.2⟩
  | k + 1, d, v, fp, kp, m, kf, h => by
    cases d with
    | lst ds =>
      rw [RO] at h ⊢
      obtain ⟨a, xs, fps, e, h1, e2, h2⟩ := h
      subst e2
      refine ⟨a, xs, fps, e, ⟨kf a List.mem_cons_self _ h1.1, h1.2⟩, rfl, ?_⟩
      have kf2 : ∀ a ∈ fps.flatten, ∀ o, H a = some o → H' a = some o := fun b hb => kf b (List.mem_cons_of_mem _ hb)
      clear h1 e kf
      induction h2 with
      | nil => exact .nil
      | cons x t ih =>
        rw [List.flatten_cons] at kf2
        exact .cons (RO.keep kp m (fun b hb => kf2 b (List.mem_append_left _ hb)) x) (ih fun b hb => kf2 b (List.mem_append_right _ hb))
    | _ =>
      rw [RO] at h ⊢ <;> first | exact ⟨h.1, R.keep kp m _ h.2⟩ | (intro _ q; cases q)
theorem RO.same (e : Same H H') {k : Nat} {d : D} {v : V} {fp : List Addr} (h : RO K ex H k d v fp) : RO K ex H' k d v fp :=
  RO.keep (Keep.same e) (fun _ q => .inl q) (fun a _ o q => e a o q) h
theorem RO.less (m : ∀ a, ex' a → ex a ∨ H a = none) {k : Nat} {d : D} {v : V} {fp : List Addr} (h : RO K ex H k d v fp) : RO K ex' H k d v fp :=
  RO.keep (Keep.same (Same.refl H)) m (fun _ _ _ q => q) h
/-- given up: nothing of it is among the owned any more -/
theorem RO.shared : ∀ {k : Nat} {d : D} {v : V} {fp : List Addr}, RO K ex H k d v fp → (∀ a, ex' a → ex a) → (∀ a ∈ fp, ¬ ex' a) → R K ex' H d v
  | 0, d, _, _, h, m, _ => by
    rw [RO] at h
    exact R.less (fun a q => .inl (m a q)) h.2
  | k + 1, d, v, fp, h, m, n => by
    cases d with
    | lst ds =>
      rw [RO] at h
      obtain ⟨a, xs, fps, e, h1, e2, h2⟩ := h
      subst e2
      rw [R]
      refine ⟨a, xs, e, ⟨.inl ⟨.inl h1.1, n a List.mem_cons_self⟩, h1.2⟩, RL.of ?_⟩
      have n2 : ∀ a ∈ fps.flatten, ¬ ex' a := fun b hb => n b (List.mem_cons_of_mem _ hb)
      clear h1 e n
      induction h2 with
      | nil => exact .nil
      | cons x t ih =>
        rw [List.flatten_cons] at n2
        exact .cons (RO.shared x m fun b hb => n2 b (List.mem_append_left _ hb)) (ih fun b hb => n2 b (List.mem_append_right _ hb))
    | _ =>
      rw [RO] at h <;> first | exact R.less (fun a q => .inl (m a q)) h.2 | (intro _ q; cases q)
theorem RO.borrow : ∀ {k : Nat} {d : D} {v : V} {fp : List Addr}, RO K ex H k d v fp → RB K ex H k d v
  | 0, _, _, _, h => by
    rw [RO] at h
    exact h.2
  | k + 1, d, v, fp, h => by
    cases d with
    | lst ds =>
      rw [RO] at h
      obtain ⟨a, xs, fps, e, h1, e2, h2⟩ := h
      rw [RB]
      refine ⟨a, xs, e, ⟨.inl (.inl h1.1), h1.2⟩, ?_⟩
      clear e2 h1 e
      induction h2 with
      | nil => exact .nil
      | cons x t ih => exact .cons (RO.borrow x) ih
    | _ =>
      rw [RO] at h <;> first | (rw [RB] <;> first | exact h.2 | (intro _ q; cases q)) | (intro _ q; cases q)
/-- what is shared anyway is owned to any depth where no list is at its top -/
theorem RO.zero {d : D} {v : V} (h : R K ex H d v) : RO K ex H 0 d v [] := ⟨rfl, h⟩
theorem RO.there : ∀ {k : Nat} {d : D} {v : V} {fp : List Addr}, RO K ex H k d v fp → ∀ a ∈ fp, H a ≠ none
  | 0, _, _, _, h, a, ha => by
    rw [RO] at h
    rw [h.1] at ha
    cases ha
  | k + 1, d, v, fp, h, a, ha => by
    cases d with
    | lst ds =>
      rw [RO] at h
      obtain ⟨b, xs, fps, e, h1, e2, h2⟩ := h
      subst e2
      rcases List.mem_cons.mp ha with rfl | ha
      · rw [h1.1]
        exact fun q => nomatch q
      · clear h1 e
        induction h2 with
        | nil => cases ha
        | cons x t ih =>
          rw [List.flatten_cons] at ha
          rcases List.mem_append.mp ha with ha | ha
          · exact RO.there x a ha
          · exact ih (List.mem_cons_of_mem _ ha) ha
    | _ =>
      rw [RO] at h <;> first | (rw [h.1] at ha; cases ha) | (intro _ q; cases q)
end
end Px

namespace Px
open PySem PySem.Spec PyProof.Rows L2

/-! ### the names' values -/
structure SI (K : PySem.W.Frag) (ex : AS) (L : List Nat) (ρ : Env) (σ : L2.St) (H : Hp) (fp : Nat → List Addr) : Prop where
  len : ρ.length = σ.length
  val : ∀ i d, ρ[i]? = some (some d) → ∃ v, σ[i]? = some (some v) ∧ RO K ex H (L.getD i 0) d v (fp i)
  nod : ∀ i, (fp i).Nodup
  dis : ∀ i j a, a ∈ fp i → a ∈ fp j → i = j
  sub : ∀ i a, a ∈ fp i → ex a
  ext : ∀ a, ex a → H a ≠ none
/-- .. in a def's body: H0 the heap at its entry, ex0 what callers own, G what loops around walk over -/
structure SS (K : PySem.W.Frag) (H0 : Hp) (ex0 : AS) (G : List (D × V)) (L : List Nat) (ρ : Env) (σ : L2.St) (H : Hp) (fp : Nat → List Addr) : Prop where
  si : SI K (fun a => (∃ i, a ∈ fp i) ∨ ex0 a) L ρ σ H fp
  own : ∀ i a, a ∈ fp i → H0 a = none
  old : ∀ a, ex0 a → H0 a ≠ none
  same : Same H0 H
  held : ∀ g ∈ G, R K (fun a => (∃ i, a ∈ fp i) ∨ ex0 a) H g.1 g.2
section
variable {K : PySem.W.Frag} {ex ex' : AS} {H H' : Hp} {L : List Nat} {ρ : Env} {σ : L2.St} {fp : Nat → List Addr}
theorem SI.same (I : SI K ex L ρ σ H fp) (e : Same H H') : SI K ex L ρ σ H' fp where
  len := I.len
  val := fun i d h => by
    obtain ⟨v, h1, h2⟩ := I.val i d h
    exact ⟨v, h1, h2.same e⟩
  nod := I.nod
  dis := I.dis
  sub := I.sub
  ext := fun a h q => by
    cases z : H a with
    | none => exact I.ext a h z
    | some o =>
      rw [e a o z] at q
      cases q
theorem new_not_ex (I : SI K ex L ρ σ H fp) {p : Addr} (h : H p = none) : ¬ ex p := fun q => I.ext p q h

/-! ### outcomes -/
/-- an outcome is met: the value's wish, or what is wanted of the exception (the class c of the module's) -/
def Out {α : Type} (X : Cx) (W : WX) (σ : L2.St) (H : Hp) (r : Res α) (P : α → Prop) : Prop :=
  match r with
  | .ok a => P a
  | .exc c => ∀ C, X.mg c = some (.ref C) → ∀ H', Same H H' → W (.ref C) none σ H'
  | .err => False
theorem Out.bind {α β : Type} {X : Cx} {W : WX} {r : Res α} {k : α → Res β} {P : β → Prop} (h : Out X W σ H (r >>= k) P) : Out X W σ H r (fun a => Out X W σ H (k a) P) := by
  cases r with
  | ok a => exact h
  | exc c => exact h
  | err => exact h
theorem Out.mono {α : Type} {X : Cx} {W : WX} {r : Res α} {P Q : α → Prop} (h : Out X W σ H r P) (m : ∀ a, P a → Q a) : Out X W σ H r Q := by
  cases r with
  | ok a => exact m a h
  | exc c => exact h
  | err => exact h
theorem Out.later {α : Type} {X : Cx} {W : WX} {r : Res α} {P : α → Prop} (h : Out X W σ H r P) (e : Same H H') : Out X W σ H' r P := by
  cases r with
  | ok a => exact h
  | exc c => exact fun C m H2 e2 => h C m H2 (e.trans e2)
  | err => exact h
/-- the value is known to be of a form -/
theorem Out.ok_iff {α : Type} {X : Cx} {W : WX} {a : α} {P : α → Prop} (h : Out X W σ H (.ok a) P) : P a := h
end

/-! ### the judgements -/
section
variable (X : Cx) (W : WX) (L : List Nat)
/-- borrowed to the depth n -/
def tB (n : Nat) (f : EF) : TE := fun σ H Q => ∃ ex ρ fp, SI X.K ex L ρ σ H fp ∧ Out X W σ H (f ρ) fun d => ∀ v H', Same H H' → RB X.K ex H' n d v → Q v H'
/-- owned to the depth k -/
def tO (k : Nat) (f : EF) : TE := fun σ H Q => ∃ ex ρ fp, SI X.K ex L ρ σ H fp ∧ Out X W σ H (f ρ) fun d => ∀ v H' fq, Same H H' → RO X.K (fun a => a ∈ fq ∨ ex a) H' k d v fq → fq.Nodup → (∀ a ∈ fq, H a = none) → Q v H'
/-- arguments, each borrowed to the depth n -/
def tAB (n m : Nat) (f : Env → Res (List D)) : TA := fun σ H Q => ∃ ex ρ fp, SI X.K ex L ρ σ H fp ∧ Out X W σ H (f ρ) fun ds => ∀ vs H', Same H H' → Paired (RB X.K ex H' n) ds vs → vs.length = m → Q vs H'
def tT (f : Env → Res Bool) : TT := fun σ H Q => ∃ ex ρ fp, SI X.K ex L ρ σ H fp ∧ Out X W σ H (f ρ) fun b => ∀ H', Same H H' → Q b H'
end
abbrev EB (X : Cx) (W : WX) (L : List Nat) (n : Nat) (e : Expr) (f : EF) : Prop := PE X e (tB X W L n f)
abbrev EO (X : Cx) (W : WX) (L : List Nat) (k : Nat) (e : Expr) (f : EF) : Prop := PE X e (tO X W L k f)
abbrev EA (X : Cx) (W : WX) (L : List Nat) (n m : Nat) (es : List Expr) (f : Env → Res (List D)) : Prop := PA X es (tAB X W L n m f)
abbrev ET (X : Cx) (W : WX) (L : List Nat) (e : Expr) (f : Env → Res Bool) : Prop := PT X e (tT X W L f)

theorem PE.imp {X : Cx} {e : Expr} {t t' : TE} (h : PE X e t) (m : ∀ σ H Q, t' σ H Q → t σ H Q) : PE X e t' := ⟨fun pins s σ H Q I q => h.run pins s σ H Q I (m σ H Q q)⟩
theorem PT.imp {X : Cx} {e : Expr} {t t' : TT} (h : PT X e t) (m : ∀ σ H Q, t' σ H Q → t σ H Q) : PT X e t' := ⟨fun pins s σ H Q I q => h.run pins s σ H Q I (m σ H Q q)⟩
theorem PW.imp {X : Cx} {e : Expr} {t t' : TT} (h : PW X e t) (m : ∀ σ H Q, t' σ H Q → t σ H Q) : PW X e t' := ⟨fun w pins s σ H Q I q => h.run w pins s σ H Q I (m σ H Q q)⟩
theorem PA.imp {X : Cx} {es : List Expr} {t t' : TA} (h : PA X es t) (m : ∀ σ H Q, t' σ H Q → t σ H Q) : PA X es t' := ⟨fun p pins s σ H Q I q => h.run p pins s σ H Q I (m σ H Q q)⟩
theorem PS.imp {X : Cx} {e : Stmt} {t t' : TS} (h : PS X e t) (m : ∀ D σ H, t' D σ H → t D σ H) : PS X e t' := ⟨fun pins s σ H D I q => h.run pins s σ H D I (m D σ H q)⟩
theorem PSs.imp {X : Cx} {e : List Stmt} {t t' : TS} (h : PSs X e t) (m : ∀ D σ H, t' D σ H → t D σ H) : PSs X e t' := ⟨fun pins s σ H D I q => h.run pins s σ H D I (m D σ H q)⟩

/-! ### changing the mode -/
section
variable {X : Cx} {W : WX} {L : List Nat} {e : Expr} {f g : EF} {n k : Nat}
theorem EO.b (h : EO X W L k e f) : EB X W L 0 e f := PE.imp h fun σ H Q ⟨ex, ρ, fp, I, o⟩ => ⟨ex, ρ, fp, I, o.mono fun d q v H' fq e r nd nw =>
  q v H' e (show R X.K ex H' d v from r.shared (fun a z => .inr z) fun a z => new_not_ex I (nw a z))⟩
theorem EB.up (h : EB X W L 0 e f) : EB X W L n e f := by
  refine PE.imp h fun σ H Q ⟨ex, ρ, fp, I, o⟩ => ⟨ex, ρ, fp, I, o.mono fun d q v H' e r => q v H' e (RB.of r)⟩
theorem EO.up (h : EO X W L k e f) : EB X W L n e f := EB.up (EO.b h)
theorem EB.o (h : EB X W L 0 e f) : EO X W L 0 e f := PE.imp h fun σ H Q ⟨ex, ρ, fp, I, o⟩ => ⟨ex, ρ, fp, I, o.mono fun d q v H' e r =>
  q v H' [] e ⟨rfl, R.less (fun a z => .inl (by
    rcases z with z | z
    · cases z
    · exact z)) r⟩ List.nodup_nil fun a z => nomatch z⟩
theorem EB.cg (h : EB X W L n e f) (m : ∀ ρ, g ρ = f ρ) : EB X W L n e g := by
  have e : g = f := funext m
  rw [e]
  exact h
end
end Px

namespace Px
open PySem PySem.Spec PyProof.Rows L2

/-! ### small facts -/
section
variable {K : PySem.W.Frag} {ex : AS} {H : Hp} {n k : Nat}
def notList : D → Bool
  | .lst _ => false
  | _ => true
theorem RO.flat {d : D} {v : V} (h : R K ex H d v) (f : notList d = true) : RO K ex H k d v [] := by
  cases k with
  | zero => exact ⟨rfl, h⟩
  | succ k =>
    cases d with
    | lst ds => cases f
    | _ => exact ⟨rfl, h⟩
theorem RB.flat {d : D} {v : V} (h : RB K ex H n d v) (f : notList d = true) : R K ex H d v := by
  cases n with
  | zero => exact h
  | succ n =>
    cases d with
    | lst ds => cases f
    | _ => exact h
theorem RB.int {i : Int} {v : V} (h : RB K ex H n (.int i) v) : v = .int i := by
  have h := RB.flat h rfl
  rw [R] at h
  exact h
theorem RB.bl {b : Bool} {v : V} (h : RB K ex H n (.bl b) v) : v = .bl b := by
  have h := RB.flat h rfl
  rw [R] at h
  exact h
theorem RB.str {b : Str} {v : V} (h : RB K ex H n (.str b) v) : v = .str b := by
  have h := RB.flat h rfl
  rw [R] at h
  exact h
theorem RB.non {v : V} (h : RB K ex H n .non v) : v = .non := by
  have h := RB.flat h rfl
  rw [R] at h
  exact h
theorem RB.tup {ds : List D} {v : V} (h : RB K ex H n (.tup ds) v) : ∃ a xs, v = .ref a ∧ SqT K H a xs ∧ xs.length ≤ sizeLine ∧ Paired (R K ex H) ds xs := by
  have h := RB.flat h rfl
  rw [R] at h
  obtain ⟨a, xs, e, h1, h2⟩ := h
  exact ⟨a, xs, e, h1.1, h1.2, RL.pair h2⟩
theorem RB.lst {ds : List D} {v : V} (h : RB K ex H (n + 1) (.lst ds) v) : ∃ a xs, v = .ref a ∧ SqL K H a xs ∧ xs.length ≤ sizeLine ∧ Paired (RB K ex H n) ds xs := by
  rw [RB] at h
  obtain ⟨a, xs, e, h1, h2⟩ := h
  exact ⟨a, xs, e, h1.1, h1.2, h2⟩
theorem R.no {v : V} : ∀ {d : D}, (match d with | .dic _ _ => True | .set _ => True | .exc _ => True | .oth => True | _ => False) → ¬ R K ex H d v
  | .dic _ _, _, h => by
    rw [R] at h
    exact h
  | .set _, _, h => by
    rw [R] at h
    exact h
  | .exc _, _, h => by
    rw [R] at h
    exact h
  | .oth, _, h => by
    rw [R] at h
    exact h
theorem Paired.get {α β : Type} {F : α → β → Prop} : ∀ {as : List α} {bs : List β} {i : Nat} {a : α}, Paired F as bs → as[i]? = some a → ∃ b, bs[i]? = some b ∧ F a b
  | _, _, _, _, .nil, e => by simp at e
  | _, _, 0, _, .cons r _, e => by simp at e; subst e; exact ⟨_, rfl, r⟩
  | _, _, i + 1, x, .cons _ t, e => by
    obtain ⟨u, h1, h2⟩ := Paired.get (i := i) (a := x) t (by simpa using e)
    exact ⟨u, by simpa using h1, h2⟩
theorem Paired.app {α β : Type} {F : α → β → Prop} : ∀ {as cs : List α} {bs ds : List β}, Paired F as bs → Paired F cs ds → Paired F (as ++ cs) (bs ++ ds)
  | _, _, _, _, .nil, s => s
  | _, _, _, _, .cons r t, s => .cons r (Paired.app t s)
theorem Paired.takeP {α β : Type} {F : α → β → Prop} : ∀ {as : List α} {bs : List β} (n : Nat), Paired F as bs → Paired F (as.take n) (bs.take n)
  | _, _, 0, _ => .nil
  | _, _, _ + 1, .nil => .nil
  | _, _, n + 1, .cons r t => .cons r (Paired.takeP n t)
theorem Paired.dropP {α β : Type} {F : α → β → Prop} : ∀ {as : List α} {bs : List β} (n : Nat), Paired F as bs → Paired F (as.drop n) (bs.drop n)
  | _, _, 0, r => r
  | _, _, _ + 1, .nil => .nil
  | _, _, n + 1, .cons _ t => Paired.dropP n t
theorem Paired.setP {α β : Type} {F : α → β → Prop} {a : α} {b : β} (r : F a b) : ∀ {as : List α} {bs : List β} (i : Nat), Paired F as bs → Paired F (as.set i a) (bs.set i b)
  | _, _, _, .nil => .nil
  | _, _, 0, .cons _ t => .cons r t
  | _, _, i + 1, .cons q t => .cons q (Paired.setP r i t)
theorem Paired.revP {α β : Type} {F : α → β → Prop} : ∀ {as : List α} {bs : List β}, Paired F as bs → Paired F as.reverse bs.reverse
  | _, _, .nil => .nil
  | _, _, .cons r t => by
    rw [List.reverse_cons, List.reverse_cons]
    exact Paired.app (Paired.revP t) (.cons r .nil)
theorem Paired.flattenP {α β : Type} {F : α → β → Prop} {as : List α} {bs : List β} (h : Paired F as bs) : ∀ m : Nat, Paired F (List.replicate m as).flatten (List.replicate m bs).flatten
  | 0 => .nil
  | m + 1 => by
    rw [List.replicate_succ, List.replicate_succ, List.flatten_cons, List.flatten_cons]
    exact Paired.app h (Paired.flattenP h m)
theorem same_upd {p : Addr} {o : HO} (h : H p = none) : Same H (upd H p o) := fun b x e => by
  rw [upd_ne (ne_of_none e h)]
  exact e
theorem P3.ofP {α β γ : Type} {F : α → β → Prop} {G : α → β → List γ → Prop} (m : ∀ a b, F a b → G a b []) : ∀ {as : List α} {bs : List β}, Paired F as bs → ∃ fps, P3 G as bs fps ∧ fps.flatten = []
  | _, _, .nil => ⟨[], .nil, rfl⟩
  | _, _, .cons r t => by
    obtain ⟨fps, h, e⟩ := P3.ofP m t
    exact ⟨[] :: fps, .cons (m _ _ r) h, by rw [List.flatten_cons, e]; rfl⟩
theorem new_less {p : Addr} (hp : H p = none) : ∀ a, (a ∈ [p] ∨ ex a) → ex a ∨ H a = none := fun a h => by
  rcases h with h | h
  · rw [List.mem_singleton.mp h]
    exact .inr hp
  · exact .inl h
/-- a new list of shared things is owned -/
theorem RO.newList {ds : List D} {xs : List V} {p : Addr} (r : Paired (R K ex H) ds xs) (hp : H p = none) (hl : xs.length ≤ sizeLine) :
    RO K (fun a => a ∈ [p] ∨ ex a) (upd H p (.lst xs)) 1 (.lst ds) (.ref p) [p] := by
  rw [RO]
  obtain ⟨fps, h, e⟩ := P3.ofP (G := RO K (fun a => a ∈ [p] ∨ ex a) (upd H p (.lst xs)) 0) (fun a b q => ⟨rfl, R.keep (Keep.same (same_upd (o := .lst xs) hp)) (new_less hp) a q⟩) r
  exact ⟨p, xs, fps, rfl, ⟨upd_same, hl⟩, by rw [e], h⟩
theorem R.newTup {ds : List D} {xs : List V} {p : Addr} (r : Paired (R K ex H) ds xs) (hp : H p = none) (hl : xs.length ≤ sizeLine) : R K ex (upd H p (.tup xs)) (.tup ds) (.ref p) := by
  rw [R]
  exact ⟨p, xs, rfl, ⟨.inl (.inl upd_same), hl⟩, RL.of (r.mono fun _ _ q => R.same (same_upd hp) q)⟩
theorem ex_nil {d : D} {v : V} (h : R K ex H d v) (f : notList d = true) : RO K (fun a => a ∈ ([] : List Addr) ∨ ex a) H k d v [] :=
  RO.flat (R.less (fun a q => .inl (by
    rcases q with q | q
    · cases q
    · exact q)) h) f
end

/-! ### expressions -/
/-- the wish for a new value, owned to the depth k -/
abbrev QO (K : PySem.W.Frag) (ex : AS) (H : Hp) (k : Nat) (Q : VK) (d : D) : Prop := ∀ v H' fq, Same H H' → RO K (fun a => a ∈ fq ∨ ex a) H' k d v fq → fq.Nodup → (∀ a ∈ fq, H a = none) → Q v H'
section
variable {K : PySem.W.Frag} {ex : AS} {H : Hp} {k : Nat} {Q : VK}
theorem QO.flat {d : D} (q : QO K ex H k Q d) {v : V} (h : R K ex H d v) (f : notList d = true) : Q v H := q v H [] (Same.refl H) (ex_nil h f) List.nodup_nil fun a z => nomatch z
theorem QO.int {i : Int} (q : QO K ex H k Q (.int i)) : Q (.int i) H := q.flat (by rw [R]) rfl
theorem QO.bl {i : Bool} (q : QO K ex H k Q (.bl i)) : Q (.bl i) H := q.flat (by rw [R]) rfl
theorem QO.str {i : Str} (q : QO K ex H k Q (.str i)) : Q (.str i) H := q.flat (by rw [R]) rfl
theorem QO.non (q : QO K ex H k Q .non) : Q .non H := q.flat (by rw [R]) rfl
theorem QO.lst {ds : List D} {xs : List V} {p : Addr} (q : QO K ex H 1 Q (.lst ds)) (r : Paired (R K ex H) ds xs) (hp : H p = none) (hl : xs.length ≤ sizeLine) : Q (.ref p) (upd H p (.lst xs)) :=
  q (.ref p) _ [p] (same_upd hp) (RO.newList r hp hl) (List.nodup_cons.mpr ⟨List.not_mem_nil, List.nodup_nil⟩) fun a z => by
    rw [List.mem_singleton.mp z]
    exact hp
theorem QO.tup {ds : List D} {xs : List V} {p : Addr} (q : QO K ex H k Q (.tup ds)) (r : Paired (R K ex H) ds xs) (hp : H p = none) (hl : xs.length ≤ sizeLine) : Q (.ref p) (upd H p (.tup xs)) :=
  q (.ref p) _ [] (same_upd hp) (ex_nil (R.newTup r hp hl) rfl) List.nodup_nil fun a z => nomatch z
end

def eVar (i : Nat) : EF := fun ρ => match ρ.getD i none with
  | some d => .ok d
  | none => .err
def eC (d : D) : EF := fun _ => .ok d
section
variable {X : Cx} {W : WX} {L : List Nat} {n k : Nat} {pos : Pos}
theorem getD_some {ρ : Env} {i : Nat} {d : D} (h : ρ.getD i none = some d) : ρ[i]? = some (some d) := by
  rw [List.getD_eq_getElem?_getD] at h
  cases e : ρ[i]? with
  | none => rw [e] at h; cases h
  | some z => rw [e] at h; exact congrArg some h
theorem RB.le {K : PySem.W.Frag} {ex : AS} {H : Hp} {j : Nat} {d : D} {v : V} (h : RB K ex H j d v) : ∀ {n : Nat}, j ≤ n → RB K ex H n d v := by
  intro n hn
  induction n with
  | zero =>
    have e : j = 0 := by omega
    rw [← e]
    exact h
  | succ n ih =>
    by_cases e : j = n + 1
    · rw [← e]
      exact h
    · exact (ih (by omega)).up
theorem eb_var {i : Nat} {x : Str} (hN : X.N[i]? = some x) (hv : Vis X.env.scope x) (hl : L.getD i 0 ≤ n) (hd : (x == ("__debug__" : Str)) = false := by decide) (hcd : (x == ("__classdict__" : Str)) = false := by decide) :
    EB X W L n (.Name x pos) (eVar i) := PE.imp (pe_var hN hv hd hcd) fun σ H Q ⟨ex, ρ, fp, I, o⟩ => by
  unfold eVar at o
  cases e : ρ.getD i none with
  | none => rw [e] at o; exact o.elim
  | some d =>
    rw [e] at o
    obtain ⟨v, h1, h2⟩ := I.val i d (getD_some e)
    exact ⟨v, h1, o v H (Same.refl H) (h2.borrow.le hl)⟩
theorem eo_int {i : Int} {j : Nat} : EO X W L k (.Constant (.int i) j pos) (eC (.int i)) := PE.imp pe_int fun σ H Q ⟨ex, ρ, fp, I, o⟩ => QO.int o
theorem eo_bl {i : Bool} {j : Nat} : EO X W L k (.Constant (.bool i) j pos) (eC (.bl i)) := PE.imp pe_bl fun σ H Q ⟨ex, ρ, fp, I, o⟩ => QO.bl o
theorem eo_str {i : Str} {j : Nat} : EO X W L k (.Constant (.str i) j pos) (eC (.str i)) := PE.imp pe_str fun σ H Q ⟨ex, ρ, fp, I, o⟩ => QO.str o
theorem eo_non {j : Nat} : EO X W L k (.Constant .none j pos) (eC .non) := PE.imp pe_non fun σ H Q ⟨ex, ρ, fp, I, o⟩ => QO.non o

/-! arguments -/
def aNil : Env → Res (List D) := fun _ => .ok []
def aCons (f : EF) (g : Env → Res (List D)) : Env → Res (List D) := fun ρ => f ρ >>= fun d => g ρ >>= fun ds => .ok (d :: ds)
variable {e : Expr} {es : List Expr} {f g : EF} {fs : Env → Res (List D)} {m : Nat}
theorem ea_nil : EA X W L n 0 [] aNil := PA.imp pa_nil fun σ H Q ⟨ex, ρ, fp, I, o⟩ => o [] H (Same.refl H) .nil rfl
theorem ea_cons (h : EB X W L n e f) (t : EA X W L n m es fs) (hs : starEach (e :: es) X.env = (false, eval e X.env) :: starEach es X.env := by rfl) : EA X W L n (m + 1) (e :: es) (aCons f fs) :=
  PA.imp (pa_cons h t hs) fun σ H Q ⟨ex, ρ, fp, I, o⟩ => by
    refine ⟨ex, ρ, fp, I, o.bind.mono fun d q v H1 e1 r1 => ⟨ex, ρ, fp, I.same e1, (q.bind.later e1).mono fun ds q2 vs H2 e2 r2 hm => ?_⟩⟩
    exact q2 (v :: vs) H2 (e1.trans e2) (.cons (r1.same e2) r2) (by rw [List.length_cons, hm])

/-! tuples, lists -/
def eTup (fs : Env → Res (List D)) : EF := fun ρ => fs ρ >>= fun ds => .ok (.tup ds)
def eLst (fs : Env → Res (List D)) : EF := fun ρ => fs ρ >>= fun ds => .ok (.lst ds)
theorem eo_tup {j : Nat} (h : EA X W L 0 m es fs) (hm : m ≤ sizeLine := by decide) : EO X W L k (.Tuple es j pos) (eTup fs) := PE.imp (pe_tup h) fun σ H Q ⟨ex, ρ, fp, I, o⟩ =>
  ⟨ex, ρ, fp, I, o.bind.mono fun ds q vs H1 e1 r1 hl => ⟨by omega, fun p hp => by
    refine QO.tup (K := X.K) (ex := ex) (k := k) (fun v H2 fq e2 ro nd nw => q v H2 fq (e1.trans e2) ro nd fun a ha => e1.free (nw a ha)) (r1 : Paired (R X.K ex H1) ds vs) hp (by omega)⟩⟩
theorem eo_lst (h : EA X W L 0 m es fs) (hm : m ≤ sizeLine := by decide) : EO X W L 1 (.List es pos) (eLst fs) := PE.imp (pe_lst h) fun σ H Q ⟨ex, ρ, fp, I, o⟩ =>
  ⟨ex, ρ, fp, I, o.bind.mono fun ds q vs H1 e1 r1 hl => ⟨by omega, fun p hp => by
    refine QO.lst (K := X.K) (ex := ex) (fun v H2 fq e2 ro nd nw => q v H2 fq (e1.trans e2) ro nd fun a ha => e1.free (nw a ha)) (r1 : Paired (R X.K ex H1) ds vs) hp (by omega)⟩⟩
theorem eo_nil : EO X W L (k + 1) (.List [] pos) (eC (.lst [])) := PE.imp (pe_lst pa_nil) fun σ H Q ⟨ex, ρ, fp, I, o⟩ => ⟨Nat.zero_le _, fun p hp =>
  o (.ref p) _ [p] (same_upd hp) ⟨p, [], [], rfl, ⟨upd_same, Nat.zero_le _⟩, rfl, .nil⟩ (List.nodup_cons.mpr ⟨List.not_mem_nil, List.nodup_nil⟩) fun a z => by
    rw [List.mem_singleton.mp z]
    exact hp⟩

/-! operators -/
/-- a binary operation does what a function over data does -/
def Op2 (X : Cx) (n m k : Nat) (f : Value → Value → Sem Value) (g : D → D → Res D) : Prop :=
  OpR X f fun x y H Q => ∃ ex d1 d2 d, (∀ a, ex a → H a ≠ none) ∧ RB X.K ex H n d1 x ∧ RB X.K ex H m d2 y ∧ g d1 d2 = .ok d ∧ QO X.K ex H k Q d
def eOp (o : D → D → Res D) (f g : EF) : EF := fun ρ => f ρ >>= fun a => g ρ >>= fun b => o a b
variable {a b c : Expr} {o o' : D → D → Res D} {n1 n2 : Nat}
theorem no_exc {α : Type} {r : Res α} {σ : L2.St} {H : Hp} {P : α → Prop} (h : Out X W σ H r P) (ne : ∀ c, r ≠ .exc c) : ∃ d, r = .ok d ∧ P d := by
  cases r with
  | ok d => exact ⟨d, rfl, h⟩
  | exc c => exact absurd rfl (ne c)
  | err => exact h.elim
/-- an operation over data that raises nothing -/
def NoX2 (o : D → D → Res D) : Prop := ∀ a b c, o a b ≠ .exc c
theorem eo_op {op : Operator} (ho : Op2 X n1 n2 k (binaryOp op) o) (nx : NoX2 o) (ha : EB X W L n1 a f) (hb : EB X W L n2 b g) : EO X W L k (.BinOp a op b pos) (eOp o f g) :=
  PE.imp (pe_op ho ha hb) fun σ H Q ⟨ex, ρ, fp, I, q⟩ => by
    refine ⟨ex, ρ, fp, I, q.bind.mono fun d1 q1 v1 H1 e1 r1 => ⟨ex, ρ, fp, I.same e1, (q1.bind.later e1).mono fun d2 q2 v2 H2 e2 r2 => ?_⟩⟩
    obtain ⟨d, ed, qd⟩ := no_exc q2 (nx d1 d2)
    exact ⟨ex, d1, d2, d, ((I.same e1).same e2).ext, r1.same e2, r2, ed, fun v H3 fq e3 ro nd nw => qd v H3 fq ((e1.trans e2).trans e3) ro nd fun a ha => (e1.trans e2).free (nw a ha)⟩
theorem eo_cmp {op : CmpOp} (ho : Op2 X n1 n2 k (compareOp op) o) (nx : NoX2 o) (ha : EB X W L n1 a f) (hb : EB X W L n2 b g) (hm : behindInMarks op b = false) : EO X W L k (.Compare a [op] [b] pos) (eOp o f g) :=
  PE.imp (pe_cmpR ho ha hb hm) fun σ H Q ⟨ex, ρ, fp, I, q⟩ => by
    refine ⟨ex, ρ, fp, I, q.bind.mono fun d1 q1 v1 H1 e1 r1 => ⟨ex, ρ, fp, I.same e1, (q1.bind.later e1).mono fun d2 q2 v2 H2 e2 r2 => ?_⟩⟩
    obtain ⟨d, ed, qd⟩ := no_exc q2 (nx d1 d2)
    exact ⟨ex, d1, d2, d, ((I.same e1).same e2).ext, r1.same e2, r2, ed, fun v H3 fq e3 ro nd nw => qd v H3 fq ((e1.trans e2).trans e3) ro nd fun a ha => (e1.trans e2).free (nw a ha)⟩
end
end Px

namespace Px
open PySem PySem.Spec PyProof.Rows L2

/-! ### data that is compared -/
mutual
def toP : D → PyData
  | .non => .none
  | .bl b => .bool b
  | .int i => .int i
  | .str s => .str s
  | .tup xs => .tuple (toPL xs)
  | .lst xs => .list (toPL xs)
  | .dic _ _ => .none
  | .set _ => .none
  | .exc _ => .none
  | .oth => .none
def toPL : List D → List PyData
  | [] => []
  | x :: xs => toP x :: toPL xs
end
mutual
/-- plain data to the depth n -/
def okN : Nat → D → Bool
  | _, .non => true
  | _, .bl _ => true
  | _, .int _ => true
  | _, .str s => PyData.strOk s
  | 0, .tup _ => false
  | n + 1, .tup xs => okL n xs
  | 0, .lst _ => false
  | n + 1, .lst xs => okL n xs
  | _, .dic _ _ => false
  | _, .set _ => false
  | _, .exc _ => false
  | _, .oth => false
def okL : Nat → List D → Bool
  | _, [] => true
  | n, x :: xs => okN n x && okL n xs
end
mutual
def eqD : D → D → Bool
  | .non, .non => true
  | .bl a, .bl b => a == b
  | .bl a, .int j => (if a then 1 else 0) == j
  | .int i, .bl b => i == (if b then 1 else 0)
  | .int i, .int j => i == j
  | .str x, .str y => x == y
  | .lst xs, .lst ys => eqDL xs ys
  | .tup xs, .tup ys => eqDL xs ys
  | _, _ => false
def eqDL : List D → List D → Bool
  | [], [] => true
  | x :: xs, y :: ys => eqD x y && eqDL xs ys
  | _, _ => false
end
theorem okL_all (n : Nat) : ∀ xs : List D, okL n xs = xs.all (okN n)
  | [] => by rw [okL, List.all_nil]
  | x :: xs => by rw [okL, List.all_cons, okL_all n xs]
mutual
theorem ok_lay : ∀ (n : Nat) (d : D), okN n d = true → (toP d).canLay0 = true ∧ (toP d).depth ≤ n
  | n, .non, _ => by simp [toP, PyData.canLay0, PyData.depth]
  | n, .bl _, _ => by simp [toP, PyData.canLay0, PyData.depth]
  | n, .int _, _ => by simp [toP, PyData.canLay0, PyData.depth]
  | n, .str _, h => by
    rw [okN] at h
    simp [toP, PyData.canLay0, PyData.depth, h]
  | 0, .tup _, h => by simp [okN] at h
  | n + 1, .tup xs, h => by
    rw [okN] at h
    obtain ⟨a, b⟩ := ok_layL n xs h
    simp only [toP, PyData.canLay0, PyData.depth]
    exact ⟨a, by omega⟩
  | 0, .lst _, h => by simp [okN] at h
  | n + 1, .lst xs, h => by
    rw [okN] at h
    obtain ⟨a, b⟩ := ok_layL n xs h
    simp only [toP, PyData.canLay0, PyData.depth]
    exact ⟨a, by omega⟩
  | n, .dic _ _, h => by simp [okN] at h
  | n, .set _, h => by simp [okN] at h
  | n, .exc _, h => by simp [okN] at h
  | n, .oth, h => by simp [okN] at h
theorem ok_layL : ∀ (n : Nat) (ds : List D), okL n ds = true → PyData.canLayAll0 (toPL ds) = true ∧ PyData.depthAll (toPL ds) ≤ n
  | n, [], _ => by simp [toPL, PyData.canLayAll0, PyData.depthAll]
  | n, d :: ds, h => by
    rw [okL, Bool.and_eq_true] at h
    obtain ⟨a, b⟩ := ok_lay n d h.1
    obtain ⟨a2, b2⟩ := ok_layL n ds h.2
    simp only [toPL, PyData.canLayAll0, PyData.depthAll, a, a2, Bool.and_self, true_and]
    omega
end
theorem ok_shaped {d : D} (h : okN 60 d = true) : SeqAt.shaped (toP d) = true := by
  obtain ⟨a, b⟩ := ok_lay 60 d h
  unfold SeqAt.shaped
  rw [a, Bool.true_and, decide_eq_true_eq]
  omega
mutual
theorem eqD_eqv : ∀ (n m : Nat) (a b : D), okN n a = true → okN m b = true → PyData.eqv (toP a) (toP b) = eqD a b
  | _, _, .non, b, _, h => by cases b <;> simp_all [toP, PyData.eqv, eqD, okN]
  | _, _, .bl _, b, _, h => by cases b <;> simp_all [toP, PyData.eqv, eqD, okN]
  | _, _, .int _, b, _, h => by cases b <;> simp_all [toP, PyData.eqv, eqD, okN]
  | _, _, .str _, b, _, h => by cases b <;> simp_all [toP, PyData.eqv, eqD, okN]
  | n, m, .tup xs, b, h1, h => by
    cases n with
    | zero => simp [okN] at h1
    | succ n =>
      cases b with
      | tup ys =>
        cases m with
        | zero => simp [okN] at h
        | succ m =>
          rw [okN] at h1 h
          rw [toP, toP, PyData.eqv, eqD]
          exact eqD_eqvL n m xs ys h1 h
      | _ => simp_all [toP, PyData.eqv, eqD, okN]
  | n, m, .lst xs, b, h1, h => by
    cases n with
    | zero => simp [okN] at h1
    | succ n =>
      cases b with
      | lst ys =>
        cases m with
        | zero => simp [okN] at h
        | succ m =>
          rw [okN] at h1 h
          rw [toP, toP, PyData.eqv, eqD]
          exact eqD_eqvL n m xs ys h1 h
      | _ => simp_all [toP, PyData.eqv, eqD, okN]
  | _, _, .dic _ _, _, h, _ => by simp [okN] at h
  | _, _, .set _, _, h, _ => by simp [okN] at h
  | _, _, .exc _, _, h, _ => by simp [okN] at h
  | _, _, .oth, _, h, _ => by simp [okN] at h
theorem eqD_eqvL : ∀ (n m : Nat) (a b : List D), okL n a = true → okL m b = true → PyData.eqvAll (toPL a) (toPL b) = eqDL a b
  | _, _, [], [], _, _ => by simp [toPL, PyData.eqvAll, eqDL]
  | _, _, [], _ :: _, _, _ => by simp [toPL, PyData.eqvAll, eqDL]
  | _, _, _ :: _, [], _, _ => by simp [toPL, PyData.eqvAll, eqDL]
  | n, m, x :: xs, y :: ys, h1, h2 => by
    rw [okL, Bool.and_eq_true] at h1 h2
    rw [toPL, toPL, PyData.eqvAll, eqDL, eqD_eqv n m x y h1.1 h2.1, eqD_eqvL n m xs ys h1.2 h2.2]
end
section
variable {K : PySem.W.Frag} {ex : AS} {H : Hp}
mutual
theorem R.dp : ∀ (d : D) {v : V}, R K ex H d v → Dp K H v (toP d)
  | .non, v, h => by
    rw [R] at h
    subst h
    rw [toP]
    exact .non
  | .bl _, v, h => by
    rw [R] at h
    subst h
    rw [toP]
    exact .bl _
  | .int _, v, h => by
    rw [R] at h
    subst h
    rw [toP]
    exact .int _
  | .str _, v, h => by
    rw [R] at h
    subst h
    rw [toP]
    exact .str _
  | .tup ds, v, h => by
    rw [R] at h
    obtain ⟨a, xs, rfl, h1, h2⟩ := h
    rw [toP]
    exact .tup h1.1 (RL.dp ds h2)
  | .lst ds, v, h => by
    rw [R] at h
    obtain ⟨a, xs, rfl, h1, h2⟩ := h
    rw [toP]
    exact .lst h1.1.sq (RL.dp ds h2)
  | .dic _ _, _, h => by
    rw [R] at h
    exact h.elim
  | .set _, _, h => by
    rw [R] at h
    exact h.elim
  | .exc _, _, h => by
    rw [R] at h
    exact h.elim
  | .oth, _, h => by
    rw [R] at h
    exact h.elim
theorem RL.dp : ∀ (ds : List D) {vs : List V}, RL K ex H ds vs → DpAll K H vs (toPL ds)
  | [], _, h => by
    rw [RL] at h
    subst h
    rw [toPL]
    exact .nil
  | d :: ds, _, h => by
    rw [RL] at h
    obtain ⟨v, r, rfl, h1, h2⟩ := h
    rw [toPL]
    exact .cons (R.dp d h1) (RL.dp ds h2)
end
theorem RB.dp : ∀ {n : Nat} {d : D} {v : V}, RB K ex H n d v → Dp K H v (toP d)
  | 0, d, _, h => R.dp d h
  | n + 1, d, v, h => by
    cases d with
    | lst ds =>
      obtain ⟨a, xs, rfl, h1, hz, h2⟩ := RB.lst h
      rw [toP]
      refine .lst h1 ?_
      clear h h1 hz
      induction h2 with
      | nil =>
        rw [toPL]
        exact .nil
      | cons x t ih =>
        rw [toPL]
        exact .cons (RB.dp x) ih
    | _ => exact R.dp _ (RB.flat h rfl)
end

/-! ### comparisons -/
def dEq (a b : D) : Res D := if okN 60 a && okN 60 b then .ok (.bl (eqD a b)) else .err
def dNe (a b : D) : Res D := if okN 60 a && okN 60 b then .ok (.bl (!eqD a b)) else .err
def dCmpI (p : Int → Int → Bool) : D → D → Res D
  | .int i, .int j => .ok (.bl (p i j))
  | _, _ => .err
def isNon : D → Bool
  | .non => true
  | _ => false
def dIs : D → D → Res D
  | a, .non => .ok (.bl (isNon a))
  | _, _ => .err
def dIsNot : D → D → Res D
  | a, .non => .ok (.bl (!isNon a))
  | _, _ => .err
def dIn : D → D → Res D
  | a, .lst xs => if okN 60 a && okN 60 (.lst xs) then .ok (.bl (xs.any fun z => eqD z a)) else .err
  | a, .tup xs => if okN 60 a && okN 60 (.tup xs) then .ok (.bl (xs.any fun z => eqD z a)) else .err
  | .str a, .str s => if a.cps.size = 1 then .ok (.bl (decide (a.cps.getD 0 0 ∈ s.cps.toList))) else .err
  | _, _ => .err
def dNotIn (a b : D) : Res D := match dIn a b with
  | .ok (.bl x) => .ok (.bl (!x))
  | _ => .err
section
variable {X : Cx} {n m k : Nat}
theorem dEq_nx : NoX2 dEq := fun a b c h => by
  unfold dEq at h
  split at h <;> cases h
theorem dNe_nx : NoX2 dNe := fun a b c h => by
  unfold dNe at h
  split at h <;> cases h
theorem dCmpI_nx {p : Int → Int → Bool} : NoX2 (dCmpI p) := fun a b c h => by
  unfold dCmpI at h
  split at h <;> cases h
theorem dIs_nx : NoX2 dIs := fun a b c h => by
  unfold dIs at h
  split at h <;> cases h
theorem dIsNot_nx : NoX2 dIsNot := fun a b c h => by
  unfold dIsNot at h
  split at h <;> cases h
theorem dNotIn_nx : NoX2 dNotIn := fun a b c h => by
  unfold dNotIn at h
  split at h <;> cases h
theorem dIn_nx : NoX2 dIn := fun a b c h => by
  unfold dIn at h
  split at h <;> first | cases h | (split at h <;> cases h)
theorem o_eq (hu : X.A.units + 64 < cLine) : Op2 X n m k (compareOp .Eq) dEq := fun pins s σ H x y v u Q I rx ry h => by
  obtain ⟨ex, d1, d2, d, ext, r1, r2, e, q⟩ := h
  unfold dEq at e
  split at e
  · rename_i ok
    rw [Bool.and_eq_true] at ok
    cases e
    exact op_eqD hu pins s σ H x y v u Q I rx ry ⟨toP d1, toP d2, r1.dp, r2.dp, ok_shaped ok.1, ok_shaped ok.2, by rw [eqD_eqv 60 60 d1 d2 ok.1 ok.2]; exact q.bl⟩
  · cases e
theorem o_ne (hu : X.A.units + 64 < cLine) : Op2 X n m k (compareOp .NotEq) dNe := fun pins s σ H x y v u Q I rx ry h => by
  obtain ⟨ex, d1, d2, d, ext, r1, r2, e, q⟩ := h
  unfold dNe at e
  split at e
  · rename_i ok
    rw [Bool.and_eq_true] at ok
    cases e
    exact op_neD hu pins s σ H x y v u Q I rx ry ⟨toP d1, toP d2, r1.dp, r2.dp, ok_shaped ok.1, ok_shaped ok.2, by rw [eqD_eqv 60 60 d1 d2 ok.1 ok.2]; exact q.bl⟩
  · cases e
theorem o_cmpI {f : Value → Value → Sem Value} {p : Int → Int → Bool} (h0 : OpR X f (rI0 fun i j => .bl (p i j))) : Op2 X n m k f (dCmpI p) := fun pins s σ H x y v u Q I rx ry h => by
  obtain ⟨ex, d1, d2, d, ext, r1, r2, e, q⟩ := h
  unfold dCmpI at e
  split at e
  · cases e
    exact h0 pins s σ H x y v u Q I rx ry ⟨_, _, r1.int, r2.int, q.bl⟩
  · cases e
abbrev iLt : Int → Int → Bool := fun i j => decide (i < j)
abbrev iLe : Int → Int → Bool := fun i j => decide (i ≤ j)
abbrev iGt : Int → Int → Bool := fun i j => decide (j < i)
abbrev iGe : Int → Int → Bool := fun i j => decide (j ≤ i)
theorem o_lt : Op2 X n m k (compareOp .Lt) (dCmpI iLt) := o_cmpI op_lt
theorem o_le : Op2 X n m k (compareOp .LtE) (dCmpI iLe) := o_cmpI op_le
theorem o_gt : Op2 X n m k (compareOp .Gt) (dCmpI iGt) := o_cmpI op_gt
theorem o_ge : Op2 X n m k (compareOp .GtE) (dCmpI iGe) := o_cmpI op_ge
theorem RB.isNon {K : PySem.W.Frag} {ex : AS} {H : Hp} {d : D} {v : V} (h : RB K ex H n d v) : decide (v = V.non) = Px.isNon d := by
  cases d with
  | non =>
    rw [h.non]
    rfl
  | bl b =>
    rw [h.bl]
    rfl
  | int b =>
    rw [h.int]
    rfl
  | str b =>
    rw [h.str]
    exact decide_eq_false fun q => nomatch q
  | tup xs =>
    obtain ⟨a, ys, rfl, _⟩ := h.tup
    exact decide_eq_false fun q => nomatch q
  | lst xs =>
    obtain ⟨a, ys, rfl, _⟩ := (h.up).lst
    exact decide_eq_false fun q => nomatch q
  | _ => exact absurd (RB.flat h rfl) (R.no (by trivial))
theorem o_is : Op2 X n m k (compareOp .Is) dIs := fun pins s σ H x y v u Q I rx ry h => by
  obtain ⟨ex, d1, d2, d, ext, r1, r2, e, q⟩ := h
  unfold dIs at e
  split at e
  · cases e
    exact op_isN pins s σ H x y v u Q I rx ry ⟨r2.non, by rw [RB.isNon r1]; exact q.bl⟩
  · cases e
theorem o_isNot : Op2 X n m k (compareOp .IsNot) dIsNot := fun pins s σ H x y v u Q I rx ry h => by
  obtain ⟨ex, d1, d2, d, ext, r1, r2, e, q⟩ := h
  unfold dIsNot at e
  split at e
  · cases e
    exact op_notN pins s σ H x y v u Q I rx ry ⟨r2.non, by rw [RB.isNon r1]; exact q.bl⟩
  · cases e
theorem any_toP (a : D) (ha : okN 60 a = true) (n : Nat) : ∀ xs : List D, okL n xs = true → ((toPL xs).any fun z => PyData.eqv z (toP a)) = xs.any fun z => eqD z a
  | [], _ => by rw [toPL]; rfl
  | x :: xs, h => by
    rw [okL, Bool.and_eq_true] at h
    rw [toPL, List.any_cons, List.any_cons, any_toP a ha n xs h.2, eqD_eqv n 60 x a h.1 ha]
theorem one_sign {a : Str} (h : a.cps.size = 1) : a = ⟨#[a.cps.getD 0 0]⟩ := by
  obtain ⟨cps⟩ := a
  obtain ⟨l⟩ := cps
  cases l with
  | nil => cases h
  | cons c r =>
    cases r with
    | nil => rfl
    | cons _ _ => simp at h
theorem o_in_aux (hu : X.A.units + 65 < cLine) (neg : Bool) (op : CmpOp) (hop : op = if neg then .NotIn else .In)
    {pins : List (Addr × Obj)} {s : Shared} {σ : L2.St} {H : Hp} {x y : V} {v u : Value} {Q : VK} (I : Inv X pins σ H s) (rx : RelV x v) (ry : RelV y u) {ex : AS} {d1 d2 : D} {b : Bool} (r1 : RB X.K ex H n d1 x) (r2 : RB X.K ex H m d2 y) (e : dIn d1 d2 = .ok (.bl b))
    (q : Q (.bl (if neg then !b else b)) H) : wpAny (model X.prog X.w) X.A (compareOp op v u) (EP X pins σ Q) X.xe s := by
  unfold dIn at e
  split at e
  · rename_i xs
    split at e
    · rename_i ok
      rw [Bool.and_eq_true] at ok
      have e2 : (xs.any fun z => eqD z d1) = b := by cases e; rfl
      have hl : okL 59 xs = true := by have := ok.2; rw [okN] at this; exact this
      have hr := RB.dp r2
      rw [toP] at hr
      have hs : SeqAt.shaped (.list (toPL xs)) = true := by have := ok_shaped ok.2; rw [toP] at this; exact this
      cases neg with
      | false =>
        subst hop
        exact op_inD hu pins s σ H x y v u Q I rx ry ⟨toP d1, toPL xs, r1.dp, hr, ok_shaped ok.1, hs, by rw [any_toP d1 ok.1 59 xs hl, e2]; exact q⟩
      | true =>
        subst hop
        exact op_notInD hu pins s σ H x y v u Q I rx ry ⟨toP d1, toPL xs, r1.dp, hr, ok_shaped ok.1, hs, by rw [any_toP d1 ok.1 59 xs hl, e2]; exact q⟩
    · cases e
  · rename_i xs
    split at e
    · rename_i ok
      rw [Bool.and_eq_true] at ok
      have e2 : (xs.any fun z => eqD z d1) = b := by cases e; rfl
      have hl : okL 59 xs = true := by have := ok.2; rw [okN] at this; exact this
      have hr := RB.dp r2
      rw [toP] at hr
      have hs : SeqAt.shaped (.tuple (toPL xs)) = true := by have := ok_shaped ok.2; rw [toP] at this; exact this
      obtain ⟨as, q1⟩ := Dp.reads I (toP d1) x v r1.dp rx
      obtain ⟨bs, q2⟩ := Dp.reads I (.tuple (toPL xs)) y u hr ry
      cases neg with
      | false =>
        subst hop
        exact SeqAt.in_tuple_reads q2 q1 (SeqAt.canLay_of_shaped hs) (SeqAt.canLay_of_shaped (ok_shaped ok.1)) (room_in_shaped (ok_shaped ok.1) hu) ⟨.bl _, H, I, rfl, by rw [any_toP d1 ok.1 59 xs hl, e2]; exact q⟩
      | true =>
        subst hop
        exact SeqAt.notIn_tuple_reads q2 q1 (SeqAt.canLay_of_shaped hs) (SeqAt.canLay_of_shaped (ok_shaped ok.1)) (room_in_shaped (ok_shaped ok.1) hu) ⟨.bl _, H, I, rfl, by rw [any_toP d1 ok.1 59 xs hl, e2]; exact q⟩
    · cases e
  · rename_i a z
    split at e
    · rename_i h1
      have e2 : decide (a.cps.getD 0 0 ∈ z.cps.toList) = b := by cases e; rfl
      have ex1 := r1.str
      rw [one_sign h1] at ex1
      cases neg with
      | false =>
        subst hop
        exact op_in_sign pins s σ H x y v u Q I rx ry ⟨a.cps.getD 0 0, z, ex1, r2.str, by rw [e2]; exact q⟩
      | true =>
        subst hop
        exact op_notIn_sign pins s σ H x y v u Q I rx ry ⟨a.cps.getD 0 0, z, ex1, r2.str, by rw [e2]; exact q⟩
    · cases e
  · cases e
theorem dIn_bl {a b d : D} (h : dIn a b = .ok d) : ∃ x, d = .bl x := by
  unfold dIn at h
  split at h <;> first | cases h | (split at h <;> first | (cases h; done) | (cases h; exact ⟨_, rfl⟩))
theorem o_in (hu : X.A.units + 65 < cLine) : Op2 X n m k (compareOp .In) dIn := fun pins s σ H x y v u Q I rx ry h => by
  obtain ⟨ex, d1, d2, d, ext, r1, r2, e, q⟩ := h
  obtain ⟨b, rfl⟩ := dIn_bl e
  exact o_in_aux hu false .In rfl I rx ry r1 r2 e q.bl
theorem o_notIn (hu : X.A.units + 65 < cLine) : Op2 X n m k (compareOp .NotIn) dNotIn := fun pins s σ H x y v u Q I rx ry h => by
  obtain ⟨ex, d1, d2, d, ext, r1, r2, e, q⟩ := h
  unfold dNotIn at e
  split at e
  · rename_i b e2
    cases e
    exact o_in_aux hu true .NotIn rfl I rx ry r1 r2 e2 q.bl
  · cases e

/-! ### arithmetic -/
/-- what a product's factors may be: one within 64 bits, or both together below a million bits -/
def mulOk (i j : Int) : Bool := decide ((-(2 ^ 64) < i ∧ i < 2 ^ 64) ∨ (-(2 ^ 64) < j ∧ j < 2 ^ 64))
def dAdd : D → D → Res D
  | .int i, .int j => .ok (.int (i + j))
  | .str a, .str b => if a.length + b.length ≤ sizeLine then .ok (.str (a ++ b)) else .err
  | .lst a, .lst b => if a.length + b.length ≤ sizeLine then .ok (.lst (a ++ b)) else .err
  | .tup a, .tup b => if a.length + b.length ≤ sizeLine then .ok (.tup (a ++ b)) else .err
  | _, _ => .err
def dSub : D → D → Res D
  | .int i, .int j => .ok (.int (i - j))
  | _, _ => .err
def dMul : D → D → Res D
  | .int i, .int j => if mulOk i j then .ok (.int (i * j)) else .err
  | _, _ => .err
/-- a floor division by a divisor above nought, below 2 ^ 30 -/
def dDiv : D → D → Res D
  | .int i, .int j => if 0 < j ∧ j < 1073741824 then .ok (.int (i / j)) else .err
  | _, _ => .err
def dMod : D → D → Res D
  | .int i, .int j => if 0 < j then .ok (.int (i % j)) else .err
  | _, _ => .err
def dPow : D → D → Res D
  | .int i, .int j => if 0 ≤ j ∧ j ≤ 1000000 ∧ i.natAbs < 2 ^ 64 then .ok (.int (i ^ j.toNat)) else .err
  | _, _ => .err
theorem dAdd_nx : NoX2 dAdd := fun a b c h => by
  unfold dAdd at h
  split at h <;> first | cases h | (split at h <;> cases h)
theorem dSub_nx : NoX2 dSub := fun a b c h => by
  unfold dSub at h
  split at h <;> first | cases h | (split at h <;> cases h)
theorem dMul_nx : NoX2 dMul := fun a b c h => by
  unfold dMul at h
  split at h <;> first | cases h | (split at h <;> cases h)
theorem dDiv_nx : NoX2 dDiv := fun a b c h => by
  unfold dDiv at h
  split at h <;> first | cases h | (split at h <;> cases h)
theorem dMod_nx : NoX2 dMod := fun a b c h => by
  unfold dMod at h
  split at h <;> first | cases h | (split at h <;> cases h)
theorem dPow_nx : NoX2 dPow := fun a b c h => by
  unfold dPow at h
  split at h <;> first | cases h | (split at h <;> cases h)
theorem o_sub : Op2 X n m k (binaryOp .Sub) dSub := fun pins s σ H x y v u Q I rx ry h => by
  obtain ⟨ex, d1, d2, d, ext, r1, r2, e, q⟩ := h
  unfold dSub at e
  split at e
  · cases e
    exact op_sub pins s σ H x y v u Q I rx ry ⟨_, _, r1.int, r2.int, q.int⟩
  · cases e
theorem o_div : Op2 X n m k (binaryOp .FloorDiv) dDiv := fun pins s σ H x y v u Q I rx ry h => by
  obtain ⟨ex, d1, d2, d, ext, r1, r2, e, q⟩ := h
  unfold dDiv at e
  split at e
  · split at e
    · rename_i hc
      cases e
      exact op_fdiv pins s σ H x y v u Q I rx ry ⟨_, _, r1.int, r2.int, hc, q.int⟩
    · cases e
  · cases e
theorem o_mod : Op2 X n m k (binaryOp .Mod) dMod := fun pins s σ H x y v u Q I rx ry h => by
  obtain ⟨ex, d1, d2, d, ext, r1, r2, e, q⟩ := h
  unfold dMod at e
  split at e
  · split at e
    · rename_i hc
      cases e
      exact op_mod pins s σ H x y v u Q I rx ry ⟨_, _, r1.int, r2.int, hc, q.int⟩
    · cases e
  · cases e
theorem o_pow : Op2 X n m k (binaryOp .Pow) dPow := fun pins s σ H x y v u Q I rx ry h => by
  obtain ⟨ex, d1, d2, d, ext, r1, r2, e, q⟩ := h
  unfold dPow at e
  split at e
  · split at e
    · rename_i hc
      cases e
      exact op_pow pins s σ H x y v u Q I rx ry ⟨_, _, r1.int, r2.int, hc, q.int⟩
    · cases e
  · cases e
theorem op_catL {pins : List (Addr × Obj)} {s : Shared} {σ : L2.St} {H : Hp} {l b : Addr} {xs ys : List V} {v u : Value} {Q : VK} (I : Inv X pins σ H s) (h1 : SqL X.K H l xs) (h2 : SqL X.K H b ys) (rx : RelV (.ref l) v) (ry : RelV (.ref b) u)
    (hl : xs.length + ys.length ≤ sizeLine) (q : Q (.ref s.heap.objs.size) (upd H s.heap.objs.size (.lst (xs ++ ys)))) : wpAny (model X.prog X.w) X.A (binaryOp .Add v u) (EP X pins σ Q) X.xe s := by
  cases rx
  cases ry
  obtain ⟨its, rv, pl, _⟩ := I.list h1
  obtain ⟨its2, rv2, pl2, _⟩ := I.list h2
  obtain ⟨⟨cls, dd, data, sl⟩, ho, hc, n, hd⟩ := id pl.isList
  obtain ⟨⟨cls2, dd2, data2, sl2⟩, ho2, hc2, n2, hd2⟩ := id pl2.isList
  simp only at hc hd hc2 hd2
  subst hc hd hc2 hd2
  have e : its.toArray ++ its2.toArray = (its ++ its2).toArray := by simp
  have el := rv.length
  have el2 := rv2.length
  refine concat_meets ⟨_, ho, rfl⟩ ⟨_, ho2, rfl⟩ noFill_list_add seq_list_add PySem.F.slot_list_add PySem.F.entry_list_add (PySem.F.args_list_add_2 _ _) (list_addW l b its.toArray its2.toArray n n2 dd dd2 sl sl2 (by rw [List.size_toArray, List.size_toArray]; omega)) ⟨ho, ho2, ?_⟩
  rw [e]
  exact ⟨.ref _, _, I.lnew (t' := s.toks) (rv.append rv2) (by rw [List.length_append]; exact hl), rfl, q⟩
/-- data with lists at its top owned to the depth one, of anything new -/
theorem o_add : Op2 X 1 1 1 (binaryOp .Add) dAdd := fun pins s σ H x y v u Q I rx ry h => by
  obtain ⟨ex, d1, d2, d, ext, r1, r2, e, q⟩ := h
  unfold dAdd at e
  split at e
  · cases e
    exact op_add pins s σ H x y v u Q I rx ry ⟨_, _, r1.int, r2.int, q.int⟩
  · split at e
    · rename_i hc
      cases e
      exact op_add_str pins s σ H x y v u Q I rx ry ⟨_, _, r1.str, r2.str, hc, q.str⟩
    · cases e
  · split at e
    · rename_i hc
      cases e
      obtain ⟨l, xs, rfl, h1, z1, p1⟩ := r1.lst
      obtain ⟨b, ys, rfl, h2, z2, p2⟩ := r2.lst
      have p : Paired (R X.K ex H) _ (xs ++ ys) := Paired.app p1 p2
      have hl : xs.length + ys.length ≤ sizeLine := by rw [← p1.length, ← p2.length]; exact hc
      exact op_catL I h1 h2 rx ry hl (q.lst p I.fresh (by rw [List.length_append]; exact hl))
    · cases e
  · split at e
    · rename_i hc
      cases e
      obtain ⟨l, xs, rfl, h1, z1, p1⟩ := r1.tup
      obtain ⟨b, ys, rfl, h2, z2, p2⟩ := r2.tup
      have hl : xs.length + ys.length ≤ sizeLine := by rw [← p1.length, ← p2.length]; exact hc
      refine op_catA pins s σ H _ _ v u Q I rx ry ⟨l, b, xs, ys, rfl, rfl, h1, h2, hl, fun e => ?_, fun _ e => ?_, fun _ _ p hp => q.tup (Paired.app p1 p2) hp (by rw [List.length_append]; exact hl)⟩
      · subst e
        cases p1
        exact q.flat (by rw [R]; exact ⟨b, ys, rfl, ⟨h2, z2⟩, RL.of p2⟩) rfl
      · subst e
        cases p2
        rw [List.append_nil] at q
        exact q.flat (by rw [R]; exact ⟨l, xs, rfl, ⟨h1, z1⟩, RL.of p1⟩) rfl
    · cases e
  · cases e
end
end Px

namespace Px
open PySem PySem.Spec PyProof.Rows L2

/-! ### one operand -/
def Op1 (X : Cx) (n k : Nat) (f : Value → Sem Value) (g : D → Res D) : Prop :=
  UnR X f fun x H Q => ∃ ex d1 d, (∀ a, ex a → H a ≠ none) ∧ RB X.K ex H n d1 x ∧ g d1 = .ok d ∧ QO X.K ex H k Q d
def NoX1 {α : Type} (o : D → Res α) : Prop := ∀ a c, o a ≠ .exc c
def eUn {α : Type} (o : D → Res α) (f : EF) : Env → Res α := fun ρ => f ρ >>= o
def dNeg : D → Res D
  | .int i => .ok (.int (-i))
  | _ => .err
theorem dNeg_nx : NoX1 dNeg := fun a c h => by
  unfold dNeg at h
  split at h <;> cases h
section
variable {X : Cx} {W : WX} {L : List Nat} {n n1 n2 k m : Nat} {pos : Pos} {e a b c : Expr} {es rest : List Expr} {f g : EF} {fs : Env → Res (List D)} {ft gt : Env → Res Bool}
theorem o_neg : Op1 X n k (unaryOp .USub) dNeg := fun pins s σ H x v Q I rx h => by
  obtain ⟨ex, d1, d, ext, r1, e, q⟩ := h
  unfold dNeg at e
  split at e
  · cases e
    exact un_neg pins s σ H x v Q I rx ⟨_, r1.int, q.int⟩
  · cases e
theorem eo_un {op : UnaryOp} {o : D → Res D} (ho : Op1 X n k (unaryOp op) o) (nx : NoX1 o) (ha : EB X W L n a f) : EO X W L k (.UnaryOp op a pos) (eUn o f) :=
  PE.imp (pe_un ho ha) fun σ H Q ⟨ex, ρ, fp, I, q⟩ => by
    refine ⟨ex, ρ, fp, I, q.bind.mono fun d1 q1 v1 H1 e1 r1 => ?_⟩
    obtain ⟨d, ed, qd⟩ := no_exc q1 (nx d1)
    exact ⟨ex, d1, d, (I.same e1).ext, r1, ed, fun v H3 fq e3 ro nd nw => qd v H3 fq (e1.trans e3) ro nd fun a ha => e1.free (nw a ha)⟩

/-! ### truth -/
def dTru : D → Res Bool
  | .non => .ok false
  | .bl b => .ok b
  | .int i => .ok (i != 0)
  | .str s => if s.length ≤ sizeLine then .ok ((s.length : Int) != 0) else .err
  | .tup xs => .ok (!xs.isEmpty)
  | .lst xs => .ok (!xs.isEmpty)
  | _ => .err
theorem dTru_nx : NoX1 dTru := fun a c h => by
  unfold dTru at h
  split at h <;> first | cases h | (split at h <;> cases h)
theorem Paired.isEmpty {α β : Type} {F : α → β → Prop} {as : List α} {bs : List β} (h : Paired F as bs) : bs.isEmpty = as.isEmpty := by
  cases h <;> rfl
theorem dTru_v {K : PySem.W.Frag} {ex : AS} {H : Hp} {d : D} {x : V} {t : Bool} (r : RB K ex H n d x) (e : dTru d = .ok t) : TruV K x H t := by
  unfold dTru at e
  split at e
  · cases e
    rw [r.non]
    rfl
  · cases e
    rw [r.bl]
    rfl
  · cases e
    rw [r.int]
    rfl
  · split at e
    · rename_i hs
      cases e
      rw [r.str]
      exact ⟨hs, rfl⟩
    · cases e
  · cases e
    obtain ⟨a, xs, rfl, h1, h2, h3⟩ := r.tup
    exact .inr (.inl ⟨xs, h1, by rw [Paired.isEmpty h3]⟩)
  · cases e
    obtain ⟨a, xs, rfl, h1, h2, h3⟩ := r.up.lst
    exact .inl ⟨xs, h1, by rw [Paired.isEmpty h3]⟩
  · cases e
theorem et_val (ha : EB X W L n a f) (he : ∀ whole, isTrue a X.env whole = (do let v ← whole; standAt a.pos; holding [v] (truthy v)) := by intro _; rfl) : ET X W L a (eUn dTru f) :=
  PT.imp (pt_truth ha he) fun σ H Q ⟨ex, ρ, fp, I, q⟩ => ⟨ex, ρ, fp, I, q.bind.mono fun d q1 v H1 e1 r1 => by
    obtain ⟨t, et, qt⟩ := no_exc q1 (dTru_nx d)
    exact ⟨t, dTru_v r1 et, qt H1 e1⟩⟩
/-- a chain of and, or in a test -/
abbrev EW (X : Cx) (W : WX) (L : List Nat) (e : Expr) (f : Env → Res Bool) : Prop := PW X e (tT X W L f)
def bAnd (f g : Env → Res Bool) : Env → Res Bool := fun ρ => f ρ >>= fun b => if b = true then g ρ else .ok false
def bOr (f g : Env → Res Bool) : Env → Res Bool := fun ρ => f ρ >>= fun b => if b = true then .ok true else g ρ
def bNot (f : Env → Res Bool) : Env → Res Bool := fun ρ => f ρ >>= fun b => .ok (!b)
theorem ew_and1 (ha : ET X W L a ft) : EW X W L (.BoolOp .And [a] pos) ft := pw_and1 ha
theorem ew_or1 (ha : ET X W L a ft) : EW X W L (.BoolOp .Or [a] pos) ft := pw_or1 ha
theorem ew_and (ha : ET X W L a ft) (hb : EW X W L (.BoolOp .And (b :: rest) pos) gt) : EW X W L (.BoolOp .And (a :: b :: rest) pos) (bAnd ft gt) :=
  PW.imp (pw_and ha hb) fun σ H Q ⟨ex, ρ, fp, I, q⟩ => ⟨ex, ρ, fp, I, q.bind.mono fun t q1 H1 e1 => by
    cases t with
    | true =>
      rw [if_pos rfl]
      exact ⟨ex, ρ, fp, I.same e1, (Out.later (show Out X W σ H (gt ρ) _ from q1) e1).mono fun t2 q2 H2 e2 => q2 H2 (e1.trans e2)⟩
    | false => exact q1 H1 e1⟩
theorem ew_or (ha : ET X W L a ft) (hb : EW X W L (.BoolOp .Or (b :: rest) pos) gt) : EW X W L (.BoolOp .Or (a :: b :: rest) pos) (bOr ft gt) :=
  PW.imp (pw_or ha hb) fun σ H Q ⟨ex, ρ, fp, I, q⟩ => ⟨ex, ρ, fp, I, q.bind.mono fun t q1 H1 e1 => by
    cases t with
    | false =>
      rw [if_neg Bool.false_ne_true]
      exact ⟨ex, ρ, fp, I.same e1, (Out.later (show Out X W σ H (gt ρ) _ from q1) e1).mono fun t2 q2 H2 e2 => q2 H2 (e1.trans e2)⟩
    | true => exact q1 H1 e1⟩
theorem et_w (h : EW X W L e ft) : ET X W L e ft := PW.pt h
theorem et_not (ha : ET X W L a ft) : ET X W L (.UnaryOp .Not a pos) (bNot ft) :=
  PT.imp (pt_not ha) fun σ H Q ⟨ex, ρ, fp, I, q⟩ => ⟨ex, ρ, fp, I, q.bind.mono fun t q1 H1 e1 => q1 H1 e1⟩
/-- not a as a value -/
def eNot (f : EF) : EF := fun ρ => f ρ >>= fun d => dTru d >>= fun b => .ok (.bl (!b))
theorem eo_not (ha : EB X W L n a f) : EO X W L k (.UnaryOp .Not a pos) (eNot f) :=
  PE.imp (pe_notT ha) fun σ H Q ⟨ex, ρ, fp, I, q⟩ => ⟨ex, ρ, fp, I, q.bind.mono fun d q1 v H1 e1 r1 => by
    have q2 := q1.bind
    obtain ⟨t, et, qt⟩ := no_exc q2 (dTru_nx d)
    exact ⟨t, dTru_v r1 et, QO.bl (K := X.K) (ex := ex) (k := k) fun v H2 fq e2 ro nd nw => qt v H2 fq (e1.trans e2) ro nd fun a ha => e1.free (nw a ha)⟩⟩
/-- and, or as values -/
def eAnd (f g : EF) : EF := fun ρ => f ρ >>= fun d => dTru d >>= fun b => if b = true then g ρ else .ok d
def eOr (f g : EF) : EF := fun ρ => f ρ >>= fun d => dTru d >>= fun b => if b = true then .ok d else g ρ
theorem eb_one {op : BoolOp} (h : EB X W L n a f) : EB X W L n (.BoolOp op [a] pos) f := pe_one h
theorem eb_and (ha : EB X W L n a f) (hb : EB X W L n (.BoolOp .And (b :: rest) pos) g) : EB X W L n (.BoolOp .And (a :: b :: rest) pos) (eAnd f g) :=
  PE.imp (pe_andT ha hb) fun σ H Q ⟨ex, ρ, fp, I, q⟩ => ⟨ex, ρ, fp, I, q.bind.mono fun d q1 v H1 e1 r1 => by
    have q2 := q1.bind
    obtain ⟨t, et, qt⟩ := no_exc q2 (dTru_nx d)
    refine ⟨t, dTru_v r1 et, ?_⟩
    cases t with
    | true =>
      rw [if_pos rfl]
      exact ⟨ex, ρ, fp, I.same e1, (Out.later (show Out X W σ H (g ρ) _ from qt) e1).mono fun t2 q2 v2 H2 e2 r2 => q2 v2 H2 (e1.trans e2) r2⟩
    | false =>
      rw [if_neg Bool.false_ne_true]
      exact qt v H1 e1 r1⟩
theorem eb_or (ha : EB X W L n a f) (hb : EB X W L n (.BoolOp .Or (b :: rest) pos) g) : EB X W L n (.BoolOp .Or (a :: b :: rest) pos) (eOr f g) :=
  PE.imp (pe_orT ha hb) fun σ H Q ⟨ex, ρ, fp, I, q⟩ => ⟨ex, ρ, fp, I, q.bind.mono fun d q1 v H1 e1 r1 => by
    have q2 := q1.bind
    obtain ⟨t, et, qt⟩ := no_exc q2 (dTru_nx d)
    refine ⟨t, dTru_v r1 et, ?_⟩
    cases t with
    | false =>
      rw [if_neg Bool.false_ne_true]
      exact ⟨ex, ρ, fp, I.same e1, (Out.later (show Out X W σ H (g ρ) _ from qt) e1).mono fun t2 q2 v2 H2 e2 r2 => q2 v2 H2 (e1.trans e2) r2⟩
    | true =>
      rw [if_pos rfl]
      exact qt v H1 e1 r1⟩
def eIf (t : Env → Res Bool) (f g : EF) : EF := fun ρ => t ρ >>= fun b => if b = true then f ρ else g ρ
theorem eb_if (hc : ET X W L c ft) (ha : EB X W L n a f) (hb : EB X W L n b g) : EB X W L n (.IfExp c a b pos) (eIf ft f g) :=
  PE.imp (pe_ifExp hc ha hb) fun σ H Q ⟨ex, ρ, fp, I, q⟩ => ⟨ex, ρ, fp, I, q.bind.mono fun t q1 H1 e1 => by
    cases t with
    | true =>
      rw [if_pos rfl]
      exact ⟨ex, ρ, fp, I.same e1, (Out.later (show Out X W σ H (f ρ) _ from q1) e1).mono fun t2 q2 v2 H2 e2 r2 => q2 v2 H2 (e1.trans e2) r2⟩
    | false =>
      rw [if_neg Bool.false_ne_true]
      exact ⟨ex, ρ, fp, I.same e1, (Out.later (show Out X W σ H (g ρ) _ from q1) e1).mono fun t2 q2 v2 H2 e2 r2 => q2 v2 H2 (e1.trans e2) r2⟩⟩
theorem eo_if (hc : ET X W L c ft) (ha : EO X W L k a f) (hb : EO X W L k b g) : EO X W L k (.IfExp c a b pos) (eIf ft f g) :=
  PE.imp (pe_ifExp hc ha hb) fun σ H Q ⟨ex, ρ, fp, I, q⟩ => ⟨ex, ρ, fp, I, q.bind.mono fun t q1 H1 e1 => by
    cases t with
    | true =>
      rw [if_pos rfl]
      exact ⟨ex, ρ, fp, I.same e1, (Out.later (show Out X W σ H (f ρ) _ from q1) e1).mono fun t2 q2 v2 H2 fq e2 r2 nd nw => q2 v2 H2 fq (e1.trans e2) r2 nd fun a ha => e1.free (nw a ha)⟩
    | false =>
      rw [if_neg Bool.false_ne_true]
      exact ⟨ex, ρ, fp, I.same e1, (Out.later (show Out X W σ H (g ρ) _ from q1) e1).mono fun t2 q2 v2 H2 fq e2 r2 nd nw => q2 v2 H2 fq (e1.trans e2) r2 nd fun a ha => e1.free (nw a ha)⟩⟩
/-- a op b op' c -/
def eChain (o o' : D → D → Res D) (f g h : EF) : EF := fun ρ => f ρ >>= fun a => g ρ >>= fun b => o a b >>= fun r => match r with
  | .bl true => h ρ >>= fun c => o' b c
  | .bl false => .ok (.bl false)
  | _ => .err
theorem eo_chain {op op' : CmpOp} {o o' : D → D → Res D} {h : EF} (ho : Op2 X 0 0 0 (compareOp op) o) (nx : NoX2 o) (ho' : Op2 X 0 0 k (compareOp op') o') (nx' : NoX2 o') (ha : EB X W L 0 a f) (hb : EB X W L 0 b g) (hc : EB X W L 0 c h)
    (hm : lastMarks [op, op'] [b, c] = false := by with_unfolding_all rfl) : EO X W L k (.Compare a [op, op'] [b, c] pos) (eChain o o' f g h) :=
  PE.imp (pe_chain ho ho' ha hb hc hm) fun σ H Q ⟨ex, ρ, fp, I, q⟩ => by
    refine ⟨ex, ρ, fp, I, q.bind.mono fun d1 q1 v1 H1 e1 r1 => ⟨ex, ρ, fp, I.same e1, (q1.bind.later e1).mono fun d2 q2 v2 H2 e2 r2 => ?_⟩⟩
    obtain ⟨d, ed, qd⟩ := no_exc q2.bind (nx d1 d2)
    refine ⟨ex, d1, d2, d, ((I.same e1).same e2).ext, r1.same e2, r2, ed, fun v H3 fq e3 ro nd nw => ?_⟩
    have r3 : RB X.K (fun a => a ∈ fq ∨ ex a) H3 0 d v := ro.borrow
    cases d with
    | bl t =>
      cases t with
      | true =>
        refine ⟨true, r3.bl, ?_⟩
        rw [if_pos rfl]
        refine ⟨ex, ρ, fp, ((I.same e1).same e2).same e3, ((Out.bind qd).later ((e1.trans e2).trans e3)).mono fun d3 q3 v4 H4 e4 r4 => ?_⟩
        obtain ⟨z, ez, qz⟩ := no_exc q3 (nx' d2 d3)
        exact ⟨ex, d2, d3, z, ((((I.same e1).same e2).same e3).same e4).ext, (r2.same e3).same e4, r4, ez, fun v H5 fq e5 ro nd nw => qz v H5 fq ((((e1.trans e2).trans e3).trans e4).trans e5) ro nd fun a ha => ((((e1.trans e2).trans e3).trans e4)).free (nw a ha)⟩
      | false =>
        refine ⟨false, r3.bl, ?_⟩
        rw [if_neg Bool.false_ne_true]
        exact QO.bl (K := X.K) (ex := ex) (k := k) fun v H5 fq e5 ro nd nw => qd v H5 fq (((e1.trans e2).trans e3).trans e5) ro nd fun a ha => ((e1.trans e2).trans e3).free (nw a ha)
    | _ => exact qd.elim

/-! ### items -/
def dIx : D → D → Res D
  | .lst xs, .int i => match atI xs i with
    | some d => .ok d
    | none => .err
  | .tup xs, .int i => match atI xs i with
    | some d => .ok d
    | none => .err
  | .str s, .int i => if s.length ≤ sizeLine then (match atI s.cps.toList i with
    | some c => .ok (.str ⟨#[c]⟩)
    | none => .err) else .err
  | _, _ => .err
theorem dIx_nx : NoX2 dIx := fun a b c h => by
  unfold dIx at h
  split at h
  · split at h <;> cases h
  · split at h <;> cases h
  · split at h <;> first | cases h | (split at h <;> cases h)
  · cases h
theorem Paired.atI {α β : Type} {F : α → β → Prop} {as : List α} {bs : List β} {i : Int} {x : α} (h : Paired F as bs) (e : atI as i = some x) : ∃ y, L2.atI bs i = some y ∧ F x y := by
  unfold L2.atI at e ⊢
  rw [← h.length]
  cases q : ixN as.length i with
  | none => rw [q] at e; cases e
  | some j =>
    rw [q] at e
    exact Paired.get h e
theorem eb_ix (ha : EB X W L (n + 1) a f) (hb : EB X W L n2 b g) (hs : PlainIx b := by intro _ _; rfl) : EB X W L n (.Subscript a b pos) (eOp dIx f g) :=
  PE.imp (pe_ix ix_seq ha hb hs) fun σ H Q ⟨ex, ρ, fp, I, q⟩ => by
    refine ⟨ex, ρ, fp, I, q.bind.mono fun d1 q1 v1 H1 e1 r1 => ⟨ex, ρ, fp, I.same e1, (q1.bind.later e1).mono fun d2 q2 v2 H2 e2 r2 => ?_⟩⟩
    obtain ⟨d, ed, qd⟩ := no_exc q2 (dIx_nx d1 d2)
    have r1 := r1.same e2
    unfold dIx at ed
    split at ed
    · split at ed
      · rename_i hx
        cases ed
        obtain ⟨p, xs, rfl, h1, h2, h3⟩ := r1.lst
        obtain ⟨y, hy, ry⟩ := Paired.atI h3 hx
        exact .inl ⟨p, xs, _, y, rfl, r2.int, h1, hy, qd y H2 (e1.trans e2) ry⟩
      · cases ed
    · split at ed
      · rename_i hx
        cases ed
        obtain ⟨p, xs, rfl, h1, h2, h3⟩ := r1.tup
        obtain ⟨y, hy, ry⟩ := Paired.atI h3 hx
        exact .inr (.inl ⟨p, xs, _, y, rfl, r2.int, h1, hy, qd y H2 (e1.trans e2) (RB.of ry)⟩)
      · cases ed
    · split at ed
      · rename_i hl
        split at ed
        · rename_i hx
          cases ed
          exact .inr (.inr ⟨_, _, _, r1.str, r2.int, hl, hx, qd _ H2 (e1.trans e2) (RB.of (by rw [R]))⟩)
        · cases ed
      · cases ed
    · cases ed

/-! ### calls of what is built in -/
def CallD (X : Cx) (n k : Nat) (f : Value) (g : List D → Res D) : Prop :=
  CallR X f fun xs H Q => ∃ ex ds d, (∀ a, ex a → H a ≠ none) ∧ Paired (RB X.K ex H n) ds xs ∧ g ds = .ok d ∧ QO X.K ex H k Q d
def NoXL (g : List D → Res D) : Prop := ∀ ds c, g ds ≠ .exc c
def eCall (o : List D → Res D) (f : Env → Res (List D)) : EF := fun ρ => f ρ >>= o
variable {x : Str} {p : Pos} {id T : String} {o : List D → Res D}
theorem eo_callB (hc : CallD X n k (.builtin id) o) (nx : NoXL o) (hg : Gl X x) (hm : X.mg x = none) (hv : bootBuiltins x = some (.builtin id)) (ha : EA X W L n m (e :: es) fs) (hn : x ≠ "__name__" := by decide) (hdb : (x == ("__debug__" : Str)) = false := by decide)
    (he : starEach (e :: es) X.env = (false, eval e X.env) :: starEach es X.env := by rfl) (hpl : (backTo pos (starEach es X.env)).any (·.1) = false := by rfl) : EO X W L k (.Call (.Name x p) (e :: es) [] pos) (eCall o fs) :=
  PE.imp (pe_callB hc hg hm hv ha hn hdb he hpl) fun σ H Q ⟨ex, ρ, fp, I, q⟩ => ⟨ex, ρ, fp, I, q.bind.mono fun ds q1 vs H1 e1 r1 _ => by
    obtain ⟨d, ed, qd⟩ := no_exc q1 (nx ds)
    exact ⟨ex, ds, d, (I.same e1).ext, r1, ed, fun v H3 fq e3 ro nd nw => qd v H3 fq (e1.trans e3) ro nd fun a ha => e1.free (nw a ha)⟩⟩
theorem eo_callTy (hc : CallD X n k (.type T) o) (nx : NoXL o) (hg : Gl X x) (hm : X.mg x = none) (hv : bootBuiltins x = some (.type T)) (ha : EA X W L n m (e :: es) fs) (hn : x ≠ "__name__" := by decide) (hdb : (x == ("__debug__" : Str)) = false := by decide)
    (he : starEach (e :: es) X.env = (false, eval e X.env) :: starEach es X.env := by rfl) (hpl : (backTo pos (starEach es X.env)).any (·.1) = false := by rfl) : EO X W L k (.Call (.Name x p) (e :: es) [] pos) (eCall o fs) :=
  PE.imp (pe_callTy hc hg hm hv ha hn hdb he hpl) fun σ H Q ⟨ex, ρ, fp, I, q⟩ => ⟨ex, ρ, fp, I, q.bind.mono fun ds q1 vs H1 e1 r1 _ => by
    obtain ⟨d, ed, qd⟩ := no_exc q1 (nx ds)
    exact ⟨ex, ds, d, (I.same e1).ext, r1, ed, fun v H3 fq e3 ro nd nw => qd v H3 fq (e1.trans e3) ro nd fun a ha => e1.free (nw a ha)⟩⟩
def fLen : List D → Res D
  | [.str s] => if s.length ≤ sizeLine then .ok (.int s.length) else .err
  | [.tup xs] => .ok (.int xs.length)
  | [.lst xs] => .ok (.int xs.length)
  | _ => .err
theorem fLen_nx : NoXL fLen := fun ds c h => by
  unfold fLen at h
  split at h <;> first | cases h | (split at h <;> cases h)
theorem c_len : CallD X 1 k (.builtin "len") fLen := fun pins s σ H xs us Q I r h => by
  obtain ⟨ex, ds, d, ext, rs, e, q⟩ := h
  unfold fLen at e
  split at e
  · split at e
    · rename_i hl
      cases e
      cases rs with
      | cons r1 t =>
        cases t
        rw [RB.str r1] at *
        exact call_len pins s σ H _ us Q I r ⟨_, _, rfl, ⟨hl, rfl⟩, q.int⟩
    · cases e
  · cases e
    cases rs with
    | cons r1 t =>
      cases t
      obtain ⟨a, ys, rfl, h1, _, h3⟩ := RB.tup r1
      exact call_len pins s σ H _ us Q I r ⟨_, ys.length, rfl, .inr ⟨ys, h1, rfl⟩, by rw [← h3.length]; exact q.int⟩
  · cases e
    cases rs with
    | cons r1 t =>
      cases t
      obtain ⟨a, ys, rfl, h1, _, h3⟩ := RB.lst r1
      exact call_len pins s σ H _ us Q I r ⟨_, ys.length, rfl, .inl ⟨ys, h1, rfl⟩, by rw [← h3.length]; exact q.int⟩
  · cases e
def fAbs : List D → Res D
  | [.int i] => .ok (.int (if i < 0 then -i else i))
  | _ => .err
theorem fAbs_nx : NoXL fAbs := fun ds c h => by
  unfold fAbs at h
  split at h <;> cases h
theorem c_abs : CallD X n k (.builtin "abs") fAbs := fun pins s σ H xs us Q I r h => by
  obtain ⟨ex, ds, d, ext, rs, e, q⟩ := h
  unfold fAbs at e
  split at e
  · cases e
    cases rs with
    | cons r1 t =>
      cases t
      rw [RB.int r1] at *
      exact call_abs pins s σ H _ us Q I r ⟨_, rfl, q.int⟩
  · cases e
def fInt : List D → Res D
  | [.int i] => .ok (.int i)
  | [.bl b] => .ok (.int (if b then 1 else 0))
  | _ => .err
theorem fInt_nx : NoXL fInt := fun ds c h => by
  unfold fInt at h
  split at h <;> cases h
theorem c_int : CallD X n k (.type "int") fInt := fun pins s σ H xs us Q I r h => by
  obtain ⟨ex, ds, d, ext, rs, e, q⟩ := h
  unfold fInt at e
  split at e
  · cases e
    cases rs with
    | cons r1 t =>
      cases t
      rw [RB.int r1] at *
      exact call_int1 pins s σ H _ us Q I r (.inl ⟨_, rfl, q.int⟩)
  · cases e
    cases rs with
    | cons r1 t =>
      cases t
      rw [RB.bl r1] at *
      exact call_int1 pins s σ H _ us Q I r (.inr ⟨_, rfl, q.int⟩)
  · cases e
/-- tuple(x), list(x) of a list or a tuple -/
def fTuple : List D → Res D
  | [.tup xs] => .ok (.tup xs)
  | [.lst xs] => .ok (.tup xs)
  | _ => .err
def fList : List D → Res D
  | [.tup xs] => .ok (.lst xs)
  | [.lst xs] => .ok (.lst xs)
  | _ => .err
theorem fTuple_nx : NoXL fTuple := fun ds c h => by
  unfold fTuple at h
  split at h <;> cases h
theorem fList_nx : NoXL fList := fun ds c h => by
  unfold fList at h
  split at h <;> cases h
theorem c_tuple : CallD X 1 k (.type "tuple") fTuple := fun pins s σ H xs us Q I r h => by
  obtain ⟨ex, ds, d, ext, rs, e, q⟩ := h
  unfold fTuple at e
  split at e
  · cases e
    cases rs with
    | cons r1 t =>
      cases t
      obtain ⟨a, ys, rfl, h1, h2, h3⟩ := RB.tup r1
      exact call_tuple_of pins s σ H _ us Q I r ⟨a, ys, rfl, .inr ⟨h1, q.flat (by rw [R]; exact ⟨a, ys, rfl, ⟨h1, h2⟩, RL.of h3⟩) rfl⟩⟩
  · cases e
    cases rs with
    | cons r1 t =>
      cases t
      obtain ⟨a, ys, rfl, h1, h2, h3⟩ := RB.lst r1
      exact call_tuple_of pins s σ H _ us Q I r ⟨a, ys, rfl, .inl ⟨h1, fun l hl => q.tup h3 hl h2⟩⟩
  · cases e
theorem c_list : CallD X 1 1 (.type "list") fList := fun pins s σ H xs us Q I r h => by
  obtain ⟨ex, ds, d, ext, rs, e, q⟩ := h
  unfold fList at e
  split at e
  · cases e
    cases rs with
    | cons r1 t =>
      cases t
      obtain ⟨a, ys, rfl, h1, h2, h3⟩ := RB.tup r1
      exact call_list_of pins s σ H _ us Q I r ⟨a, ys, rfl, .inr h1, fun l hl => q.lst h3 hl h2⟩
  · cases e
    cases rs with
    | cons r1 t =>
      cases t
      obtain ⟨a, ys, rfl, h1, h2, h3⟩ := RB.lst r1
      exact call_list_of pins s σ H _ us Q I r ⟨a, ys, rfl, .inl h1, fun l hl => q.lst h3 hl h2⟩
  · cases e
/-- truth values alone -/
def bools : List D → Option (List Bool)
  | [] => some []
  | .bl b :: r => (bools r).map (b :: ·)
  | _ :: _ => none
def nums : List D → Option (List Int)
  | [] => some []
  | .int b :: r => (nums r).map (b :: ·)
  | _ :: _ => none
theorem bools_vals {K : PySem.W.Frag} {ex : AS} {H : Hp} : ∀ {ds : List D} {vs : List V} {bs : List Bool}, Paired (RB K ex H n) ds vs → bools ds = some bs → vs = bs.map V.bl
  | [], _, _, .nil, h => by cases h; rfl
  | d :: ds, _, _, .cons r t, h => by
    cases d with
    | bl b =>
      rw [bools] at h
      cases q : bools ds with
      | none => rw [q] at h; cases h
      | some bs =>
        rw [q] at h
        cases h
        rw [RB.bl r, bools_vals t q]
        rfl
    | _ => cases h
theorem nums_vals {K : PySem.W.Frag} {ex : AS} {H : Hp} : ∀ {ds : List D} {vs : List V} {bs : List Int}, Paired (RB K ex H n) ds vs → nums ds = some bs → vs = bs.map V.int
  | [], _, _, .nil, h => by cases h; rfl
  | d :: ds, _, _, .cons r t, h => by
    cases d with
    | int b =>
      rw [nums] at h
      cases q : nums ds with
      | none => rw [q] at h; cases h
      | some bs =>
        rw [q] at h
        cases h
        rw [RB.int r, nums_vals t q]
        rfl
    | _ => cases h
@[simp] theorem bools_map (bs : List Bool) : bools (bs.map D.bl) = some bs := by
  induction bs with
  | nil => rfl
  | cons b r ih => rw [List.map_cons, bools, ih]; rfl
@[simp] theorem nums_map (bs : List Int) : nums (bs.map D.int) = some bs := by
  induction bs with
  | nil => rfl
  | cons b r ih => rw [List.map_cons, nums, ih]; rfl
def fAll : List D → Res D
  | [.lst xs] => match bools xs with
    | some bs => .ok (.bl (bs.all fun z => z))
    | none => .err
  | _ => .err
def fAny : List D → Res D
  | [.lst xs] => match bools xs with
    | some bs => .ok (.bl (bs.any fun z => z))
    | none => .err
  | _ => .err
def fSum : List D → Res D
  | [.lst xs] => match nums xs with
    | some bs => .ok (.int bs.sum)
    | none => .err
  | _ => .err
theorem fAll_nx : NoXL fAll := fun ds c h => by
  unfold fAll at h
  split at h <;> first | cases h | (split at h <;> cases h)
theorem fAny_nx : NoXL fAny := fun ds c h => by
  unfold fAny at h
  split at h <;> first | cases h | (split at h <;> cases h)
theorem fSum_nx : NoXL fSum := fun ds c h => by
  unfold fSum at h
  split at h <;> first | cases h | (split at h <;> cases h)
theorem c_all (hc : X.calm = true) : CallD X 1 k (.builtin "all") fAll := fun pins s σ H xs us Q I r h => by
  obtain ⟨ex, ds, d, ext, rs, e, q⟩ := h
  unfold fAll at e
  split at e
  · split at e
    · rename_i bs hb
      cases e
      cases rs with
      | cons r1 t =>
        cases t
        obtain ⟨a, ys, rfl, h1, _, h3⟩ := RB.lst r1
        rw [bools_vals h3 hb] at h1
        exact cr_all hc pins s σ H _ us Q I r ⟨a, bs, rfl, h1, q.bl⟩
    · cases e
  · cases e
theorem c_any (hc : X.calm = true) : CallD X 1 k (.builtin "any") fAny := fun pins s σ H xs us Q I r h => by
  obtain ⟨ex, ds, d, ext, rs, e, q⟩ := h
  unfold fAny at e
  split at e
  · split at e
    · rename_i bs hb
      cases e
      cases rs with
      | cons r1 t =>
        cases t
        obtain ⟨a, ys, rfl, h1, _, h3⟩ := RB.lst r1
        rw [bools_vals h3 hb] at h1
        exact cr_any hc pins s σ H _ us Q I r ⟨a, bs, rfl, h1, q.bl⟩
    · cases e
  · cases e
theorem c_sum (hc : X.calm = true) : CallD X 1 k (.builtin "sum") fSum := fun pins s σ H xs us Q I r h => by
  obtain ⟨ex, ds, d, ext, rs, e, q⟩ := h
  unfold fSum at e
  split at e
  · split at e
    · rename_i bs hb
      cases e
      cases rs with
      | cons r1 t =>
        cases t
        obtain ⟨a, ys, rfl, h1, _, h3⟩ := RB.lst r1
        rw [nums_vals h3 hb] at h1
        exact cr_sum hc pins s σ H _ us Q I r ⟨a, bs, rfl, h1, q.int⟩
    · cases e
  · cases e
/-- min, max: of two ints, of a list or a tuple of ints -/
def fMin : List D → Res D
  | [.int i, .int j] => .ok (.int (if j < i then j else i))
  | [.lst xs] => match nums xs with
    | some (b :: bs) => .ok (.int (bs.foldl min b))
    | _ => .err
  | [.tup xs] => match nums xs with
    | some (b :: bs) => .ok (.int (bs.foldl min b))
    | _ => .err
  | _ => .err
def fMax : List D → Res D
  | [.int i, .int j] => .ok (.int (if j > i then j else i))
  | [.lst xs] => match nums xs with
    | some (b :: bs) => .ok (.int (bs.foldl max b))
    | _ => .err
  | [.tup xs] => match nums xs with
    | some (b :: bs) => .ok (.int (bs.foldl max b))
    | _ => .err
  | _ => .err
theorem fMin_nx : NoXL fMin := fun ds c h => by
  unfold fMin at h
  split at h <;> first | cases h | (split at h <;> cases h)
theorem fMax_nx : NoXL fMax := fun ds c h => by
  unfold fMax at h
  split at h <;> first | cases h | (split at h <;> cases h)
theorem ints_reads {h : Heap} : ∀ {us : List Value} {ns : List Int}, Vals (ns.map V.int) us → ∃ as, ReadsAll h us (ns.map PyData.int) as
  | [], [], _ => ⟨[], .nil⟩
  | _, [], h => by cases h; exact ⟨[], .nil⟩
  | [], _ :: _, h => by cases h
  | u :: us, n :: ns, h => by
    rw [List.map_cons] at h
    cases h with
    | cons r t =>
      obtain ⟨k, rfl⟩ := r
      obtain ⟨as, q⟩ := ints_reads t
      rw [List.map_cons]
      exact ⟨_, .cons (.int n k) q⟩
theorem ints_alike (ns : List Int) : PySem.W.AlikeAll (ns.map PyData.int) := by
  constructor
  · intro x hx y hy
    obtain ⟨i, _, rfl⟩ := List.mem_map.mp hx
    obtain ⟨j, _, rfl⟩ := List.mem_map.mp hy
    rfl
  · intro x hx
    obtain ⟨i, _, rfl⟩ := List.mem_map.mp hx
    exact fun q => nomatch q
theorem ints_depth : ∀ ns : List Int, PyData.depthAll (ns.map PyData.int) = 0
  | [] => by simp [PyData.depthAll]
  | n :: ns => by
    rw [List.map_cons, PyData.depthAll, ints_depth ns, PyData.depth]
    rfl
theorem reads_int {h : Heap} {v : Value} {i : Int} {bs : List Addr} (r : Reads h v (.int i) bs) : ∃ t, v = .int i t := by
  cases r
  exact ⟨_, rfl⟩
theorem min_data_ok (hd : X.A.handled = none) (hu : X.A.units + 64 < cLine) {pins : List (Addr × Obj)} {s : Shared} {σ : L2.St} {H : Hp} {a : Addr} {b : Int} {bs : List Int} {Q : VK} (I : Inv X pins σ H s) (h : SqL X.K H a ((b :: bs).map V.int) ∨ SqT X.K H a ((b :: bs).map V.int)) (q : Q (.int (bs.foldl min b)) H) :
    wpAny (model X.prog X.w) X.A (call (.builtin "min") [.ref a]) (EP X pins σ Q) X.xe s := by
  have fin : ∀ (v : Value) (h' : Heap) (tk : Nat) (cs : List Addr), Reads h' v (PySem.W.minD (.int b) (bs.map PyData.int)) cs → (∀ b o, s.heap.get? b = some o → h'.get? b = some o) → EP X pins σ Q v { s with heap := h', toks := tk } := fun v h' tk cs r k => by
    rw [PySem.W.minD_ints] at r
    obtain ⟨t, rfl⟩ := reads_int r
    exact ⟨.int _, H, I.kept (t' := tk) k, ⟨t, rfl⟩, q⟩
  have hz : X.A.units + 1 + PyData.depthAll (.int b :: bs.map PyData.int) < cLine := by
    have := ints_depth (b :: bs)
    rw [List.map_cons] at this
    rw [this]
    omega
  rcases h with h | h
  · obtain ⟨its, rv, pl, _⟩ := I.list h
    obtain ⟨as, ra⟩ := ints_reads (h := s.heap) rv
    exact PySem.W.min_list_data hd pl.isList ra (ints_alike (b :: bs)) hz fun i v h' tk cs hv r k => fin v h' tk cs r k
  · obtain ⟨its, rv, pl, _⟩ := I.tuple h
    obtain ⟨as, ra⟩ := ints_reads (h := s.heap) rv
    exact PySem.W.min_tuple_data hd (show s.heap.IsTuple a its.toArray from pl) ra (ints_alike (b :: bs)) hz fun i v h' tk cs hv r k => fin v h' tk cs r k
theorem max_data_ok (hd : X.A.handled = none) (hu : X.A.units + 64 < cLine) {pins : List (Addr × Obj)} {s : Shared} {σ : L2.St} {H : Hp} {a : Addr} {b : Int} {bs : List Int} {Q : VK} (I : Inv X pins σ H s) (h : SqL X.K H a ((b :: bs).map V.int) ∨ SqT X.K H a ((b :: bs).map V.int)) (q : Q (.int (bs.foldl max b)) H) :
    wpAny (model X.prog X.w) X.A (call (.builtin "max") [.ref a]) (EP X pins σ Q) X.xe s := by
  have fin : ∀ (v : Value) (h' : Heap) (tk : Nat) (cs : List Addr), Reads h' v (PySem.W.maxD (.int b) (bs.map PyData.int)) cs → (∀ b o, s.heap.get? b = some o → h'.get? b = some o) → EP X pins σ Q v { s with heap := h', toks := tk } := fun v h' tk cs r k => by
    rw [PySem.W.maxD_ints] at r
    obtain ⟨t, rfl⟩ := reads_int r
    exact ⟨.int _, H, I.kept (t' := tk) k, ⟨t, rfl⟩, q⟩
  have hz : X.A.units + 1 + PyData.depthAll (.int b :: bs.map PyData.int) < cLine := by
    have := ints_depth (b :: bs)
    rw [List.map_cons] at this
    rw [this]
    omega
  rcases h with h | h
  · obtain ⟨its, rv, pl, _⟩ := I.list h
    obtain ⟨as, ra⟩ := ints_reads (h := s.heap) rv
    exact PySem.W.max_list_data hd pl.isList ra (ints_alike (b :: bs)) hz fun i v h' tk cs hv r k => fin v h' tk cs r k
  · obtain ⟨its, rv, pl, _⟩ := I.tuple h
    obtain ⟨as, ra⟩ := ints_reads (h := s.heap) rv
    exact PySem.W.max_tuple_data hd (show s.heap.IsTuple a its.toArray from pl) ra (ints_alike (b :: bs)) hz fun i v h' tk cs hv r k => fin v h' tk cs r k
theorem c_min (hc : X.calm = true) (hd : X.A.handled = none) (hu : X.A.units + 64 < cLine) : CallD X 1 k (.builtin "min") fMin := fun pins s σ H xs us Q I r h => by
  obtain ⟨ex, ds, d, ext, rs, e, q⟩ := h
  unfold fMin at e
  split at e
  · cases e
    cases rs with
    | cons r1 t =>
      cases t with
      | cons r2 t =>
        cases t
        rw [RB.int r1, RB.int r2] at *
        exact call_min2 hc pins s σ H _ us Q I r ⟨_, _, rfl, q.int⟩
  · split at e
    · rename_i b bs hb
      cases e
      cases rs with
      | cons r1 t =>
        cases t
        obtain ⟨a, ys, rfl, h1, _, h3⟩ := RB.lst r1
        rw [nums_vals h3 hb] at h1
        rw [Vals.ref1 r]
        exact min_data_ok hd hu I (.inl h1) q.int
    · cases e
  · split at e
    · rename_i b bs hb
      cases e
      cases rs with
      | cons r1 t =>
        cases t
        obtain ⟨a, ys, rfl, h1, _, h3⟩ := RB.tup r1
        rw [nums_vals (n := 0) h3 hb] at h1
        rw [Vals.ref1 r]
        exact min_data_ok hd hu I (.inr h1) q.int
    · cases e
  · cases e
theorem c_max (hc : X.calm = true) (hd : X.A.handled = none) (hu : X.A.units + 64 < cLine) : CallD X 1 k (.builtin "max") fMax := fun pins s σ H xs us Q I r h => by
  obtain ⟨ex, ds, d, ext, rs, e, q⟩ := h
  unfold fMax at e
  split at e
  · cases e
    cases rs with
    | cons r1 t =>
      cases t with
      | cons r2 t =>
        cases t
        rw [RB.int r1, RB.int r2] at *
        exact call_max2 hc pins s σ H _ us Q I r ⟨_, _, rfl, q.int⟩
  · split at e
    · rename_i b bs hb
      cases e
      cases rs with
      | cons r1 t =>
        cases t
        obtain ⟨a, ys, rfl, h1, _, h3⟩ := RB.lst r1
        rw [nums_vals h3 hb] at h1
        rw [Vals.ref1 r]
        exact max_data_ok hd hu I (.inl h1) q.int
    · cases e
  · split at e
    · rename_i b bs hb
      cases e
      cases rs with
      | cons r1 t =>
        cases t
        obtain ⟨a, ys, rfl, h1, _, h3⟩ := RB.tup r1
        rw [nums_vals (n := 0) h3 hb] at h1
        rw [Vals.ref1 r]
        exact max_data_ok hd hu I (.inr h1) q.int
    · cases e
  · cases e
end
end Px

namespace Px
open PySem PySem.Spec PyProof.Rows L2

/-! ### slices -/
abbrev TOf (X : Cx) (W : WX) (L : List Nat) (f : Env → Res (Option Int)) : TO := fun σ H Q => ∃ ex ρ fp, SI X.K ex L ρ σ H fp ∧ Out X W σ H (f ρ) fun o => ∀ H', Same H H' → Q o H'
abbrev EP (X : Cx) (W : WX) (L : List Nat) (e : Option Expr) (f : Env → Res (Option Int)) : Prop := PO X e (TOf X W L f)
def oNone : Env → Res (Option Int) := fun _ => .ok none
def oSome (f : EF) : Env → Res (Option Int) := fun ρ => f ρ >>= fun d => match d with
  | .int i => .ok (some i)
  | _ => .err
theorem PO.imp {X : Cx} {e : Option Expr} {t t' : TO} (h : PO X e t) (m : ∀ σ H Q, t' σ H Q → t σ H Q) : PO X e t' := ⟨fun pins s σ H Q I q => h.run pins s σ H Q I (m σ H Q q)⟩
/-- the places lo .. hi of a list -/
def cut {α : Type} (xs : List α) (lo hi : Option Int) : List α := (xs.drop (HT.sIx xs.length 0 lo)).take (HT.sIx xs.length xs.length hi - HT.sIx xs.length 0 lo)
theorem cut_length {α : Type} (xs : List α) (lo hi : Option Int) : (cut xs lo hi).length ≤ xs.length := by
  unfold cut
  rw [List.length_take, List.length_drop]
  omega
def dSl : D → Option Int → Option Int → Res D
  | .lst xs, lo, hi => .ok (.lst (cut xs lo hi))
  | .tup xs, lo, hi => .ok (.tup (cut xs lo hi))
  | .str s, lo, hi => if s.length ≤ sizeLine then .ok (.str ⟨(cut s.cps.toList lo hi).toArray⟩) else .err
  | _, _, _ => .err
def eSl (f : EF) (lo hi : Env → Res (Option Int)) : EF := fun ρ => f ρ >>= fun d => lo ρ >>= fun a => hi ρ >>= fun b => dSl d a b
def dRev : D → Res D
  | .lst xs => .ok (.lst xs.reverse)
  | .tup xs => .ok (.tup xs.reverse)
  | .str s => if s.length ≤ sizeLine then .ok (.str ⟨s.cps.toList.reverse.toArray⟩) else .err
  | _ => .err
theorem dRev_nx : NoX1 dRev := fun a c h => by
  unfold dRev at h
  split at h <;> first | cases h | (split at h <;> cases h)
theorem slice_rev (n : Nat) : Builtin.Str.strSliceIndices none none (-1) n = (List.range n).reverse := by
  have h1 : ¬ ((-1 : Int) > 0) := by omega
  simp only [Builtin.Str.strSliceIndices, sliceRange, h1, if_false]
  have e : (if (n : Int) - 1 > -1 then ((n : Int) - 1 - -1 - -1 - 1) / (- -1) else 0).toNat = n := by
    split
    · rw [Int.neg_neg, Int.ediv_one]; omega
    · simp; omega
  rw [e]
  apply List.ext_getElem
  · simp
  · intro i h2 h3
    simp at h2
    simp
    omega
theorem pick_revS (z : Str) : ((List.range z.length).reverse.filterMap (z.cps[·]?)).toArray = z.cps.toList.reverse.toArray := by
  congr 1
  rw [List.filterMap_reverse]
  congr 1
  obtain ⟨⟨l⟩⟩ := z
  show (List.range l.length).filterMap (fun i => (l.toArray)[i]?) = l
  have key : ∀ k, k ≤ l.length → (List.range k).filterMap (fun i => (l.toArray)[i]?) = l.take k := fun k => by
    induction k with
    | zero => intro _; simp
    | succ k ih =>
      intro hk
      rw [List.range_succ, List.filterMap_append, ih (by omega), List.take_add_one]
      congr 1
      simp [List.getElem?_eq_getElem (show k < l.length by omega)]
  have := key l.length (Nat.le_refl _)
  rw [List.take_length] at this
  exact this
section
variable {prog : Program} {w : World} {A : Around} {E : Value → Shared → Prop} {s : Shared}
theorem sliceApplied_rev {sl : Addr} {vl vu : Value} {t : Tok} {n : Nat} {Q : Int × Int × Nat → Shared → Prop} (hs : s.heap.IsSliceOf sl vl vu (.int (-1) t)) (pl : IsPart vl none) (pu : IsPart vu none) (h : Q ((n : Int) - 1, -1, n) s) :
    wpAny (model prog w) A (Builtin.Slice.sliceApplied (.ref sl) (pure (n : Int))) Q E s := by
  obtain ⟨os, hos, hcs, hds⟩ := id hs
  unfold Builtin.Slice.sliceApplied Builtin.Slice.sliceFields
  refine wpAny_bind (wpAny_bind (wpAny_field hos hds (x := vl) rfl (wpAny_bind (wpAny_field hos hds (x := vu) rfl (wpAny_bind (wpAny_field hos hds (x := .int (-1) t) rfl (wpAny_pure ?_)))))))
  refine wpAny_bind (slicePart_int ?_)
  show wpAny _ _ (if ((-1 : Int) == 0) = true then _ else _) _ _ s
  rw [if_neg (by decide)]
  refine wpAny_bind (HT.slicePart_ pl (wpAny_bind (HT.slicePart_ pu (wpAny_bind (wpAny_pure ?_)))))
  have e : Builtin.Slice.slicePlaces ((n : Int) - 1) (-1) (-1) = n := by
    unfold Builtin.Slice.slicePlaces
    have h1 : ¬ ((-1 : Int) > 0) := by omega
    simp only [h1, if_false, Int.neg_neg, Int.ediv_one]
    split <;> omega
  show wpAny _ _ (pure ((n : Int) - 1, (-1 : Int), Builtin.Slice.slicePlaces ((n : Int) - 1) (-1) (-1))) _ _ s
  rw [e]
  exact wpAny_pure h
theorem pick_rev (xs : Array Value) : ((List.range xs.size).filterMap fun (m : Nat) => xs[(((xs.size : Nat) : Int) - 1 + (m : Int) * (-1)).toNat]?).toArray = xs.toList.reverse.toArray := by
  congr 1
  obtain ⟨l⟩ := xs
  have key : ∀ (k : Nat), k ≤ l.length → ((List.range k).filterMap fun (m : Nat) => l[((l.length : Int) - 1 + (m : Int) * (-1)).toNat]?) = l.reverse.take k := by
    intro k
    induction k with
    | zero => intro _; simp
    | succ k ih =>
      intro hk
      rw [List.range_succ, List.filterMap_append, ih (by omega), List.take_add_one]
      congr 1
      have e1 : ((l.length : Int) - 1 + (k : Int) * (-1)).toNat = l.length - 1 - k := by omega
      have e2 : l.reverse[k]? = l[l.length - 1 - k]? := by rw [List.getElem?_reverse (by omega)]
      simp only [List.filterMap_cons, List.filterMap_nil, e1, e2]
      cases q : l[l.length - 1 - k]? <;> simp
  have := key l.length (Nat.le_refl _)
  rw [List.take_of_length_le (by rw [List.length_reverse]; exact Nat.le_refl _)] at this
  simpa using this
theorem getItem_tuple_rev {t sl : Addr} {items : Array Value} {vl vu : Value} {k : Tok} {Q : Value → Shared → Prop} (ht : IsTup s.heap t items) (hs : s.heap.IsSliceOf sl vl vu (.int (-1) k)) (pl : IsPart vl none) (pu : IsPart vu none)
    (h : Q (.ref s.heap.objs.size) { s with heap := s.heap.push { cls := .type "tuple", data := .seq items.toList.reverse.toArray } })
    (hsz : items.size ≤ sizeLine) : wpAny (model prog w) A (getItem (.ref t) (.ref sl)) Q E s := by
  have htake : sizeOk (.seq items.toList.reverse.toArray) := by
    show items.toList.reverse.toArray.size ≤ sizeLine
    rw [List.size_toArray, List.length_reverse, Array.length_toList]
    exact hsz
  obtain ⟨os, hos, hcs, hds⟩ := id hs
  have hTs : s.TypeIs (.ref sl) "slice" := ⟨os, hos, hcs⟩
  unfold getItem
  try with_reducible refine wpAny_holding ?_
  first | refine wpAny_bind (wpAny_pure ?_) | skip
  refine wpAny_bind (wpAny_sequenceKey ht.typeIs (by decide) ?_)
  refine wpAny_bind (wpAny_callSpecial?_slot (name := Str.ofString "__getitem__") ht.typeIs PyProof.Rows.slot_tuple_getitem
    (wpAny_call_entry PyProof.Rows.slot_tuple_getitem ht.typeIs entry_tuple_getitem ?_ (args_tuple_getitem _ _)))
  show wpAny _ _ (Builtin.Tuple.tupleItemsOf (.ref t) >>= _) _ _ s
  refine wpAny_bind (tupleItemsOf_ ht ?_)
  refine wpAny_bind (wpAny_typeOf hTs ?_)
  rw [if_pos (by decide)]
  refine wpAny_bind (sliceApplied_rev hs pl pu ?_)
  have hno : ¬ (((((items.size : Nat) : Int) - 1 == 0 && (-1 : Int) == 1) && items.size == items.size) = true) := by
    intro q
    rw [Bool.and_eq_true, Bool.and_eq_true] at q
    exact absurd q.1.2 (by decide)
  show wpAny _ _ (if (((((items.size : Nat) : Int) - 1 == 0 && (-1 : Int) == 1) && items.size == items.size) = true) then _ else _) _ _ s
  rw [if_neg hno, pick_rev]
  first
    | exact wpAny_bind (m := Builtin.Tuple.tupleExact _) (wpAny_newObj_type (wpAny_pure ⟨_, rfl, wpAny_pure h⟩) htake)
    | exact wpAny_bind (m := Builtin.Tuple.tupleExact _) (wpAny_newObj_type (wpAny_bind (wpAny_pure (wpAny_pure ⟨_, rfl, wpAny_pure h⟩))) htake)
    | exact wpAny_bind (wpAny_bind (m := Builtin.Tuple.tupleExact _) (wpAny_newObj_type (wpAny_pure (wpAny_pure ⟨_, rfl, wpAny_pure h⟩)) htake))
    | exact wpAny_bind (wpAny_bind (m := Builtin.Tuple.tupleExact _) (wpAny_newObj_type (wpAny_pure ⟨_, rfl, wpAny_pure h⟩) htake))
end
section
variable {X : Cx} {W : WX} {L : List Nat} {n k : Nat} {pos p2 : Pos} {e : Expr} {lo hi : Option Expr} {f : EF} {fl fh : Env → Res (Option Int)}
theorem ep_none : EP X W L none oNone := PO.imp po_none fun σ H Q ⟨ex, ρ, fp, I, o⟩ => o H (Same.refl H)
theorem ep_some (h : EB X W L n e f) : EP X W L (some e) (oSome f) := PO.imp (po_some h) fun σ H Q ⟨ex, ρ, fp, I, o⟩ => ⟨ex, ρ, fp, I, o.bind.mono fun d q v H1 e1 r1 => by
  cases d with
  | int i => exact ⟨i, r1.int, q H1 e1⟩
  | _ => exact q.elim⟩
theorem eo_sl (he : EB X W L 1 e f) (hl : EP X W L lo fl) (hu : EP X W L hi fh) : EO X W L 1 (.Subscript e (.Slice lo hi none p2) pos) (eSl f fl fh) :=
  PE.imp (pe_slice (SlR.or sl_list (SlR.or sl_tupA sl_str)) he hl hu) fun σ H Q ⟨ex, ρ, fp, I, o⟩ => by
    refine ⟨ex, ρ, fp, I, o.bind.mono fun d q1 v H1 e1 r1 => ⟨ex, ρ, fp, I.same e1, (q1.bind.later e1).mono fun a q2 H2 e2 => ⟨ex, ρ, fp, (I.same e1).same e2, ((q2.bind.later (e1.trans e2))).mono fun b q3 H3 e3 => ?_⟩⟩⟩
    have r3 := (r1.same e2).same e3
    have e4 := (e1.trans e2).trans e3
    cases d with
    | lst xs =>
      obtain ⟨p, ys, rfl, h1, h2, h3⟩ := r3.lst
      have hc : Paired (R X.K ex H3) (cut xs a b) (cutV ys a b) := by
        unfold cut cutV
        rw [← h3.length]
        exact Paired.takeP _ (Paired.dropP _ h3)
      exact .inl ⟨p, ys, rfl, h1, fun l hl => QO.lst (K := X.K) (ex := ex) (fun v H5 fq e5 ro nd nw => q3 v H5 fq (e4.trans e5) ro nd fun a ha => e4.free (nw a ha)) hc hl (Nat.le_trans (cutV_length ys a b) h2)⟩
    | tup xs =>
      obtain ⟨p, ys, rfl, h1, h2, h3⟩ := r3.tup
      have hc : Paired (R X.K ex H3) (cut xs a b) (cutV ys a b) := by
        unfold cut cutV
        rw [← h3.length]
        exact Paired.takeP _ (Paired.dropP _ h3)
      have q4 : QO X.K ex H3 1 Q (.tup (cut xs a b)) := fun v H5 fq e5 ro nd nw => q3 v H5 fq (e4.trans e5) ro nd fun a ha => e4.free (nw a ha)
      refine .inr (.inl ⟨p, ys, rfl, h1, fun hw => q4.flat ?_ rfl, fun _ l hl => q4.tup hc hl (Nat.le_trans (cutV_length ys a b) h2)⟩)
      have ew : cut xs a b = xs := by
        unfold cut
        rw [h3.length, hw.1, hw.2, List.drop_zero, Nat.sub_zero, ← h3.length, List.take_length]
      rw [ew, R]
      exact ⟨p, ys, rfl, ⟨h1, h2⟩, RL.of h3⟩
    | str z =>
      by_cases hz : z.length ≤ sizeLine
      · have e5 : dSl (.str z) a b = .ok (.str ⟨(cut z.cps.toList a b).toArray⟩) := if_pos hz
        rw [e5] at q3
        have q4 : QO X.K ex H3 1 Q _ := fun v H5 fq e5 ro nd nw => q3 v H5 fq (e4.trans e5) ro nd fun a ha => e4.free (nw a ha)
        refine .inr (.inr ⟨z, r3.str, hz, ?_⟩)
        have := q4.str
        unfold cutS
        unfold cut at this
        rw [Array.length_toList] at this
        exact this
      · have e5 : dSl (.str z) a b = .err := if_neg hz
        rw [e5] at q3
        exact q3.elim
    | _ => exact q3.elim
theorem eo_rev {kk : Nat} {p1 p3 : Pos} (he : EB X W L 1 e f) : EO X W L 1 (.Subscript e (.Slice none none (some (.UnaryOp .USub (.Constant (.int 1) kk p1) p2)) p3) pos) (eUn dRev f) := by
  refine ⟨fun pins s σ H Q I ⟨ex, ρ, fp, S, o⟩ => ?_⟩
  refine Subscript_ (thn (he.run pins s σ H (fun x H1 => ∃ d, Same H H1 ∧ RB X.K ex H1 1 d x ∧ Out X W σ H (dRev d) fun d => QO X.K ex H1 1 Q d) I
    ⟨ex, ρ, fp, S, o.bind.mono fun d q v H1 e1 r1 => ⟨d, e1, r1, q.mono fun z q2 v H5 fq e5 ro nd nw => q2 v H5 fq (e1.trans e5) ro nd fun a ha => e1.free (nw a ha)⟩⟩) fun v s1 ⟨x, H1, I1, r1, d, e1, rb, q1⟩ => ?_)
  have hst : PO X (some (.UnaryOp .USub (.Constant (.int 1) kk p1) p2)) (tPart (tUn (rU fun i => .int (-i)) (tC (.int 1)))) := po_some (pe_un un_neg pe_int)
  refine wpAny_Slice (thn (po_none.run pins s1 σ H1 (fun o H2 => o = none ∧ H2 = H1) I1 ⟨rfl, rfl⟩) fun vl s2 ⟨l, H2, I2, pl, el, e2⟩ => ?_)
  subst el e2
  refine thn (po_none.run pins s2 σ H2 (fun o H3 => o = none ∧ H3 = H2) I2 ⟨rfl, rfl⟩) fun vu s3 ⟨u, H3, I3, pu, eu, e3⟩ => ?_
  subst eu e3
  refine thn (hst.run pins s3 σ H3 (fun o H4 => o = some (-1) ∧ H4 = H3) I3 ⟨1, rfl, -1, rfl, rfl, rfl⟩) fun vs s4 ⟨o, H4, I4, ps, eo, e4⟩ => ?_
  subst eo e4
  have I5 : Inv X pins σ H4 { s4 with heap := s4.heap.push { cls := .type "slice", data := .fields #[vl, vu, vs] } } := I4.kept (t' := s4.toks) fun b ob q => Heap.get?_push_of_some _ q
  show wpAny (model X.prog X.w) X.A (subscriptTail e (.Slice none none (some (.UnaryOp .USub (.Constant (.int 1) kk p1) p2)) p3) v (.ref s4.heap.objs.size)) (L2.EP X pins σ Q) X.xe { s4 with heap := s4.heap.push { cls := .type "slice", data := .fields #[vl, vu, vs] } }
  obtain ⟨z, ez, qz⟩ := no_exc q1 (dRev_nx d)
  cases d with
  | lst xs =>
    cases ez
    obtain ⟨a, ys, rfl, hx, hl, h3⟩ := rb.lst
    cases r1
    obtain ⟨its, r, ht, hz⟩ := I5.list hx
    have hlen := r.length
    refine tail_any (ops := [.ref a, .ref s4.heap.objs.size]) ht.isList.typeIs (PySem.slot_list_getitem.lookup) ?_ (by with_unfolding_all rfl)
    refine wpAny_getItem_list_slice ht.isList (Heap.IsSliceOf.new _ vl vu vs) pl pu ps (by decide) ?_ (by rw [List.size_toArray]; omega)
    rw [PySem.W.krv_pick]
    refine ⟨.ref _, _, I5.laid (t' := s4.toks) (o := .lst ys.reverse) (fun b ob q => Heap.get?_push_of_some _ q) (Nat.le_refl _) ?_, rfl, qz.lst (Paired.revP h3) (I5.hok.fresh (Nat.le_refl _)) (by rw [List.length_reverse]; exact hl)⟩
    exact ⟨by rw [List.length_reverse]; exact hz, _, 0, r.reverse, Heap.get?_push_size _ rfl⟩
  | tup xs =>
    cases ez
    obtain ⟨a, ys, rfl, hx, hl, h3⟩ := rb.tup
    cases r1
    obtain ⟨its, r, ht, hz⟩ := I5.tuple hx
    have hlen := r.length
    refine tail_any (ops := [.ref a, .ref s4.heap.objs.size]) ht.typeIs (PyProof.Rows.slot_tuple_getitem.lookup) ?_ (by with_unfolding_all rfl)
    cases ps with
    | int i t =>
      refine getItem_tuple_rev ht (Heap.IsSliceOf.new _ vl vu (.int (-1) t)) pl pu ?_ (by rw [List.size_toArray]; omega)
      refine ⟨.ref _, _, I5.laid (t' := s4.toks) (o := .tup ys.reverse) (fun b ob q => Heap.get?_push_of_some _ q) (Nat.le_refl _) ?_, rfl, qz.tup (Paired.revP h3) (I5.hok.fresh (Nat.le_refl _)) (by rw [List.length_reverse]; exact hl)⟩
      exact ⟨by rw [List.length_reverse]; exact hz, its.reverse, r.reverse, IsTup.new _ _⟩
  | str z =>
    by_cases hz : z.length ≤ sizeLine
    · have e5 : dRev (.str z) = .ok (.str ⟨z.cps.toList.reverse.toArray⟩) := if_pos hz
      rw [e5] at ez
      have ez := Res.ok.inj ez
      subst ez
      have hx := rb.str
      subst hx
      obtain ⟨tk, rfl⟩ := r1
      cases pl with
      | none =>
        cases pu with
        | none =>
          cases ps with
          | int i t =>
            refine tail_any (ops := [.str z tk, .ref s4.heap.objs.size]) (PySem.typeIs_str _ z tk) PySem.F.slot_str_getitem.lookup ?_ (by with_unfolding_all rfl)
            refine wpAny_getItem_str_slice (l := none) (u := none) (st := some (-1, t)) (Heap.IsSliceOf.new _ .none .none (.int (-1) t)) rfl ?_
            show Made.post (if ((-1 : Int) == 1 && (Builtin.Str.strSliceIndices none none (-1) z.length).length == z.length) = true then Made.val (.str z tk)
              else Made.str ⟨((Builtin.Str.strSliceIndices none none (-1) z.length).filterMap (z.cps[·]?)).toArray⟩) _ _
            rw [if_neg (by simp), slice_rev, pick_revS]
            refine ⟨?_, .str _, H4, I5.tok _, ⟨_, rfl⟩, qz.str⟩
            show z.cps.toList.reverse.toArray.size ≤ sizeLine
            rw [List.size_toArray, List.length_reverse, Array.length_toList]
            exact hz
    · have e5 : dRev (.str z) = .err := if_neg hz
      rw [e5] at ez
      cases ez
  | _ => cases ez
end
end Px

namespace Px
open PySem PySem.Spec PyProof.Rows L2

/-! ### walks -/
/-- what a walk leans on: two things that stand -/
def HR (K : PySem.W.Frag) (ex : AS) (H : Hp) (n : Nat) (g : (D × V) × (D × V)) : Prop := RB K ex H n g.1.1 g.1.2 ∧ RB K ex H n g.2.1 g.2.2
theorem HR.one {K : PySem.W.Frag} {ex : AS} {H : Hp} {n : Nat} {d : D} {v : V} (h : RB K ex H n d v) : HR K ex H n ((d, v), (.non, .non)) := ⟨h, RB.of (by rw [R])⟩
theorem HR.nil {K : PySem.W.Frag} {ex : AS} {H : Hp} {n : Nat} : HR K ex H n ((.non, .non), (.non, .non)) := ⟨RB.of (by rw [R]), RB.of (by rw [R])⟩
/-- an iterator that yields ds one by one, while g is held -/
structure Itn (K : PySem.W.Frag) (n : Nat) (J : It) (g : (D × V) × (D × V)) (ds : List D) : Prop where
  len : ds.length ≤ sizeLine
  go : ∀ ex H i, HR K ex H n g → i < ds.length → J.go i H
  stop : ∀ ex H, HR K ex H n g → J.stop ds.length H
  item : ∀ ex H i d x H', HR K ex H n g → ds[i]? = some d → J.yld i H x H' → Same H H' ∧ RB K ex H' (n - 1) d x
def tI (X : Cx) (W : WX) (L : List Nat) (n : Nat) (f : Env → Res (List D)) : TI := fun σ H R => ∃ ex ρ fp, SI X.K ex L ρ σ H fp ∧ Out X W σ H (f ρ) fun ds => ∀ J H' g, Same H H' → HR X.K ex H' n g → Itn X.K n J g ds → R J H'
abbrev EI (X : Cx) (W : WX) (L : List Nat) (n : Nat) (tg e : Expr) (f : Env → Res (List D)) : Prop := PI X tg e (tI X W L n f)
theorem PI.imp {X : Cx} {tg e : Expr} {t t' : TI} (h : PI X tg e t) (m : ∀ σ H Q, t' σ H Q → t σ H Q) : PI X tg e t' := ⟨fun pins s σ H R I q => h.run pins s σ H R I (m σ H R q)⟩
def signs (s : Str) : List D := s.cps.toList.map fun c => .str ⟨#[c]⟩
def dItems : D → Res (List D)
  | .lst xs => .ok xs
  | .tup xs => .ok xs
  | .str s => if s.length ≤ sizeLine then .ok (signs s) else .err
  | _ => .err
theorem dItems_nx : NoX1 dItems := fun a c h => by
  unfold dItems at h
  split at h <;> first | cases h | (split at h <;> cases h)
theorem itn_list {K : PySem.W.Frag} {n : Nat} {ds : List D} {a : Addr} (hl : ds.length ≤ sizeLine) : Itn K n (Itl K a) ((.lst ds, .ref a), (.non, .non)) ds := by
  have ob : ∀ ex H, RB K ex H n (.lst ds) (.ref a) → ∃ xs, SqL K H a xs ∧ Paired (RB K ex H (n - 1)) ds xs := fun ex H h => by
    cases n with
    | zero =>
      rw [RB, R] at h
      obtain ⟨b, xs, e, h1, h2⟩ := h
      cases e
      exact ⟨xs, h1.1.sq, RL.pair h2⟩
    | succ n =>
      obtain ⟨b, xs, e, h1, h2, h3⟩ := RB.lst h
      cases e
      exact ⟨xs, h1, h3⟩
  refine ⟨hl, fun ex H i h hi => ?_, fun ex H h => ?_, fun ex H i d x H' h hd hy => ?_⟩
  · obtain ⟨xs, h1, h2⟩ := ob ex H h.1
    obtain ⟨x, hx, _⟩ := Paired.get h2 (List.getElem?_eq_getElem hi)
    exact ⟨xs, x, h1, hx⟩
  · obtain ⟨xs, h1, h2⟩ := ob ex H h.1
    exact ⟨xs, h1, by rw [h2.length]; exact Nat.le_refl _⟩
  · obtain ⟨xs, h1, h2⟩ := ob ex H h.1
    obtain ⟨y, hy1, ry⟩ := Paired.get h2 hd
    obtain ⟨rfl, hy2⟩ := hy
    have := hy2 xs h1
    rw [hy1] at this
    cases this
    exact ⟨Same.refl _, ry⟩
theorem itn_tup {K : PySem.W.Frag} {n : Nat} {ds : List D} {a : Addr} (hl : ds.length ≤ sizeLine) : Itn K n (Itt K a) ((.tup ds, .ref a), (.non, .non)) ds := by
  have ob : ∀ ex H, RB K ex H n (.tup ds) (.ref a) → ∃ xs, SqT K H a xs ∧ Paired (R K ex H) ds xs := fun ex H h => by
    obtain ⟨b, xs, e, h1, h2, h3⟩ := RB.tup h
    cases e
    exact ⟨xs, h1, h3⟩
  refine ⟨hl, fun ex H i h hi => ?_, fun ex H h => ?_, fun ex H i d x H' h hd hy => ?_⟩
  · obtain ⟨xs, h1, h2⟩ := ob ex H h.1
    obtain ⟨x, hx, _⟩ := Paired.get h2 (List.getElem?_eq_getElem hi)
    exact ⟨xs, x, h1, hx⟩
  · obtain ⟨xs, h1, h2⟩ := ob ex H h.1
    exact ⟨xs, h1, by rw [h2.length]; exact Nat.le_refl _⟩
  · obtain ⟨xs, h1, h2⟩ := ob ex H h.1
    obtain ⟨y, hy1, ry⟩ := Paired.get h2 hd
    obtain ⟨rfl, hy2⟩ := hy
    have := hy2 xs h1
    rw [hy1] at this
    cases this
    exact ⟨Same.refl _, RB.of ry⟩
theorem itn_str {K : PySem.W.Frag} {n : Nat} {x : Str} (hl : x.length ≤ sizeLine) : Itn K n (Its x) ((.non, .non), (.non, .non)) (signs x) := by
  have el : (signs x).length = x.cps.size := by
    unfold signs
    rw [List.length_map, Array.length_toList]
  refine ⟨by rw [el]; exact hl, fun ex H i h hi => ?_, fun ex H h => ?_, fun ex H i d v H' h hd hy => ?_⟩
  · show i < x.cps.size
    rw [← el]
    exact hi
  · show x.cps.size ≤ (signs x).length
    rw [el]
    exact Nat.le_refl _
  · obtain ⟨rfl, c, hc, rfl⟩ := hy
    unfold signs at hd
    rw [List.getElem?_map, Array.getElem?_toList, hc] at hd
    cases hd
    exact ⟨Same.refl _, RB.of (by rw [R])⟩
def rng (lo : Int) (n : Nat) : List D := (List.range n).map fun i => .int (lo + (i : Nat))
def rngC (lo c : Int) (n : Nat) : List D := (List.range n).map fun i => .int (lo + (i : Nat) * c)
theorem itn_rng {K : PySem.W.Frag} {n k : Nat} {lo : Int} (hl : k ≤ sizeLine) : Itn K n (Itr lo k) ((.non, .non), (.non, .non)) (rng lo k) := by
  have el : (rng lo k).length = k := by
    unfold rng
    rw [List.length_map, List.length_range]
  refine ⟨by rw [el]; exact hl, fun ex H i h hi => ?_, fun ex H h => ?_, fun ex H i d v H' h hd hy => ?_⟩
  · show i < k
    rw [← el]
    exact hi
  · show k ≤ _
    rw [el]
    exact Nat.le_refl _
  · obtain ⟨rfl, rfl⟩ := hy
    have hi : i < k := by
      obtain ⟨h1, _⟩ := List.getElem?_eq_some_iff.mp hd
      rw [el] at h1
      exact h1
    unfold rng at hd
    rw [List.getElem?_map, List.getElem?_range hi] at hd
    cases hd
    exact ⟨Same.refl _, RB.of (by rw [R])⟩
theorem itn_rngC {K : PySem.W.Frag} {n k : Nat} {lo c : Int} (hl : k ≤ sizeLine) : Itn K n (Itc lo c k) ((.non, .non), (.non, .non)) (rngC lo c k) := by
  have el : (rngC lo c k).length = k := by
    unfold rngC
    rw [List.length_map, List.length_range]
  refine ⟨by rw [el]; exact hl, fun ex H i h hi => ?_, fun ex H h => ?_, fun ex H i d v H' h hd hy => ?_⟩
  · show i < k
    rw [← el]
    exact hi
  · show k ≤ _
    rw [el]
    exact Nat.le_refl _
  · obtain ⟨rfl, rfl⟩ := hy
    have hi : i < k := by
      obtain ⟨h1, _⟩ := List.getElem?_eq_some_iff.mp hd
      rw [el] at h1
      exact h1
    unfold rngC at hd
    rw [List.getElem?_map, List.getElem?_range hi] at hd
    cases hd
    exact ⟨Same.refl _, RB.of (by rw [R])⟩
def iSeq (f : EF) : Env → Res (List D) := eUn dItems f
def dRng1 : List D → Res (List D)
  | [.int j] => if j ≤ 16777216 ∧ -(2 ^ 62) ≤ j then .ok (rng 0 j.toNat) else .err
  | _ => .err
def dRng2 : List D → Res (List D)
  | [.int i, .int j] => if j - i ≤ 16777216 ∧ -(2 ^ 62) ≤ i ∧ i < 2 ^ 62 ∧ -(2 ^ 62) ≤ j ∧ j < 2 ^ 62 then .ok (rng i (j - i).toNat) else .err
  | _ => .err
def dRng3 : List D → Res (List D)
  | [.int i, .int j, .int c] => if c = -1 ∧ i - j ≤ 16777216 ∧ -(2 ^ 62) ≤ i ∧ i < 2 ^ 62 ∧ -(2 ^ 62) ≤ j ∧ j < 2 ^ 62 then .ok (rngC i (-1) (i - j).toNat) else .err
  | _ => .err
def iCall (o : List D → Res (List D)) (fs : Env → Res (List D)) : Env → Res (List D) := fun ρ => fs ρ >>= o
section
variable {X : Cx} {W : WX} {L : List Nat} {n k m n2 : Nat} {pos p : Pos} {e tg a b c : Expr} {f : EF} {fs : Env → Res (List D)}
theorem line_eq : (sizeLine : Nat) = 16777216 := by decide
theorem ei_seq (he : EB X W L n e f) : EI X W L n tg e (iSeq f) := by
  refine ⟨fun pins s σ H Rr I ⟨ex, ρ, fp, S, o⟩ => ?_⟩
  refine thn (he.run pins s σ H (fun x H1 => ∃ d, Same H H1 ∧ RB X.K ex H1 n d x ∧ Out X W σ H (dItems d) fun ds => ∀ J H' g, Same H H' → HR X.K ex H' n g → Itn X.K n J g ds → Rr J H') I
    ⟨ex, ρ, fp, S, o.bind.mono fun d q v H1 e1 r1 => ⟨d, e1, r1, q⟩⟩) fun v s1 ⟨x, H1, I1, r1, d, e1, rb, q⟩ => ?_
  obtain ⟨ds, ed, qd⟩ := no_exc q (dItems_nx d)
  cases d with
  | lst xs =>
    cases ed
    obtain ⟨a, ys, rfl, h1, h2, h3⟩ := rb.up.lst
    cases r1
    obtain ⟨its, rv, p, hz⟩ := I1.list h1
    refine wpAny_pyIter_list p.isList (pi_one (tk := s1.toks) I1 _ (turn_list a _) ⟨_, Heap.get?_push_size _ rfl, rfl, rfl⟩ (qd _ H1 ((_, .ref a), (.non, .non)) e1 (HR.one rb) (itn_list (by rw [h3.length]; exact h2))))
  | tup xs =>
    cases ed
    obtain ⟨a, ys, rfl, h1, h2, h3⟩ := rb.tup
    cases r1
    obtain ⟨its, rv, p, hz⟩ := I1.tuple h1
    refine wpAny_pyIter_tuple (show s1.heap.IsTuple a its.toArray from p) (pi_one (tk := s1.toks) I1 _ (turn_tuple a _) ⟨_, Heap.get?_push_size _ rfl, rfl, rfl⟩ (qd _ H1 ((_, .ref a), (.non, .non)) e1 (HR.one rb) (itn_tup (by rw [h3.length]; exact h2))))
  | str z =>
    have eq : dItems (.str z) = if z.length ≤ sizeLine then .ok (signs z) else .err := rfl
    rw [eq] at ed
    split at ed
    · rename_i hz
      cases ed
      rw [rb.str] at r1
      obtain ⟨t, rfl⟩ := r1
      cases ha : z.cps.all (· < 128)
      · exact wpAny_pyIter_wide ha (pi_one (tk := s1.toks) I1 _ (turn_str _ z t "str_iterator" (.inr rfl)) ⟨_, Heap.get?_push_size _ rfl, rfl, rfl⟩ (qd _ H1 ((.non, .non), (.non, .non)) e1 HR.nil (itn_str hz)))
      · exact wpAny_pyIter_ascii ha (pi_one (tk := s1.toks) I1 _ (turn_str _ z t "str_ascii_iterator" (.inl rfl)) ⟨_, Heap.get?_push_size _ rfl, rfl, rfl⟩ (qd _ H1 ((.non, .non), (.non, .non)) e1 HR.nil (itn_str hz)))
    · cases ed
  | _ => cases ed
theorem ei_range1 (hg : Gl X "range") (hm : X.mg "range" = none) (ha : EA X W L n2 m [a] fs) (hs : starEach [a] X.env = [(false, eval a X.env)] := by rfl) : EI X W L n tg (.Call (.Name "range" p) [a] [] pos) (iCall dRng1 fs) :=
  PI.imp (pi_range1 hg hm ha hs) fun σ H Q ⟨ex, ρ, fp, I, o⟩ => ⟨ex, ρ, fp, I, o.bind.mono fun ds q vs H1 e1 r1 _ => by
    unfold dRng1 at q
    split at q
    · split at q
      · rename_i j hj
        cases r1 with
        | cons r t =>
          cases t
          rw [RB.int r]
          have hj' := hj
          exact ⟨j, rfl, hj.2, by omega, q (Itr 0 j.toNat) H1 ((.non, .non), (.non, .non)) e1 HR.nil (itn_rng (by rw [line_eq]; omega))⟩
      · exact q.elim
    · exact q.elim⟩
theorem ei_range2 (hg : Gl X "range") (hm : X.mg "range" = none) (ha : EA X W L n2 m [a, b] fs) (hs : starEach [a, b] X.env = [(false, eval a X.env), (false, eval b X.env)] := by rfl) (hs2 : starEach [b] X.env = [(false, eval b X.env)] := by rfl) :
    EI X W L n tg (.Call (.Name "range" p) [a, b] [] pos) (iCall dRng2 fs) :=
  PI.imp (pi_range2 hg hm ha hs hs2) fun σ H Q ⟨ex, ρ, fp, I, o⟩ => ⟨ex, ρ, fp, I, o.bind.mono fun ds q vs H1 e1 r1 _ => by
    unfold dRng2 at q
    split at q
    · split at q
      · rename_i i j hj
        cases r1 with
        | cons r t =>
          cases t with
          | cons r2 t =>
            cases t
            rw [RB.int r, RB.int r2]
            exact ⟨i, j, rfl, hj.2, q (Itr i (j - i).toNat) H1 ((.non, .non), (.non, .non)) e1 HR.nil (itn_rng (by rw [line_eq]; omega))⟩
      · exact q.elim
    · exact q.elim⟩
theorem ei_range3 (hg : Gl X "range") (hm : X.mg "range" = none) (ha : EA X W L n2 m [a, b, c] fs) (hs : starEach [a, b, c] X.env = (false, eval a X.env) :: starEach [b, c] X.env := by rfl) (hpl : (backTo pos (starEach [b, c] X.env)).any (·.1) = false := by rfl) :
    EI X W L n tg (.Call (.Name "range" p) [a, b, c] [] pos) (iCall dRng3 fs) :=
  PI.imp (pi_range3 hg hm ha hs hpl) fun σ H Q ⟨ex, ρ, fp, I, o⟩ => ⟨ex, ρ, fp, I, o.bind.mono fun ds q vs H1 e1 r1 _ => by
    unfold dRng3 at q
    split at q
    · split at q
      · rename_i i j c hj
        obtain ⟨hc, hj⟩ := hj
        subst hc
        cases r1 with
        | cons r t =>
          cases t with
          | cons r2 t =>
            cases t with
            | cons r3 t =>
              cases t
              rw [RB.int r, RB.int r2, RB.int r3]
              exact ⟨i, j, -1, (i - j).toNat, rfl, RgC.neg hj.2.1 hj.2.2.1 hj.2.2.2.1 hj.2.2.2.2, q (Itc i (-1) (i - j).toNat) H1 ((.non, .non), (.non, .non)) e1 HR.nil (itn_rngC (by rw [line_eq]; omega))⟩
      · exact q.elim
    · exact q.elim⟩
end

/-! ### targets -/
abbrev Sets := List (Nat × D × V)
def setE (ρ : Env) (l : Sets) : Env := l.foldl (fun ρ t => ρ.set t.1 (some t.2.1)) ρ
def setS (σ : L2.St) (l : Sets) : L2.St := l.foldl (fun σ t => σ.set t.1 (some t.2.2)) σ
/-- a target does what a function over data does; it sets the slots is -/
def GSem (K : PySem.W.Frag) (g : TG) (gf : Env → D → Res Env) (is : List Nat) : Prop :=
  ∀ ex v σ H Q d ρ ρ', R K ex H d v → gf ρ d = .ok ρ' → (∀ l : Sets, (∀ t ∈ l, R K ex H t.2.1 t.2.2 ∧ t.1 ∈ is) → ρ' = setE ρ l → Q (setS σ l) H) → g v σ H Q
def gfName (i : Nat) : Env → D → Res Env := fun ρ d => .ok (ρ.set i (some d))
theorem gs_name {K : PySem.W.Frag} (i : Nat) : GSem K (gName i) (gfName i) [i] := fun ex v σ H Q d ρ ρ' r e h => by
  cases e
  exact h [(i, d, v)] (fun t ht => by
    rw [List.mem_singleton.mp ht]
    exact ⟨r, List.mem_singleton.mpr rfl⟩) rfl
def setL (ρ : Env) : List Nat → List D → Env
  | i :: is, d :: ds => setL (ρ.set i (some d)) is ds
  | _, _ => ρ
def gfTup (is : List Nat) : Env → D → Res Env := fun ρ d => match d with
  | .tup ds => if ds.length = is.length then .ok (setL ρ is ds) else .err
  | _ => .err
def gNames : List Nat → TGs
  | [] => gNil
  | i :: is => gCons (gName i) (gNames is)
theorem gNames_ok {K : PySem.W.Frag} {ex : AS} {H : Hp} {Q : L2.St → Hp → Prop} : ∀ (is : List Nat) (ds : List D) (vs : List V) (σ : L2.St) (ρ : Env), ds.length = is.length → Paired (R K ex H) ds vs →
    (∀ l : Sets, (∀ t ∈ l, R K ex H t.2.1 t.2.2 ∧ t.1 ∈ is) → setL ρ is ds = setE ρ l → Q (setS σ l) H) → gNames is vs σ H Q
  | [], [], _, σ, ρ, _, .nil, h => ⟨rfl, h [] (fun t ht => nomatch ht) rfl⟩
  | [], _ :: _, _, _, _, e, _, _ => by simp at e
  | _ :: _, [], _, _, _, e, _, _ => by simp at e
  | i :: is, d :: ds, _, σ, ρ, e, .cons (b := v) r t, h => by
    refine ⟨v, _, rfl, ?_⟩
    refine gNames_ok is ds _ (σ.set i (some v)) (ρ.set i (some d)) (by simpa using e) t fun l hl e2 => ?_
    exact h ((i, d, v) :: l) (fun t ht => by
      rcases List.mem_cons.mp ht with rfl | ht
      · exact ⟨r, List.mem_cons_self⟩
      · exact ⟨(hl t ht).1, List.mem_cons_of_mem _ (hl t ht).2⟩) e2
theorem gs_tup {K : PySem.W.Frag} (is : List Nat) : GSem K (gTup K is.length (gNames is)) (gfTup is) is := fun ex v σ H Q d ρ ρ' r e h => by
  unfold gfTup at e
  split at e
  · split at e
    · rename_i ds hl
      cases e
      rw [R] at r
      obtain ⟨a, xs, rfl, h1, h2⟩ := r
      exact ⟨a, xs, rfl, h1.1, by rw [← RL.length h2]; exact hl, gNames_ok is ds xs σ ρ hl (RL.pair h2) h⟩
    · cases e
  · cases e
def wipeE (ρ : Env) : List Nat → Env
  | [] => ρ
  | v :: vs => (wipeE ρ vs).set v none
theorem wipeE_length (ρ : Env) : ∀ vs : List Nat, (wipeE ρ vs).length = ρ.length
  | [] => rfl
  | v :: vs => by rw [wipeE, List.length_set, wipeE_length ρ vs]
theorem wipeE_some {ρ : Env} {i : Nat} {d : D} : ∀ {vs : List Nat}, (wipeE ρ vs)[i]? = some (some d) → ρ[i]? = some (some d) ∧ i ∉ vs
  | [], h => ⟨h, fun q => nomatch q⟩
  | v :: vs, h => by
    rw [wipeE] at h
    by_cases e : v = i
    · subst e
      by_cases hl : v < (wipeE ρ vs).length
      · rw [List.getElem?_set_self hl] at h
        cases h
      · rw [List.getElem?_eq_none (by rw [List.length_set]; omega)] at h
        cases h
    · rw [List.getElem?_set_ne e] at h
      obtain ⟨h1, h2⟩ := wipeE_some h
      exact ⟨h1, fun q => by
        rcases List.mem_cons.mp q with q | q
        · exact e q.symm
        · exact h2 q⟩
section
variable {K : PySem.W.Frag} {ex ex' : AS} {H H' : Hp} {L : List Nat} {ρ : Env} {σ : L2.St} {fp : Nat → List Addr}
theorem SI.wipe (I : SI K ex L ρ σ H fp) (vs : List Nat) : SI K ex L (wipeE ρ vs) (L2.wipe σ vs) H fp where
  len := by rw [wipeE_length, L2.wipe_length]; exact I.len
  val := fun i d h => by
    obtain ⟨h1, h2⟩ := wipeE_some h
    obtain ⟨v, h3, h4⟩ := I.val i d h1
    exact ⟨v, by rw [L2.wipe_out h2]; exact h3, h4⟩
  nod := I.nod
  dis := I.dis
  sub := I.sub
  ext := I.ext
/-- a slot that is shared is stored -/
theorem SI.set (I : SI K ex L ρ σ H fp) {i : Nat} {d : D} {v : V} (r : R K ex H d v) (hL : L.getD i 0 = 0) : ∃ fp', SI K ex L (ρ.set i (some d)) (σ.set i (some v)) H fp' ∧ (∀ j a, a ∈ fp' j → a ∈ fp j) := by
  refine ⟨fun j => if j = i then [] else fp j, ⟨?_, fun j d' h => ?_, fun j => ?_, fun j k a h1 h2 => ?_, fun j a h => ?_, I.ext⟩, fun j a h => ?_⟩
  · rw [List.length_set, List.length_set]
    exact I.len
  · by_cases e : i = j
    · subst e
      by_cases hl : i < ρ.length
      · rw [List.getElem?_set_self hl] at h
        cases h
        refine ⟨v, List.getElem?_set_self (by rw [← I.len]; exact hl), ?_⟩
        rw [hL, if_pos rfl]
        exact ⟨rfl, r⟩
      · rw [List.getElem?_eq_none (by rw [List.length_set]; omega)] at h
        cases h
    · rw [List.getElem?_set_ne e] at h
      obtain ⟨u, h1, h2⟩ := I.val j d' h
      refine ⟨u, by rw [List.getElem?_set_ne e]; exact h1, ?_⟩
      show RO K ex H _ d' u (if j = i then [] else fp j)
      rw [if_neg (fun q => e q.symm)]
      exact h2
  · show (if j = i then [] else fp j).Nodup
    split
    · exact List.nodup_nil
    · exact I.nod j
  · have h1 : a ∈ (if j = i then [] else fp j) := h1
    have h2 : a ∈ (if k = i then [] else fp k) := h2
    split at h1
    · cases h1
    · split at h2
      · cases h2
      · exact I.dis j k a h1 h2
  · have h : a ∈ (if j = i then [] else fp j) := h
    split at h
    · cases h
    · exact I.sub j a h
  · have h : a ∈ (if j = i then [] else fp j) := h
    split at h
    · cases h
    · exact h
theorem SI.sets : ∀ (l : Sets) {ρ : Env} {σ : L2.St} {fp : Nat → List Addr}, SI K ex L ρ σ H fp → (∀ t ∈ l, R K ex H t.2.1 t.2.2 ∧ L.getD t.1 0 = 0) → ∃ fp', SI K ex L (setE ρ l) (setS σ l) H fp' ∧ (∀ j a, a ∈ fp' j → a ∈ fp j)
  | [], _, _, fp, I, _ => ⟨fp, I, fun _ _ h => h⟩
  | t :: l, _, _, _, I, h => by
    obtain ⟨fp1, I1, m1⟩ := I.set (h t List.mem_cons_self).1 (h t List.mem_cons_self).2
    obtain ⟨fp2, I2, m2⟩ := SI.sets l I1 fun u hu => h u (List.mem_cons_of_mem _ hu)
    exact ⟨fp2, I2, fun j a q => m1 j a (m2 j a q)⟩
/-- more is owned (by others), all of it new to H -/
theorem SI.more (I : SI K ex L ρ σ H fp) (e : Same H H') (h1 : ∀ a, ex' a → ex a ∨ H a = none) (h2 : ∀ a, ex a → ex' a) (h3 : ∀ a, ex' a → H' a ≠ none) : SI K ex' L ρ σ H' fp where
  len := I.len
  val := fun i d h => by
    obtain ⟨v, q1, q2⟩ := I.val i d h
    exact ⟨v, q1, RO.keep (Keep.same e) h1 (fun a _ o q => e a o q) q2⟩
  nod := I.nod
  dis := I.dis
  sub := fun i a h => h2 a (I.sub i a h)
  ext := h3
end
end Px

namespace Px
open PySem PySem.Spec PyProof.Rows L2

/-! ### list comprehensions -/
def noX {α : Type} : Res α → Res α
  | .ok a => .ok a
  | _ => .err
theorem noX_ok {α : Type} {r : Res α} {a : α} (h : noX r = .ok a) : r = .ok a := by
  cases r with
  | ok b => exact h
  | exc c => cases h
  | err => cases h
@[simp] theorem noX_is {α : Type} (a : α) : noX (.ok a) = .ok a := id rfl
def lcE (gf : Env → D → Res Env) (tt : Env → Res Bool) (f : EF) (ρ : Env) : List D → Res (List D)
  | [] => .ok []
  | d :: ds => noX (gf ρ d) >>= fun ρ1 => noX (tt ρ1) >>= fun b => if b = true then noX (f ρ1) >>= fun y => lcE gf tt f ρ ds >>= fun ys => .ok (y :: ys) else lcE gf tt f ρ ds
theorem lcE_nx {gf : Env → D → Res Env} {tt : Env → Res Bool} {f : EF} {ρ : Env} : ∀ (ds : List D) (c : Str), lcE gf tt f ρ ds ≠ .exc c
  | [], c, h => by cases h
  | d :: ds, c, h => by
    rw [lcE] at h
    cases h1 : noX (gf ρ d) with
    | ok ρ1 =>
      rw [h1, Res.bind_ok] at h
      cases h2 : noX (tt ρ1) with
      | ok b =>
        rw [h2, Res.bind_ok] at h
        split at h
        · cases h3 : noX (f ρ1) with
          | ok y =>
            rw [h3, Res.bind_ok] at h
            cases h4 : lcE gf tt f ρ ds with
            | ok ys =>
              rw [h4] at h
              cases h
            | exc c2 => exact lcE_nx ds c2 h4
            | err =>
              rw [h4] at h
              cases h
          | exc c2 =>
            cases q : f ρ1 <;> rw [q] at h3 <;> cases h3
          | err =>
            rw [h3] at h
            cases h
        · exact lcE_nx ds c h
      | exc c2 =>
        cases q : tt ρ1 <;> rw [q] at h2 <;> cases h2
      | err =>
        rw [h2] at h
        cases h
    | exc c2 =>
      cases q : gf ρ d <;> rw [q] at h1 <;> cases h1
    | err =>
      rw [h1] at h
      cases h
def eLc (fI : Env → Res (List D)) (own : List Nat) (gf : Env → D → Res Env) (tt : Env → Res Bool) (f : EF) : EF := fun ρ => fI ρ >>= fun ds => lcE gf tt f (wipeE ρ own) ds >>= fun ys => .ok (.lst ys)
abbrev W0 : WX := fun _ _ _ _ => False
theorem P3.app {α β γ : Type} {F : α → β → γ → Prop} : ∀ {as as2 : List α} {bs bs2 : List β} {cs cs2 : List γ}, P3 F as bs cs → P3 F as2 bs2 cs2 → P3 F (as ++ as2) (bs ++ bs2) (cs ++ cs2)
  | _, _, _, _, _, _, .nil, h => h
  | _, _, _, _, _, _, .cons x t, h => .cons x (P3.app t h)
theorem P3.length {α β γ : Type} {F : α → β → γ → Prop} : ∀ {as : List α} {bs : List β} {cs : List γ}, P3 F as bs cs → as.length = bs.length
  | _, _, _, .nil => rfl
  | _, _, _, .cons x t => by rw [List.length_cons, List.length_cons, P3.length t]
theorem wipe_set {σ : L2.St} : ∀ {vs : List Nat} {i : Nat} {x : Option V}, i ∈ vs → wipe (σ.set i x) vs = wipe σ vs
  | v :: vs, i, x, h => by
    rw [wipe, wipe]
    by_cases hi : i ∈ vs
    · rw [wipe_set hi]
    · have e : v = i := by
        rcases List.mem_cons.mp h with q | q
        · exact q.symm
        · exact absurd q hi
      subst e
      have : ∀ {vs : List Nat}, v ∉ vs → wipe (σ.set v x) vs = (wipe σ vs).set v x := by
        intro vs
        induction vs with
        | nil => intro _; rfl
        | cons u us ih =>
          intro h
          have h1 : v ≠ u := fun q => h (by rw [q]; exact List.mem_cons_self)
          rw [wipe, wipe, ih (fun q => h (List.mem_cons_of_mem _ q)), List.set_comm _ _ h1]
      rw [this hi, List.set_set]
theorem wipe_idem {σ : L2.St} : ∀ vs : List Nat, wipe (wipe σ vs) vs = wipe σ vs := by
  have key : ∀ (us vs : List Nat), (∀ u ∈ us, u ∈ vs) → ∀ σ : L2.St, wipe (wipe σ us) vs = wipe σ vs := by
    intro us
    induction us with
    | nil => intro vs _ σ; rfl
    | cons u us ih =>
      intro vs h σ
      rw [wipe, wipe_set (h u List.mem_cons_self), ih vs fun x hx => h x (List.mem_cons_of_mem _ hx)]
  exact fun vs => key vs vs (fun _ h => h) σ
theorem wipe_sets {vs : List Nat} : ∀ (l : Sets) {σ : L2.St}, (∀ t ∈ l, t.1 ∈ vs) → wipe (setS σ l) vs = wipe σ vs
  | [], _, _ => rfl
  | t :: l, σ, h => by
    have : setS σ (t :: l) = setS (σ.set t.1 (some t.2.2)) l := rfl
    rw [this, wipe_sets l fun u hu => h u (List.mem_cons_of_mem _ hu), wipe_set (h t List.mem_cons_self)]
section
variable {K : PySem.W.Frag} {ex ex' : AS} {H H' : Hp}
theorem RB.more (e : Same H H') (m : ∀ a, ex' a → ex a ∨ H a = none) : ∀ {n : Nat} {d : Px.D} {v : V}, RB K ex H n d v → RB K ex' H' n d v
  | 0, d, _, h => R.keep (Keep.same e) m d h
  | n + 1, d, v, h => by
    cases d with
    | lst ds =>
      rw [RB] at h ⊢
      obtain ⟨a, xs, q, h1, h2⟩ := h
      exact ⟨a, xs, q, ⟨e.seq h1.1, h1.2⟩, h2.mono fun _ _ q => RB.more e m q⟩
    | _ =>
      rw [RB] at h ⊢ <;> first | exact R.keep (Keep.same e) m _ h | (intro _ q; cases q)
theorem P3.there {k : Nat} {a : Addr} : ∀ {ys : List Px.D} {vs : List V} {gps : List (List Addr)}, P3 (RO K ex H k) ys vs gps → a ∈ gps.flatten → H a ≠ none
  | _, _, _, .nil, h => by simp at h
  | _, _, _, .cons r t, h => by
    rw [List.flatten_cons] at h
    rcases List.mem_append.mp h with h | h
    · exact RO.there r a h
    · exact P3.there t h
theorem P3.keep {k : Nat} (kp : Keep ex H H') (m : ∀ a, ex' a → ex a ∨ H a = none) : ∀ {ys : List Px.D} {vs : List V} {gps : List (List Addr)}, (∀ a ∈ gps.flatten, ∀ o, H a = some o → H' a = some o) → P3 (RO K ex H k) ys vs gps → P3 (RO K ex' H' k) ys vs gps
  | _, _, _, _, .nil => .nil
  | _, _, _, h, .cons r t => by
    rw [List.flatten_cons] at h
    exact .cons (RO.keep kp m (fun a ha => h a (List.mem_append_left _ ha)) r) (P3.keep kp m (fun a ha => h a (List.mem_append_right _ ha)) t)
end
section
variable {X : Cx} {W : WX} {L : List Nat} {k : Nat} {fI : Env → Res (List D)} {own : List Nat} {gf : Env → D → Res Env} {ft : Env → Res Bool} {f : EF} {g : TG} {is : List Nat}
theorem HR.more {K : PySem.W.Frag} {ex ex' : AS} {H H' : Hp} (e : Same H H') (m : ∀ a, ex' a → ex a ∨ H a = none) {n : Nat} {g : (Px.D × V) × (Px.D × V)} (h : HR K ex H n g) : HR K ex' H' n g := ⟨RB.more e m h.1, RB.more e m h.2⟩
/-- what a list comprehension asks follows from its meaning -/
theorem lc_imp (gs : GSem X.K g gf is) (hs : ∀ i ∈ is, i ∈ own) (hL : ∀ i ∈ is, L.getD i 0 = 0) {σ : L2.St} {H : Hp} {Q : VK} (h : tO X W L (k + 1) (eLc fI own gf ft f) σ H Q) : tLc (tI X W L 1 fI) g (tT X W0 L ft) (tO X W0 L k f) own σ H Q := by
  obtain ⟨ex, ρ, fp, I, o⟩ := h
  refine ⟨ex, ρ, fp, I, o.bind.mono fun ds q J H1 gh e1 rg itn D hD => ?_⟩
  obtain ⟨all, hall, q⟩ := no_exc q.bind (lcE_nx ds)
  have hDH : H D = none := e1.free hD
  refine ⟨fun i m Hi => i + m = ds.length ∧ Same H1 Hi ∧ ∃ (vs : List V) (fps : List (List Addr)) (ys rest : List Px.D), Hi D = some (.lst vs) ∧ P3 (RO X.K (fun a => a ∈ fps.flatten ∨ a = D ∨ ex a) Hi k) ys vs fps ∧ fps.flatten.Nodup ∧
    (∀ a ∈ fps.flatten, H1 a = none ∧ a ≠ D) ∧ ys.length ≤ i ∧ all = ys ++ rest ∧ lcE gf ft f (wipeE ρ own) (ds.drop i) = .ok rest, ⟨ds.length, by omega, same_upd hD, [], [], [], all, upd_same, .nil, List.nodup_nil, ⟨fun a ha => (by simp at ha), Nat.zero_le _, rfl, hall⟩⟩, fun i m Hi hW => ?_⟩
  obtain ⟨em, e2, vs, fps, ys, rest, hDi, hP, nod, fr, hlen, eall, erest⟩ := hW
  by_cases hi : i < ds.length
  · refine .inr ⟨itn.go ex Hi i ⟨rg.1.same e2, rg.2.same e2⟩ hi, fun H' => ∃ m', m' < m ∧ (i + 1 + m' = ds.length ∧ Same H1 H' ∧ ∃ (vs : List V) (fps : List (List Addr)) (ys rest : List Px.D), H' D = some (.lst vs) ∧ P3 (RO X.K (fun a => a ∈ fps.flatten ∨ a = D ∨ ex a) H' k) ys vs fps ∧ fps.flatten.Nodup ∧
      (∀ a ∈ fps.flatten, H1 a = none ∧ a ≠ D) ∧ ys.length ≤ i + 1 ∧ all = ys ++ rest ∧ lcE gf ft f (wipeE ρ own) (ds.drop (i + 1)) = .ok rest), fun H' h => h, fun x H' hy => ?_⟩
    obtain ⟨d, hd⟩ : ∃ d, ds[i]? = some d := ⟨_, List.getElem?_eq_getElem hi⟩
    obtain ⟨e3, rx⟩ := itn.item (fun a => a ∈ fps.flatten ∨ a = D ∨ ex a) Hi i d x H' (HR.more e2 (fun a h => by
      rcases h with h | h | h
      · exact .inr (fr a h).1
      · rw [h]
        exact .inr hD
      · exact .inl h) rg) hd hy
    have ed : ds.drop i = d :: ds.drop (i + 1) := by
      rw [List.drop_eq_getElem_cons hi]
      congr 1
      rw [List.getElem?_eq_getElem hi] at hd
      exact Option.some.inj hd
    rw [ed, lcE] at erest
    cases hg : noX (gf (wipeE ρ own) d) with
    | exc c => rw [hg] at erest; cases erest
    | err => rw [hg] at erest; cases erest
    | ok ρ1 =>
      rw [hg, Res.bind_ok] at erest
      have esame : Same H H' := (e1.trans e2).trans e3
      -- what is owned while the element is reckoned
      have hDex : ∀ a, (a ∈ fps.flatten ∨ a = D ∨ ex a) → ex a ∨ H a = none := fun a h => by
        rcases h with h | h | h
        · exact .inr (e1.free (fr a h).1)
        · rw [h]
          exact .inr hDH
        · exact .inl h
      have hthere : ∀ a, (a ∈ fps.flatten ∨ a = D ∨ ex a) → H' a ≠ none := fun a h q => by
        rcases h with h | h | h
        · exact P3.there hP h (e3.free q)
        · rw [h] at q
          have := e3 D _ hDi
          rw [q] at this
          cases this
        · exact I.ext a h (esame.free q)
      have I' : SI X.K (fun a => a ∈ fps.flatten ∨ a = D ∨ ex a) L (wipeE ρ own) (wipe σ own) H' fp := (I.wipe own).more esame hDex (fun a h => .inr (.inr h)) hthere
      refine gs (fun a => a ∈ fps.flatten ∨ a = D ∨ ex a) x (wipe σ own) H' _ d (wipeE ρ own) ρ1 rx (noX_ok hg) fun l hl e4 => ?_
      obtain ⟨fp1, I1, _⟩ := SI.sets l I' fun t ht => ⟨(hl t ht).1, hL _ (hl t ht).2⟩
      rw [← e4] at I1
      refine ⟨by rw [wipe_sets l fun t ht => hs _ (hl t ht).2, wipe_idem], ?_⟩
      cases ht : noX (ft ρ1) with
      | exc c => rw [ht] at erest; cases erest
      | err => rw [ht] at erest; cases erest
      | ok b =>
        rw [ht, Res.bind_ok] at erest
        refine ⟨_, ρ1, fp1, I1, ?_⟩
        rw [noX_ok ht]
        intro H3 e5
        cases b with
        | false =>
          rw [if_neg Bool.false_ne_true] at erest ⊢
          refine ⟨m - 1, by omega, by omega, (e2.trans e3).trans e5, vs, fps, ys, rest, e5 _ _ (e3 _ _ hDi), ?_, nod, fr, by omega, eall, erest⟩
          exact P3.keep (Keep.same (e3.trans e5)) (fun a h => .inl h) (fun a _ o q => (e3.trans e5) a o q) hP
        | true =>
          rw [if_pos rfl] at erest ⊢
          cases hf : noX (f ρ1) with
          | exc c => rw [hf] at erest; cases erest
          | err => rw [hf] at erest; cases erest
          | ok y =>
            rw [hf, Res.bind_ok] at erest
            refine ⟨_, ρ1, fp1, I1.same e5, ?_⟩
            rw [noX_ok hf]
            intro v H4 fq e6 ro nd nw
            have hD4 : H4 D = some (.lst vs) := e6 _ _ (e5 _ _ (e3 _ _ hDi))
            have hvl : ys.length = vs.length := P3.length hP
            have hsz : vs.length < sizeLine := by
              have := itn.len
              omega
            refine ⟨vs, hD4, hsz, ?_⟩
            cases hr : lcE gf ft f (wipeE ρ own) (ds.drop (i + 1)) with
            | exc c => rw [hr] at erest; cases erest
            | err => rw [hr] at erest; cases erest
            | ok rest' =>
              rw [hr, Res.bind_ok] at erest
              have er : rest = y :: rest' := by cases erest; rfl
              have e36 : Same Hi H4 := (e3.trans e5).trans e6
              have fqD : ∀ a ∈ fq, a ≠ D := fun a ha q => by
                have h1 := nw a ha
                rw [q] at h1
                have h2 := e5 _ _ (e3 _ _ hDi)
                rw [h1] at h2
                cases h2
              have fqI : ∀ a ∈ fq, Hi a = none := fun a ha => (e3.trans e5).free (nw a ha)
              have kp : Keep (fun a => a ∈ fps.flatten ∨ a = D ∨ ex a) Hi (upd H4 D (.lst (vs ++ [v]))) := by
                refine ⟨fun a xs h => ?_, fun a xs hn h => ?_⟩
                · have ha : a ≠ D := fun q => by
                    rw [q] at h
                    rcases h with h | ⟨o, h⟩ <;> rw [hDi] at h <;> cases h
                  have h2 := Same.rd e36 h
                  rcases h2 with h2 | ⟨o, h2⟩
                  · exact .inl (by rw [upd_ne ha]; exact h2)
                  · exact .inr ⟨o, by rw [upd_ne ha]; exact h2⟩
                · have ha : a ≠ D := fun q => hn (.inr (.inl q))
                  have h2 := Same.rd e36 h
                  rcases h2 with h2 | ⟨o, h2⟩
                  · exact .inl (by rw [upd_ne ha]; exact h2)
                  · exact .inr ⟨o, by rw [upd_ne ha]; exact h2⟩
              have kp2 : Keep (fun a => a ∈ fq ∨ (a ∈ fps.flatten ∨ a = D ∨ ex a)) H4 (upd H4 D (.lst (vs ++ [v]))) := by
                refine ⟨fun a xs h => ?_, fun a xs hn h => ?_⟩
                · have ha : a ≠ D := fun q => by
                    rw [q] at h
                    rcases h with h | ⟨o, h⟩ <;> rw [hD4] at h <;> cases h
                  rcases h with h2 | ⟨o, h2⟩
                  · exact .inl (by rw [upd_ne ha]; exact h2)
                  · exact .inr ⟨o, by rw [upd_ne ha]; exact h2⟩
                · have ha : a ≠ D := fun q => hn (.inr (.inr (.inl q)))
                  rcases h with h2 | ⟨o, h2⟩
                  · exact .inl (by rw [upd_ne ha]; exact h2)
                  · exact .inr ⟨o, by rw [upd_ne ha]; exact h2⟩
              have mem : ∀ a, a ∈ (fps ++ [fq]).flatten ↔ a ∈ fps.flatten ∨ a ∈ fq := fun a => by
                rw [List.flatten_append, List.mem_append]
                simp
              refine ⟨m - 1, by omega, by omega, fun b o h => ?_, vs ++ [v], fps ++ [fq], ys ++ [y], rest', upd_same, P3.app ?_ (.cons ?_ .nil), ?_, fun a ha => ?_, by rw [List.length_append]; simp; omega, by rw [eall, er, List.append_assoc]; rfl, rfl⟩
              · have hb : b ≠ D := fun q => by
                  rw [q, hD] at h
                  cases h
                rw [upd_ne hb]
                exact e36 _ _ (e2 _ _ h)
              · refine P3.keep kp (fun a h => ?_) (fun a ha o q => ?_) hP
                · rcases h with h | h
                  · rcases (mem a).mp h with h | h
                    · exact .inl (.inl h)
                    · exact .inr (fqI a h)
                  · exact .inl (.inr h)
                · rw [upd_ne (fr a ha).2]
                  exact e36 _ _ q
              · refine RO.keep kp2 (fun a h => ?_) (fun a ha o q => ?_) ro
                · rcases h with h | h
                  · rcases (mem a).mp h with h | h
                    · exact .inl (.inr (.inl h))
                    · exact .inl (.inl h)
                  · exact .inl (.inr (.inr h))
                · rw [upd_ne (fqD a ha)]
                  exact q
              · rw [List.flatten_append]
                refine List.nodup_append.mpr ⟨nod, by simpa using nd, fun a ha b hb q => ?_⟩
                have hb : b ∈ fq := by simpa using hb
                rw [← q] at hb
                exact P3.there hP ha (fqI a hb)
              · rcases (mem a).mp ha with ha | ha
                · exact fr a ha
                · exact ⟨e2.free (fqI a ha), fqD a ha⟩
  · have ei : i = ds.length := by omega
    rw [ei, List.drop_length, lcE] at erest
    have er : rest = [] := by cases erest; rfl
    rw [er, List.append_nil] at eall
    have hm : m = 0 := by omega
    refine .inl ⟨by rw [ei]; exact itn.stop ex Hi ⟨rg.1.same e2, rg.2.same e2⟩, ?_⟩
    have hvl : ys.length = vs.length := P3.length hP
    have hln := itn.len
    refine q (.ref D) Hi (D :: fps.flatten) (e1.trans e2) ?_ (List.nodup_cons.mpr ⟨fun h => (fr D h).2 rfl, nod⟩) fun a ha => ?_
    · rw [eall, RO]
      refine ⟨D, vs, fps, rfl, ⟨hDi, by omega⟩, rfl, P3.keep (Keep.same (Same.refl Hi)) (fun a h => .inl ?_) (fun _ _ _ h => h) hP⟩
      rcases h with h | h
      · rcases List.mem_cons.mp h with h | h
        · exact .inr (.inl h)
        · exact .inl h
      · exact .inr (.inr h)
    · rcases List.mem_cons.mp ha with h | h
      · rw [h]
        exact hDH
      · exact e1.free (fr a h).1
end
end Px

namespace Px
open PySem PySem.Spec PyProof.Rows L2

section
variable {X : Cx} {W : WX} {L : List Nat} {k : Nat} {fI : Env → Res (List D)} {gf : Env → D → Res Env} {ft : Env → Res Bool} {f : EF} {g : TG} {is : List Nat} {elt tg iter c : Expr} {ifs : List Expr} {scope : Scope} {own : List (Str × Nat)} {pos : Pos}
abbrev ETs (X : Cx) (W : WX) (L : List Nat) (ifs : List Expr) (f : Env → Res Bool) : Prop := PTs X ifs (tT X W L f)
def bYes : Env → Res Bool := fun _ => .ok true
theorem PTs.imp {X : Cx} {ifs : List Expr} {t t' : TT} (h : PTs X ifs t) (m : ∀ σ H Q, t' σ H Q → t σ H Q) : PTs X ifs t' := ⟨fun pins s σ H Q I q => h.run pins s σ H Q I (m σ H Q q)⟩
theorem ets_nil : ETs X W L [] bYes := PTs.imp pts_nil fun σ H Q ⟨ex, ρ, fp, I, o⟩ => o H (Same.refl H)
theorem ets_one (h : ET X W L c ft) : ETs X W L [c] ft := pts_one h
theorem eo_lc (hc : X.calm = true) (hN : X.N.Nodup) (hi : EI X W L 1 tg iter fI) (ok : BlkOk X.N X.env.scope scope own)
    (hg : ∀ (s : Shared) (H : Hp) (C : Addr) (cl : List (Str × Addr)) (fp : List Addr), PG (X.blk s H scope (compEnvC scope cl C X.env) fp) tg g)
    (ht : ∀ (s : Shared) (H : Hp) (C : Addr) (cl : List (Str × Addr)) (fp : List Addr), ETs (X.blk s H scope (compEnvC scope cl C X.env) fp) W0 L ifs ft)
    (he : ∀ (s : Shared) (H : Hp) (C : Addr) (cl : List (Str × Addr)) (fp : List Addr), EO (X.blk s H scope (compEnvC scope cl C X.env) fp) W0 L k elt f)
    (gs : GSem X.K g gf is) (hs : ∀ i ∈ is, i ∈ own.map (·.2)) (hL : ∀ i ∈ is, L.getD i 0 = 0) (hfs : ∀ x, foldedSetIterable iter X.env x = pure x := by intro _; rfl) :
    EO X W L (k + 1) (.ListComp elt [⟨tg, iter, ifs, 0⟩] scope pos) (eLc fI (own.map (·.2)) gf ft f) :=
  PE.imp (pe_lc hc hN hi ok hg ht he hfs) fun σ H Q h => lc_imp gs hs hL h
end

/-! ### a def's names -/
section
variable {K : PySem.W.Frag} {H0 H H1 : Hp} {ex0 : AS} {G : List (D × V)} {L : List Nat} {ρ : Env} {σ : L2.St} {fp : Nat → List Addr}
abbrev exOf (fp : Nat → List Addr) (ex0 : AS) : AS := fun a => (∃ i, a ∈ fp i) ∨ ex0 a
theorem SS.up (S : SS K H0 ex0 G L ρ σ H fp) (e : Same H H1) : SS K H0 ex0 G L ρ σ H1 fp := ⟨S.si.same e, S.own, S.old, S.same.trans e, fun g hg => (S.held g hg).same e⟩
theorem SS.tail {g : D × V} (S : SS K H0 ex0 (g :: G) L ρ σ H fp) : SS K H0 ex0 G L ρ σ H fp := ⟨S.si, S.own, S.old, S.same, fun g hg => S.held g (List.mem_cons_of_mem _ hg)⟩
theorem SS.hold {g : D × V} (S : SS K H0 ex0 G L ρ σ H fp) (r : R K (exOf fp ex0) H g.1 g.2) : SS K H0 ex0 (g :: G) L ρ σ H fp := ⟨S.si, S.own, S.old, S.same, fun h hg => by
  rcases List.mem_cons.mp hg with rfl | hg
  · exact r
  · exact S.held h hg⟩
theorem SS.ex_ne (S : SS K H0 ex0 G L ρ σ H fp) {i : Nat} {a : Addr} (h : a ∈ fp i) : ¬ ex0 a := fun q => S.old a q (S.own i a h)
/-- another division of what is owned; nothing in the heap changes -/
theorem SS.re (S : SS K H0 ex0 G L ρ σ H fp) {L' : List Nat} {ρ' : Env} {σ' : L2.St} {fp' : Nat → List Addr} (e : Same H H1) (len : ρ'.length = σ'.length)
    (val : ∀ i d, ρ'[i]? = some (some d) → ∃ v, σ'[i]? = some (some v) ∧ RO K (exOf fp' ex0) H1 (L'.getD i 0) d v (fp' i)) (nod : ∀ i, (fp' i).Nodup) (dis : ∀ i j a, a ∈ fp' i → a ∈ fp' j → i = j)
    (new : ∀ i a, a ∈ fp' i → a ∈ fp i ∨ H a = none) (there : ∀ i a, a ∈ fp' i → H1 a ≠ none) : SS K H0 ex0 G L' ρ' σ' H1 fp' where
  si := ⟨len, val, nod, dis, fun i a h => .inl ⟨i, h⟩, fun a h q => by
    rcases h with ⟨i, h⟩ | h
    · exact there i a h q
    · exact S.si.ext a (.inr h) (e.free q)⟩
  own := fun i a h => by
    rcases new i a h with q | q
    · exact S.own i a q
    · exact S.same.free q
  old := S.old
  same := S.same.trans e
  held := fun g hg => R.keep (Keep.same e) (fun a h => by
    rcases h with ⟨i, h⟩ | h
    · rcases new i a h with q | q
      · exact .inl (.inl ⟨i, q⟩)
      · exact .inr q
    · exact .inl (.inr h)) _ (S.held g hg)
theorem getD_set_eq {L : List Nat} {i k : Nat} (h : i < L.length) : (L.set i k).getD i 0 = k := by
  rw [List.getD_eq_getElem?_getD, List.getElem?_set_self h]
  rfl
theorem getD_set_ne {L : List Nat} {i j k : Nat} (h : i ≠ j) : (L.set i k).getD j 0 = L.getD j 0 := by
  rw [List.getD_eq_getElem?_getD, List.getElem?_set_ne h, List.getD_eq_getElem?_getD]
/-- a value, new or shared, is stored -/
theorem SS.put (S : SS K H0 ex0 G L ρ σ H fp) (e : Same H H1) {i k : Nat} {d : D} {v : V} {fq : List Addr} (r : RO K (fun a => a ∈ fq ∨ exOf fp ex0 a) H1 k d v fq) (nd : fq.Nodup) (nw : ∀ a ∈ fq, H a = none) (hi : i < L.length) :
    ∃ fp', SS K H0 ex0 G (L.set i k) (ρ.set i (some d)) (σ.set i (some v)) H1 fp' := by
  have nd2 : ∀ j a, a ∈ fq → a ∈ fp j → False := fun j a h1 h2 => S.si.ext a (.inl ⟨j, h2⟩) (nw a h1)
  refine ⟨fun j => if j = i then fq else fp j, S.re e ?_ (fun j d' h => ?_) (fun j => ?_) (fun j l a h1 h2 => ?_) (fun j a h => ?_) (fun j a h => ?_)⟩
  · rw [List.length_set, List.length_set]
    exact S.si.len
  · by_cases ej : i = j
    · subst ej
      by_cases hl : i < ρ.length
      · rw [List.getElem?_set_self hl] at h
        cases h
        refine ⟨v, List.getElem?_set_self (by rw [← S.si.len]; exact hl), ?_⟩
        rw [getD_set_eq hi, if_pos rfl]
        refine r.less fun a h => .inl ?_
        rcases h with ⟨l, h⟩ | h
        · have h : a ∈ (if l = i then fq else fp l) := h
          split at h
          · exact .inl h
          · exact .inr (.inl ⟨l, h⟩)
        · exact .inr (.inr h)
      · rw [List.getElem?_eq_none (by rw [List.length_set]; omega)] at h
        cases h
    · rw [List.getElem?_set_ne ej] at h
      obtain ⟨u, h1, h2⟩ := S.si.val j d' h
      refine ⟨u, by rw [List.getElem?_set_ne ej]; exact h1, ?_⟩
      rw [getD_set_ne ej]
      show RO K _ H1 _ d' u (if j = i then fq else fp j)
      rw [if_neg (fun q => ej q.symm)]
      refine RO.keep (Keep.same e) (fun a h => ?_) (fun a _ o q => e a o q) h2
      rcases h with ⟨l, h⟩ | h
      · have h : a ∈ (if l = i then fq else fp l) := h
        split at h
        · exact .inr (nw a h)
        · exact .inl (.inl ⟨l, h⟩)
      · exact .inl (.inr h)
  · show (if j = i then fq else fp j).Nodup
    split
    · exact nd
    · exact S.si.nod j
  · have h1 : a ∈ (if j = i then fq else fp j) := h1
    have h2 : a ∈ (if l = i then fq else fp l) := h2
    split at h1
    · split at h2
      · rename_i a1 a2
        rw [a1, a2]
      · exact (nd2 _ _ h1 h2).elim
    · split at h2
      · exact (nd2 _ _ h2 h1).elim
      · exact S.si.dis j l a h1 h2
  · have h : a ∈ (if j = i then fq else fp j) := h
    split at h
    · exact .inr (nw a h)
    · exact .inl h
  · have h : a ∈ (if j = i then fq else fp j) := h
    split at h
    · exact r.there a h
    · exact fun q => S.si.ext a (.inl ⟨j, h⟩) (e.free q)
/-- what a slot owns is given up: others may know it from now on -/
theorem SS.drop (S : SS K H0 ex0 G L ρ σ H fp) (i : Nat) : ∃ fp', SS K H0 ex0 G (L.set i 0) ρ σ H fp' := by
  refine ⟨fun j => if j = i then [] else fp j, S.re (Same.refl H) S.si.len (fun j d' h => ?_) (fun j => ?_) (fun j l a h1 h2 => ?_) (fun j a h => ?_) (fun j a h => ?_)⟩
  · obtain ⟨u, h1, h2⟩ := S.si.val j d' h
    refine ⟨u, h1, ?_⟩
    have le : ∀ a, exOf (fun j => if j = i then [] else fp j) ex0 a → exOf fp ex0 a := fun a h => by
      rcases h with ⟨l, h⟩ | h
      · have h : a ∈ (if l = i then [] else fp l) := h
        split at h
        · cases h
        · exact .inl ⟨l, h⟩
      · exact .inr h
    by_cases ej : i = j
    · subst ej
      have e0 : (L.set i 0).getD i 0 = 0 := by
        by_cases hl : i < L.length
        · exact getD_set_eq hl
        · rw [List.getD_eq_getElem?_getD, List.getElem?_eq_none (by rw [List.length_set]; omega)]
          rfl
      rw [e0, if_pos rfl]
      refine ⟨rfl, h2.shared le fun a ha q => ?_⟩
      rcases q with ⟨l, q⟩ | q
      · have q : a ∈ (if l = i then [] else fp l) := q
        split at q
        · cases q
        · rename_i hl
          exact hl (S.si.dis l i a q ha)
      · exact S.ex_ne ha q
    · rw [getD_set_ne ej]
      show RO K _ H _ d' u (if j = i then [] else fp j)
      rw [if_neg (fun q => ej q.symm)]
      exact h2.less fun a h => .inl (le a h)
  · show (if j = i then [] else fp j).Nodup
    split
    · exact List.nodup_nil
    · exact S.si.nod j
  · have h1 : a ∈ (if j = i then [] else fp j) := h1
    have h2 : a ∈ (if l = i then [] else fp l) := h2
    split at h1
    · cases h1
    · split at h2
      · cases h2
      · exact S.si.dis j l a h1 h2
  · have h : a ∈ (if j = i then [] else fp j) := h
    split at h
    · cases h
    · exact .inl h
  · have h : a ∈ (if j = i then [] else fp j) := h
    split at h
    · cases h
    · exact S.si.ext a (.inl ⟨j, h⟩)
/-- all is given up -/
theorem SS.dropAll (S : SS K H0 ex0 G L ρ σ H fp) : SS K H0 ex0 G [] ρ σ H fun _ => [] := by
  refine S.re (Same.refl H) S.si.len (fun j d' h => ?_) (fun j => List.nodup_nil) (fun j l a h1 h2 => nomatch h1) (fun j a h => nomatch h) (fun j a h => nomatch h)
  obtain ⟨u, h1, h2⟩ := S.si.val j d' h
  refine ⟨u, h1, rfl, h2.shared (fun a h => ?_) fun a ha q => ?_⟩
  · rcases h with ⟨l, h⟩ | h
    · cases h
    · exact .inr h
  · rcases q with ⟨l, q⟩ | q
    · cases q
    · exact S.ex_ne ha q
theorem SS.kill (S : SS K H0 ex0 G L ρ σ H fp) (is : List Nat) : SS K H0 ex0 G L (wipeE ρ is) σ H fp :=
  ⟨⟨by rw [wipeE_length]; exact S.si.len, fun i d h => S.si.val i d (wipeE_some h).1, S.si.nod, S.si.dis, S.si.sub, S.si.ext⟩, S.own, S.old, S.same, S.held⟩
/-- shared values are stored in shared slots -/
theorem SS.sets (S : SS K H0 ex0 G L ρ σ H fp) (l : Sets) (h : ∀ t ∈ l, R K (exOf fp ex0) H t.2.1 t.2.2 ∧ L.getD t.1 0 = 0) : ∃ fp', SS K H0 ex0 G L (setE ρ l) (setS σ l) H fp' := by
  obtain ⟨fp', I', m⟩ := SI.sets l S.si h
  refine ⟨fp', S.re (Same.refl H) I'.len (fun i d hd => ?_) I'.nod I'.dis (fun i a h => .inl (m i a h)) (fun i a h => I'.ext a (I'.sub i a h))⟩
  obtain ⟨v, h1, h2⟩ := I'.val i d hd
  refine ⟨v, h1, h2.less fun a q => .inl ?_⟩
  rcases q with ⟨j, q⟩ | q
  · exact .inl ⟨j, m j a q⟩
  · exact .inr q
/-- the list at a, owned by the slot i, is changed -/
theorem SS.upd (S : SS K H0 ex0 G L ρ σ H fp) (e : Same H H1) {i : Nat} {a : Addr} {vs vs' : List V} {dN : D} {fqN : List Addr} (hσ : σ[i]? = some (some (.ref a))) (ha : a ∈ fp i) (hH : H a = some (.lst vs))
    (r : RO K (exOf (fun j => if j = i then fqN else fp j) ex0) (L2.upd H1 a (.lst vs')) (L.getD i 0) dN (.ref a) fqN) (nd : fqN.Nodup) (nw : ∀ b ∈ fqN, b ∈ fp i ∨ H b = none) :
    SS K H0 ex0 G L (ρ.set i (some dN)) σ (L2.upd H1 a (.lst vs')) fun j => if j = i then fqN else fp j := by
  have hH1 : H1 a = some (.lst vs) := e _ _ hH
  have kp : Keep (exOf fp ex0) H (L2.upd H1 a (.lst vs')) := by
    refine ⟨fun b xs h => ?_, fun b xs hn h => ?_⟩
    · have hb : b ≠ a := fun q => by
        rw [q] at h
        rcases h with h | ⟨o, h⟩ <;> rw [hH] at h <;> cases h
      rcases Same.rd e h with h2 | ⟨o, h2⟩
      · exact .inl (by rw [upd_ne hb]; exact h2)
      · exact .inr ⟨o, by rw [upd_ne hb]; exact h2⟩
    · have hb : b ≠ a := fun q => hn (.inl ⟨i, by rw [q]; exact ha⟩)
      rcases Same.rd e h with h2 | ⟨o, h2⟩
      · exact .inl (by rw [upd_ne hb]; exact h2)
      · exact .inr ⟨o, by rw [upd_ne hb]; exact h2⟩
  have le : ∀ b, exOf (fun j => if j = i then fqN else fp j) ex0 b → exOf fp ex0 b ∨ H b = none := fun b h => by
    rcases h with ⟨l, h⟩ | h
    · have h : b ∈ (if l = i then fqN else fp l) := h
      split at h
      · rcases nw b h with q | q
        · exact .inl (.inl ⟨i, q⟩)
        · exact .inr q
      · exact .inl (.inl ⟨l, h⟩)
    · exact .inl (.inr h)
  have nd2 : ∀ j b, j ≠ i → b ∈ fqN → b ∈ fp j → False := fun j b hj h1 h2 => by
    rcases nw b h1 with q | q
    · exact hj (S.si.dis j i b h2 q)
    · exact S.si.ext b (.inl ⟨j, h2⟩) q
  have free : ∀ b, L2.upd H1 a (.lst vs') b = none → H b = none := fun b q => by
    by_cases hb : b = a
    · rw [hb, upd_same] at q
      cases q
    · rw [upd_ne hb] at q
      exact e.free q
  refine ⟨⟨by rw [List.length_set]; exact S.si.len, fun j d' h => ?_, fun j => ?_, fun j l b h1 h2 => ?_, fun j b h => .inl ⟨j, h⟩, fun b h q => ?_⟩, fun j b h => ?_, S.old, fun b o h => ?_, fun g hg => R.keep kp le _ (S.held g hg)⟩
  · by_cases ej : i = j
    · subst ej
      by_cases hl : i < ρ.length
      · rw [List.getElem?_set_self hl] at h
        cases h
        refine ⟨_, hσ, ?_⟩
        rw [if_pos rfl]
        exact r
      · rw [List.getElem?_eq_none (by rw [List.length_set]; omega)] at h
        cases h
    · rw [List.getElem?_set_ne ej] at h
      obtain ⟨u, h1, h2⟩ := S.si.val j d' h
      refine ⟨u, h1, ?_⟩
      show RO K _ _ _ d' u (if j = i then fqN else fp j)
      rw [if_neg (fun q => ej q.symm)]
      refine RO.keep kp le (fun b hb o q => ?_) h2
      have hba : b ≠ a := fun q => ej (S.si.dis i j a ha (by rw [← q]; exact hb))
      rw [upd_ne hba]
      exact e _ _ q
  · show (if j = i then fqN else fp j).Nodup
    split
    · exact nd
    · exact S.si.nod j
  · have h1 : b ∈ (if j = i then fqN else fp j) := h1
    have h2 : b ∈ (if l = i then fqN else fp l) := h2
    split at h1
    · split at h2
      · rename_i a1 a2
        rw [a1, a2]
      · rename_i hl
        exact (nd2 _ _ hl h1 h2).elim
    · split at h2
      · rename_i hj _
        exact (nd2 _ _ hj h2 h1).elim
      · exact S.si.dis j l b h1 h2
  · rcases h with ⟨l, h⟩ | h
    · have h : b ∈ (if l = i then fqN else fp l) := h
      split at h
      · exact r.there b h q
      · exact S.si.ext b (.inl ⟨l, h⟩) (free b q)
    · exact S.si.ext b (.inr h) (free b q)
  · have h : b ∈ (if j = i then fqN else fp j) := h
    split at h
    · rcases nw b h with q | q
      · exact S.own i b q
      · exact S.same.free q
    · exact S.own j b h
  · have hb : b ≠ a := fun q => by
      have := S.own i a ha
      rw [q, this] at h
      cases h
    rw [upd_ne hb]
    exact e _ _ (S.same _ _ h)
end
end Px

namespace Px
open PySem PySem.Spec PyProof.Rows L2

/-! ### statements -/
/-- an outcome's wish -/
def FOut (X : Cx) (W : WX) (kr : Nat) (Lb L' : List Nat) (ex0 : AS) (G : List (D × V)) (Dn : Ends) (r : Flow) : Prop := match r with
  | .next ρ' => ∀ σ' H' fp', SS X.K X.H_0 ex0 G L' ρ' σ' H' fp' → Dn.nx σ' H'
  | .brk ρ' => ∀ σ' H' fp', SS X.K X.H_0 ex0 G Lb ρ' σ' H' fp' → Dn.bk σ' H'
  | .cont ρ' => ∀ σ' H' fp', SS X.K X.H_0 ex0 G Lb ρ' σ' H' fp' → Dn.ct σ' H'
  | .ret d => ∀ v H' fq, Same X.H_0 H' → RO X.K (fun a => a ∈ fq ∨ ex0 a) H' kr d v fq → fq.Nodup → (∀ a ∈ fq, X.H_0 a = none) → Dn.rt v H'
  | .exc c ρ' => ∀ C, X.mg c = some (.ref C) → ∀ σ' H' fp', SS X.K X.H_0 ex0 G [] ρ' σ' H' fp' → W (.ref C) none σ' H'
  | .err => False
def tS (X : Cx) (W : WX) (kr : Nat) (Lb L L' : List Nat) (F : SF) : TS := fun Dn σ H => ∃ ex0 G ρ fp, SS X.K X.H_0 ex0 G L ρ σ H fp ∧ FOut X W kr Lb L' ex0 G Dn (F ρ)
abbrev SJ (X : Cx) (W : WX) (kr : Nat) (Lb L L' : List Nat) (st : Stmt) (F : SF) : Prop := PS X st (tS X W kr Lb L L' F)
abbrev SJs (X : Cx) (W : WX) (kr : Nat) (Lb L L' : List Nat) (st : List Stmt) (F : SF) : Prop := PSs X st (tS X W kr Lb L L' F)
def sNext : SF := fun ρ => .next ρ
def sSeq (F G : SF) : SF := fun ρ => match F ρ with
  | .next ρ' => G ρ'
  | r => r
/-- an expression's outcome, then a statement's -/
def Res.flow {α : Type} (r : Res α) (ρ : Env) (k : α → Flow) : Flow := match r with
  | .ok a => k a
  | .exc c => .exc c ρ
  | .err => .err
@[simp] theorem flow_ok {α : Type} (a : α) (ρ : Env) (k : α → Flow) : (Res.ok a).flow ρ k = k a := id rfl
@[simp] theorem flow_exc {α : Type} (c : Str) (ρ : Env) (k : α → Flow) : (Res.exc c : Res α).flow ρ k = .exc c ρ := id rfl
@[simp] theorem flow_err {α : Type} (ρ : Env) (k : α → Flow) : (Res.err : Res α).flow ρ k = .err := id rfl
section
variable {X : Cx} {W : WX} {kr n m k : Nat} {Lb L L1 Lc : List Nat} {st : Stmt} {sts a b : List Stmt} {F G : SF} {e c : Expr} {f : EF} {ft : Env → Res Bool} {pos : Pos}
theorem FOut.nx {L' : List Nat} {ex0 : AS} {Gs : List (D × V)} {Dn : Ends} {nx : L2.St → Hp → Prop} {r : Flow} (h : FOut X W kr Lb L' ex0 Gs Dn r) (hn : ∀ ρ', r ≠ .next ρ') : FOut X W kr Lb L1 ex0 Gs { Dn with nx := nx } r := by
  cases r with
  | next ρ' => exact absurd rfl (hn ρ')
  | _ => exact h
/-- an expression ahead of the rest of a statement -/
theorem flow_out {α : Type} {r : Res α} {ρ : Env} {σ : L2.St} {H : Hp} {fp : Nat → List Addr} {L' : List Nat} {ex0 : AS} {Gs : List (D × V)} {Dn : Ends} {kk : α → Flow} (S : SS X.K X.H_0 ex0 Gs L ρ σ H fp) (h : FOut X W kr Lb L' ex0 Gs Dn (r.flow ρ kk)) :
    Out X W σ H r fun a => FOut X W kr Lb L' ex0 Gs Dn (kk a) := by
  cases r with
  | ok a => exact h
  | exc c => exact fun C hC H' e => h C hC σ H' _ (S.dropAll.up e)
  | err => exact h
theorem sjs_nil : SJs X W kr Lb L L [] sNext := PSs.imp pss_nil fun Dn σ H ⟨ex0, Gs, ρ, fp, S, o⟩ => o σ H fp S
theorem sjs_cons (h1 : SJ X W kr Lb L L1 st F) (h2 : SJs X W kr Lb L1 Lc sts G) : SJs X W kr Lb L Lc (st :: sts) (sSeq F G) := PSs.imp (pss_cons h1 h2) fun Dn σ H ⟨ex0, Gs, ρ, fp, S, o⟩ => by
  refine ⟨ex0, Gs, ρ, fp, S, ?_⟩
  unfold sSeq at o
  cases q : F ρ with
  | next ρ' =>
    rw [q] at o
    exact fun σ' H' fp' S' => ⟨ex0, Gs, ρ', fp', S', o⟩
  | _ =>
    rw [q] at o
    exact o
theorem sjs_one (h1 : SJ X W kr Lb L L1 st F) : SJs X W kr Lb L L1 [st] F := pss_one h1
/-- a slot's list is known to others from here on -/
theorem sjs_drop (i : Nat) (h : SJs X W kr Lb (L.set i 0) L1 sts F) : SJs X W kr Lb L L1 sts F := PSs.imp h fun Dn σ H ⟨ex0, Gs, ρ, fp, S, o⟩ => by
  obtain ⟨fp', S'⟩ := S.drop i
  exact ⟨ex0, Gs, ρ, fp', S', o⟩
/-- slots are forgotten -/
def sKill (is : List Nat) (F : SF) : SF := fun ρ => F (wipeE ρ is)
theorem sjs_kill (is : List Nat) (h : SJs X W kr Lb L L1 sts F) : SJs X W kr Lb L L1 sts (sKill is F) := PSs.imp h fun Dn σ H ⟨ex0, Gs, ρ, fp, S, o⟩ => ⟨ex0, Gs, _, fp, S.kill is, o⟩
theorem sj_pass : SJ X W kr Lb L L (.Pass pos) sNext := PS.imp ps_pass fun Dn σ H ⟨ex0, Gs, ρ, fp, S, o⟩ => o σ H fp S
def sBreak : SF := fun ρ => .brk ρ
def sCont : SF := fun ρ => .cont ρ
theorem sj_break : SJ X W kr L L L1 (.Break pos) sBreak := PS.imp ps_break fun Dn σ H ⟨ex0, Gs, ρ, fp, S, o⟩ => o σ H fp S
theorem sj_cont : SJ X W kr L L L1 (.Continue pos) sCont := PS.imp ps_continue fun Dn σ H ⟨ex0, Gs, ρ, fp, S, o⟩ => o σ H fp S
def sRet (f : EF) : SF := fun ρ => (f ρ).flow ρ fun d => .ret d
theorem sj_ret (h : EO X W L kr e f) : SJ X W kr Lb L L1 (.Return (some e) pos) (sRet f) := PS.imp (ps_ret h) fun Dn σ H ⟨ex0, Gs, ρ, fp, S, o⟩ =>
  ⟨_, ρ, fp, S.si, (flow_out S o).mono fun d q v H' fq e r nd nw => q v H' fq (S.same.trans e) (r.less fun a h => .inl (by
    rcases h with h | h
    · exact .inl h
    · exact .inr (.inr h))) nd fun a ha => S.same.free (nw a ha)⟩
def sRetN : SF := fun _ => .ret .non
theorem sj_retN : SJ X W kr Lb L L1 (.Return none pos) sRetN := PS.imp ps_retN fun Dn σ H ⟨ex0, Gs, ρ, fp, S, o⟩ =>
  o .non H [] S.same (RO.flat (by rw [R]) rfl) List.nodup_nil fun a h => nomatch h
def sDrop (f : EF) : SF := fun ρ => (f ρ).flow ρ fun _ => .next ρ
theorem sj_expr (h : EB X W L n e f) (hs : swapsWith e none pos.line X.env = pure false := by rfl) : SJ X W kr Lb L L (.Expr e pos) (sDrop f) := PS.imp (ps_expr h hs) fun Dn σ H ⟨ex0, Gs, ρ, fp, S, o⟩ =>
  ⟨_, ρ, fp, S.si, (flow_out S o).mono fun d q v H' e r => q σ H' fp (S.up e)⟩
def sIf (t : Env → Res Bool) (F G : SF) : SF := fun ρ => (t ρ).flow ρ fun b => if b = true then F ρ else G ρ
theorem sj_if (hc : ET X W L c ft) (ha : SJs X W kr Lb L L1 a F) (hb : SJs X W kr Lb L L1 b G) : SJ X W kr Lb L L1 (.If c a b pos) (sIf ft F G) := PS.imp (ps_if hc ha hb) fun Dn σ H ⟨ex0, Gs, ρ, fp, S, o⟩ =>
  ⟨_, ρ, fp, S.si, (flow_out S o).mono fun t q H' e => by
    cases t with
    | true => exact ⟨ex0, Gs, ρ, fp, S.up e, q⟩
    | false => exact ⟨ex0, Gs, ρ, fp, S.up e, q⟩⟩
/-- x = e -/
def sSet (i : Nat) (f : EF) : SF := fun ρ => (f ρ).flow ρ fun d => .next (ρ.set i (some d))
theorem asg_imp {i k : Nat} (hi : i < L.length) {Dn : Ends} {σ : L2.St} {H : Hp} (h : tS X W kr Lb L (L.set i k) (sSet i f) Dn σ H) : tAsg (tO X W L k f) (gName i) Dn σ H := by
  obtain ⟨ex0, Gs, ρ, fp, S, o⟩ := h
  refine ⟨_, ρ, fp, S.si, (flow_out S o).mono fun d q v H' fq e r nd nw => ?_⟩
  obtain ⟨fp', S'⟩ := S.put e r nd nw hi
  exact q _ _ _ S'
theorem sj_set {i k : Nat} {x : Str} {pos' : Pos} (hN : X.N.Nodup) (hx' : X.N[i]? = some x) (hx : Loc X.env.scope x) (he : EO X W L k e f) (hi : i < L.length) (hs : swapsWith e (some (.Name x pos')) pos.line X.env = pure false := by rfl)
    (hf : X.fn x = true ∨ X.env.scope.names.lookup x = some .local := by first | exact .inl rfl | exact .inr rfl | assumption) : SJ X W kr Lb L (L.set i k) (.Assign [.Name x pos'] e pos) (sSet i f) :=
  PS.imp (ps_set hN hx' hx he hs hf) fun Dn σ H h => asg_imp hi h
/-- x = [.. for ..] where the model stores within the comprehension -/
theorem sj_setLc {i k : Nat} {y : Str} {py spos : Pos} {elt tg iter : Expr} {ifs : List Expr} {scope : Scope} {own : List (Str × Nat)} {fI : Env → Res (List D)} {gf : Env → D → Res Env} {g : TG} {is : List Nat}
    (hc : X.calm = true) (hN : X.N.Nodup) (hy : X.N[i]? = some y) (hyl : X.env.scope.names.lookup y = some .local) (hi' : i < L.length)
    (hsw : swapsWith (.ListComp elt [⟨tg, iter, ifs, 0⟩] scope pos) (some (.Name y py)) spos.line X.env = pure true) (hi : EI X W L 1 tg iter fI) (ok : BlkOk X.N X.env.scope scope own)
    (hg : ∀ (s : Shared) (H : Hp) (C : Addr) (cl : List (Str × Addr)) (fp : List Addr), PG (X.blk s H scope (compEnvC scope cl C X.env) fp) tg g)
    (ht : ∀ (s : Shared) (H : Hp) (C : Addr) (cl : List (Str × Addr)) (fp : List Addr), ETs (X.blk s H scope (compEnvC scope cl C X.env) fp) W0 L ifs ft)
    (he : ∀ (s : Shared) (H : Hp) (C : Addr) (cl : List (Str × Addr)) (fp : List Addr), EO (X.blk s H scope (compEnvC scope cl C X.env) fp) W0 L k elt f)
    (gs : GSem X.K g gf is) (hs : ∀ i ∈ is, i ∈ own.map (·.2)) (hL : ∀ i ∈ is, L.getD i 0 = 0) (hfs : ∀ x, foldedSetIterable iter X.env x = pure x := by intro _; rfl) :
    SJ X W kr Lb L (L.set i (k + 1)) (.Assign [.Name y py] (.ListComp elt [⟨tg, iter, ifs, 0⟩] scope pos) spos) (sSet i (eLc fI (own.map (·.2)) gf ft f)) :=
  PS.imp (ps_setLc (te := tO X W0 L k f) (tt := tT X W0 L ft) hc hN hy hyl hsw hi ok hg ht he hfs) fun Dn σ H h => by
    have h2 := asg_imp hi' h
    exact lc_imp gs hs hL h2
/-- a target that unpacks: shared values to shared slots -/
def sUnp (gf : Env → D → Res Env) (f : EF) : SF := fun ρ => (f ρ).flow ρ fun d => (noX' (gf ρ d)) where
  noX' : Res Env → Flow
    | .ok ρ' => .next ρ'
    | _ => .err
theorem sj_unp {tg : Expr} {g : TG} {gf : Env → D → Res Env} {is : List Nat} (hg : PG X tg g) (gs : GSem X.K g gf is) (he : EB X W L 0 e f) (hL : ∀ i ∈ is, L.getD i 0 = 0) (hs : swapsWithSole [tg] e pos.line X.env = pure false := by rfl) (hw : swappedStores [tg] e X.env = pure none := by rfl)
    (h1 : (assignEach [tg] X.env).map (·.2) = [assign tg X.env] := by rfl) : SJ X W kr Lb L L (.Assign [tg] e pos) (sUnp gf f) :=
  PS.imp (ps_asg he hg hs hw h1) fun Dn σ H ⟨ex0, Gs, ρ, fp, S, o⟩ => ⟨_, ρ, fp, S.si, (flow_out S o).mono fun d q v H' e r => by
    cases hg : gf ρ d with
    | ok ρ' =>
      rw [hg] at q
      refine gs _ v σ H' _ d ρ ρ' r hg fun l hl e2 => ?_
      obtain ⟨fp', S'⟩ := (S.up e).sets l fun t ht => ⟨(hl t ht).1, hL _ (hl t ht).2⟩
      rw [← e2] at S'
      exact q _ _ _ S'
    | exc c =>
      rw [hg] at q
      exact q.elim
    | err =>
      rw [hg] at q
      exact q.elim⟩
/-- x += e, of ints and texts -/
def sAug (o : D → D → Res D) (i : Nat) (f : EF) : SF := fun ρ => (eVar i ρ).flow ρ fun a => (f ρ).flow ρ fun b => match o a b with
  | .ok d => .next (ρ.set i (some d))
  | _ => .err
theorem sj_aug {op : Operator} {o : D → D → Res D} {i : Nat} {x : Str} {pos' : Pos} (hN : X.N.Nodup) (hx' : X.N[i]? = some x) (hx : Loc X.env.scope x) (ho : Op2 X 0 0 0 (inplaceOp op) o) (he : EB X W L 0 e f) (hi : i < L.length) (hL : L.getD i 0 = 0)
    (hf : X.fn x = true ∨ X.env.scope.names.lookup x = some .local := by first | exact .inl rfl | exact .inr rfl | assumption) : SJ X W kr Lb L (L.set i 0) (.AugAssign (.Name x pos') op e pos) (sAug o i f) :=
  PS.imp (ps_aug hN hx' hx he ho hf) fun Dn σ H ⟨ex0, Gs, ρ, fp, S, q⟩ => by
    unfold sAug at q
    cases ev : eVar i ρ with
    | exc c =>
      unfold eVar at ev
      split at ev <;> cases ev
    | err =>
      rw [ev] at q
      exact q.elim
    | ok d0 =>
      rw [ev, flow_ok] at q
      have hρ : ρ.getD i none = some d0 := by
        unfold eVar at ev
        split at ev
        · rename_i d hd
          cases ev
          exact hd
        · cases ev
      obtain ⟨v0, h1, h2⟩ := S.si.val i d0 (getD_some hρ)
      rw [hL] at h2
      refine ⟨v0, h1, _, ρ, fp, S.si, (flow_out S q).mono fun d1 q1 v1 H1 e1 r1 => ?_⟩
      cases ed : o d0 d1 with
      | ok d =>
        rw [ed] at q1
        refine ⟨_, d0, d1, d, (S.si.same e1).ext, (show R X.K _ H1 d0 v0 from h2.2.same e1), r1, ed, fun v H2 fq e2 ro nd nw => ?_⟩
        obtain ⟨fp', S'⟩ := (S.up e1).put e2 ro nd nw hi
        exact q1 _ _ _ S'
      | exc c =>
        rw [ed] at q1
        exact q1.elim
      | err =>
        rw [ed] at q1
        exact q1.elim

/-! ### loops -/
/-- behind a turn of a loop -/
def loopK (r : Flow) (k : Env → Flow) : Flow := match r with
  | .next ρ => k ρ
  | .cont ρ => k ρ
  | .brk ρ => .next ρ
  | .ret d => .ret d
  | .exc c ρ => .exc c ρ
  | .err => .err
@[simp] theorem loopK_next (ρ : Env) (k : Env → Flow) : loopK (.next ρ) k = k ρ := id rfl
@[simp] theorem loopK_cont (ρ : Env) (k : Env → Flow) : loopK (.cont ρ) k = k ρ := id rfl
@[simp] theorem loopK_brk (ρ : Env) (k : Env → Flow) : loopK (.brk ρ) k = .next ρ := id rfl
@[simp] theorem loopK_ret (d : D) (k : Env → Flow) : loopK (.ret d) k = .ret d := id rfl
@[simp] theorem loopK_exc (c : Str) (ρ : Env) (k : Env → Flow) : loopK (.exc c ρ) k = .exc c ρ := id rfl
@[simp] theorem loopK_err (k : Env → Flow) : loopK .err k = .err := id rfl
/-- what may not raise -/
def Res.must {α : Type} (r : Res α) (k : α → Flow) : Flow := match r with
  | .ok a => k a
  | _ => .err
@[simp] theorem must_ok {α : Type} (a : α) (k : α → Flow) : (Res.ok a).must k = k a := id rfl
@[simp] theorem must_exc {α : Type} (c : Str) (k : α → Flow) : (Res.exc c : Res α).must k = .err := id rfl
@[simp] theorem must_err {α : Type} (k : α → Flow) : (Res.err : Res α).must k = .err := id rfl
def forE (gf : Env → D → Res Env) (F : SF) : List D → Env → Flow
  | [], ρ => .next ρ
  | d :: ds, ρ => (gf ρ d).must fun ρ1 => loopK (F ρ1) (forE gf F ds)
def sFor (fI : Env → Res (List D)) (gf : Env → D → Res Env) (F : SF) : SF := fun ρ => (fI ρ).flow ρ fun ds => forE gf F ds ρ
theorem sj_for {tg iter : Expr} {g : TG} {gf : Env → D → Res Env} {is : List Nat} {fI : Env → Res (List D)} {body : List Stmt} (hp : PassesOwn (model X.prog X.w) X.A X.env X.xe) (hc : X.calm = true) (hi : EI X W L 0 tg iter fI) (hg : PG X tg g) (gs : GSem X.K g gf is) (hL : ∀ i ∈ is, L.getD i 0 = 0)
    (hb : SJs X W kr L L L body F) (hs : ∀ x, foldedSetIterable iter X.env x = pure x := by intro _; rfl) : SJ X W kr Lb L L (.For tg iter body [] pos) (sFor fI gf F) :=
  PS.imp (ps_for hp hc hi hg hb hs) fun Dn σ H ⟨ex0, Gs, ρ, fp, S, o⟩ => by
    refine ⟨_, ρ, fp, S.si, (flow_out S o).mono fun ds q J H1 gh e1 rg itn => ?_⟩
    refine ⟨fun i m σi Hi => i + m = ds.length ∧ ∃ ρi fpi, SS X.K X.H_0 ex0 (gh.2 :: gh.1 :: Gs) L ρi σi Hi fpi ∧ FOut X W kr Lb L ex0 Gs Dn (forE gf F (ds.drop i) ρi), ⟨ds.length, by omega, ρ, fp, ((S.up e1).hold rg.1).hold rg.2, q⟩, fun i m σi Hi hW => ?_⟩
    obtain ⟨em, ρi, fpi, Si, qi⟩ := hW
    have hold : HR X.K (exOf fpi ex0) Hi 0 gh := ⟨Si.held gh.1 (List.mem_cons_of_mem _ List.mem_cons_self), Si.held gh.2 List.mem_cons_self⟩
    by_cases hi : i < ds.length
    · refine .inr ⟨itn.go _ Hi i hold hi, fun σ' H' => ∃ m', m' < m ∧ i + 1 + m' = ds.length ∧ ∃ ρi fpi, SS X.K X.H_0 ex0 (gh.2 :: gh.1 :: Gs) L ρi σ' H' fpi ∧ FOut X W kr Lb L ex0 Gs Dn (forE gf F (ds.drop (i + 1)) ρi), fun σ' H' h => h, fun x H' hy => ?_⟩
      obtain ⟨d, hd⟩ : ∃ d, ds[i]? = some d := ⟨_, List.getElem?_eq_getElem hi⟩
      obtain ⟨e3, rx⟩ := itn.item _ Hi i d x H' hold hd hy
      have ed : ds.drop i = d :: ds.drop (i + 1) := by
        rw [List.drop_eq_getElem_cons hi]
        congr 1
        rw [List.getElem?_eq_getElem hi] at hd
        exact Option.some.inj hd
      rw [ed, forE] at qi
      cases hgf : gf ρi d with
      | exc c => rw [hgf] at qi; exact qi.elim
      | err => rw [hgf] at qi; exact qi.elim
      | ok ρ1 =>
        rw [hgf, must_ok] at qi
        refine gs _ x σi H' _ d ρi ρ1 rx hgf fun l hl e4 => ?_
        obtain ⟨fp', S'⟩ := (Si.up e3).sets l fun t ht => ⟨(hl t ht).1, hL _ (hl t ht).2⟩
        rw [← e4] at S'
        refine ⟨ex0, gh.2 :: gh.1 :: Gs, ρ1, fp', S', ?_⟩
        cases hF : F ρ1 with
        | next ρ2 =>
          rw [hF] at qi
          exact fun σ2 H2 fp2 S2 => ⟨m - 1, by omega, by omega, ρ2, fp2, S2, qi⟩
        | cont ρ2 =>
          rw [hF] at qi
          exact fun σ2 H2 fp2 S2 => ⟨m - 1, by omega, by omega, ρ2, fp2, S2, qi⟩
        | brk ρ2 =>
          rw [hF] at qi
          exact fun σ2 H2 fp2 S2 => qi σ2 H2 fp2 S2.tail.tail
        | ret d =>
          rw [hF] at qi
          exact qi
        | exc c ρ2 =>
          rw [hF] at qi
          exact fun C hC σ2 H2 fp2 S2 => qi C hC σ2 H2 fp2 S2.tail.tail
        | err =>
          rw [hF] at qi
          exact qi.elim
    · have ei : i = ds.length := by omega
      rw [ei, List.drop_length, forE] at qi
      exact .inl ⟨by rw [ei]; exact itn.stop _ Hi hold, qi σi Hi fpi Si.tail.tail⟩
def whileE (t : Env → Res Bool) (F : SF) : Nat → Env → Flow
  | 0, _ => .err
  | n + 1, ρ => (t ρ).flow ρ fun b => if b = true then loopK (F ρ) (whileE t F n) else .next ρ
def sWhile (n : Nat) (t : Env → Res Bool) (F : SF) : SF := whileE t F n
theorem sj_while {body : List Stmt} (n : Nat) (hp : PassesOwn (model X.prog X.w) X.A X.env X.xe) (hc : ET X W L c ft) (hb : SJs X W kr L L L body F) : SJ X W kr Lb L L (.While c body [] pos) (sWhile n ft F) :=
  PS.imp (ps_while hp hc hb) fun Dn σ H ⟨ex0, Gs, ρ, fp, S, o⟩ => by
    refine ⟨fun m σi Hi => ∃ ρi fpi, SS X.K X.H_0 ex0 Gs L ρi σi Hi fpi ∧ FOut X W kr Lb L ex0 Gs Dn (whileE ft F m ρi), ⟨n, ρ, fp, S, o⟩, fun m σi Hi hW => ?_⟩
    obtain ⟨ρi, fpi, Si, qi⟩ := hW
    cases m with
    | zero => exact qi.elim
    | succ m =>
      rw [whileE] at qi
      refine ⟨_, ρi, fpi, Si.si, (flow_out Si qi).mono fun t q H' e => ?_⟩
      cases t with
      | false =>
        rw [if_neg Bool.false_ne_true] at q ⊢
        exact q σi H' fpi (Si.up e)
      | true =>
        rw [if_pos rfl] at q ⊢
        refine ⟨fun σ2 H2 => ∃ ρ2 fp2, SS X.K X.H_0 ex0 Gs L ρ2 σ2 H2 fp2 ∧ FOut X W kr Lb L ex0 Gs Dn (whileE ft F m ρ2), fun σ2 H2 h => ⟨m, Nat.lt_succ_self m, h⟩, ex0, Gs, ρi, fpi, Si.up e, ?_⟩
        cases hF : F ρi with
        | next ρ2 =>
          rw [hF] at q
          exact fun σ2 H2 fp2 S2 => ⟨ρ2, fp2, S2, q⟩
        | cont ρ2 =>
          rw [hF] at q
          exact fun σ2 H2 fp2 S2 => ⟨ρ2, fp2, S2, q⟩
        | brk ρ2 =>
          rw [hF] at q
          exact q
        | ret d =>
          rw [hF] at q
          exact q
        | exc c ρ2 =>
          rw [hF] at q
          exact q
        | err =>
          rw [hF] at q
          exact q.elim
end
end Px

namespace Px
open PySem PySem.Spec PyProof.Rows L2

/-! ### defs -/
/-- the promise of a def that does C -/
def Spec (K : PySem.W.Frag) (mg : Str → Option Value) (ar kr : Nat) (C : List D → Res D) : Sp := fun vs H Q E => vs.length = ar ∧ ∃ ex ds, (∀ a, ex a → H a ≠ none) ∧ Paired (R K ex H) ds vs ∧ match C ds with
  | .ok d => QO K ex H kr Q d
  | .exc c => ∀ Cl, mg c = some (.ref Cl) → ∀ H', Same H H' → E (.ref Cl) none H'
  | .err => False
def startE (n : Nat) (ds : List D) : Env := ds.map some ++ List.replicate (n - ds.length) none
/-- a body's meaning as a function of its arguments -/
def fnE (n : Nat) (F : SF) (ds : List D) : Res D := match F (startE n ds) with
  | .ret d => .ok d
  | .next _ => .ok .non
  | .exc c _ => .exc c
  | _ => .err
theorem start_val {K : PySem.W.Frag} {ex : AS} {H : Hp} {N : List Str} {ds : List D} {vs : List V} (h : Paired (R K ex H) ds vs) : ∀ (i : Nat) (d : D), (startE N.length ds)[i]? = some (some d) → ∃ v : V, (L2.start N vs)[i]? = some (some v) ∧ R K ex H d v := by
  intro i d e
  unfold startE at e
  unfold L2.start
  by_cases hi : i < ds.length
  · rw [List.getElem?_append_left (by rw [List.length_map]; exact hi), List.getElem?_map] at e
    cases q : ds[i]? with
    | none => rw [q] at e; cases e
    | some d' =>
      rw [q] at e
      cases e
      obtain ⟨v, h1, h2⟩ := Paired.get h q
      refine ⟨v, ?_, h2⟩
      rw [List.getElem?_append_left (by rw [List.length_map, ← h.length]; exact hi), List.getElem?_map, h1]
      rfl
  · rw [List.getElem?_append_right (by rw [List.length_map]; omega), List.getElem?_replicate] at e
    split at e <;> cases e
theorem getD_rep0 (n i : Nat) : (List.replicate n 0).getD i 0 = 0 := by
  rw [List.getD_eq_getElem?_getD, List.getElem?_replicate]
  split <;> rfl
section
variable {P : Program} {w : World} {K : PySem.W.Frag} {mg : Str → Option Value} {base : Heap}
theorem fn_ok {x qual : Str} {st : Stmt} {f : Addr} {fd : FuncData} {N ps : List Str} {k kr ar nN : Nat} {L L' : List Nat} {FF : SF} {C : List D → Res D} (F : Fun K x qual st f fd) (S : FnScope N ps (defScope st)) (hn : nN = N.length) (har : ar = ps.length) (hL0 : L = List.replicate nN 0) (hC : C = fnE nN FF)
    (h : ∀ (cdv : Value) (A : Around) (outer : List PySem.Env) (s : Shared) (H : Hp) (E : XK), Room k (A.deeper (envOfC qual (defScope st) s.heap.objs.size f cdv)) →
      SJs (cxOf (L2.CX P w) P w K mg base N qual (defScope st) f cdv A outer s H E) (fun cls d _ H => E cls d H) kr [] L L' (defBody st) FF) :
    FnOk P w K mg base (L2.CX P w) (k + 1) f fd ps (Spec K mg ar kr C) := by
  subst hn har hL0 hC
  refine F.okX S (fun vs H Q E h => h.1) (fun cdv A outer s H vs Q E hr hsp => ⟨_, h cdv A outer s H E hr, ?_⟩)
  obtain ⟨hl, ex, ds, ext, r, q⟩ := hsp
  have e0 : ∀ a, exOf (fun _ => []) ex a → ex a := fun a z => by
    rcases z with ⟨_, z⟩ | z
    · cases z
    · exact z
  have hlen := r.length
  have SSi : SS K H ex [] (List.replicate N.length 0) (startE N.length ds) (L2.start N vs) H fun _ => [] := by
    refine ⟨⟨?_, fun i d e => ?_, fun i => List.nodup_nil, fun i j a z => (nomatch z), fun i a z => (nomatch z), fun a z => ext a (e0 a z)⟩, fun i a z => (nomatch z), ext, Same.refl H, fun g z => (nomatch z)⟩
    · unfold startE L2.start
      simp [hlen]
    · obtain ⟨v, h1, h2⟩ := start_val r i d e
      exact ⟨v, h1, by rw [getD_rep0]; exact ⟨rfl, h2.less fun a z => .inl (e0 a z)⟩⟩
  refine ⟨ex, [], startE N.length ds, fun _ => [], SSi, ?_⟩
  unfold fnE at q
  unfold FOut
  cases hF : FF (startE N.length ds) with
  | next ρ' =>
    rw [hF] at q
    intro σ' H' fp' S'
    exact q .non H' [] S'.same (RO.flat (by rw [R]) rfl) List.nodup_nil fun a z => nomatch z
  | ret d =>
    rw [hF] at q
    exact q
  | exc c ρ' =>
    rw [hF] at q
    exact fun C hC σ' H' fp' S' => q C hC H' S'.same
  | brk ρ' =>
    rw [hF] at q
    exact q.elim
  | cont ρ' =>
    rw [hF] at q
    exact q.elim
  | err =>
    rw [hF] at q
    exact q.elim
end
section
variable {X : Cx} {W : WX} {L : List Nat} {n m k kr : Nat} {pos p : Pos} {e : Expr} {es : List Expr} {f : Addr} {fd : FuncData} {ps : List Str} {x : Str} {C : List D → Res D} {fs : Env → Res (List D)}
theorem eo_call (F : FnOk X.prog X.w X.K X.mg X.base (L2.CX X.prog X.w) k f fd ps (Spec X.K X.mg m kr C)) (hr : Room k X.A) (hg : Gl X x) (hm : X.mg x = some (.ref f)) (hk : PySem.W.keepIn X.K (.ref f) = true) (hb : Binds X.K fd ps []) (tk : Takes X W)
    (ha : EA X W L 0 m (e :: es) fs) (hdb : (x == ("__debug__" : Str)) = false := by decide) (he : starEach (e :: es) X.env = (false, eval e X.env) :: starEach es X.env := by rfl) (hpl : (backTo pos (starEach es X.env)).any (·.1) = false := by rfl) :
    EO X W L kr (.Call (.Name x p) (e :: es) [] pos) (eCall C fs) :=
  PE.imp (pe_callS F hr hg hm hk hb (fun σ => passAt tk σ) ha hdb he hpl) fun σ H Q ⟨ex, ρ, fp, I, o⟩ => ⟨ex, ρ, fp, I, o.bind.mono fun ds q vs H1 e1 r1 hl => by
    refine ⟨hl, ex, ds, (I.same e1).ext, r1, ?_⟩
    cases hC : C ds with
    | ok d =>
      rw [hC] at q
      exact fun v H2 fq e2 ro nd nw => q v H2 fq (e1.trans e2) ro nd fun a ha => e1.free (nw a ha)
    | exc c =>
      rw [hC] at q
      exact fun Cl hCl H' e2 => q Cl hCl H' (e1.trans e2)
    | err =>
      rw [hC] at q
      exact q.elim⟩
mutual
/-- no list within -/
def noL : D → Bool
  | .non => true
  | .bl _ => true
  | .int _ => true
  | .str _ => true
  | .tup xs => noLL xs
  | .lst _ => false
  | .dic _ _ => false
  | .set _ => false
  | .exc _ => false
  | .oth => false
def noLL : List D → Bool
  | [] => true
  | d :: ds => noL d && noLL ds
end
theorem noLL_all : ∀ xs : List D, noLL xs = xs.all noL
  | [] => by rw [noLL, List.all_nil]
  | x :: xs => by rw [noLL, List.all_cons, noLL_all xs]
mutual
theorem R.any {K : PySem.W.Frag} {ex ex' : AS} {H : Hp} : ∀ (d : D) {v : V}, noL d = true → R K ex H d v → R K ex' H d v
  | .non, _, _, h => by
    rw [R] at h ⊢
    exact h
  | .bl _, _, _, h => by
    rw [R] at h ⊢
    exact h
  | .int _, _, _, h => by
    rw [R] at h ⊢
    exact h
  | .str _, _, _, h => by
    rw [R] at h ⊢
    exact h
  | .tup ds, _, n, h => by
    rw [R] at h ⊢
    rw [noL] at n
    obtain ⟨a, xs, e, h1, h2⟩ := h
    exact ⟨a, xs, e, h1, RL.any ds n h2⟩
  | .lst _, _, n, _ => by
    rw [noL] at n
    cases n
  | .dic _ _, _, n, _ => by
    rw [noL] at n
    cases n
  | .set _, _, n, _ => by
    rw [noL] at n
    cases n
  | .exc _, _, n, _ => by
    rw [noL] at n
    cases n
  | .oth, _, n, _ => by
    rw [noL] at n
    cases n
theorem RL.any {K : PySem.W.Frag} {ex ex' : AS} {H : Hp} : ∀ (ds : List D) {vs : List V}, noLL ds = true → RL K ex H ds vs → RL K ex' H ds vs
  | [], _, _, h => by
    rw [RL] at h ⊢
    exact h
  | d :: ds, _, n, h => by
    rw [RL] at h ⊢
    rw [noLL, Bool.and_eq_true] at n
    obtain ⟨v, r, e, h1, h2⟩ := h
    exact ⟨v, r, e, R.any d n.1 h1, RL.any ds n.2 h2⟩
end
/-- borrowed for a look: nothing is owned by anyone -/
theorem RB.look {K : PySem.W.Frag} {ex : AS} {H : Hp} : ∀ {n : Nat} {d : D} {v : V}, RB K ex H n d v → R K (fun _ => False) H d v
  | 0, _, _, h => R.less (fun a q => q.elim) h
  | n + 1, d, v, h => by
    cases d with
    | lst ds =>
      rw [RB] at h
      obtain ⟨a, xs, e, h1, h2⟩ := h
      rw [R]
      exact ⟨a, xs, e, ⟨LsX.of h1.1 fun q => q, h1.2⟩, RL.of (h2.mono fun _ _ q => RB.look q)⟩
    | _ => exact R.less (fun a q => q.elim) (RB.flat h rfl)
/-- a call that only looks at lists that are owned here: what it hands back holds no list -/
def eCallP (C : List D → Res D) (fs : Env → Res (List D)) : EF := fun ρ => fs ρ >>= fun ds => C ds >>= fun d => if noL d = true then .ok d else .err
theorem eo_callP (F : FnOk X.prog X.w X.K X.mg X.base (L2.CX X.prog X.w) k f fd ps (Spec X.K X.mg m kr C)) (hr : Room k X.A) (hg : Gl X x) (hm : X.mg x = some (.ref f)) (hk : PySem.W.keepIn X.K (.ref f) = true) (hb : Binds X.K fd ps []) (tk : Takes X W)
    (ha : EA X W L n m (e :: es) fs) (hdb : (x == ("__debug__" : Str)) = false := by decide) (he : starEach (e :: es) X.env = (false, eval e X.env) :: starEach es X.env := by rfl) (hpl : (backTo pos (starEach es X.env)).any (·.1) = false := by rfl) :
    EB X W L 0 (.Call (.Name x p) (e :: es) [] pos) (eCallP C fs) :=
  PE.imp (pe_callS F hr hg hm hk hb (fun σ => passAt tk σ) ha hdb he hpl) fun σ H Q ⟨ex, ρ, fp, I, o⟩ => ⟨ex, ρ, fp, I, o.bind.mono fun ds q vs H1 e1 r1 hl => by
    refine ⟨hl, fun _ => False, ds, fun a z => z.elim, r1.mono fun _ _ z => RB.look z, ?_⟩
    cases hC : C ds with
    | ok d =>
      rw [hC, Res.bind_ok] at q
      split at q
      · rename_i hn
        intro v H2 fq e2 ro nd nw
        refine q v H2 (e1.trans e2) (show R X.K ex H2 d v from ?_)
        exact R.any d hn (ro.shared (ex' := fun _ => False) (fun a z => z.elim) fun a _ z => z.elim)
      · exact q.elim
    | exc c =>
      rw [hC] at q
      exact fun Cl hCl H' e2 => q Cl hCl H' (e1.trans e2)
    | err =>
      rw [hC] at q
      exact q.elim⟩
end

/-! ### kinds -/
def tyS : D → Option String
  | .non => some "NoneType"
  | .bl _ => some "bool"
  | .int _ => some "int"
  | .str _ => some "str"
  | .tup _ => some "tuple"
  | .lst _ => some "list"
  | _ => none
def isInt : D → Bool
  | .int _ => true
  | .bl _ => true
  | _ => false
def isBool : D → Bool
  | .bl _ => true
  | _ => false
def isStr : D → Bool
  | .str _ => true
  | _ => false
def isTup : D → Bool
  | .tup _ => true
  | _ => false
def isLst : D → Bool
  | .lst _ => true
  | _ => false
def Kind (T : String) (p : D → Bool) : Prop := ∀ d ty, tyS d = some ty → kitB ty T = some (p d)
theorem kind_int : Kind "int" isInt := fun d ty h => by
  cases d <;> cases h
  · exact (show kitB "NoneType" "int" = some false by decide +kernel)
  · exact (show kitB "bool" "int" = some true by decide +kernel)
  · exact (show kitB "int" "int" = some true by decide +kernel)
  · exact (show kitB "str" "int" = some false by decide +kernel)
  · exact (show kitB "tuple" "int" = some false by decide +kernel)
  · exact (show kitB "list" "int" = some false by decide +kernel)
theorem kind_bool : Kind "bool" isBool := fun d ty h => by
  cases d <;> cases h
  · exact (show kitB "NoneType" "bool" = some false by decide +kernel)
  · exact (show kitB "bool" "bool" = some true by decide +kernel)
  · exact (show kitB "int" "bool" = some false by decide +kernel)
  · exact (show kitB "str" "bool" = some false by decide +kernel)
  · exact (show kitB "tuple" "bool" = some false by decide +kernel)
  · exact (show kitB "list" "bool" = some false by decide +kernel)
theorem kind_str : Kind "str" isStr := fun d ty h => by
  cases d <;> cases h
  · exact (show kitB "NoneType" "str" = some false by decide +kernel)
  · exact (show kitB "bool" "str" = some false by decide +kernel)
  · exact (show kitB "int" "str" = some false by decide +kernel)
  · exact (show kitB "str" "str" = some true by decide +kernel)
  · exact (show kitB "tuple" "str" = some false by decide +kernel)
  · exact (show kitB "list" "str" = some false by decide +kernel)
theorem kind_tup : Kind "tuple" isTup := fun d ty h => by
  cases d <;> cases h
  · exact (show kitB "NoneType" "tuple" = some false by decide +kernel)
  · exact (show kitB "bool" "tuple" = some false by decide +kernel)
  · exact (show kitB "int" "tuple" = some false by decide +kernel)
  · exact (show kitB "str" "tuple" = some false by decide +kernel)
  · exact (show kitB "tuple" "tuple" = some true by decide +kernel)
  · exact (show kitB "list" "tuple" = some false by decide +kernel)
theorem kind_lst : Kind "list" isLst := fun d ty h => by
  cases d <;> cases h
  · exact (show kitB "NoneType" "list" = some false by decide +kernel)
  · exact (show kitB "bool" "list" = some false by decide +kernel)
  · exact (show kitB "int" "list" = some false by decide +kernel)
  · exact (show kitB "str" "list" = some false by decide +kernel)
  · exact (show kitB "tuple" "list" = some false by decide +kernel)
  · exact (show kitB "list" "list" = some true by decide +kernel)
theorem RB.ty {K : PySem.W.Frag} {ex : AS} {H : Hp} {n : Nat} {d : D} {v : V} {ty : String} (h : RB K ex H n d v) (e : tyS d = some ty) : TyX K H v (.type ty) := by
  cases d with
  | non =>
    cases e
    rw [h.non]
    exact .base .non
  | bl b =>
    cases e
    rw [h.bl]
    exact .base (.bl b)
  | int b =>
    cases e
    rw [h.int]
    exact .base (.int b)
  | str b =>
    cases e
    rw [h.str]
    exact .base (.str b)
  | tup xs =>
    cases e
    obtain ⟨a, ys, rfl, h1, _⟩ := h.tup
    rcases h1 with (h1 | ⟨o, h1⟩) | ⟨o, its, m, h1, h2, _⟩
    · exact .base (.tup h1)
    · exact .fTuple h1
    · exact .kTuple h1 h2
  | lst xs =>
    cases e
    obtain ⟨a, ys, rfl, h1, _⟩ := h.up.lst
    rcases h1 with (h1 | ⟨o, h1⟩) | ⟨o, its, m, h1, h2, _⟩
    · exact .base (.lst h1)
    · exact .base (.frz h1)
    · exact .kList h1 h2
  | _ => cases e
def dIsi (p : D → Bool) (d : D) : Res D := match tyS d with
  | some _ => .ok (.bl (p d))
  | none => .err
theorem dIsi_nx {p : D → Bool} : NoX1 (dIsi p) := fun a c h => by
  unfold dIsi at h
  split at h <;> cases h
section
variable {X : Cx} {W : WX} {L : List Nat} {n m k kr : Nat} {pos p p2 : Pos} {e : Expr} {f : EF}
theorem eo_isi {T : String} {pr : D → Bool} {t : Str} (hT : Kind T pr) (hg : Gl X "isinstance") (hm : X.mg "isinstance" = none) (hg2 : Gl X t) (hm2 : X.mg t = none) (hv2 : bootBuiltins t = some (.type T)) (he : EB X W L n e f)
    (hn2 : t ≠ "__name__" := by decide) (hdb2 : (t == ("__debug__" : Str)) = false := by decide)
    (hs1 : starEach [e, .Name t p2] X.env = (false, eval e X.env) :: starEach [.Name t p2] X.env := by rfl) (hs2 : starEach [.Name t p2] X.env = (false, eval (.Name t p2) X.env) :: starEach [] X.env := by rfl) (hpl : (backTo pos (starEach [.Name t p2] X.env)).any (·.1) = false := by rfl) :
    EO X W L k (.Call (.Name "isinstance" p) [e, .Name t p2] [] pos) (eUn (dIsi pr) f) :=
  PE.imp (pe_callB call_isi hg hm (by decide +kernel) (pa_cons he (pa_cons (pe_bltn (v := .ty T) hg2 hm2 hv2 rfl hn2 hdb2) pa_nil hs2) hs1) (by decide) (by decide) hs1 hpl) fun σ H Q ⟨ex, ρ, fp, I, o⟩ =>
    ⟨ex, ρ, fp, I, o.bind.mono fun d q v H1 e1 r1 => by
      obtain ⟨z, ez, qz⟩ := no_exc q (dIsi_nx d)
      unfold dIsi at ez
      split at ez
      · rename_i ty hty
        cases ez
        refine ⟨v, .ty T, .type ty, .type T, pr d, rfl, .ty T, r1.ty hty, kit_ty (hT d ty hty), ?_⟩
        exact QO.bl (K := X.K) (ex := ex) (k := k) fun v H2 fq e2 ro nd nw => qz v H2 fq (e1.trans e2) ro nd fun a ha => e1.free (nw a ha)
      · cases ez⟩
end

/-! ### lists that change -/
section
variable {X : Cx} {W : WX} {kr n k : Nat} {Lb L : List Nat} {e : Expr} {f g : EF} {pos apos cpos npos : Pos} {x : Str} {i : Nat}
theorem own_list {K : PySem.W.Frag} {H0 H : Hp} {ex0 : AS} {G : List (D × V)} {ρ : Env} {σ : L2.St} {fp : Nat → List Addr} (S : SS K H0 ex0 G L ρ σ H fp) {xs : List D} (hρ : ρ.getD i none = some (.lst xs)) (hL : L.getD i 0 = k + 1) :
    ∃ a vs fps, σ[i]? = some (some (.ref a)) ∧ H a = some (.lst vs) ∧ vs.length ≤ sizeLine ∧ fp i = a :: fps.flatten ∧ P3 (RO K (exOf fp ex0) H k) xs vs fps := by
  obtain ⟨v, h1, h2⟩ := S.si.val i _ (getD_some hρ)
  rw [hL, RO] at h2
  obtain ⟨a, vs, fps, rfl, h3, h4, h5⟩ := h2
  exact ⟨a, vs, fps, h1, h3.1, h3.2, h4, h5⟩
def sAppend (i : Nat) (f : EF) : SF := fun ρ => match ρ.getD i none with
  | some (.lst xs) => (f ρ).flow ρ fun d => if xs.length < sizeLine then .next (ρ.set i (some (.lst (xs ++ [d])))) else .err
  | _ => .err
theorem sj_append (hx' : X.N[i]? = some x) (hv : Vis X.env.scope x) (hL : L.getD i 0 = k + 1) (he : EO X W L k e f) (hd : (x == ("__debug__" : Str)) = false := by decide) (hcd : (x == ("__classdict__" : Str)) = false := by decide)
    (hbase : attributeBase (.Name x npos) "append" X.env (eval (.Name x npos) X.env) = eval (.Name x npos) X.env := by rfl)
    (hfew : ((backTo cpos (starEach [e] X.env)).all (fun x => !x.1) && (backToKw cpos (keywordEach [] X.env)).all (fun x => x.1.isSome)
      && decide ([e].length + ([] : List Keyword).length + (if ([] : List Keyword).isEmpty then 0 else 1) < 30)) = true := by rfl)
    (hline : (apos.endLine == cpos.line) = true := by rfl) (hs : starEach [e] X.env = (false, eval e X.env) :: starEach [] X.env := by rfl) (hplain : (backTo cpos (starEach [] X.env)).any (·.1) = false := by rfl)
    (hsw : swapsWith (.Call (.Attribute (.Name x npos) "append" apos) [e] [] cpos) none pos.line X.env = pure false := by rfl) :
    SJ X W kr Lb L L (.Expr (.Call (.Attribute (.Name x npos) "append" apos) [e] [] cpos) pos) (sAppend i f) :=
  PS.imp (ps_expr (pe_bm PySem.F.plainAttrs_list PySem.F.slot_list_append PySem.F.type_list_append mt_append (pe_var hx' hv hd hcd) (pa_cons he pa_nil hs) hbase hfew hline hs hplain) hsw) fun Dn σ H ⟨ex0, Gs, ρ, fp, S, o⟩ => by
    unfold sAppend at o
    cases hρ : ρ.getD i none with
    | none => rw [hρ] at o; exact o.elim
    | some d0 =>
      rw [hρ] at o
      cases d0 with
      | lst xs =>
        obtain ⟨a, vs, fps, h1, h2, h3, h4, h5⟩ := own_list S hρ hL
        refine ⟨.ref a, h1, .inl ⟨rfl, vs, .inl (.inl h2)⟩, _, ρ, fp, S.si, (flow_out S o).mono fun d q v H1 fq e1 ro nd nw => ?_⟩
        split at q
        · rename_i hz
          have hlv : xs.length = vs.length := P3.length h5
          have hH1 : H1 a = some (.lst vs) := e1 _ _ h2
          refine ⟨a, vs, v, rfl, rfl, hH1, by omega, ?_⟩
          have ha : a ∈ fp i := by rw [h4]; exact List.mem_cons_self
          have hafq : a ∉ fq := fun z => by
            have := nw a z
            rw [h2] at this
            cases this
          have hnod := S.si.nod i
          rw [h4] at hnod
          obtain ⟨ha2, hnod2⟩ := List.nodup_cons.mp hnod
          have hfq : ∀ b ∈ fps.flatten, b ∉ fq := fun b hb z => P3.there h5 hb (nw b z)
          have mem : ∀ b, b ∈ (fps ++ [fq]).flatten ↔ b ∈ fps.flatten ∨ b ∈ fq := fun b => by
            rw [List.flatten_append, List.mem_append]
            simp
          have kp : Keep (exOf fp ex0) H (L2.upd H1 a (.lst (vs ++ [v]))) := by
            refine ⟨fun b zs h => ?_, fun b zs hn h => ?_⟩
            · have hb : b ≠ a := fun q => by
                rw [q] at h
                rcases h with h | ⟨o, h⟩ <;> rw [h2] at h <;> cases h
              rcases Same.rd e1 h with h2 | ⟨o, h2⟩
              · exact .inl (by rw [upd_ne hb]; exact h2)
              · exact .inr ⟨o, by rw [upd_ne hb]; exact h2⟩
            · have hb : b ≠ a := fun q => hn (.inl ⟨i, by rw [q]; exact ha⟩)
              rcases Same.rd e1 h with h2 | ⟨o, h2⟩
              · exact .inl (by rw [upd_ne hb]; exact h2)
              · exact .inr ⟨o, by rw [upd_ne hb]; exact h2⟩
          have kp2 : Keep (fun b => b ∈ fq ∨ exOf fp ex0 b) H1 (L2.upd H1 a (.lst (vs ++ [v]))) := by
            refine ⟨fun b zs h => ?_, fun b zs hn h => ?_⟩
            · have hb : b ≠ a := fun q => by
                rw [q] at h
                rcases h with h | ⟨o, h⟩ <;> rw [hH1] at h <;> cases h
              rcases h with h2 | ⟨o, h2⟩
              · exact .inl (by rw [upd_ne hb]; exact h2)
              · exact .inr ⟨o, by rw [upd_ne hb]; exact h2⟩
            · have hb : b ≠ a := fun q => hn (.inr (.inl ⟨i, by rw [q]; exact ha⟩))
              rcases h with h2 | ⟨o, h2⟩
              · exact .inl (by rw [upd_ne hb]; exact h2)
              · exact .inr ⟨o, by rw [upd_ne hb]; exact h2⟩
          refine q _ _ _ (S.upd e1 (i := i) (a := a) (vs := vs) (vs' := vs ++ [v]) (dN := .lst (xs ++ [d])) (fqN := a :: (fps ++ [fq]).flatten) h1 ha h2 ?_ ?_ ?_)
          · have le1 : ∀ b, exOf (fun j => if j = i then a :: (fps ++ [fq]).flatten else fp j) ex0 b → b ∈ fq ∨ exOf fp ex0 b := fun b h => by
              rcases h with ⟨l, h⟩ | h
              · have h : b ∈ (if l = i then a :: (fps ++ [fq]).flatten else fp l) := h
                split at h
                · rcases List.mem_cons.mp h with h | h
                  · exact .inr (.inl ⟨i, by rw [h]; exact ha⟩)
                  · rcases (mem b).mp h with h | h
                    · exact .inr (.inl ⟨i, by rw [h4]; exact List.mem_cons_of_mem _ h⟩)
                    · exact .inl h
                · exact .inr (.inl ⟨l, h⟩)
              · exact .inr (.inr h)
            rw [hL, RO]
            refine ⟨a, vs ++ [v], fps ++ [fq], rfl, ⟨upd_same, by rw [List.length_append]; simp; omega⟩, rfl, P3.app ?_ (.cons ?_ .nil)⟩
            · refine P3.keep kp (fun b h => ?_) (fun b hb o q => ?_) h5
              · rcases le1 b h with h | h
                · exact .inr (nw b h)
                · exact .inl h
              · have hba : b ≠ a := fun z => ha2 (by rw [← z]; exact hb)
                rw [upd_ne hba]
                exact e1 _ _ q
            · refine RO.keep kp2 (fun b h => .inl (le1 b h)) (fun b hb o q => ?_) ro
              have hba : b ≠ a := fun z => hafq (by rw [← z]; exact hb)
              rw [upd_ne hba]
              exact q
          · refine List.nodup_cons.mpr ⟨fun z => ?_, ?_⟩
            · rcases (mem a).mp z with z | z
              · exact ha2 z
              · exact hafq z
            · rw [List.flatten_append]
              refine List.nodup_append.mpr ⟨hnod2, by simpa using nd, fun b hb c hc z => ?_⟩
              have hc : c ∈ fq := by simpa using hc
              exact hfq b hb (by rw [z]; exact hc)
          · intro b hb
            rcases List.mem_cons.mp hb with h | h
            · rw [h]
              exact .inl ha
            · rcases (mem b).mp h with h | h
              · exact .inl (by rw [h4]; exact List.mem_cons_of_mem _ h)
              · exact .inr (nw b h)
        · exact q.elim
      | _ => exact o.elim

/-! ### raise -/
def sRaise (c : Str) : SF := fun ρ => .exc c ρ
theorem sj_raise {L1 : List Nat} {y msg : Str} {j : Nat} {C : Addr} {p2 pos2 : Pos} {newId initId B : String} {bmB : List Value} (hc : X.calm = true) (tk : Takes X W) (F : ExcBaseFacts B newId initId bmB) (q : PySem.W.excIn X.K C bmB newId = true)
    (gC : X.mg y = some (.ref C)) (kC : PySem.W.keepIn X.K (.ref C) = true) (r : Raises X (.ref C)) (hg : Gl X y) (hdb : (y == ("__debug__" : Str)) = false := by decide) :
    SJ X W kr Lb L L1 (.Raise (some (.Call (.Name y npos) [.Constant (.str msg) j p2] [] pos)) none pos2) (sRaise y) :=
  PS.imp (ps_raise hc tk (pmk_own F q gC kC r hg hdb)) fun Dn σ H ⟨ex0, Gs, ρ, fp, S, o⟩ => o C gC σ H _ S.dropAll
end
end Px

namespace Px
open PySem PySem.Spec PyProof.Rows L2

/-! ### comparisons as tests -/
def asB : D → Res Bool
  | .bl b => .ok b
  | _ => .err
section
variable {X : Cx} {W : WX} {L : List Nat} {n n1 n2 m k kr : Nat} {pos p p2 : Pos} {a b c e : Expr} {f g h : EF} {o o' : D → D → Res D}
theorem PT.ofV {X : Cx} {e : Expr} {t : TE} {t' : TT} (h : PT X e (tTest t)) (m : ∀ σ H Q, t' σ H Q → tTest t σ H Q) : PT X e t' := PT.imp h m
theorem et_cmp {op : CmpOp} (ho : Op2 X n1 n2 0 (compareOp op) o) (nx : NoX2 o) (ha : EB X W L n1 a f) (hb : EB X W L n2 b g) (hm : behindInMarks op b = false) : ET X W L (.Compare a [op] [b] pos) (eUn asB (eOp o f g)) :=
  PT.imp (pt_cmpR ho ha hb hm) fun σ H Q ⟨ex, ρ, fp, I, q⟩ => by
    refine ⟨ex, ρ, fp, I, q.bind.bind.mono fun d1 q1 v1 H1 e1 r1 => ⟨ex, ρ, fp, I.same e1, (q1.bind.later e1).mono fun d2 q2 v2 H2 e2 r2 => ?_⟩⟩
    obtain ⟨d, ed, qd⟩ := no_exc q2 (nx d1 d2)
    refine ⟨ex, d1, d2, d, ((I.same e1).same e2).ext, r1.same e2, r2, ed, fun v H3 fq e3 ro nd nw => ?_⟩
    have r3 : RB X.K (fun a => a ∈ fq ∨ ex a) H3 0 d v := ro.borrow
    cases d with
    | bl t => exact ⟨t, r3.bl, qd H3 ((e1.trans e2).trans e3)⟩
    | _ => exact qd.elim
theorem et_chain {op op' : CmpOp} (ho : Op2 X 0 0 0 (compareOp op) o) (nx : NoX2 o) (ho' : Op2 X 0 0 0 (compareOp op') o') (nx' : NoX2 o') (ha : EB X W L 0 a f) (hb : EB X W L 0 b g) (hc : EB X W L 0 c h)
    (hm : lastMarks [op, op'] [b, c] = false := by with_unfolding_all rfl) : ET X W L (.Compare a [op, op'] [b, c] pos) (eUn asB (eChain o o' f g h)) :=
  PT.imp (pt_chain ho ho' ha hb hc hm) fun σ H Q ⟨ex, ρ, fp, I, q⟩ => by
    refine ⟨ex, ρ, fp, I, q.bind.bind.mono fun d1 q1 v1 H1 e1 r1 => ⟨ex, ρ, fp, I.same e1, (q1.bind.later e1).mono fun d2 q2 v2 H2 e2 r2 => ?_⟩⟩
    obtain ⟨d, ed, qd⟩ := no_exc q2.bind (nx d1 d2)
    refine ⟨ex, d1, d2, d, ((I.same e1).same e2).ext, r1.same e2, r2, ed, fun v H3 fq e3 ro nd nw => ?_⟩
    have r3 : RB X.K (fun a => a ∈ fq ∨ ex a) H3 0 d v := ro.borrow
    cases d with
    | bl t =>
      cases t with
      | true =>
        refine ⟨true, r3.bl, ?_⟩
        rw [if_pos rfl]
        refine ⟨ex, ρ, fp, ((I.same e1).same e2).same e3, ((Out.bind qd).later ((e1.trans e2).trans e3)).mono fun d3 q3 v4 H4 e4 r4 => ?_⟩
        obtain ⟨z, ez, qz⟩ := no_exc q3 (nx' d2 d3)
        refine ⟨ex, d2, d3, z, ((((I.same e1).same e2).same e3).same e4).ext, (r2.same e3).same e4, r4, ez, fun v H5 fq e5 ro nd nw => ?_⟩
        have r5 : RB X.K (fun a => a ∈ fq ∨ ex a) H5 0 z v := ro.borrow
        cases z with
        | bl t => exact ⟨t, r5.bl, qz H5 ((((e1.trans e2).trans e3).trans e4).trans e5)⟩
        | _ => exact qz.elim
      | false =>
        refine ⟨false, r3.bl, ?_⟩
        rw [if_neg Bool.false_ne_true]
        exact ⟨false, rfl, qd H3 ((e1.trans e2).trans e3)⟩
    | _ => exact qd.elim

/-! ### constants of the module -/
theorem eo_gint {x : Str} {i : Int} {t : Tok} (hg : Gl X x) (hm : X.mg x = some (.int i t)) (hd : (x == ("__debug__" : Str)) = false := by decide) : EO X W L k (.Name x pos) (eC (.int i)) :=
  PE.imp (pe_glob (v := .int i) hg hm ⟨t, rfl⟩ hd) fun σ H Q ⟨ex, ρ, fp, I, o⟩ => QO.int o
theorem eo_gstr {x i : Str} {t : Tok} (hg : Gl X x) (hm : X.mg x = some (.str i t)) (hd : (x == ("__debug__" : Str)) = false := by decide) : EO X W L k (.Name x pos) (eC (.str i)) :=
  PE.imp (pe_glob (v := .str i) hg hm ⟨t, rfl⟩ hd) fun σ H Q ⟨ex, ρ, fp, I, o⟩ => QO.str o

/-! ### {k: v, ..}[i] -/
def keyD : D → Option Key
  | .int i => some (.inl i)
  | .str s => some (.inr s)
  | _ => none
theorem keyD_v {K : PySem.W.Frag} {ex : AS} {H : Hp} {d : D} {v : V} {kk : Key} (r : RB K ex H n d v) (e : keyD d = some kk) : v = kV kk := by
  unfold keyD at e
  split at e
  · cases e
    exact r.int
  · cases e
    exact r.str
  · cases e
def evPairs : List (EF × EF) → Env → Res (List (Key × D))
  | [], _ => .ok []
  | p :: r, ρ => p.1 ρ >>= fun a => p.2 ρ >>= fun b => match keyD a with
    | some kk => evPairs r ρ >>= fun l => .ok ((kk, b) :: l)
    | none => .err
/-- the last one wins -/
def lookLast (l : List (Key × D)) (kk : Key) : Option D := (l.reverse.find? fun q => decide (q.1 = kk)).map (·.2)
def eDLit (ps : List (EF × EF)) (f : EF) : EF := fun ρ => evPairs ps ρ >>= fun l => f ρ >>= fun d => match keyD d with
  | some kk => (match lookLast l kk with
    | some r => .ok r
    | none => .err)
  | none => .err
abbrev trsOf (X : Cx) (W : WX) (L : List Nat) (ps : List (EF × EF)) : List (TE × TE) := ps.map fun q => (tB X W L 0 q.1, tB X W L 0 q.2)
abbrev EPs (X : Cx) (W : WX) (L : List Nat) (pos : Pos) (keys : List (Option Expr)) (values : List Expr) (ps : List (EF × EF)) : Prop := PPs X pos keys values (trsOf X W L ps)
theorem eps_nil : EPs X W L pos [] [] [] := pps_nil
theorem eps_cons {kx v : Expr} {ks : List (Option Expr)} {vs : List Expr} {ps : List (EF × EF)} (hk : EB X W L 0 kx f) (hv : EB X W L 0 v g) (hr : EPs X W L pos ks vs ps) : EPs X W L pos (some kx :: ks) (v :: vs) ((f, g) :: ps) := pps_cons hk hv hr
abbrev KR (K : PySem.W.Frag) (ex : AS) (H : Hp) (l : List (Key × D)) (kvs : List (Key × V)) : Prop := Paired (fun q z => q.1 = z.1 ∧ R K ex H q.2 z.2) l kvs
theorem pairs_imp {σ : L2.St} {ex : AS} {ρ : Env} {fp : Nat → List Addr} : ∀ (ps : List (EF × EF)) {H : Hp} {Q : List (V × V) → Hp → Prop}, SI X.K ex L ρ σ H fp →
    Out X W σ H (evPairs ps ρ) (fun l => ∀ kvs H', Same H H' → KR X.K ex H' l kvs → kvs.length = ps.length → Q (kvs.map fun kv => (kV kv.1, kv.2)) H') → tPairs (trsOf X W L ps) σ H Q
  | [], H, Q, I, o => o [] H (Same.refl H) .nil rfl
  | p :: r, H, Q, I, o => by
    refine ⟨ex, ρ, fp, I, o.bind.mono fun d1 q1 v1 H1 e1 r1 => ⟨ex, ρ, fp, I.same e1, (q1.bind.later e1).mono fun d2 q2 v2 H2 e2 r2 => ?_⟩⟩
    cases hk : keyD d1 with
    | none => rw [hk] at q2; exact q2.elim
    | some kk =>
      rw [hk] at q2
      refine pairs_imp r ((I.same e1).same e2) ((Out.later (Out.bind q2) (e1.trans e2)).mono fun l q3 kvs H3 e3 kr hl => ?_)
      have := q3 ((kk, v2) :: kvs) H3 ((e1.trans e2).trans e3) (.cons ⟨rfl, R.same e3 r2⟩ kr) (by rw [List.length_cons, List.length_cons, hl])
      rw [keyD_v r1 hk]
      exact this
theorem merge_val (kk : Key) : ∀ (kvs acc : List (Key × V)), valV (mergeK acc kvs) kk = match (kvs.reverse.find? fun q => decide (q.1 = kk)).map (·.2) with
    | some v => some v
    | none => valV acc kk
  | [], acc => rfl
  | p :: r, acc => by
    have e : mergeK acc (p :: r) = mergeK (putK acc p.1 p.2) r := rfl
    rw [e, merge_val kk r, List.reverse_cons, List.find?_append, valV_put]
    cases q : r.reverse.find? (fun q => decide (q.1 = kk)) with
    | some z => simp
    | none =>
      simp only [Option.map_none, Option.none_or, List.find?_cons, List.find?_nil]
      by_cases hp : p.1 = kk
      · simp [hp]
      · have : ¬ kk = p.1 := fun z => hp z.symm
        simp [hp, this]
theorem find_kr {K : PySem.W.Frag} {ex : AS} {H : Hp} {kk : Key} {d : D} : ∀ {l : List (Key × D)} {kvs : List (Key × V)}, KR K ex H l kvs → (l.find? fun q => decide (q.1 = kk)).map (·.2) = some d → ∃ v, (kvs.find? fun q => decide (q.1 = kk)).map (·.2) = some v ∧ R K ex H d v
  | _, _, .nil, h => by simp at h
  | a :: l, b :: kvs, .cons r t, h => by
    rw [List.find?_cons] at h ⊢
    by_cases hq : a.1 = kk
    · have hq2 : b.1 = kk := r.1 ▸ hq
      rw [decide_eq_true hq] at h
      rw [decide_eq_true hq2]
      have e : a.2 = d := by simpa using h
      rw [← e]
      exact ⟨b.2, rfl, r.2⟩
    · have hq2 : ¬ b.1 = kk := r.1 ▸ hq
      rw [decide_eq_false hq] at h
      rw [decide_eq_false hq2]
      exact find_kr t h
theorem eb_dlit {keys : List (Option Expr)} {values : List Expr} {ps : List (EF × EF)} {i : Expr} {dpos : Pos} (hu : X.A.units + 1 < cLine) (h : EPs X W L dpos keys values ps) (hi : EB X W L 0 i f) (hall : keys.all (·.isSome) = true := by rfl) (hl : keys.length = values.length := by rfl) (h0 : keys ≠ [] := by exact fun h => nomatch h) (h15 : keys.length ≤ 15 := by decide) (p15 : ps.length ≤ 15 := by decide)
    (hs : NoSl i := by intro _ _; rfl) : EB X W L 0 (.Subscript (.Dict keys values dpos) i pos) (eDLit ps f) :=
  PE.imp (pe_dget hu (pe_disp h hall hl h0 h15) hi hs) fun σ H Q ⟨ex, ρ, fp, I, o⟩ => fun pp hp => by
    have e0 : Same H (upd H pp (.dK [])) := same_upd hp
    refine pairs_imp ps (I.same e0) ((Out.later o.bind e0).mono fun l q kvs H2 e2 kr hkl => ?_)
    have hp2 : H2 pp = some (.dK []) := e2 _ _ upd_same
    refine ⟨hp2, kvs, rfl, by omega, ?_⟩
    have e3 : Same H (upd H2 pp (.dK (mergeK [] kvs))) := fun b o hb => by
      have hne : b ≠ pp := fun z => by
        rw [z, hp] at hb
        cases hb
      rw [upd_ne hne]
      exact e2 _ _ (by rw [upd_ne hne]; exact hb)
    have kp : Keep ex H2 (upd H2 pp (.dK (mergeK [] kvs))) := by
      refine ⟨fun b xs hb => ?_, fun b xs _ hb => ?_⟩
      · have hne : b ≠ pp := fun z => by
          rw [z] at hb
          rcases hb with hb | ⟨o, hb⟩ <;> rw [hp2] at hb <;> cases hb
        rcases hb with hb | ⟨o, hb⟩
        · exact .inl (by rw [upd_ne hne]; exact hb)
        · exact .inr ⟨o, by rw [upd_ne hne]; exact hb⟩
      · have hne : b ≠ pp := fun z => by
          rw [z] at hb
          rcases hb with hb | ⟨o, hb⟩ <;> rw [hp2] at hb <;> cases hb
        rcases hb with hb | ⟨o, hb⟩
        · exact .inl (by rw [upd_ne hne]; exact hb)
        · exact .inr ⟨o, by rw [upd_ne hne]; exact hb⟩
    refine ⟨ex, ρ, fp, I.same e3, ((Out.later (Out.bind q) e3)).mono fun d q2 y H4 e4 ry => ?_⟩
    cases hk : keyD d with
    | none => rw [hk] at q2; exact q2.elim
    | some kk =>
      rw [hk] at q2
      cases hf : lookLast l kk with
      | none =>
        simp only [hf] at q2
        exact q2.elim
      | some r =>
        simp only [hf] at q2
        obtain ⟨v, hv, rv⟩ := find_kr (Paired.revP kr) hf
        have hm : valV (mergeK [] kvs) kk = some v := by rw [merge_val, hv]
        refine ⟨pp, v, rfl, ?_, q2 v H4 (e3.trans e4) (R.same e4 (R.keep kp (fun _ z => .inl z) r rv))⟩
        rw [keyD_v ry hk, ← hm]
        exact DGet.k (e4 _ _ upd_same)
end
end Px

namespace Px
open PySem PySem.Spec PyProof.Rows L2

theorem gl_of {X : Cx} {x : Str} (h : X.env.scope.names.lookup x = some .globalImplicit) : Gl X x := h
theorem hu65 {k : Nat} {A : Around} (hr : Room k A) : A.units + 65 < cLine := by
  have := hr.un
  omega
section
variable {X : Cx} {W : WX} {L : List Nat} {n n1 n2 m k kr : Nat} {Lb : List Nat} {pos p : Pos} {a b e : Expr} {f g : EF}
theorem o_mul : Op2 X n m k (binaryOp .Mult) dMul := fun pins s σ H x y v u Q I rx ry h => by
  obtain ⟨ex, d1, d2, d, ext, r1, r2, e, q⟩ := h
  unfold dMul at e
  split at e
  · split at e
    · rename_i hm
      cases e
      exact L2.op_mul pins s σ H x y v u Q I rx ry ⟨_, _, r1.int, r2.int, by unfold mulOk at hm; rw [decide_eq_true_eq] at hm; exact hm, q.int⟩
    · cases e
  · cases e
/-- [..] * n of a new list -/
def dRep : D → D → Res D
  | .lst a, .int j => if a.length * j.toNat ≤ sizeLine ∧ j < 2 ^ 62 ∧ -(2 ^ 62) < j then .ok (.lst (List.replicate j.toNat a).flatten) else .err
  | _, _ => .err
theorem dRep_nx : NoX2 dRep := fun a b c h => by
  unfold dRep at h
  split at h <;> first | cases h | (split at h <;> cases h)
theorem shared_of1 {K : PySem.W.Frag} {ex : AS} {H : Hp} {ds : List D} {v : V} {fq : List Addr} (h : RO K ex H 1 (.lst ds) v fq) : ∃ a xs, v = .ref a ∧ H a = some (.lst xs) ∧ xs.length ≤ sizeLine ∧ fq = [a] ∧ Paired (R K ex H) ds xs := by
  rw [RO] at h
  obtain ⟨a, xs, fps, rfl, h1, rfl, h2⟩ := h
  refine ⟨a, xs, rfl, h1.1, h1.2, ?_, ?_⟩
  · congr 1
    clear h1
    induction h2 with
    | nil => rfl
    | cons x t ih =>
      have := x.1
      subst this
      rw [List.flatten_cons, ih]
      rfl
  · clear h1
    induction h2 with
    | nil => exact .nil
    | cons x t ih => exact .cons x.2 ih
theorem eo_rep (ha : EO X W L 1 a f) (hb : EB X W L 0 b g) : EO X W L 1 (.BinOp a .Mult b pos) (eOp dRep f g) :=
  PE.imp (pe_op op_rep ha hb) fun σ H Q ⟨ex, ρ, fp, I, q⟩ => by
    refine ⟨ex, ρ, fp, I, q.bind.mono fun d1 q1 v1 H1 fq e1 r1 nd nw => ?_⟩
    have e12 : ∀ {c : Addr}, (c ∈ fq ∨ ex c) → ex c ∨ H c = none := fun {c} h => h.elim (fun z => .inr (nw c z)) .inl
    have I' : SI X.K (fun c => c ∈ fq ∨ ex c) L ρ σ H1 fp := I.more e1 (fun c h => e12 h) (fun c h => .inr h) (fun c h => h.elim (fun z => r1.there c z) fun z q => I.ext c z (e1.free q))
    refine ⟨_, ρ, fp, I', (q1.bind.later e1).mono fun d2 q2 v2 H2 e2 r2 => ?_⟩
    obtain ⟨d, ed, qd⟩ := no_exc q2 (dRep_nx d1 d2)
    unfold dRep at ed
    split at ed
    · split at ed
      · rename_i xs j hc
        cases ed
        obtain ⟨c, ys, rfl, h1, h2, rfl, h3⟩ := shared_of1 (r1.same e2)
        have hl : xs.length = ys.length := h3.length
        refine ⟨c, j, ys, rfl, r2.int, h1, by omega, by omega, by rw [← hl]; exact hc.1, fun p hp => ?_⟩
        have h4 : Paired (R X.K ex H2) xs ys := h3.mono fun _ _ z => R.less (fun a h => .inl (.inr h)) z
        refine QO.lst (K := X.K) (ex := ex) (fun v H5 fr e5 ro nd nw => qd v H5 fr ((e1.trans e2).trans e5) ro nd fun a ha => (e1.trans e2).free (nw a ha)) (Paired.flattenP h4 j.toNat) hp ?_
        rw [PyProof.Rows.lm_len_rep_flat, Nat.mul_comm, ← hl]
        exact hc.1
      · cases ed
    · cases ed

/-! ### a, b = e1, e2 -/
def evL : List EF → Env → Res (List D)
  | [], _ => .ok []
  | f :: r, ρ => f ρ >>= fun d => evL r ρ >>= fun ds => .ok (d :: ds)
def sPar (is : List Nat) (fs : List EF) : SF := fun ρ => (evL fs ρ).flow ρ fun ds => .next (setL ρ is ds)
/-- values, each owned to a depth of its own -/
def AOs (K : PySem.W.Frag) (ex : AS) (H : Hp) : List Nat → List D → List V → List (List Addr) → Prop
  | [], [], [], [] => True
  | k :: ks, d :: ds, v :: vs, fq :: fqs => RO K ex H k d v fq ∧ AOs K ex H ks ds vs fqs
  | _, _, _, _ => False
def tAO (X : Cx) (W : WX) (L : List Nat) (ks : List Nat) (fs : List EF) : TA := fun σ H Q => ∃ ex ρ fp, SI X.K ex L ρ σ H fp ∧ Out X W σ H (evL fs ρ) fun ds => ∀ vs fqs H', Same H H' → AOs X.K (fun a => a ∈ fqs.flatten ∨ ex a) H' ks ds vs fqs → fqs.flatten.Nodup → (∀ a ∈ fqs.flatten, H a = none) → Q vs H'
abbrev EAO (X : Cx) (W : WX) (L : List Nat) (ks : List Nat) (es : List Expr) (fs : List EF) : Prop := PA X es (tAO X W L ks fs)
theorem AOs.keep {K : PySem.W.Frag} {ex ex' : AS} {H H' : Hp} (e : Same H H') (m : ∀ a, ex' a → ex a ∨ H a = none) : ∀ {ks : List Nat} {ds : List D} {vs : List V} {fqs : List (List Addr)}, AOs K ex H ks ds vs fqs → AOs K ex' H' ks ds vs fqs
  | [], [], [], [], _ => trivial
  | _ :: _, _ :: _, _ :: _, _ :: _, h => ⟨RO.keep (Keep.same e) m (fun a _ o q => e a o q) h.1, AOs.keep e m h.2⟩
variable {es : List Expr} {fs : List EF} {ks : List Nat}
theorem eas_nil : EAO X W L [] [] [] := PA.imp pa_nil fun σ H Q ⟨ex, ρ, fp, I, o⟩ => o [] [] H (Same.refl H) trivial List.nodup_nil fun a h => (by simp at h)
theorem eas_cons (h : EO X W L k e f) (t : EAO X W L ks es fs) (hs : starEach (e :: es) X.env = (false, eval e X.env) :: starEach es X.env := by rfl) : EAO X W L (k :: ks) (e :: es) (f :: fs) :=
  PA.imp (pa_cons h t hs) fun σ H Q ⟨ex, ρ, fp, I, o⟩ => ⟨ex, ρ, fp, I, (show Out X W σ H (f ρ >>= fun d => evL fs ρ >>= fun ds => .ok (d :: ds)) _ from o).bind.mono fun d1 q1 v1 H1 fq e1 r1 nd1 nw1 => by
    have I' : SI X.K (fun c => c ∈ fq ∨ ex c) L ρ σ H1 fp := I.more e1 (fun c h => h.elim (fun z => .inr (nw1 c z)) .inl) (fun c h => .inr h) (fun c h => h.elim (fun z => r1.there c z) fun z q => I.ext c z (e1.free q))
    refine ⟨_, ρ, fp, I', (q1.bind.later e1).mono fun ds q2 vs fqs H2 e2 r2 nd2 nw2 => ?_⟩
    refine q2 (v1 :: vs) (fq :: fqs) H2 (e1.trans e2) ⟨?_, r2.keep (Same.refl H2) fun a h => .inl ?_⟩ ?_ fun a ha => ?_
    · refine RO.keep (Keep.same e2) (fun a h => ?_) (fun a _ o q => e2 a o q) r1
      rw [List.flatten_cons, List.mem_append] at h
      rcases h with (h | h) | h
      · exact .inl (.inl h)
      · exact .inr (nw2 a h)
      · exact .inl (.inr h)
    · rw [List.flatten_cons, List.mem_append] at h
      rcases h with (h | h) | h
      · exact .inr (.inl h)
      · exact .inl h
      · exact .inr (.inr h)
    · rw [List.flatten_cons]
      refine List.nodup_append.mpr ⟨nd1, nd2, fun a ha b hb q => ?_⟩
      rw [← q] at hb
      exact r1.there a ha (nw2 a hb)
    · rw [List.flatten_cons, List.mem_append] at ha
      rcases ha with ha | ha
      · exact nw1 a ha
      · exact e1.free (nw2 a ha)⟩
/-- slots and what they own, over a fixed EX -/
structure VS (K : PySem.W.Frag) (EX : AS) (H : Hp) (L : List Nat) (ρ : Env) (σ : L2.St) (fp : Nat → List Addr) : Prop where
  len : ρ.length = σ.length
  val : ∀ i d, ρ[i]? = some (some d) → ∃ v, σ[i]? = some (some v) ∧ RO K EX H (L.getD i 0) d v (fp i)
  nod : ∀ i, (fp i).Nodup
  dis : ∀ i j a, a ∈ fp i → a ∈ fp j → i = j
def putF (fp : Nat → List Addr) (i : Nat) (fq : List Addr) : Nat → List Addr := fun j => if j = i then fq else fp j
theorem VS.put {K : PySem.W.Frag} {EX : AS} {H : Hp} {L : List Nat} {ρ : Env} {σ : L2.St} {fp : Nat → List Addr} (S : VS K EX H L ρ σ fp) {i k : Nat} {d : D} {v : V} {fq : List Addr} (r : RO K EX H k d v fq) (nd : fq.Nodup) (nw : ∀ a ∈ fq, ∀ j, a ∉ fp j) (hi : i < L.length) :
    VS K EX H (L.set i k) (ρ.set i (some d)) (σ.set i (some v)) (putF fp i fq) := by
  refine ⟨by rw [List.length_set, List.length_set]; exact S.len, fun j d' h => ?_, fun j => ?_, fun j l a h1 h2 => ?_⟩
  · unfold putF
    by_cases ej : i = j
    · subst ej
      by_cases hl : i < ρ.length
      · rw [List.getElem?_set_self hl] at h
        cases h
        exact ⟨v, List.getElem?_set_self (by rw [← S.len]; exact hl), by rw [getD_set_eq hi, if_pos rfl]; exact r⟩
      · rw [List.getElem?_eq_none (by rw [List.length_set]; omega)] at h
        cases h
    · rw [List.getElem?_set_ne ej] at h
      obtain ⟨u, h1, h2⟩ := S.val j d' h
      exact ⟨u, by rw [List.getElem?_set_ne ej]; exact h1, by rw [getD_set_ne ej, if_neg (fun q => ej q.symm)]; exact h2⟩
  · unfold putF
    split
    · exact nd
    · exact S.nod j
  · unfold putF at h1 h2
    split at h1
    · split at h2
      · rename_i a1 a2
        rw [a1, a2]
      · exact absurd h2 (nw a h1 l)
    · split at h2
      · exact absurd h1 (nw a h2 j)
      · exact S.dis j l a h1 h2
def setLv : List Nat → List Nat → List Nat → List Nat
  | L, i :: is, k :: ks => setLv (L.set i k) is ks
  | L, _, _ => L
def setV (σ : L2.St) : List Nat → List V → L2.St
  | i :: is, v :: vs => setV (σ.set i (some v)) is vs
  | _, _ => σ
theorem setLv_length : ∀ (L is ks : List Nat), (setLv L is ks).length = L.length
  | L, [], _ => by rw [setLv]; intro _ _ _ _ h; cases h
  | L, _ :: _, [] => by rw [setLv]; intro _ _ _ _ _ h; cases h
  | L, i :: is, k :: ks => by rw [setLv, setLv_length, List.length_set]
theorem VS.puts {K : PySem.W.Frag} {EX : AS} {H : Hp} : ∀ (is ks : List Nat) (ds : List D) (vs : List V) (fqs : List (List Addr)) {L : List Nat} {ρ : Env} {σ : L2.St} {fp : Nat → List Addr}, VS K EX H L ρ σ fp → AOs K EX H ks ds vs fqs → fqs.flatten.Nodup → (∀ a ∈ fqs.flatten, ∀ j, a ∉ fp j) →
    is.length = ks.length → (∀ i ∈ is, i < L.length) → ∃ fp', VS K EX H (setLv L is ks) (setL ρ is ds) (setV σ is vs) fp' ∧ ∀ j a, a ∈ fp' j → a ∈ fp j ∨ a ∈ fqs.flatten
  | [], ks, ds, vs, fqs, L, ρ, σ, fp, S, _, _, _, _, _ => ⟨fp, by
      have e1 : setLv L [] ks = L := by cases ks <;> rfl
      have e2 : setL ρ [] ds = ρ := by cases ds <;> rfl
      have e3 : setV σ [] vs = σ := by cases vs <;> rfl
      rw [e1, e2, e3]
      exact S, fun j a h => .inl h⟩
  | i :: is, [], _, _, _, _, _, _, _, _, _, _, _, hl, _ => by simp at hl
  | i :: is, k :: ks, [], _, _, _, _, _, _, _, h, _, _, _, _ => by simp [AOs] at h
  | i :: is, k :: ks, d :: ds, [], _, _, _, _, _, _, h, _, _, _, _ => by simp [AOs] at h
  | i :: is, k :: ks, d :: ds, v :: vs, [], _, _, _, _, _, h, _, _, _, _ => by simp [AOs] at h
  | i :: is, k :: ks, d :: ds, v :: vs, fq :: fqs, L, ρ, σ, fp, S, h, nd, nw, hl, hi => by
    rw [List.flatten_cons] at nd nw
    obtain ⟨n1, n2, n3⟩ := List.nodup_append.mp nd
    have S1 := S.put (i := i) h.1 n1 (fun a ha => nw a (List.mem_append_left _ ha)) (hi i List.mem_cons_self)
    obtain ⟨fp', S2, m⟩ := VS.puts is ks ds vs fqs S1 h.2 n2 (fun a ha j q => by
      unfold putF at q
      split at q
      · exact n3 a q a ha rfl
      · exact nw a (List.mem_append_right _ ha) j q) (by simpa using hl) (fun l hl => by
        rw [List.length_set]
        exact hi l (List.mem_cons_of_mem _ hl))
    refine ⟨fp', S2, fun j a q => ?_⟩
    rw [List.flatten_cons, List.mem_append]
    rcases m j a q with q | q
    · unfold putF at q
      split at q
      · exact .inr (.inl q)
      · exact .inl q
    · exact .inr (.inr q)
theorem AOs.there {K : PySem.W.Frag} {ex : AS} {H : Hp} {a : Addr} : ∀ {ks : List Nat} {ds : List D} {vs : List V} {fqs : List (List Addr)}, AOs K ex H ks ds vs fqs → a ∈ fqs.flatten → H a ≠ none
  | [], [], [], [], _, h => by simp at h
  | _ :: _, _ :: _, _ :: _, _ :: _, h, m => by
    rw [List.flatten_cons, List.mem_append] at m
    rcases m with m | m
    · exact h.1.there a m
    · exact AOs.there h.2 m
theorem SS.puts {K : PySem.W.Frag} {H0 H H1 : Hp} {ex0 : AS} {G : List (D × V)} {L : List Nat} {ρ : Env} {σ : L2.St} {fp : Nat → List Addr} (S : SS K H0 ex0 G L ρ σ H fp) (e : Same H H1) {is ks : List Nat} {ds : List D} {vs : List V} {fqs : List (List Addr)}
    (r : AOs K (fun a => a ∈ fqs.flatten ∨ exOf fp ex0 a) H1 ks ds vs fqs) (nd : fqs.flatten.Nodup) (nw : ∀ a ∈ fqs.flatten, H a = none) (hl : is.length = ks.length) (hi : ∀ i ∈ is, i < L.length) :
    ∃ fp', SS K H0 ex0 G (setLv L is ks) (setL ρ is ds) (setV σ is vs) H1 fp' := by
  have V0 : VS K (fun a => a ∈ fqs.flatten ∨ exOf fp ex0 a) H1 L ρ σ fp := ⟨S.si.len, fun i d h => by
    obtain ⟨v, h1, h2⟩ := S.si.val i d h
    refine ⟨v, h1, RO.keep (Keep.same e) (fun a q => ?_) (fun a _ o q => e a o q) h2⟩
    rcases q with q | q
    · exact .inr (nw a q)
    · exact .inl q, S.si.nod, S.si.dis⟩
  obtain ⟨fp', V1, m⟩ := VS.puts is ks ds vs fqs V0 r nd (fun a ha j q => S.si.ext a (.inl ⟨j, q⟩) (nw a ha)) hl hi
  refine ⟨fp', S.re e V1.len (fun i d h => ?_) V1.nod V1.dis (fun i a h => ?_) (fun i a h => ?_)⟩
  · obtain ⟨v, h1, h2⟩ := V1.val i d h
    refine ⟨v, h1, h2.less fun a q => .inl ?_⟩
    rcases q with ⟨j, q⟩ | q
    · rcases m j a q with q | q
      · exact .inr (.inl ⟨j, q⟩)
      · exact .inl q
    · exact .inr (.inr q)
  · rcases m i a h with q | q
    · exact .inl q
    · exact .inr (nw a q)
  · rcases m i a h with q | q
    · exact fun z => S.si.ext a (.inl ⟨i, q⟩) (e.free z)
    · exact r.there q
theorem AOs.lens {K : PySem.W.Frag} {ex : AS} {H : Hp} : ∀ {ks : List Nat} {ds : List D} {vs : List V} {fqs : List (List Addr)}, AOs K ex H ks ds vs fqs → vs.length = ks.length
  | [], [], [], [], _ => rfl
  | _ :: _, _ :: _, _ :: _, _ :: _, h => by rw [List.length_cons, List.length_cons, AOs.lens h.2]
theorem sj_par2 {i j k1 k2 : Nat} {x y : Str} {px py pt : Pos} {kt kt2 : Nat} {pt2 : Pos} (hc : X.calm = true) (hN : X.N.Nodup) (hi : X.N[i]? = some x) (hj : X.N[j]? = some y) (hij : i ≠ j) (hx : X.env.scope.names.lookup x = some .local) (hy : X.env.scope.names.lookup y = some .local)
    (h1 : EO X W L k1 a f) (h2 : EO X W L k2 b g) (li : i < L.length) (lj : j < L.length)
    (hw : swappedStores [.Tuple [.Name x px, .Name y py] kt pt] (.Tuple [a, b] kt2 pt2) X.env = pure (some [x, y])) (hs : swapsWithSole [.Tuple [.Name x px, .Name y py] kt pt] (.Tuple [a, b] kt2 pt2) pos.line X.env = pure false := by rfl)
    (hs1 : starEach [a, b] X.env = (false, eval a X.env) :: starEach [b] X.env := by rfl) (hs2 : starEach [b] X.env = (false, eval b X.env) :: starEach [] X.env := by rfl) :
    SJ X W kr Lb L (setLv L [i, j] [k1, k2]) (.Assign [.Tuple [.Name x px, .Name y py] kt pt] (.Tuple [a, b] kt2 pt2) pos) (sPar [i, j] [f, g]) :=
  PS.imp (ps_par hc hN hi hj hij hx hy (eas_cons h1 (eas_cons h2 eas_nil hs2) hs1) hw hs) fun Dn σ H ⟨ex0, Gs, ρ, fp, S, o⟩ => by
    refine ⟨_, ρ, fp, S.si, (flow_out S o).mono fun ds q vs fqs H1 e1 r nd nw => ?_⟩
    obtain ⟨fp', S'⟩ := S.puts (is := [i, j]) e1 r nd nw rfl (fun l hl => by
      rcases List.mem_cons.mp hl with rfl | hl
      · exact li
      · rw [List.mem_singleton.mp hl]
        exact lj)
    have hl := r.lens
    clear nd nw r
    match vs, hl with
    | [v1, v2], _ => exact ⟨v1, v2, rfl, q _ _ _ S'⟩
/-- .. where the model makes a tuple and unpacks it -/
theorem gNames_vs {Q : L2.St → Hp → Prop} {H : Hp} : ∀ (is : List Nat) (vs : List V) (σ : L2.St), is.length = vs.length → Q (setV σ is vs) H → gNames is vs σ H Q
  | [], [], _, _, h => ⟨rfl, h⟩
  | [], _ :: _, _, e, _ => by simp at e
  | _ :: _, [], _, e, _ => by simp at e
  | i :: is, v :: vs, σ, e, h => ⟨v, vs, rfl, gNames_vs is vs _ (by simpa using e) h⟩
theorem sj_parT {is : List Nat} {tg : Expr} {tn : Nat} {tpos : Pos} (hg : PG X tg (gTup X.K is.length (gNames is))) (ha : EAO X W L ks es fs) (hl : is.length = ks.length) (hi : ∀ i ∈ is, i < L.length) (hz : ks.length ≤ sizeLine := by decide) (hs : swapsWithSole [tg] (.Tuple es tn tpos) pos.line X.env = pure false := by rfl) (hw : swappedStores [tg] (.Tuple es tn tpos) X.env = pure none := by with_unfolding_all rfl)
    (h1 : (assignEach [tg] X.env).map (·.2) = [assign tg X.env] := by rfl) : SJ X W kr Lb L (setLv L is ks) (.Assign [tg] (.Tuple es tn tpos) pos) (sPar is fs) :=
  PS.imp (ps_asg (pe_tup ha) hg hs hw h1) fun Dn σ H ⟨ex0, Gs, ρ, fp, S, o⟩ => by
    refine ⟨_, ρ, fp, S.si, (flow_out S o).mono fun ds q vs fqs H1 e1 r nd nw => ⟨by rw [r.lens]; exact hz, fun p hp => ?_⟩⟩
    have e2 : Same H1 (L2.upd H1 p (.tup vs)) := same_upd hp
    obtain ⟨fp', S'⟩ := S.puts (is := is) (e1.trans e2) (r.keep e2 fun a h => .inl h) nd nw hl hi
    exact ⟨p, vs, rfl, .inl (.inl upd_same), by rw [r.lens, hl], gNames_vs is vs σ (by rw [r.lens, hl]) (q _ _ _ S')⟩
end
end Px

namespace Px
open PySem PySem.Spec PyProof.Rows L2
/-! ### the end -/
theorem rl_ints {K : PySem.W.Frag} {ex : AS} {H : Hp} : ∀ ns : List Int, RL K ex H (ns.map .int) (ns.map V.int)
  | [] => by rw [List.map_nil, List.map_nil, RL]
  | n :: ns => by
    rw [List.map_cons, List.map_cons, RL]
    exact ⟨_, _, rfl, by rw [R], rl_ints ns⟩
/-- a law's promise: handed a list of ints it answers True -/
theorem spec_law {K : PySem.W.Frag} {mg : Str → Option Value} {C : List D → Res D} {H : Hp} {a : Addr} {ns : List Int} (h : C [.lst (ns.map .int)] = .ok (.bl true)) (hl : ns.length ≤ sizeLine) (hS : SqL K H a (ns.map V.int)) :
    Spec K mg 1 0 C [.ref a] H (fun v _ => v = .bl true) (fun _ _ _ => False) := by
  refine ⟨rfl, fun _ => False, [.lst (ns.map .int)], fun _ z => z.elim, .cons ?_ .nil, ?_⟩
  · rw [R]
    exact ⟨a, _, rfl, ⟨LsX.of hS (fun z => z), by rw [List.length_map]; exact hl⟩, rl_ints ns⟩
  · rw [h]
    intro v H' fq e r nd nw
    obtain ⟨_, r⟩ := r
    rw [R] at r
    exact r
/-- how a def without defaults binds -/
def BA (fd : FuncData) (ps : List Str) : Prop := ∀ (s : Shared) (us : List Value), us.length = ps.length → BindsTo s fd ⟨us, []⟩ (ps.zip us)
theorem BA.b {K : PySem.W.Frag} {fd : FuncData} {ps : List Str} (h : BA fd ps) : Binds K fd ps [] := fun s us _ hl => by
  rw [List.append_nil] at hl ⊢
  exact h s us hl
theorem txt_fun {K : PySem.W.Frag} {fa : List He.Fa} {fn : List He.FnD} (c : He.SaysE fa fn K) (i j : Nat) {x : Str} {ps : List Str} {st : Stmt} (h : fn[i]? = some ⟨(x, none), x, x, defArgs st, defBody st, defScope st⟩) (hk : fa[j]? = some (.keep x))
    (hb : ∀ (kV doc pm : Value) (an : Option Addr) (cdv ct : Value) (us : List Value), us.length = ps.length → bindArgs (PySem.W.fnOf x x (defArgs st) (defBody st) (defScope st) .none kV doc pm an cdv ct) ⟨us, []⟩ = pure (ps.zip us)) :
    ∃ fd, Fun K x x st (He.ga K x) fd ∧ BA fd ps := by
  obtain ⟨oc, od, osl, kV, doc, pm, an, cdv, ct, l, q⟩ := c.def_ i h
  have F := fun_mk (K := K) (st := st) (x := x) (qual := x) l q (He.keep_ok (c.fact j hk))
  exact ⟨_, F, fun s us hl => .of_eq (hb kV doc pm an cdv ct us hl)⟩
theorem txt_exc {K : PySem.W.Frag} {fa : List He.Fa} {fn : List He.FnD} {h : Heap} {mg : Str → Option Value} (X : K.In h) (G : h.Ns mainGlobals mg) (c : He.SaysE fa fn K) (i j : Nat) {x : Str} (h1 : fa[i]? = some (.glo x)) (h2 : fa[j]? = some (.exc x)) :
    mg x = some (.ref (He.ga K x)) ∧ PySem.W.excIn K (He.ga K x) He.veBase "ValueError.__new__" = true ∧ PySem.W.keepIn K (.ref (He.ga K x)) = true ∧ PySem.W.subIn K (.ref (He.ga K x)) (.type "BaseException") = some true ∧ PySem.W.typeIn K (.ref (He.ga K x)) = some (.type "type") :=
  ⟨He.glo_ok X G (c.fact i h1), He.exc_ok (c.fact j h2)⟩
/-- a law over a head by facts, exceptions let -/
theorem walk_px {l : PySem.W.OpenLaw} {n k : Nat} {q : Program} {loose : List Str} {XP : (Str → Option Value) → Heap → Prop} {YP : World → Heap → Prop} {d : DefRec} {x : Str}
    (hn : l.most = some n) (hn2 : n ≤ sizeLine) (hdf : d.params.defaults = []) (hr : Room k callerA)
    (F : ∀ (w : World) (mg : Str → Option Value) (fa : Addr) (h : Heap), YP w h → h.Ns mainGlobals mg → mg d.name = some (.ref fa) →
      ∃ (K : PySem.W.Frag) (fd : FuncData) (sp : Sp), K.In h ∧ (∀ (s : Shared) (u : Value), BindsTo s fd ⟨[u], []⟩ [(x, u)]) ∧
        (∀ (H : Hp) (a : Addr) (ns : List Int), ns.length ≤ n → (∀ z ∈ ns, Builtin.Int.intBits z ≤ 1048576) → Only H → SqL K H a (ns.map V.int) → sp [.ref a] H (fun v _ => v = .bl true) fun _ _ _ => False) ∧
        ∀ base : Heap, K.In base → base.Ns mainGlobals mg → FnOk l.prog w K mg base (L2.CX l.prog w) k fa fd [x] sp) :
    PySem.W.WalkO q loose XP YP l.row.toRowW d [] (fun f vs => PySem.call f vs) := by
  refine Att.attach_callB hn hdf fun w s₀ s₁ mg mb fa o pm cd doc a vs ns G Y ho hd hcd hmg hobj hints hlen hbits hg => ?_
  obtain ⟨K, fd, sp, KX, hb, hsp, hF⟩ := F w mg fa _ Y G.T.g hmg
  exact law_call KX G.T.g G.T.b G.T.builtins G.T.nolimit hg hobj hints (Nat.le_trans hlen hn2) hr hF hb (fun H hO hS => hsp H a ns hlen hbits hO hS) fun H e s' ⟨_, _, _, _, _, _, _, _, _, _, _, _, z⟩ => z
end Px

namespace Px
open PySem PySem.Spec PyProof.Rows L2
/-! ### plain reading: tools -/
@[simp] theorem x_eC (d : D) (ρ : Env) : eC d ρ = .ok d := id rfl
@[simp] theorem x_aNil (ρ : Env) : aNil ρ = .ok [] := id rfl
@[simp] theorem x_aCons (f : EF) (g : Env → Res (List D)) (ρ : Env) : aCons f g ρ = f ρ >>= fun d => g ρ >>= fun ds => .ok (d :: ds) := id rfl
@[simp] theorem x_eTup (fs : Env → Res (List D)) (ρ : Env) : eTup fs ρ = fs ρ >>= fun ds => .ok (.tup ds) := id rfl
@[simp] theorem x_eLst (fs : Env → Res (List D)) (ρ : Env) : eLst fs ρ = fs ρ >>= fun ds => .ok (.lst ds) := id rfl
@[simp] theorem x_eOp (o : D → D → Res D) (f g : EF) (ρ : Env) : eOp o f g ρ = f ρ >>= fun a => g ρ >>= fun b => o a b := id rfl
@[simp] theorem x_eUn {α : Type} (o : D → Res α) (f : EF) (ρ : Env) : eUn o f ρ = f ρ >>= o := id rfl
@[simp] theorem x_eCall (o : List D → Res D) (f : Env → Res (List D)) (ρ : Env) : eCall o f ρ = f ρ >>= o := id rfl
@[simp] theorem x_eIf (t : Env → Res Bool) (f g : EF) (ρ : Env) : eIf t f g ρ = t ρ >>= fun b => if b = true then f ρ else g ρ := id rfl
@[simp] theorem x_eNot (f : EF) (ρ : Env) : eNot f ρ = f ρ >>= fun d => dTru d >>= fun b => .ok (.bl (!b)) := id rfl
@[simp] theorem x_eAnd (f g : EF) (ρ : Env) : eAnd f g ρ = f ρ >>= fun d => dTru d >>= fun b => if b = true then g ρ else .ok d := id rfl
@[simp] theorem x_eOr (f g : EF) (ρ : Env) : eOr f g ρ = f ρ >>= fun d => dTru d >>= fun b => if b = true then .ok d else g ρ := id rfl
@[simp] theorem x_bAnd (f g : Env → Res Bool) (ρ : Env) : bAnd f g ρ = f ρ >>= fun b => if b = true then g ρ else .ok false := id rfl
@[simp] theorem x_bOr (f g : Env → Res Bool) (ρ : Env) : bOr f g ρ = f ρ >>= fun b => if b = true then .ok true else g ρ := id rfl
@[simp] theorem x_bNot (f : Env → Res Bool) (ρ : Env) : bNot f ρ = f ρ >>= fun b => .ok (!b) := id rfl
@[simp] theorem x_bYes (ρ : Env) : bYes ρ = .ok true := id rfl
@[simp] theorem x_iSeq (f : EF) (ρ : Env) : iSeq f ρ = f ρ >>= dItems := id rfl
@[simp] theorem x_iCall (o : List D → Res (List D)) (fs : Env → Res (List D)) (ρ : Env) : iCall o fs ρ = fs ρ >>= o := id rfl
@[simp] theorem x_sNext (ρ : Env) : sNext ρ = .next ρ := id rfl
@[simp] theorem x_sRet (f : EF) (ρ : Env) : sRet f ρ = (f ρ).flow ρ fun d => .ret d := id rfl
@[simp] theorem x_sRetN (ρ : Env) : sRetN ρ = .ret .non := id rfl
@[simp] theorem x_sDrop (f : EF) (ρ : Env) : sDrop f ρ = (f ρ).flow ρ fun _ => .next ρ := id rfl
@[simp] theorem x_sIf (t : Env → Res Bool) (F G : SF) (ρ : Env) : sIf t F G ρ = (t ρ).flow ρ fun b => if b = true then F ρ else G ρ := id rfl
@[simp] theorem x_sSet (i : Nat) (f : EF) (ρ : Env) : sSet i f ρ = (f ρ).flow ρ fun d => .next (ρ.set i (some d)) := id rfl
def resF (r : Res Env) : Flow := match r with
  | .ok ρ' => .next ρ'
  | _ => .err
@[simp] theorem resF_ok (ρ : Env) : resF (.ok ρ) = .next ρ := id rfl
@[simp] theorem x_sUnp (gf : Env → D → Res Env) (f : EF) (ρ : Env) : sUnp gf f ρ = (f ρ).flow ρ fun d => resF (gf ρ d) := by
  unfold sUnp
  cases f ρ with
  | ok d =>
    show sUnp.noX' _ = resF _
    cases gf ρ d <;> rfl
  | _ => rfl
@[simp] theorem x_sBreak (ρ : Env) : sBreak ρ = .brk ρ := id rfl
@[simp] theorem x_sCont (ρ : Env) : sCont ρ = .cont ρ := id rfl
@[simp] theorem x_sPar (is : List Nat) (fs : List EF) (ρ : Env) : sPar is fs ρ = (evL fs ρ).flow ρ fun ds => .next (setL ρ is ds) := id rfl
@[simp] theorem x_sRaise (c : Str) (ρ : Env) : sRaise c ρ = .exc c ρ := id rfl
@[simp] theorem x_gfName (i : Nat) (ρ : Env) (d : D) : gfName i ρ d = .ok (ρ.set i (some d)) := id rfl
@[simp] theorem x_gfTup (is : List Nat) (ρ : Env) (ds : List D) : gfTup is ρ (.tup ds) = if ds.length = is.length then .ok (setL ρ is ds) else .err := id rfl
@[simp] theorem x_setL0 (ρ : Env) (ds : List D) : setL ρ [] ds = ρ := by unfold setL; rfl
@[simp] theorem x_setL1 (ρ : Env) (i : Nat) (is : List Nat) (d : D) (ds : List D) : setL ρ (i :: is) (d :: ds) = setL (ρ.set i (some d)) is ds := id rfl
@[simp] theorem x_evL0 (ρ : Env) : evL [] ρ = .ok [] := id rfl
@[simp] theorem x_evL1 (f : EF) (r : List EF) (ρ : Env) : evL (f :: r) ρ = f ρ >>= fun d => evL r ρ >>= fun ds => .ok (d :: ds) := id rfl
@[simp] theorem x_wipe0 (ρ : Env) : wipeE ρ [] = ρ := id rfl
@[simp] theorem x_wipe1 (ρ : Env) (v : Nat) (vs : List Nat) : wipeE ρ (v :: vs) = (wipeE ρ vs).set v none := id rfl
theorem x_sFor (fI : Px.Env → Res (List D)) (gf : Px.Env → D → Res Px.Env) (F : SF) (ρ : Px.Env) : sFor fI gf F ρ = (fI ρ).flow ρ fun ds => forE gf F ds ρ := id rfl
@[simp] theorem x_oNone (ρ : Env) : oNone ρ = .ok none := id rfl
def asI : D → Res (Option Int)
  | .int i => .ok (some i)
  | _ => .err
@[simp] theorem asI_int (i : Int) : asI (.int i) = .ok (some i) := id rfl
@[simp] theorem x_oSome (f : EF) (ρ : Env) : oSome f ρ = f ρ >>= asI := by
  unfold oSome
  cases f ρ with
  | ok d => cases d <;> rfl
  | _ => rfl
@[simp] theorem x_eSl (f : EF) (lo hi : Env → Res (Option Int)) (ρ : Env) : eSl f lo hi ρ = f ρ >>= fun d => lo ρ >>= fun a => hi ρ >>= fun b => dSl d a b := id rfl
@[simp] theorem x_dSl_l (xs : List D) (a b : Option Int) : dSl (.lst xs) a b = .ok (.lst (cut xs a b)) := id rfl
@[simp] theorem x_dSl_t (xs : List D) (a b : Option Int) : dSl (.tup xs) a b = .ok (.tup (cut xs a b)) := id rfl
def vD (o : Option D) : Res D := match o with
  | some d => .ok d
  | none => .err
@[simp] theorem vD_some (d : D) : vD (some d) = .ok d := id rfl
@[simp] theorem x_eVar (i : Nat) (ρ : Env) : eVar i ρ = vD (ρ.getD i none) := id rfl
@[simp] theorem x_asB (b : Bool) : asB (.bl b) = .ok b := id rfl
@[simp] theorem x_tru_n : dTru .non = .ok false := id rfl
@[simp] theorem x_tru_b (b : Bool) : dTru (.bl b) = .ok b := id rfl
@[simp] theorem x_tru_i (i : Int) : dTru (.int i) = .ok (i != 0) := id rfl
@[simp] theorem x_tru_t (xs : List D) : dTru (.tup xs) = .ok (!xs.isEmpty) := id rfl
@[simp] theorem x_tru_l (xs : List D) : dTru (.lst xs) = .ok (!xs.isEmpty) := id rfl
@[simp] theorem x_add (i j : Int) : dAdd (.int i) (.int j) = .ok (.int (i + j)) := id rfl
@[simp] theorem x_add_l (a b : List D) : dAdd (.lst a) (.lst b) = if a.length + b.length ≤ sizeLine then .ok (.lst (a ++ b)) else .err := id rfl
@[simp] theorem x_add_t (a b : List D) : dAdd (.tup a) (.tup b) = if a.length + b.length ≤ sizeLine then .ok (.tup (a ++ b)) else .err := id rfl
@[simp] theorem x_sub (i j : Int) : dSub (.int i) (.int j) = .ok (.int (i - j)) := id rfl
@[simp] theorem x_mod (i j : Int) (h : 0 < j) : dMod (.int i) (.int j) = .ok (.int (i % j)) := by
  show (if _ then _ else _) = _
  rw [if_pos h]
@[simp] theorem x_cmp (p : Int → Int → Bool) (i j : Int) : dCmpI p (.int i) (.int j) = .ok (.bl (p i j)) := id rfl
@[simp] theorem x_len_t (xs : List D) : fLen [.tup xs] = .ok (.int xs.length) := id rfl
@[simp] theorem x_len_l (xs : List D) : fLen [.lst xs] = .ok (.int xs.length) := id rfl
@[simp] theorem x_tup_t (xs : List D) : fTuple [.tup xs] = .ok (.tup xs) := id rfl
@[simp] theorem x_tup_l (xs : List D) : fTuple [.lst xs] = .ok (.tup xs) := id rfl
@[simp] theorem x_list_t (xs : List D) : fList [.tup xs] = .ok (.lst xs) := id rfl
@[simp] theorem x_list_l (xs : List D) : fList [.lst xs] = .ok (.lst xs) := id rfl
@[simp] theorem x_int_i (i : Int) : fInt [.int i] = .ok (.int i) := id rfl
@[simp] theorem x_abs (i : Int) : fAbs [.int i] = .ok (.int (if i < 0 then -i else i)) := id rfl
@[simp] theorem x_items_t (xs : List D) : dItems (.tup xs) = .ok xs := id rfl
@[simp] theorem x_items_l (xs : List D) : dItems (.lst xs) = .ok xs := id rfl
@[simp] theorem x_pow (i : Int) (j : Int) (h : 0 ≤ j ∧ j ≤ 1000000 ∧ i.natAbs < 2 ^ 64) : dPow (.int i) (.int j) = .ok (.int (i ^ j.toNat)) := by
  show (if _ then _ else _) = _
  rw [if_pos h]
theorem sl_eq : sizeLine = 16777216 := sizeLine_eq
@[simp] theorem sKill_x (is : List Nat) (F : SF) (ρ : Env) : sKill is F ρ = F (wipeE ρ is) := id rfl
theorem sSeq_of {F G : SF} {ρ ρ' : Env} (h : F ρ = .next ρ') : sSeq F G ρ = G ρ' := by
  unfold sSeq
  rw [h]
theorem sSeq_ret {F G : SF} {ρ : Env} {d : D} (h : F ρ = .ret d) : sSeq F G ρ = .ret d := by
  unfold sSeq
  rw [h]
@[simp] theorem sSeq_set (i : Nat) (f : EF) (G : SF) (ρ : Env) : sSeq (sSet i f) G ρ = (f ρ).flow ρ fun d => G (ρ.set i (some d)) := by
  unfold sSeq sSet
  cases f ρ <;> rfl
theorem sSeq_def (F G : SF) (ρ : Env) : sSeq F G ρ = match F ρ with
  | .next ρ' => G ρ'
  | r => r := rfl
def seqK (r : Flow) (k : Env → Flow) : Flow := match r with
  | .next ρ' => k ρ'
  | r => r
@[simp] theorem seqK_next (ρ : Env) (k : Env → Flow) : seqK (.next ρ) k = k ρ := id rfl
@[simp] theorem seqK_ret (d : D) (k : Env → Flow) : seqK (.ret d) k = .ret d := id rfl
@[simp] theorem seqK_cont (ρ : Env) (k : Env → Flow) : seqK (.cont ρ) k = .cont ρ := id rfl
@[simp] theorem seqK_brk (ρ : Env) (k : Env → Flow) : seqK (.brk ρ) k = .brk ρ := id rfl
@[simp] theorem seqK_exc (c : Str) (ρ : Env) (k : Env → Flow) : seqK (.exc c ρ) k = .exc c ρ := id rfl
@[simp] theorem sSeq_x (F G : SF) (ρ : Env) : sSeq F G ρ = seqK (F ρ) G := by
  unfold sSeq seqK
  rfl
@[simp] theorem seqK_ite {c : Prop} [Decidable c] (a b : Flow) (k : Env → Flow) : seqK (if c then a else b) k = if c then seqK a k else seqK b k := by split <;> rfl
@[simp] theorem loopK_ite {c : Prop} [Decidable c] (a b : Flow) (k : Env → Flow) : loopK (if c then a else b) k = if c then loopK a k else loopK b k := by split <;> rfl
@[simp] theorem dMul_i (i j : Int) (h : mulOk i j = true) : dMul (.int i) (.int j) = .ok (.int (i * j)) := by
  show (if _ then _ else _) = _
  rw [if_pos h]
@[simp] theorem dDiv_i (i j : Int) (h : 0 < j ∧ j < 1073741824) : dDiv (.int i) (.int j) = .ok (.int (i / j)) := by
  show (if _ then _ else _) = _
  rw [if_pos h]
theorem mulOk_r (i j : Int) (h : -(2 ^ 64) < j ∧ j < 2 ^ 64) : mulOk i j = true := decide_eq_true (.inr h)
theorem mulOk_l (i j : Int) (h : -(2 ^ 64) < i ∧ i < 2 ^ 64) : mulOk i j = true := decide_eq_true (.inl h)
theorem app_ok {i : Nat} {f : EF} {ρ : Env} {xs : List D} {d : D} (h : ρ.getD i none = some (.lst xs)) (hf : f ρ = .ok d) (hl : xs.length < sizeLine) : sAppend i f ρ = .next (ρ.set i (some (.lst (xs ++ [d])))) := by
  unfold sAppend
  rw [h]
  dsimp only
  rw [hf]
  dsimp only [Res.flow]
  rw [if_pos hl]
/-- a walk that neither ends nor leaves -/
theorem for_inv {gf : Env → D → Res Env} {F : SF} {P : Nat → Env → Prop} : ∀ {ds : List D} {n : Nat} {ρ : Env}, P n ρ →
    (∀ i d, ds[i]? = some d → ∀ ρ, P (n + i) ρ → ∃ ρ1 ρ', gf ρ d = .ok ρ1 ∧ (F ρ1 = .next ρ' ∨ F ρ1 = .cont ρ') ∧ P (n + i + 1) ρ') → ∃ ρ', forE gf F ds ρ = .next ρ' ∧ P (n + ds.length) ρ'
  | [], n, ρ, h, _ => ⟨ρ, rfl, h⟩
  | d :: ds, n, ρ, h, st => by
    obtain ⟨ρ1, ρ', e1, e2, p⟩ := st 0 d rfl ρ h
    obtain ⟨ρ2, e3, p2⟩ := for_inv (ds := ds) (n := n + 1) p fun i d' hi ρ hp => by
      have := st (i + 1) d' hi ρ (by rw [show n + (i + 1) = n + 1 + i by omega]; exact hp)
      rw [show n + (i + 1) + 1 = n + 1 + i + 1 by omega] at this
      exact this
    refine ⟨ρ2, ?_, by rw [List.length_cons, show n + (ds.length + 1) = n + 1 + ds.length by omega]; exact p2⟩
    unfold forE
    rw [e1]
    dsimp only [Res.must]
    rcases e2 with e2 | e2 <;> (rw [e2]; exact e3)
/-- a walk that looks for the first that ends it -/
def Scan (P : Env → Prop) (o : Option D) (fl : Flow) : Prop := match o with
  | some r => fl = .ret r
  | none => ∃ ρ, (fl = .next ρ ∨ fl = .cont ρ) ∧ P ρ
theorem for_scan {gf : Env → D → Res Env} {F : SF} {P : Env → Prop} {bad : D → Option D} : ∀ {ds : List D} {ρ : Env}, P ρ →
    (∀ d ∈ ds, ∀ ρ, P ρ → ∃ ρ1, gf ρ d = .ok ρ1 ∧ Scan P (bad d) (F ρ1)) → match ds.findSome? bad with
      | some r => forE gf F ds ρ = .ret r
      | none => ∃ ρ', forE gf F ds ρ = .next ρ' ∧ P ρ'
  | [], ρ, h, _ => ⟨ρ, rfl, h⟩
  | d :: ds, ρ, h, st => by
    obtain ⟨ρ1, e1, sc⟩ := st d List.mem_cons_self ρ h
    unfold forE
    rw [e1]
    dsimp only [Res.must]
    rw [List.findSome?_cons]
    cases e : bad d with
    | some r =>
      rw [e] at sc
      have sc : F ρ1 = .ret r := sc
      rw [sc]
      rfl
    | none =>
      rw [e] at sc
      obtain ⟨ρ', e2, p⟩ := sc
      have ih := for_scan (ds := ds) p fun d' hd => st d' (List.mem_cons_of_mem _ hd)
      dsimp only
      rcases e2 with e2 | e2 <;> (rw [e2]; exact ih)
theorem lc_map {i : Nat} {f : EF} {ρ : Env} {g : D → D} : ∀ {ds : List D}, (∀ d ∈ ds, f (ρ.set i (some d)) = .ok (g d)) → lcE (gfName i) bYes f ρ ds = .ok (ds.map g)
  | [], _ => rfl
  | d :: ds, h => by
    have := lc_map (ds := ds) fun d' hd => h d' (List.mem_cons_of_mem _ hd)
    simp [lcE, h d List.mem_cons_self, this]
@[simp] theorem atI_nat {α : Type} (xs : List α) (n : Nat) : atI xs (n : Int) = xs[n]? := by
  unfold atI ixN
  by_cases h : n < xs.length
  · have : ((n : Int) < xs.length) := by omega
    simp [this]
  · have : ¬ ((n : Int) < xs.length) := by omega
    simp [this]
    omega
theorem dIx_lst {xs : List D} {n : Nat} {d : D} (h : xs[n]? = some d) : dIx (.lst xs) (.int n) = .ok d := by
  simp [dIx, h]
theorem dIx_tup {xs : List D} {n : Nat} {d : D} (h : xs[n]? = some d) : dIx (.tup xs) (.int n) = .ok d := by
  simp [dIx, h]
@[simp] theorem rng_zero (n : Nat) : rng 0 n = (List.range n).map fun i => .int (i : Nat) := by
  simp [rng]
theorem dRng1_nat (n : Nat) (h : n ≤ 16777216) : dRng1 [.int n] = .ok ((List.range n).map fun i => .int (i : Nat)) := by
  have : ((n : Int) ≤ 16777216 ∧ -(2 ^ 62) ≤ (n : Int)) := ⟨by omega, by omega⟩
  simp only [dRng1]
  rw [if_pos this]
  simp
@[simp] theorem x_eq_ii (i j : Int) : dEq (.int i) (.int j) = .ok (.bl (i == j)) := by
  simp [dEq, okN, eqD]
@[simp] theorem x_ne_ii (i j : Int) : dNe (.int i) (.int j) = .ok (.bl (!(i == j))) := by
  simp [dNe, okN, eqD]
theorem x_eq_ss (a b : Str) (h : PyData.strOk a = true) (h2 : PyData.strOk b = true) : dEq (.str a) (.str b) = .ok (.bl (a == b)) := by
  simp [dEq, okN, eqD, h, h2]
theorem x_ne_ss (a b : Str) (h : PyData.strOk a = true) (h2 : PyData.strOk b = true) : dNe (.str a) (.str b) = .ok (.bl (!(a == b))) := by
  simp [dNe, okN, eqD, h, h2]
@[simp] theorem x_is_n (d : D) : dIs d .non = .ok (.bl (isNon d)) := by
  cases d <;> rfl
@[simp] theorem x_isNot_n (d : D) : dIsNot d .non = .ok (.bl (!isNon d)) := by
  cases d <;> rfl
@[simp] theorem isNon_n : isNon .non = true := id rfl
@[simp] theorem isNon_i (i : Int) : isNon (.int i) = false := id rfl
@[simp] theorem isNon_s (i : Str) : isNon (.str i) = false := id rfl
@[simp] theorem isNon_t (i : List D) : isNon (.tup i) = false := id rfl
@[simp] theorem isNon_l (i : List D) : isNon (.lst i) = false := id rfl
@[simp] theorem isNon_b (i : Bool) : isNon (.bl i) = false := id rfl
@[simp] theorem isi_n (p : D → Bool) : dIsi p .non = .ok (.bl (p .non)) := id rfl
@[simp] theorem isi_b (p : D → Bool) (b : Bool) : dIsi p (.bl b) = .ok (.bl (p (.bl b))) := id rfl
@[simp] theorem isi_i (p : D → Bool) (b : Int) : dIsi p (.int b) = .ok (.bl (p (.int b))) := id rfl
@[simp] theorem isi_s (p : D → Bool) (b : Str) : dIsi p (.str b) = .ok (.bl (p (.str b))) := id rfl
@[simp] theorem isi_t (p : D → Bool) (b : List D) : dIsi p (.tup b) = .ok (.bl (p (.tup b))) := id rfl
@[simp] theorem isi_l (p : D → Bool) (b : List D) : dIsi p (.lst b) = .ok (.bl (p (.lst b))) := id rfl
@[simp] theorem k_ii (i : Int) : isInt (.int i) = true := id rfl
@[simp] theorem k_ib (i : Bool) : isInt (.bl i) = true := id rfl
@[simp] theorem k_in : isInt .non = false := id rfl
@[simp] theorem k_is (i : Str) : isInt (.str i) = false := id rfl
@[simp] theorem k_it (i : List D) : isInt (.tup i) = false := id rfl
@[simp] theorem k_il (i : List D) : isInt (.lst i) = false := id rfl
@[simp] theorem k_bi (i : Int) : isBool (.int i) = false := id rfl
@[simp] theorem k_bb (i : Bool) : isBool (.bl i) = true := id rfl
@[simp] theorem k_bn : isBool .non = false := id rfl
@[simp] theorem k_bs (i : Str) : isBool (.str i) = false := id rfl
@[simp] theorem k_bt (i : List D) : isBool (.tup i) = false := id rfl
@[simp] theorem k_bl (i : List D) : isBool (.lst i) = false := id rfl
@[simp] theorem k_si (i : Int) : isStr (.int i) = false := id rfl
@[simp] theorem k_sb (i : Bool) : isStr (.bl i) = false := id rfl
@[simp] theorem k_sn : isStr .non = false := id rfl
@[simp] theorem k_ss (i : Str) : isStr (.str i) = true := id rfl
@[simp] theorem k_st (i : List D) : isStr (.tup i) = false := id rfl
@[simp] theorem k_sl (i : List D) : isStr (.lst i) = false := id rfl
@[simp] theorem k_ti (i : Int) : isTup (.int i) = false := id rfl
@[simp] theorem k_tb (i : Bool) : isTup (.bl i) = false := id rfl
@[simp] theorem k_tn : isTup .non = false := id rfl
@[simp] theorem k_ts (i : Str) : isTup (.str i) = false := id rfl
@[simp] theorem k_tt (i : List D) : isTup (.tup i) = true := id rfl
@[simp] theorem k_tl (i : List D) : isTup (.lst i) = false := id rfl
@[simp] theorem k_li (i : Int) : isLst (.int i) = false := id rfl
@[simp] theorem k_lb (i : Bool) : isLst (.bl i) = false := id rfl
@[simp] theorem k_ln : isLst .non = false := id rfl
@[simp] theorem k_ls (i : Str) : isLst (.str i) = false := id rfl
@[simp] theorem k_lt (i : List D) : isLst (.tup i) = false := id rfl
@[simp] theorem k_ll (i : List D) : isLst (.lst i) = true := id rfl
theorem isi_ok {n : Nat} {p : D → Bool} {d : D} (h : okN n d = true) : dIsi p d = .ok (.bl (p d)) := by
  cases d with
  | dic _ _ => rw [okN] at h <;> first | cases h | (intro q; cases q)
  | set _ => rw [okN] at h <;> first | cases h | (intro q; cases q)
  | exc _ => rw [okN] at h <;> first | cases h | (intro q; cases q)
  | oth => rw [okN] at h <;> first | cases h | (intro q; cases q)
  | _ => rfl
@[simp] theorem x_min2 (i j : Int) : fMin [.int i, .int j] = .ok (.int (if j < i then j else i)) := id rfl
@[simp] theorem x_max2 (i j : Int) : fMax [.int i, .int j] = .ok (.int (if j > i then j else i)) := id rfl
theorem x_min_l (b : Int) (bs : List Int) : fMin [.lst ((b :: bs).map .int)] = .ok (.int (bs.foldl min b)) := by
  simp only [fMin, nums_map]
theorem x_min_t (b : Int) (bs : List Int) : fMin [.tup ((b :: bs).map .int)] = .ok (.int (bs.foldl min b)) := by
  simp only [fMin, nums_map]
theorem x_all (bs : List Bool) : fAll [.lst (bs.map .bl)] = .ok (.bl (bs.all fun z => z)) := by
  simp only [fAll, bools_map]
theorem x_any (bs : List Bool) : fAny [.lst (bs.map .bl)] = .ok (.bl (bs.any fun z => z)) := by
  simp only [fAny, bools_map]
/-- a comprehension: what holds of each -/
theorem lc_ex {gf : Px.Env → D → Res Px.Env} {f : EF} {ρ : Px.Env} {Q : D → Prop} : ∀ {ds : List D}, (∀ d ∈ ds, ∃ ρ1 y, gf ρ d = .ok ρ1 ∧ f ρ1 = .ok y ∧ Q y) → ∃ ys, lcE gf bYes f ρ ds = .ok ys ∧ ys.length = ds.length ∧ ∀ y ∈ ys, Q y
  | [], _ => ⟨[], rfl, rfl, fun y h => nomatch h⟩
  | d :: ds, h => by
    obtain ⟨ρ1, y, e1, e2, q⟩ := h d List.mem_cons_self
    obtain ⟨ys, e3, hl, hq⟩ := lc_ex (ds := ds) fun d' hd => h d' (List.mem_cons_of_mem _ hd)
    refine ⟨y :: ys, ?_, by simp [hl], fun z hz => ?_⟩
    · simp [lcE, e1, e2, e3]
    · rcases List.mem_cons.mp hz with rfl | hz
      · exact q
      · exact hq z hz
/-- a comprehension of bools -/
theorem lc_bools {gf : Px.Env → D → Res Px.Env} {f : EF} {ρ : Px.Env} {p : D → Bool} : ∀ {ds : List D}, (∀ d ∈ ds, ∃ ρ1, gf ρ d = .ok ρ1 ∧ f ρ1 = .ok (.bl (p d))) → lcE gf bYes f ρ ds = .ok ((ds.map p).map .bl)
  | [], _ => rfl
  | d :: ds, h => by
    obtain ⟨ρ1, e1, e2⟩ := h d List.mem_cons_self
    have := lc_bools (ds := ds) fun d' hd => h d' (List.mem_cons_of_mem _ hd)
    simp [lcE, e1, e2, this]
theorem imin_lt (a b x : Int) : min a b < x ↔ a < x ∨ b < x := by omega
theorem cut_hi {α : Type} (xs : List α) (n : Nat) : cut xs none (some (n : Int)) = xs.take n := by
  unfold cut
  rw [HT.sIx_none, HT.sIx_nat, List.drop_zero, Nat.sub_zero]
  apply List.take_eq_take_iff.mpr
  omega
theorem cut_lo {α : Type} (xs : List α) (n : Nat) : cut xs (some (n : Int)) none = xs.drop n := by
  unfold cut
  rw [HT.sIx_none, HT.sIx_nat]
  rw [List.take_of_length_le (by simp)]
  apply List.drop_eq_drop_iff.mpr
  omega
theorem cut_lh {α : Type} (xs : List α) (a b : Nat) : cut xs (some (a : Int)) (some (b : Int)) = (xs.drop a).take (b - a) := by
  unfold cut
  rw [HT.sIx_nat, HT.sIx_nat]
  have e : xs.drop (min a xs.length) = xs.drop a := List.drop_eq_drop_iff.mpr (by omega)
  rw [e]
  apply List.take_eq_take_iff.mpr
  simp
  omega
end Px

namespace Px
open PySem PySem.Spec PyProof.Rows L2
/-! ### nested targets -/
def GSems (K : PySem.W.Frag) (g : TGs) (gfs : Px.Env → List D → Res Px.Env) (is : List Nat) : Prop :=
  ∀ ex vs σ H Q ds ρ ρ', Paired (R K ex H) ds vs → gfs ρ ds = .ok ρ' → (∀ l : Sets, (∀ t ∈ l, R K ex H t.2.1 t.2.2 ∧ t.1 ∈ is) → ρ' = setE ρ l → Q (setS σ l) H) → g vs σ H Q
def gfN : Px.Env → List D → Res Px.Env := fun ρ ds => match ds with
  | [] => .ok ρ
  | _ => .err
def gfC (gf : Px.Env → D → Res Px.Env) (gfs : Px.Env → List D → Res Px.Env) : Px.Env → List D → Res Px.Env := fun ρ ds => match ds with
  | d :: r => (match gf ρ d with
    | .ok ρ1 => gfs ρ1 r
    | _ => .err)
  | _ => .err
def gfT (n : Nat) (gfs : Px.Env → List D → Res Px.Env) : Px.Env → D → Res Px.Env := fun ρ d => match d with
  | .tup ds => if ds.length = n then gfs ρ ds else .err
  | _ => .err
@[simp] theorem x_gfN (ρ : Px.Env) : gfN ρ [] = .ok ρ := id rfl
@[simp] theorem x_gfT (n : Nat) (gfs : Px.Env → List D → Res Px.Env) (ρ : Px.Env) (ds : List D) : gfT n gfs ρ (.tup ds) = if ds.length = n then gfs ρ ds else .err := id rfl
@[simp] theorem x_gfCn (i : Nat) (gfs : Px.Env → List D → Res Px.Env) (ρ : Px.Env) (d : D) (ds : List D) : gfC (gfName i) gfs ρ (d :: ds) = gfs (ρ.set i (some d)) ds := id rfl
theorem setE_append (ρ : Px.Env) (l1 l2 : Sets) : setE (setE ρ l1) l2 = setE ρ (l1 ++ l2) := by
  unfold setE
  rw [List.foldl_append]
theorem setS_append (σ : L2.St) (l1 l2 : Sets) : setS (setS σ l1) l2 = setS σ (l1 ++ l2) := by
  unfold setS
  rw [List.foldl_append]
theorem gs_n {K : PySem.W.Frag} : GSems K gNil gfN [] := fun ex vs σ H Q ds ρ ρ' p e h => by
  cases p with
  | nil =>
    cases e
    exact ⟨rfl, h [] (fun t ht => nomatch ht) rfl⟩
  | cons r t => cases e
theorem gs_c {K : PySem.W.Frag} {g : TG} {gs : TGs} {gf : Px.Env → D → Res Px.Env} {gfs : Px.Env → List D → Res Px.Env} {is js : List Nat} (h1 : GSem K g gf is) (h2 : GSems K gs gfs js) : GSems K (gCons g gs) (gfC gf gfs) (is ++ js) := fun ex vs σ H Q ds ρ ρ' p e h => by
  cases p with
  | nil => cases e
  | cons r t =>
    rename_i d v ds vs
    simp only [gfC] at e
    cases e1 : gf ρ d with
    | ok ρ1 =>
      rw [e1] at e
      refine ⟨v, vs, rfl, h1 ex v σ H _ d ρ ρ1 r e1 fun l hl q => ?_⟩
      refine h2 ex vs _ H Q ds ρ1 ρ' t e fun l2 hl2 q2 => ?_
      rw [setS_append]
      refine h (l ++ l2) (fun z hz => ?_) (by rw [← setE_append, ← q, q2])
      rcases List.mem_append.mp hz with hz | hz
      · exact ⟨(hl z hz).1, List.mem_append.mpr (.inl (hl z hz).2)⟩
      · exact ⟨(hl2 z hz).1, List.mem_append.mpr (.inr (hl2 z hz).2)⟩
    | exc c => rw [e1] at e; cases e
    | err => rw [e1] at e; cases e
theorem gs_t {K : PySem.W.Frag} {n : Nat} {gs : TGs} {gfs : Px.Env → List D → Res Px.Env} {is : List Nat} (h1 : GSems K gs gfs is) : GSem K (gTup K n gs) (gfT n gfs) is := fun ex v σ H Q d ρ ρ' r e h => by
  unfold gfT at e
  split at e
  · split at e
    · rename_i ds hl
      rw [R] at r
      obtain ⟨a, xs, rfl, h1', h2⟩ := r
      exact ⟨a, xs, rfl, h1'.1, by rw [← RL.length h2]; exact hl, h1 ex xs σ H Q ds ρ ρ' (RL.pair h2) e h⟩
    · cases e
  · cases e
end Px

/-! enumerate over what begins an iterator -/
namespace PySem
open Sem (wp)
theorem px_enum_new {v : Value} {o : Obj} {H : Heap → Prop} (B : Begins v o H) :
    Meets (Builtin.«enumerate.__new__» ⟨[.type "enumerate", v], []⟩) (fun _ R s => H s.heap ∧
      R (.ok (.ret (.ref (s.heap.push o).objs.size))) { s with heap := (s.heap.push o).push { cls := .type "enumerate", data := .fields #[.none, .bool false, .ref s.heap.objs.size, rawInt 0, .none, .none] } }) :=
  .of_wp fun prog w A R s h => by
    obtain ⟨hp, g, d, tk, os⟩ := s; obtain ⟨h1, h⟩ := h
    have hsub := sub_enumerate
    have q1 : ∀ {A' : Around} {E : Value → Shared → Prop} {Q : Value → Shared → Prop}, Q (.ref hp.objs.size) ⟨hp.push o, g, d, tk, os⟩ → wpAny (model prog w) A' (pyIter v) Q E ⟨hp, g, d, tk, os⟩ :=
      fun q => B.iter prog w _ _ ⟨hp, g, d, tk, os⟩ _ h1 q
    wp_walk using q1
    refine wpAny_stack_any fun st => wpAny_pure ?_
    split
    · rename_i c _ _ _ _ _
      cases (c == Value.type "enumerate")
      · wp_walk using q1
        exact ⟨_, rfl, h⟩
      · wp_walk using q1
        exact ⟨_, rfl, h⟩
    · wp_walk using q1
      exact ⟨_, rfl, h⟩
theorem px_call_enum {prog : Program} {w : World} {A : Around} {E : Value → Shared → Prop} {s : Shared} {v : Value} {o : Obj} {H : Heap → Prop} {Q : Value → Shared → Prop} (B : Begins v o H) (h1 : H s.heap)
    (h : ∀ h', IsEnum h' (s.heap.objs.size + 1) s.heap.objs.size 0 .none → h'.get? s.heap.objs.size = some o → h'.objs.size = s.heap.objs.size + 2 →
      (∀ b o, s.heap.get? b = some o → h'.get? b = some o) → Q (.ref (s.heap.objs.size + 1)) { s with heap := h' }) :
    wpAny (model prog w) A (call (.type "enumerate") [v]) Q E s := by
  refine callType_new F.called_enumerate (by decide) (F.typeCall_enumerate_1 _) (F.newCall_enumerate_1 _) (fun obj => F.args_object_init_2 obj _) F.entry_enumerate_new
    (px_enum_new B) ⟨h1, ?_⟩
  have hz : (s.heap.push o).objs.size = s.heap.objs.size + 1 := Heap.size_push ..
  show _ ∧ _
  rw [hz]
  have he : IsEnum ((s.heap.push o).push { cls := .type "enumerate", data := .fields #[.none, .bool false, .ref s.heap.objs.size, rawInt 0, .none, .none] }) (s.heap.objs.size + 1) s.heap.objs.size 0 .none := by
    have := Heap.get?_push_size (s.heap.push o) (o := { cls := .type "enumerate", data := .fields #[.none, .bool false, .ref s.heap.objs.size, rawInt 0, .none, .none] }) rfl
    rw [hz] at this; exact this
  refine ⟨⟨_, he, rfl⟩, h _ he (Heap.get?_push_of_some _ (Heap.get?_push_size _ B.free)) (by rw [Heap.size_push, hz]) fun b o x => Heap.get?_push_of_some _ (Heap.get?_push_of_some _ x)⟩
theorem wpAny_pyNext_enum_endT {prog : Program} {w : World} {A : Around} {E : Value → Shared → Prop} {s : Shared} {e it l : Addr} {i : Nat} {items : Array Value} {old : Value} {Q : Option Value → Shared → Prop} (hh : A.handled = none)
    (he : IsEnum s.heap e it i old) (hit : s.heap.IsTupleIter it l i) (hl : s.heap.IsTuple l items) (hx : items[i]? = none)
    (hQ : ∀ h', Heap.ExtBut it s.heap h' → Q none { s with heap := h' }) : wpAny (model prog w) A (pyNext (.ref e)) Q E s := by
  have hT : s.TypeIs (.ref e) "enumerate" := ⟨_, he, rfl⟩
  unfold pyNext
  refine wpAny_bind (wpAny_attempt (wpAny_callSpecial?_slot (name := Str.ofString "__next__") hT F.slot_enumerate_next
    (wpAny_call_entry F.slot_enumerate_next hT F.entry_enumerate_next ?_ (F.args_enumerate_next_1 _))))
  show wpAny _ _ (field (.ref e) 2 >>= _) _ _ _
  refine wpAny_bind (wpAny_field he rfl (x := .ref it) rfl ?_)
  refine wpAny_bind (wpAny_nextOf_tuple_end hh hit hl hx fun h' x he' hx' => ?_)
  obtain ⟨o, ho, hc⟩ := hx'
  refine wpAny_bind (wpAny_isInstance (T := "StopIteration") (b := true) ⟨o, ho, hc⟩ isSubtype_stop ?_)
  exact wpAny_pure (hQ _ he')
end PySem
namespace Px
open PySem PySem.Spec PyProof.Rows L2
/-- the tuple at a, each item in a new pair -/
def IteT (K : PySem.W.Frag) (a : Addr) : It :=
  ⟨fun i H => ∃ (xs : List V) (x : V), SqT K H a xs ∧ xs[i]? = some x, fun i H v H' => ∃ T x, v = .ref T ∧ H T = none ∧ H' = upd H T (.tup [.int (i : Nat), x]) ∧ ∀ xs, SqT K H a xs → xs[i]? = some x, fun i H => ∃ xs : List V, SqT K H a xs ∧ xs.length ≤ i⟩
theorem turn_enumT {P : Program} {w : World} {K : PySem.W.Frag} {elts : List Expr} {kk : Nat} {tpos : Pos} (a e it : Addr) :
    Turn P w K (.Tuple elts kk tpos) (IteT K a) [e, it] e (fun i h => (∃ old, IsEnum h e it ((i : Nat) : Int) old) ∧ h.IsTupleIter it a i ∧ e ≠ it ∧ a ≠ it ∧ a ≠ e) where
  mem := by simp
  obj := fun i h st b hb => by
    obtain ⟨⟨old, he⟩, ⟨o, ho, hc, hd⟩, _⟩ := st
    have e' : b = e ∨ b = it := by simpa using hb
    rcases e' with z | z
    · rw [z]; exact ⟨_, he, fun v q => nomatch q⟩
    · rw [z]; exact ⟨o, ho, fun v q => by rw [hd] at q; cases q⟩
  keep := fun i h h' st k => let ⟨⟨old, he⟩, hi, hne⟩ := st; ⟨⟨old, k e (by simp) _ he⟩, hi.at fun o q => k it (by simp) o q, hne⟩
  item := by
    intro X hP hw hK hc i pins s σ H E I hf st hg
    subst hP hw hK
    obtain ⟨⟨old, he⟩, hit, hne, ha1, ha2⟩ := st
    obtain ⟨xs, x, hq, hx⟩ := hg
    obtain ⟨its, rv, p, hz⟩ := I.tuple hq
    obtain ⟨u, hu, ru⟩ := rv.get hx
    have hel : e < s.heap.objs.size := Heap.lt_size he
    have hil : it < s.heap.objs.size := by obtain ⟨_, q, _⟩ := hit; exact Heap.lt_size q
    have hlt : i < its.toArray.size := by
      have := (List.getElem?_eq_some_iff.mp hu).1
      simpa using this
    refine wpAny_pyNext_enum_itemD (Draws.tuple (prog := X.prog) (w := X.w) (A := X.A.in1) (show X.A.in1.handled = none from I.ok.hd hc) it a ha1 its.toArray) he ⟨hit, p⟩ hlt hne (by simp [hne, Ne.symm ha2]) fun u' h' tk hu' ho hit' hT hsz hk => ?_
    have eu : u' = u := by
      have h1 : its[i]? = some u' := by simpa using hu'
      exact Option.some.inj (h1.symm.trans hu)
    subst eu
    refine ⟨_, rfl, wpAny_letOwnedTupleGo_enum (s := { s with heap := h', toks := tk + 1 }) ho fun h'' he' sb => ?_⟩
    have hT2 : h''.get? s.heap.objs.size = some { cls := .type "tuple", data := .seq #[.int i tk, u'] } := (sb.2 _ (Nat.ne_of_gt hel)).trans hT
    have new : ObjOk X.prog X.w (upd H s.heap.objs.size (.tup [.int (i : Nat), x])) h'' s.heap.objs.size (.tup [.int (i : Nat), x]) :=
      ⟨by show 2 ≤ sizeLine; decide, [.int i tk, u'], .cons ⟨_, rfl⟩ (.cons ru .nil), ⟨_, hT2, rfl, _, rfl⟩⟩
    have I1 : Inv X pins σ (upd H s.heap.objs.size (.tup [.int (i : Nat), x])) { s with heap := h'', toks := tk + 1 } :=
      I.turnedNew (ch := [e, it]) (fun b ob hb q => (sb.2 b (fun z => hb (by simp [z]))).trans (hk b ob (fun z => hb (by simp [z])) (fun z => hb (by simp [z])) q)) hf (Nat.le_refl _) new
    refine ⟨.ref s.heap.objs.size, _, I1, rfl, ⟨_, x, rfl, I.hok.fresh (Nat.le_refl _), rfl, fun ys hy => by rw [I.tuple_inj hy hq]; exact hx⟩, ⟨⟨u', ?_⟩, hit'.1.at fun o q => (sb.2 it (Ne.symm hne)).trans q, hne, ha1, ha2⟩, fun b hb => ?_⟩
    · have e1 : ((i + 1 : Nat) : Int) = (i : Int) + 1 := by omega
      rw [e1]; exact he'
    · have hb' : b < s.heap.objs.size := by
        have e' : b = e ∨ b = it := by simpa using hb
        rcases e' with z | z
        · rw [z]; exact hel
        · rw [z]; exact hil
      rw [upd_ne (Nat.ne_of_lt hb')]
      exact (hf b hb).1
  done := by
    intro X hP hw hK hc i pins s σ H E I hf st hg
    subst hP hw hK
    obtain ⟨⟨old, he⟩, hit, hne, ha1, ha2⟩ := st
    obtain ⟨xs, hq, hx⟩ := hg
    obtain ⟨its, rv, p, hz⟩ := I.tuple hq
    obtain ⟨f0, f1, f2, f3, f4, f5⟩ := hf it (by simp)
    have hl := rv.length
    have hit2 : s.heap.IsTupleIter it a i := hit
    exact wpAny_pyNext_enum_endT (I.ok.hd hc) he hit (show s.heap.IsTuple a its.toArray from p) (by simp; omega) fun h' eb => ⟨rfl, I.turned (t' := s.toks) (fun b o hb q => eb b o hb q) f0 f1 f3 f4 f5⟩
  self := fun A i s Q E st h => let ⟨⟨_, he⟩, _⟩ := st; wpAny_pyIter_enum he h
end Px
namespace Px
open PySem PySem.Spec PyProof.Rows L2
def enumL (xs : List D) : List D := xs.zipIdx.map fun p => .tup [.int (p.2 : Nat), p.1]
theorem enumL_len (xs : List D) : (enumL xs).length = xs.length := by simp [enumL]
theorem enumL_get {xs : List D} {i : Nat} {d : D} (h : (enumL xs)[i]? = some d) : ∃ x, xs[i]? = some x ∧ d = .tup [.int (i : Nat), x] := by
  simp only [enumL, List.getElem?_map, List.getElem?_zipIdx, Nat.zero_add] at h
  cases e : xs[i]? with
  | none => rw [e] at h; cases h
  | some x =>
    rw [e] at h
    cases h
    exact ⟨x, rfl, rfl⟩
theorem itn_enumT {K : PySem.W.Frag} {n : Nat} {ds : List D} {a : Addr} (hl : ds.length ≤ sizeLine) : Itn K n (IteT K a) ((.tup ds, .ref a), (.non, .non)) (enumL ds) := by
  have ob : ∀ ex H, RB K ex H n (.tup ds) (.ref a) → ∃ xs, SqT K H a xs ∧ Paired (R K ex H) ds xs := fun ex H h => by
    obtain ⟨b, xs, e, h1, h2, h3⟩ := RB.tup h
    cases e
    exact ⟨xs, h1, h3⟩
  refine ⟨by rw [enumL_len]; exact hl, fun ex H i h hi => ?_, fun ex H h => ?_, fun ex H i d x H' h hd hy => ?_⟩
  · rw [enumL_len] at hi
    obtain ⟨xs, h1, h2⟩ := ob ex H h.1
    obtain ⟨x, hx, _⟩ := Paired.get h2 (List.getElem?_eq_getElem hi)
    exact ⟨xs, x, h1, hx⟩
  · obtain ⟨xs, h1, h2⟩ := ob ex H h.1
    exact ⟨xs, h1, by rw [enumL_len, h2.length]; exact Nat.le_refl _⟩
  · obtain ⟨xs, h1, h2⟩ := ob ex H h.1
    obtain ⟨z, hz, rfl⟩ := enumL_get hd
    obtain ⟨y, hy1, ry⟩ := Paired.get h2 hz
    obtain ⟨T, x', rfl, hT, rfl, hy2⟩ := hy
    have e := hy2 xs h1
    rw [hy1] at e
    cases e
    have sm : Same H (upd H T (.tup [.int (i : Nat), y])) := same_upd hT
    refine ⟨sm, RB.of ?_⟩
    rw [R]
    refine ⟨T, [.int (i : Nat), y], rfl, ⟨.inl (.inl upd_same), (by decide : (2 : Nat) ≤ sizeLine)⟩, RL.of (.cons (by rw [R]) (.cons (R.same sm ry) .nil))⟩
def dEnum : List D → Res (List D)
  | [.tup xs] => .ok (enumL xs)
  | _ => .err
@[simp] theorem x_dEnum (xs : List D) : dEnum [.tup xs] = .ok (enumL xs) := id rfl
def iEnumT (K : PySem.W.Frag) (ta : TA) : TI := fun σ H R => ta σ H fun vs H1 => ∃ a xs, vs = [.ref a] ∧ SqT K H1 a xs ∧ R (IteT K a) H1
theorem pi_enumT {X : Cx} {e : Expr} {ta : TA} {p pos tpos : Pos} {elts : List Expr} {kk : Nat} (hg : Gl X "enumerate") (hm : X.mg "enumerate" = none) (ha : PA X [e] ta) (hs : starEach [e] X.env = [(false, eval e X.env)] := by rfl) :
    PI X (.Tuple elts kk tpos) (.Call (.Name "enumerate" p) [e] [] pos) (iEnumT X.K ta) := by
  refine ⟨fun pins s σ H R I h => ?_⟩
  refine Call_ (ld_blt I hg hm boot_enumerate (PyProof.Rows.callWith_type1 (thn (ha.run pos pins s σ H _ I h) fun us s1 ⟨vs, H1, I1, r1, q1⟩ => ?_) hs rfl))
  obtain ⟨a, xs, ex, hq, q⟩ := q1
  subst ex
  cases r1 with
  | cons r rr =>
    cases rr
    cases r
    obtain ⟨its, rv, p', hz⟩ := I1.tuple hq
    refine px_call_enum (begins_tuple a its.toArray) (show s1.heap.IsTuple a its.toArray from p') fun h' he hit hsz hk => wpAny_pyIter_enum he ?_
    have hal : a < s1.heap.objs.size := by
      obtain ⟨o, ho, _⟩ := (show s1.heap.IsTuple a its.toArray from p')
      exact Heap.lt_size ho
    have I2 : Inv X pins σ H1 { s1 with heap := h' } := I1.kept (t' := s1.toks) hk
    refine ⟨s1.heap.objs.size + 1, [s1.heap.objs.size + 1, s1.heap.objs.size], _, _, H1, rfl, I2, turn_enumT a (s1.heap.objs.size + 1) s1.heap.objs.size, ⟨⟨.none, he⟩, ⟨_, hit, rfl, rfl⟩, Nat.succ_ne_self _, Nat.ne_of_lt hal, Nat.ne_of_lt (Nat.lt_succ_of_lt hal)⟩, fun b hb => ?_, q⟩
    have e' : b = s1.heap.objs.size + 1 ∨ b = s1.heap.objs.size := by simpa using hb
    have hle : s1.heap.objs.size ≤ b := by
      rcases e' with z | z
      · rw [z]; exact Nat.le_add_right _ _
      · rw [z]; exact Nat.le_refl _
    exact I1.fpOk hle (I1.hok.fresh hle)
section
variable {X : Cx} {W : WX} {L : List Nat} {n kk : Nat} {elts : List Expr} {tpos p pos : Pos} {e : Expr} {fs : Px.Env → Res (List D)}
theorem ei_enum (hg : Gl X "enumerate") (hm : X.mg "enumerate" = none) (ha : EA X W L n 1 [e] fs) (hs : starEach [e] X.env = [(false, eval e X.env)] := by rfl) : EI X W L n (.Tuple elts kk tpos) (.Call (.Name "enumerate" p) [e] [] pos) (iCall dEnum fs) :=
  PI.imp (pi_enumT hg hm ha hs) fun σ H Q ⟨ex, ρ, fp, I, o⟩ => ⟨ex, ρ, fp, I, o.bind.mono fun ds q vs H1 e1 r1 _ => by
    unfold dEnum at q
    split at q
    · rename_i xs
      cases r1 with
      | cons r t =>
        cases t
        have r' := r
        obtain ⟨a, ys, rfl, h1, h2, h3⟩ := RB.tup r
        exact ⟨a, ys, rfl, h1, q (IteT X.K a) H1 ((.tup xs, .ref a), (.non, .non)) e1 (HR.one r') (itn_enumT (by rw [h3.length]; exact h2))⟩
    · exact q.elim⟩
end
end Px

namespace Px
open PySem PySem.Spec PyProof.Rows L2
/-! ### try: body; except x: .. -/
def pick : List (List Str × SF) → Str → Px.Env → Px.Flow
  | [], c, ρ => .exc c ρ
  | h :: r, c, ρ => if c ∈ h.1 then h.2 ρ else pick r c ρ
/-- us: the classes that the clauses are known for -/
def sTry (us : List Str) (F : SF) (hs : List (List Str × SF)) : SF := fun ρ => match F ρ with
  | .exc c ρ' => if c ∈ us then pick hs c ρ' else .err
  | r => r
section
variable {X : Cx} {W : WX} {kr : Nat} {Lb L L' : List Nat}
theorem wMany_ok {Dn : Ends} {c : Str} {ρ' : Px.Env} {ex0 : AS} {G : List (D × V)} : ∀ (hs : List (Value × List Str × SF)), (∀ h ∈ hs, ∀ C, X.mg c = some (.ref C) → PySem.W.exmOne X.K (.ref C) h.1 = some (decide (c ∈ h.2.1))) →
    FOut X W kr Lb L' ex0 G Dn (pick (hs.map (·.2)) c ρ') → ∀ C, X.mg c = some (.ref C) → ∀ σ' H' fp', SS X.K X.H_0 ex0 G [] ρ' σ' H' fp' →
    wMany X.K W Dn (hs.map fun h => (h.1, fun _ _ _ => tS X W kr Lb [] L' h.2.2)) (.ref C) none σ' H'
  | [], _, o, C, hC, σ', H', fp', S => o C hC σ' H' fp' S
  | h :: r, hm, o, C, hC, σ', H', fp', S => by
    refine ⟨_, hm h List.mem_cons_self C hC, fun hb a ha => ?_, fun hb => ?_⟩
    · have hb := of_decide_eq_true hb
      simp only [List.map_cons, pick, if_pos hb] at o
      exact ⟨ex0, G, ρ', fp', S, o⟩
    · have hb := of_decide_eq_false hb
      simp only [List.map_cons, pick, if_neg hb] at o
      exact wMany_ok r (fun h' hh => hm h' (List.mem_cons_of_mem _ hh)) o C hC σ' H' fp' S
theorem sj_try {body : List Stmt} {h₀ : ExceptHandler} {hds : List ExceptHandler} {pos : Pos} {F : SF} {us : List Str} (hs : List (Value × List Str × SF)) (hst : X.stack = X.env :: X.outer) (hf : X.env.frame = some X.env.locals) (tk : Takes X W)
    (hm : ∀ c ∈ us, ∀ h ∈ hs, ∀ C, X.mg c = some (.ref C) → PySem.W.exmOne X.K (.ref C) h.1 = some (decide (c ∈ h.2.1)))
    (hb : ∀ (W' : WX) (pn : List (Addr × Obj)) (xe : Value → Shared → Prop), Takes (X.tr pn xe) W' → PassesOwn (model X.prog X.w) X.A X.env xe → SJs (X.tr pn xe) W' kr Lb L L' body F)
    (hh : HdsOk X (h₀ :: hds) (hs.map fun h => (h.1, fun _ _ _ => tS X W kr Lb [] L' h.2.2))) : SJ X W kr Lb L L' (.Try body (h₀ :: hds) [] [] pos) (sTry us F (hs.map (·.2))) :=
  PS.imp (ps_try_many (tb := fun W' => tS X W' kr Lb L L' F) hst hf tk hb hh) fun Dn σ H ⟨ex0, G, ρ, fp, S, o⟩ => by
    refine ⟨ex0, G, ρ, fp, S, ?_⟩
    unfold sTry at o
    cases q : F ρ with
    | exc c ρ' =>
      rw [q] at o
      dsimp only at o
      split at o
      · rename_i hc
        exact wMany_ok hs (fun h hh C hC => hm c hc h hh C hC) o
      · exact o.elim
    | next ρ' => rw [q] at o; exact o
    | brk ρ' => rw [q] at o; exact o
    | cont ρ' => rw [q] at o; exact o
    | ret d => rw [q] at o; exact o
    | err => rw [q] at o; exact o
end
/-- a clause's suite may not raise -/
def sNx (F : SF) : SF := fun ρ => match F ρ with
  | .exc _ _ => .err
  | r => r
theorem SS.zero {K : PySem.W.Frag} {H0 H : Hp} {ex0 : AS} {G : List (D × V)} {L L0 : List Nat} {ρ : Px.Env} {σ : L2.St} {fp : Nat → List Addr} (S : SS K H0 ex0 G L ρ σ H fp) (h : ∀ i, L0.getD i 0 = L.getD i 0) : SS K H0 ex0 G L0 ρ σ H fp :=
  ⟨⟨S.si.len, fun i d e => by rw [h i]; exact S.si.val i d e, S.si.nod, S.si.dis, S.si.sub, S.si.ext⟩, S.own, S.old, S.same, S.held⟩
theorem zeros (n : Nat) (i : Nat) : (List.replicate n 0).getD i 0 = ([] : List Nat).getD i 0 := by
  rw [List.getD_eq_getElem?_getD, List.getElem?_replicate]
  split <;> rfl
abbrev HdsP (X : Cx) (W : WX) (kr : Nat) (Lb L' : List Nat) (hds : List ExceptHandler) (hs : List (Value × List Str × SF)) : Prop := HdsOk X hds (hs.map fun h => (h.1, fun _ _ _ => tS X W kr Lb [] L' h.2.2))
section
variable {X : Cx} {W : WX} {kr : Nat} {Lb L' : List Nat}
theorem hp_nil : HdsP X W kr Lb L' [] [] := HdsOk.nil
theorem hp_cons {x : Str} {c : Value} {l : List Str} {b₀ : Stmt} {suite : List Stmt} {np pos' : Pos} {hds : List ExceptHandler} {hs : List (Value × List Str × SF)} {F : SF} (n : Nat) (hc : Names X x c)
    (h : ∀ (a : Addr) (pn : List (Addr × Obj)), SJs (X.suite a pn) (fun _ _ _ _ => False) kr Lb (List.replicate n 0) L' (b₀ :: suite) F) (r : HdsP X W kr Lb L' hds hs) :
    HdsP X W kr Lb L' (.ExceptHandler (some (.Name x np)) none (b₀ :: suite) pos' :: hds) ((c, l, sNx F) :: hs) :=
  HdsOk.cons hc (fun a oe cls d pn _ _ => PSs.imp (h a _) fun Dn σ H ⟨ex0, G, ρ, fp, S, o⟩ => by
    refine ⟨ex0, G, ρ, fp, S.zero (zeros n), ?_⟩
    dsimp only at o
    unfold sNx at o
    cases q : F ρ with
    | exc c ρ' => rw [q] at o; exact o.elim
    | next ρ' => rw [q] at o; exact o
    | brk ρ' => rw [q] at o; exact o
    | cont ρ' => rw [q] at o; exact o
    | ret d => rw [q] at o; exact o
    | err => rw [q] at o; exact o) r
end
section
variable {X : Cx}
theorem names_g {x : Str} {c : Value} (hg : Gl X x) (hm : X.mg x = some c) (hd : (x == ("__debug__" : Str)) = false := by decide) : Names X x c := ⟨hg, hd, .inl hm⟩
def HC (X : Cx) (c : Str) (hs : List (Value × List Str × SF)) : Prop := ∀ h ∈ hs, ∀ C, X.mg c = some (.ref C) → PySem.W.exmOne X.K (.ref C) h.1 = some (decide (c ∈ h.2.1))
def HM (X : Cx) (us : List Str) (hs : List (Value × List Str × SF)) : Prop := ∀ c ∈ us, HC X c hs
theorem hc_n {c : Str} : HC X c [] := fun h hh => nomatch hh
theorem hc_c {c : Str} {A : Addr} {v : Value} {b : Bool} {l : List Str} {G : SF} {hs : List (Value × List Str × SF)} (he : X.mg c = some (.ref A)) (hx : PySem.W.exmOne X.K (.ref A) v = some b) (hb : b = decide (c ∈ l)) (r : HC X c hs) : HC X c ((v, l, G) :: hs) := fun h hh C hC => by
  rcases List.mem_cons.mp hh with rfl | hh
  · have e := he.symm.trans hC
    cases e
    rw [hx, hb]
  · exact r h hh C hC
theorem hm_n {hs : List (Value × List Str × SF)} : HM X [] hs := fun c hc => nomatch hc
theorem hm_c {c : Str} {us : List Str} {hs : List (Value × List Str × SF)} (h : HC X c hs) (r : HM X us hs) : HM X (c :: us) hs := fun c' hc => by
  rcases List.mem_cons.mp hc with rfl | hc
  · exact h
  · exact r c' hc
end
end Px

namespace Px
open PySem PySem.Spec PyProof.Rows L2
/-! ### augmented operators -/
def dAddI : D → D → Res D
  | .int i, .int j => .ok (.int (i + j))
  | .str a, .str b => if a.length + b.length ≤ sizeLine then .ok (.str (a ++ b)) else .err
  | _, _ => .err
@[simp] theorem x_addI (i j : Int) : dAddI (.int i) (.int j) = .ok (.int (i + j)) := id rfl
theorem o_iadd {X : Cx} : Op2 X 0 0 0 (inplaceOp .Add) dAddI := fun pins s σ H x y v u Q I rx ry h => by
  obtain ⟨ex, d1, d2, d, ext, r1, r2, e, q⟩ := h
  unfold dAddI at e
  split at e
  · cases e
    exact iop_add pins s σ H x y v u Q I rx ry ⟨_, _, r1.int, r2.int, q.int⟩
  · split at e
    · rename_i hc
      cases e
      exact iop_add_str pins s σ H x y v u Q I rx ry ⟨_, _, r1.str, r2.str, hc, q.str⟩
    · cases e
  · cases e
theorem o_isub {X : Cx} : Op2 X 0 0 0 (inplaceOp .Sub) dSub := fun pins s σ H x y v u Q I rx ry h => by
  obtain ⟨ex, d1, d2, d, ext, r1, r2, e, q⟩ := h
  unfold dSub at e
  split at e
  · cases e
    exact iop_sub pins s σ H x y v u Q I rx ry ⟨_, _, r1.int, r2.int, q.int⟩
  · cases e
end Px

namespace Px
open PySem PySem.Spec PyProof.Rows L2
/-! ### zip of two tuples -/
def zipL (xs ys : List D) : List D := (xs.zip ys).map fun p => .tup [p.1, p.2]
theorem zipL_len (xs ys : List D) : (zipL xs ys).length = min xs.length ys.length := by simp [zipL]
theorem zipL_get {xs ys : List D} {i : Nat} {d : D} (h : (zipL xs ys)[i]? = some d) : ∃ x y, xs[i]? = some x ∧ ys[i]? = some y ∧ d = .tup [x, y] := by
  simp only [zipL, List.getElem?_map] at h
  cases e : (xs.zip ys)[i]? with
  | none => rw [e] at h; cases h
  | some p =>
    rw [e] at h
    cases h
    obtain ⟨h1, h2⟩ := List.getElem?_zip_eq_some.mp e
    exact ⟨p.1, p.2, h1, h2, rfl⟩
def dZip : List D → Res (List D)
  | [.tup xs, .tup ys] => .ok (zipL xs ys)
  | _ => .err
@[simp] theorem x_dZip (xs ys : List D) : dZip [.tup xs, .tup ys] = .ok (zipL xs ys) := id rfl
theorem itn_zip {K : PySem.W.Frag} {n : Nat} {ds es : List D} {a b : Addr} (hl : ds.length ≤ sizeLine) : Itn K n (RZ.ItzT K a b) ((.tup ds, .ref a), (.tup es, .ref b)) (zipL ds es) := by
  have ob : ∀ {ex H d a}, RB K ex H n (.tup d) (.ref a) → ∃ xs, SqT K H a xs ∧ Paired (R K ex H) d xs := fun {ex H d a} h => by
    obtain ⟨b, xs, e, h1, h2, h3⟩ := RB.tup h
    cases e
    exact ⟨xs, h1, h3⟩
  refine ⟨by rw [zipL_len]; omega, fun ex H i h hi => ?_, fun ex H h => ?_, fun ex H i d x H' h hd hy => ?_⟩
  · rw [zipL_len] at hi
    obtain ⟨xs, h1, h2⟩ := ob h.1
    obtain ⟨ys, h3, h4⟩ := ob h.2
    obtain ⟨x, hx, _⟩ := Paired.get h2 (List.getElem?_eq_getElem (show i < ds.length by omega))
    obtain ⟨y, hy, _⟩ := Paired.get h4 (List.getElem?_eq_getElem (show i < es.length by omega))
    exact ⟨xs, ys, x, y, h1, h3, hx, hy⟩
  · obtain ⟨xs, h1, h2⟩ := ob h.1
    obtain ⟨ys, h3, h4⟩ := ob h.2
    refine ⟨xs, ys, h1, h3, ?_⟩
    rw [zipL_len, ← h2.length, ← h4.length]
    omega
  · obtain ⟨xs, h1, h2⟩ := ob h.1
    obtain ⟨ys, h3, h4⟩ := ob h.2
    obtain ⟨z1, z2, hz1, hz2, rfl⟩ := zipL_get hd
    obtain ⟨y1, hy1, ry1⟩ := Paired.get h2 hz1
    obtain ⟨y2, hy2, ry2⟩ := Paired.get h4 hz2
    obtain ⟨T, x1, x2, rfl, hT, rfl, q1, q2⟩ := hy
    have e1 := q1 xs h1
    have e2 := q2 ys h3
    rw [hy1] at e1
    rw [hy2] at e2
    cases e1
    cases e2
    have sm : Same H (upd H T (.tup [y1, y2])) := same_upd hT
    refine ⟨sm, RB.of ?_⟩
    rw [R]
    refine ⟨T, [y1, y2], rfl, ⟨.inl (.inl upd_same), (by decide : (2 : Nat) ≤ sizeLine)⟩, RL.of (.cons (R.same sm ry1) (.cons (R.same sm ry2) .nil))⟩
section
variable {X : Cx} {W : WX} {L : List Nat} {n kk : Nat} {elts : List Expr} {tpos p pos : Pos} {e e2 : Expr} {fs : Px.Env → Res (List D)}
theorem ei_zip (hg : Gl X "zip") (hm : X.mg "zip" = none) (ha : EA X W L n 2 [e, e2] fs) (hs : starEach [e, e2] X.env = (false, eval e X.env) :: starEach [e2] X.env := by rfl) (hpl : (backTo pos (starEach [e2] X.env)).any (·.1) = false := by rfl) :
    EI X W L n (.Tuple elts kk tpos) (.Call (.Name "zip" p) [e, e2] [] pos) (iCall dZip fs) :=
  PI.imp (RZ.pi_zipA hg hm ha hs hpl) fun σ H Q ⟨ex, ρ, fp, I, o⟩ => ⟨ex, ρ, fp, I, o.bind.mono fun ds q vs H1 e1 r1 _ => by
    unfold dZip at q
    split at q
    · rename_i xs ys
      cases r1 with
      | cons r t =>
        cases t with
        | cons r2 t =>
          cases t
          have r' := r
          have r2' := r2
          obtain ⟨a, zs, rfl, h1, h2, h3⟩ := RB.tup r
          obtain ⟨b, ws, rfl, h4, h5, h6⟩ := RB.tup r2
          exact ⟨a, b, zs, ws, rfl, .inr ⟨h1, h4, q (RZ.ItzT X.K a b) H1 ((.tup xs, .ref a), (.tup ys, .ref b)) e1 ⟨r', r2'⟩ (itn_zip (by rw [h3.length]; exact h2))⟩⟩
    · exact q.elim⟩
end
end Px

namespace Px
open PySem PySem.Spec PyProof.Rows L2
/-! ### what is not walked: no claim -/
def eErr : EF := fun _ => .err
def sErr : SF := fun _ => .err
def bErr : Px.Env → Res Bool := fun _ => .err
def iErr : Px.Env → Res (List D) := fun _ => .err
section
variable {X : Cx} {W : WX} {L L' Lb : List Nat} {n k kr : Nat} {e : Expr} {st : Stmt}
theorem eb_err : EB X W L n e eErr := ⟨fun pins s σ H Q I ⟨ex, ρ, fp, S, o⟩ => o.elim⟩
theorem eo_err : EO X W L k e eErr := ⟨fun pins s σ H Q I ⟨ex, ρ, fp, S, o⟩ => o.elim⟩
theorem et_err : ET X W L e bErr := ⟨fun pins s σ H Q I ⟨ex, ρ, fp, S, o⟩ => o.elim⟩
theorem sj_err : SJ X W kr Lb L L' st sErr := ⟨fun pins s σ H D I ⟨ex, G, ρ, fp, S, o⟩ => o.elim⟩
theorem sjs_err {sts : List Stmt} : SJs X W kr Lb L L' sts sErr := ⟨fun pins s σ H D I ⟨ex, G, ρ, fp, S, o⟩ => o.elim⟩
end
/-! ### methods of a str -/
def asStr : D → Res Str
  | .str s => .ok s
  | _ => .err
@[simp] theorem x_asStr (s : Str) : asStr (.str s) = .ok s := id rfl
def eMS (o : Str → List D → Res D) (f : EF) (fs : Px.Env → Res (List D)) : EF := fun ρ => f ρ >>= asStr >>= fun s => fs ρ >>= o s
@[simp] theorem x_eMS (o : Str → List D → Res D) (f : EF) (fs : Px.Env → Res (List D)) (ρ : Px.Env) : eMS o f fs ρ = f ρ >>= asStr >>= fun s => fs ρ >>= o s := id rfl
def NoXS (g : Str → List D → Res D) : Prop := ∀ s ds c, g s ds ≠ .exc c
def MethS (X : Cx) (id : String) (n k : Nat) (g : Str → List D → Res D) : Prop :=
  MtR X id fun x xs H Q => ∃ ex s ds d, (∀ a, ex a → H a ≠ none) ∧ x = .str s ∧ Paired (RB X.K ex H n) ds xs ∧ g s ds = .ok d ∧ QO X.K ex H k Q d
section
variable {X : Cx} {W : WX} {L : List Nat} {n n0 k m : Nat} {e e1 : Expr} {es : List Expr} {f : EF} {fs : Px.Env → Res (List D)} {o : Str → List D → Res D} {name : Str} {id : String} {apos cpos : Pos}
theorem eo_ms (hm : MethS X id n k o) (nx : NoXS o) (slot : Slot "str" name id) (hty : typeOf (.builtin id) = pure (.type "method_descriptor")) (hf : EB X W L n0 e f) (ha : EA X W L n m (e1 :: es) fs)
    (hbase : attributeBase e name X.env (eval e X.env) = eval e X.env := by rfl)
    (hfew : ((backTo cpos (starEach (e1 :: es) X.env)).all (fun x => !x.1) && (backToKw cpos (keywordEach [] X.env)).all (fun x => x.1.isSome)
      && decide ((e1 :: es).length + ([] : List Keyword).length + (if ([] : List Keyword).isEmpty then 0 else 1) < 30)) = true := by rfl)
    (hline : (apos.endLine == cpos.line) = true := by rfl) (hs : starEach (e1 :: es) X.env = (false, eval e1 X.env) :: starEach es X.env := by rfl) (hplain : (backTo cpos (starEach es X.env)).any (·.1) = false := by rfl) :
    EO X W L k (.Call (.Attribute e name apos) (e1 :: es) [] cpos) (eMS o f fs) :=
  PE.imp (pe_bm PySem.F.plainAttrs_str slot hty hm hf ha hbase hfew hline hs hplain) fun σ H Q ⟨ex, ρ, fp, I, q⟩ => by
    refine ⟨ex, ρ, fp, I, q.bind.bind.mono fun d1 q1 v1 H1 e1 r1 => ?_⟩
    cases d1 with
    | str s =>
      have hv := r1.str
      subst hv
      refine ⟨rfl, ex, ρ, fp, I.same e1, (Out.later (show Out X W σ H (fs ρ >>= o s) _ from q1) e1).bind.mono fun ds q2 vs H2 e2 r2 _ => ?_⟩
      obtain ⟨d, ed, qd⟩ := no_exc q2 (nx s ds)
      exact ⟨ex, s, ds, d, ((I.same e1).same e2).ext, rfl, r2, ed, fun v H3 fq e3 ro nd nw => qd v H3 fq ((e1.trans e2).trans e3) ro nd fun a ha => (e1.trans e2).free (nw a ha)⟩
    | _ => exact (show False from q1).elim
end
def txtsD : List D → Option (List Str)
  | [] => some []
  | .str b :: r => (txtsD r).map (b :: ·)
  | _ :: _ => none
theorem txtsD_vals {K : PySem.W.Frag} {ex : AS} {H : Hp} : ∀ {ds : List D} {vs : List V} {bs : List Str}, Paired (R K ex H) ds vs → txtsD ds = some bs → vs = bs.map V.str
  | [], _, _, .nil, h => by cases h; rfl
  | d :: ds, _, _, .cons r t, h => by
    cases d with
    | str b =>
      rw [txtsD] at h
      cases q : txtsD ds with
      | none => rw [q] at h; cases h
      | some bs =>
        rw [q] at h
        cases h
        rw [R] at r
        rw [r, txtsD_vals t q]
        rfl
    | _ => cases h
@[simp] theorem txtsD_map (bs : List Str) : txtsD (bs.map D.str) = some bs := by
  induction bs with
  | nil => rfl
  | cons b r ih => rw [List.map_cons, txtsD, ih]; rfl
def joinR (a : Str) (xs : List D) : Res D := match txtsD xs with
  | some ys => if (ys.map (·.length)).sum + ys.length * a.length ≤ 16777216 then .ok (.str (Txt.join a ys)) else .err
  | none => .err
def fJoin (a : Str) : List D → Res D
  | [.lst xs] => joinR a xs
  | [.tup xs] => joinR a xs
  | _ => .err
theorem fJoin_nx : NoXS fJoin := fun s ds c h => by
  unfold fJoin at h
  split at h <;> first | cases h | (unfold joinR at h; split at h <;> first | cases h | (split at h <;> cases h))
def fSIndex (a : Str) : List D → Res D
  | [.str b] => match Builtin.Str.occurrences a b 0 a.length 1 with
    | i :: _ => .ok (.int (i : Nat))
    | [] => .err
  | _ => .err
theorem fSIndex_nx : NoXS fSIndex := fun s ds c h => by
  unfold fSIndex at h
  split at h <;> first | cases h | (split at h <;> cases h)
def fStarts (a : Str) : List D → Res D
  | [.str b] => .ok (.bl (Txt.startswith a b))
  | _ => .err
theorem fStarts_nx : NoXS fStarts := fun s ds c h => by
  unfold fStarts at h
  split at h <;> cases h
def fSplit (a : Str) : List D → Res D
  | [.str b] => if b.length ≠ 0 ∧ a.length + 2 ≤ sizeLine ∧ (Txt.split a b).length ≤ sizeLine then .ok (.lst ((Txt.split a b).map .str)) else .err
  | _ => .err
theorem fSplit_nx : NoXS fSplit := fun s ds c h => by
  unfold fSplit at h
  split at h <;> first | cases h | (split at h <;> cases h)
def fLstrip (a : Str) : List D → Res D
  | [.str b] => if a.length ≤ sizeLine then .ok (.str (Txt.lstripChars a b)) else .err
  | _ => .err
theorem fLstrip_nx : NoXS fLstrip := fun s ds c h => by
  unfold fLstrip at h
  split at h <;> first | cases h | (split at h <;> cases h)
def fSCount (a : Str) : List D → Res D
  | [.str b] => .ok (.int (Txt.count a b))
  | _ => .err
theorem fSCount_nx : NoXS fSCount := fun s ds c h => by
  unfold fSCount at h
  split at h <;> cases h
section
variable {X : Cx} {k : Nat}
theorem m_join : MethS X "str.join" 1 k fJoin := fun pins s σ H x xs v us Q I rx r h => by
  obtain ⟨ex, a, ds, d, ext, rfl, rs, e, q⟩ := h
  unfold fJoin at e
  split at e
  · unfold joinR at e
    split at e
    · rename_i hb
      split at e
      · rename_i hc
        cases e
        cases rs with
        | cons r1 t =>
          cases t
          obtain ⟨p, zs, rfl, h1, h2, h3⟩ := r1.lst
          have ez := txtsD_vals h3 hb
          subst ez
          exact mt_join pins s σ H _ _ v us Q I rx r ⟨a, p, _, rfl, rfl, .inl h1, hc, q.str⟩
      · cases e
    · cases e
  · unfold joinR at e
    split at e
    · rename_i hb
      split at e
      · rename_i hc
        cases e
        cases rs with
        | cons r1 t =>
          cases t
          obtain ⟨p, zs, rfl, h1, h2, h3⟩ := r1.tup
          have ez := txtsD_vals h3 hb
          subst ez
          exact mt_join pins s σ H _ _ v us Q I rx r ⟨a, p, _, rfl, rfl, .inr h1, hc, q.str⟩
      · cases e
    · cases e
  · cases e
theorem m_sindex : MethS X "str.index" 0 k fSIndex := fun pins s σ H x xs v us Q I rx r h => by
  obtain ⟨ex, a, ds, d, ext, rfl, rs, e, q⟩ := h
  unfold fSIndex at e
  split at e
  · split at e
    · rename_i i rest ho
      cases e
      cases rs with
      | cons r1 t =>
        cases t
        have := r1.str
        subst this
        exact mt_sindex pins s σ H _ _ v us Q I rx r ⟨a, _, i, rest, rfl, rfl, ho, q.int⟩
    · cases e
  · cases e
theorem m_starts : MethS X "str.startswith" 0 k fStarts := fun pins s σ H x xs v us Q I rx r h => by
  obtain ⟨ex, a, ds, d, ext, rfl, rs, e, q⟩ := h
  unfold fStarts at e
  split at e
  · cases e
    cases rs with
    | cons r1 t =>
      cases t
      have := r1.str
      subst this
      exact mt_startswith pins s σ H _ _ v us Q I rx r ⟨a, _, rfl, rfl, q.bl⟩
  · cases e
theorem m_scount : MethS X "str.count" 0 k fSCount := fun pins s σ H x xs v us Q I rx r h => by
  obtain ⟨ex, a, ds, d, ext, rfl, rs, e, q⟩ := h
  unfold fSCount at e
  split at e
  · cases e
    cases rs with
    | cons r1 t =>
      cases t
      have := r1.str
      subst this
      exact mt_count pins s σ H _ _ v us Q I rx r ⟨a, _, rfl, rfl, q.int⟩
  · cases e
theorem m_lstrip : MethS X "str.lstrip" 0 k fLstrip := fun pins s σ H x xs v us Q I rx r h => by
  obtain ⟨ex, a, ds, d, ext, rfl, rs, e, q⟩ := h
  unfold fLstrip at e
  split at e
  · split at e
    · rename_i hc
      cases e
      cases rs with
      | cons r1 t =>
        cases t
        have := r1.str
        subst this
        exact mt_lstripChars pins s σ H _ _ v us Q I rx r ⟨a, _, rfl, rfl, hc, q.str⟩
    · cases e
  · cases e
theorem m_split : MethS X "str.split" 0 1 fSplit := fun pins s σ H x xs v us Q I rx r h => by
  obtain ⟨ex, a, ds, d, ext, rfl, rs, e, q⟩ := h
  unfold fSplit at e
  split at e
  · split at e
    · rename_i b hc
      cases e
      cases rs with
      | cons r1 t =>
        cases t
        have := r1.str
        subst this
        refine mt_split pins s σ H _ _ v us Q I rx r ⟨a, _, rfl, rfl, by simpa using hc.1, hc.2.1, fun p hp => q.lst ?_ hp (by rw [List.length_map]; exact hc.2.2)⟩
        generalize Txt.split a b = l
        induction l with
        | nil => exact .nil
        | cons z l ih => exact .cons (by rw [R]) ih
    · cases e
  · cases e
end
/-! ### str(i), int(s) -/
def fStr : List D → Res D
  | [.int i] => if i.natAbs.log2 < 1920 then .ok (.str (toString i)) else .err
  | [.str s] => .ok (.str s)
  | _ => .err
theorem fStr_nx : NoXL fStr := fun ds c h => by
  unfold fStr at h
  split at h <;> first | cases h | (split at h <;> cases h)
section
variable {X : Cx} {n k : Nat}
theorem c_str : CallD X n k (.type "str") fStr := fun pins s σ H xs us Q I r h => by
  obtain ⟨ex, ds, d, ext, rs, e, q⟩ := h
  unfold fStr at e
  split at e
  · split at e
    · rename_i hc
      cases e
      cases rs with
      | cons r1 t =>
        cases t
        rw [RB.int r1] at *
        exact call_str_int pins s σ H _ us Q I r ⟨_, rfl, hc, q.str⟩
    · cases e
  · cases e
    cases rs with
    | cons r1 t =>
      cases t
      rw [RB.str r1] at *
      exact SkE.call_str_str pins s σ H _ us Q I r ⟨_, rfl, q.str⟩
  · cases e
/-- int(x): also of a text of figures -/
def fIntS : List D → Res D
  | [.int i] => .ok (.int i)
  | [.bl b] => .ok (.int (if b then 1 else 0))
  | [.str a] => match PySem.intText? a with
    | some n => if a.length ≤ 640 then .ok (.int n) else .err
    | none => .err
  | _ => .err
theorem fIntS_nx : NoXL fIntS := fun ds c h => by
  unfold fIntS at h
  split at h <;> first | cases h | (split at h <;> first | cases h | (split at h <;> cases h))
theorem c_intS : CallD X n k (.type "int") fIntS := fun pins s σ H xs us Q I r h => by
  obtain ⟨ex, ds, d, ext, rs, e, q⟩ := h
  unfold fIntS at e
  split at e
  · cases e
    cases rs with
    | cons r1 t =>
      cases t
      rw [RB.int r1] at *
      exact call_int1 pins s σ H _ us Q I r (.inl ⟨_, rfl, q.int⟩)
  · cases e
    cases rs with
    | cons r1 t =>
      cases t
      rw [RB.bl r1] at *
      exact call_int1 pins s σ H _ us Q I r (.inr ⟨_, rfl, q.int⟩)
  · split at e
    · rename_i hi
      split at e
      · rename_i hc
        cases e
        cases rs with
        | cons r1 t =>
          cases t
          rw [RB.str r1] at *
          exact call_int_str pins s σ H _ us Q I r ⟨_, _, rfl, hi, hc, q.int⟩
      · cases e
    · cases e
  · cases e
end
/-! ### a tuple's augmented sum -/
section
variable {prog : Program} {w : World} {A : Around} {E : Value → Shared → Prop} {s : Shared}
theorem noI_tuple_add : typeLookup (.type "tuple") (dunderI "add") = pure none := by rw [typeLookup_type, builtinLookup_eq_fast]; kernel_rfl
theorem iconcat_meets {T id : String} {B : Builtin} {a b : Value} {S : PySem.Spec} {Q : Value → Shared → Prop} (ha : s.TypeIs a T) (hb : s.TypeIs b T) (hno : typeLookup (.type T) (dunderI "add") = pure none)
    (hfill : fillsNumberSlot (.type T) "add" = pure false) (hseq : seqSlot? (.type T) "__add__" = pure (some (.builtin id))) (slot : Slot T "__add__" id)
    (entry : entryFor table id = some B) (args : argsOk id ⟨[a, b], []⟩) (g : Meets (B ⟨[a, b], []⟩) S) (h : S A (wants Q E) s) : wpAny (model prog w) A (inplaceOp .Add a b) Q E s :=
  wpAny_inplaceOp_concat ha hb hno hfill hseq (call_meets slot ha entry args g h)
theorem icat_tup {t b : Addr} {vs ws : List Value} {Q : Value → Shared → Prop} (ht : IsTup s.heap t vs.toArray) (hb : IsTup s.heap b ws.toArray) (hv : vs ≠ [])
    (h1 : ws = [] → Q (.ref t) s) (h2 : ws ≠ [] → Q (.ref s.heap.objs.size) { s with heap := s.heap.push { cls := .type "tuple", data := .seq (vs ++ ws).toArray } })
    (hsz : vs.length + ws.length ≤ sizeLine) : wpAny (model prog w) A (inplaceOp .Add (.ref t) (.ref b)) Q E s := by
  obtain ⟨⟨cls, dd, data, sl⟩, ho, hc, n, hd⟩ := id ht
  obtain ⟨⟨cls2, dd2, data2, sl2⟩, ho2, hc2, n2, hd2⟩ := id hb
  simp only at hc hd hc2 hd2
  subst hc hd hc2 hd2
  have e : vs.toArray ++ ws.toArray = (vs ++ ws).toArray := by simp
  by_cases hw : ws = []
  · exact iconcat_meets ⟨_, ho, rfl⟩ ⟨_, ho2, rfl⟩ noI_tuple_add noFill_tuple_add seq_tuple_add PySem.F.slot_tuple_add PySem.F.entry_tuple_add (PySem.F.args_tuple_add_2 _ _)
      (tuple_addW1 t b vs.toArray ws.toArray n n2 dd dd2 sl sl2 (by simpa using hv) (by simp [hw])) ⟨ho, ho2, h1 hw⟩
  · refine iconcat_meets ⟨_, ho, rfl⟩ ⟨_, ho2, rfl⟩ noI_tuple_add noFill_tuple_add seq_tuple_add PySem.F.slot_tuple_add PySem.F.entry_tuple_add (PySem.F.args_tuple_add_2 _ _)
      (tuple_addW2 t b vs.toArray ws.toArray n n2 dd dd2 sl sl2 (by simpa using hv) (by simpa using hw) (by rw [List.size_toArray, List.size_toArray]; exact hsz)) ⟨ho, ho2, ?_⟩
    rw [e]
    exact h2 hw
theorem icat_tup0 {t b : Addr} {ws : List Value} {Q : Value → Shared → Prop} (ht : IsTup s.heap t ([] : List Value).toArray) (hb : IsTup s.heap b ws.toArray) (h : Q (.ref b) s) : wpAny (model prog w) A (inplaceOp .Add (.ref t) (.ref b)) Q E s := by
  obtain ⟨⟨cls, dd, data, sl⟩, ho, hc, n, hd⟩ := id ht
  obtain ⟨⟨cls2, dd2, data2, sl2⟩, ho2, hc2, n2, hd2⟩ := id hb
  simp only at hc hd hc2 hd2
  subst hc hd hc2 hd2
  exact iconcat_meets ⟨_, ho, rfl⟩ ⟨_, ho2, rfl⟩ noI_tuple_add noFill_tuple_add seq_tuple_add PySem.F.slot_tuple_add PySem.F.entry_tuple_add (PySem.F.args_tuple_add_2 _ _)
    (tuple_addW0 t b ([] : List Value).toArray ws.toArray n n2 dd dd2 sl sl2 (by simp)) ⟨ho, ho2, h⟩
end
section
variable {X : Cx}
theorem iop_catA : OpR X (inplaceOp .Add) (rCatA X.K) := by
  intro pins s σ H x y v u Q I rx ry h
  obtain ⟨a, b, xs, ys, rfl, rfl, ha, hb, hz, q0, q1, q2⟩ := h
  by_cases hx : xs = []
  · subst hx
    cases rx
    cases ry
    obtain ⟨its, r1, p1, _⟩ := I.tuple ha
    obtain ⟨its2, r2, p2, _⟩ := I.tuple hb
    cases r1
    exact icat_tup0 p1 p2 ⟨.ref b, H, I, rfl, q0 rfl⟩
  · cases rx
    cases ry
    obtain ⟨its, r1, p1, _⟩ := I.tuple ha
    obtain ⟨its2, r2, p2, _⟩ := I.tuple hb
    refine icat_tup p1 p2 (fun z => hx (r1.nil_iff.mp z)) (fun z => ⟨.ref a, H, I, rfl, q1 hx (r2.nil_iff.mp z)⟩) (fun z => ?_) (by rw [← r1.length, ← r2.length]; exact hz)
    refine ⟨.ref s.heap.objs.size, _, I.laid (t' := s.toks) (o := .tup (xs ++ ys)) (fun b ob q => Heap.get?_push_of_some _ q) (Nat.le_refl _) ?_, rfl, q2 hx (fun w => z (r2.nil_iff.mpr w)) _ (I.hok.fresh (Nat.le_refl _))⟩
    exact ⟨by rw [List.length_append]; exact hz, _, r1.append r2, IsTup.new _ _⟩
/-- x += y of ints, txtsD, tuples -/
def dAddT : D → D → Res D
  | .int i, .int j => .ok (.int (i + j))
  | .str a, .str b => if a.length + b.length ≤ sizeLine then .ok (.str (a ++ b)) else .err
  | .tup a, .tup b => if a.length + b.length ≤ sizeLine then .ok (.tup (a ++ b)) else .err
  | _, _ => .err
theorem o_iaddT : Op2 X 0 0 0 (inplaceOp .Add) dAddT := fun pins s σ H x y v u Q I rx ry h => by
  obtain ⟨ex, d1, d2, d, ext, r1, r2, e, q⟩ := h
  unfold dAddT at e
  split at e
  · cases e
    exact iop_add pins s σ H x y v u Q I rx ry ⟨_, _, r1.int, r2.int, q.int⟩
  · split at e
    · rename_i hc
      cases e
      exact iop_add_str pins s σ H x y v u Q I rx ry ⟨_, _, r1.str, r2.str, hc, q.str⟩
    · cases e
  · split at e
    · rename_i hc
      cases e
      obtain ⟨l, xs, rfl, h1, z1, p1⟩ := r1.tup
      obtain ⟨b, ys, rfl, h2, z2, p2⟩ := r2.tup
      have hl : xs.length + ys.length ≤ sizeLine := by rw [← p1.length, ← p2.length]; exact hc
      refine iop_catA pins s σ H _ _ v u Q I rx ry ⟨l, b, xs, ys, rfl, rfl, h1, h2, hl, fun e => ?_, fun _ e => ?_, fun _ _ p hp => q.tup (Paired.app p1 p2) hp (by rw [List.length_append]; exact hl)⟩
      · subst e
        cases p1
        exact q.flat (by rw [R]; exact ⟨b, ys, rfl, ⟨h2, z2⟩, RL.of p2⟩) rfl
      · subst e
        cases p2
        rw [List.append_nil] at q
        exact q.flat (by rw [R]; exact ⟨l, xs, rfl, ⟨h1, z1⟩, RL.of p1⟩) rfl
    · cases e
  · cases e
theorem o_imul : Op2 X 0 0 0 (inplaceOp .Mult) dMul := fun pins s σ H x y v u Q I rx ry h => by
  obtain ⟨ex, d1, d2, d, ext, r1, r2, e, q⟩ := h
  unfold dMul at e
  split at e
  · split at e
    · rename_i hm
      cases e
      exact iop_mul pins s σ H x y v u Q I rx ry ⟨_, _, r1.int, r2.int, by unfold mulOk at hm; rw [decide_eq_true_eq] at hm; exact hm, q.int⟩
    · cases e
  · cases e
theorem o_idiv : Op2 X 0 0 0 (inplaceOp .FloorDiv) dDiv := fun pins s σ H x y v u Q I rx ry h => by
  obtain ⟨ex, d1, d2, d, ext, r1, r2, e, q⟩ := h
  unfold dDiv at e
  split at e
  · split at e
    · rename_i hc
      cases e
      exact iop_fdiv pins s σ H x y v u Q I rx ry ⟨_, _, r1.int, r2.int, hc, q.int⟩
    · cases e
  · cases e
theorem o_imod : Op2 X 0 0 0 (inplaceOp .Mod) dMod := fun pins s σ H x y v u Q I rx ry h => by
  obtain ⟨ex, d1, d2, d, ext, r1, r2, e, q⟩ := h
  unfold dMod at e
  split at e
  · split at e
    · rename_i hc
      cases e
      exact iop_mod pins s σ H x y v u Q I rx ry ⟨_, _, r1.int, r2.int, hc, q.int⟩
    · cases e
  · cases e
end
/-! ### plain reading -/
@[simp] theorem x_addT_i (i j : Int) : dAddT (.int i) (.int j) = .ok (.int (i + j)) := id rfl
@[simp] theorem x_addT_t (a b : List D) : dAddT (.tup a) (.tup b) = if a.length + b.length ≤ sizeLine then .ok (.tup (a ++ b)) else .err := id rfl
@[simp] theorem x_addT_s (a b : Str) : dAddT (.str a) (.str b) = if a.length + b.length ≤ sizeLine then .ok (.str (a ++ b)) else .err := id rfl
end Px

namespace Px
open PySem PySem.Spec PyProof.Rows L2
/-! ### list(range(..)), tuple(range(..)) -/
def rgD (mk : List D → D) (i : Int) : D → Res D
  | .int j => if -(2 ^ 61) ≤ i ∧ i ≤ 2 ^ 61 ∧ -(2 ^ 61) ≤ j ∧ j ≤ 2 ^ 61 ∧ j - i ≤ 16777216 then .ok (mk (rng i (j - i).toNat)) else .err
  | _ => .err
def eRg1 (mk : List D → D) (f : EF) : EF := fun ρ => f ρ >>= fun d => rgD mk 0 d
def eRg2 (mk : List D → D) (f g : EF) : EF := fun ρ => f ρ >>= fun a => g ρ >>= fun b => match a with
  | .int i => rgD mk i b
  | _ => .err
@[simp] theorem x_eRg1 (mk : List D → D) (f : EF) (ρ : Px.Env) : eRg1 mk f ρ = f ρ >>= fun d => rgD mk 0 d := id rfl
theorem rgD_nat (mk : List D → D) (n : Nat) (h : n ≤ 16777216) : rgD mk 0 (.int n) = .ok (mk ((List.range n).map fun i => .int (i : Nat))) := by
  show (if _ then _ else _) = _
  rw [if_pos ⟨by omega, by omega, by omega, by omega, by omega⟩]
  simp
theorem rng_paired {K : PySem.W.Frag} {ex : AS} {H : Hp} (i j : Int) : Paired (R K ex H) (rng i (j - i).toNat) (rgV i j) := by
  unfold rng rgV
  generalize List.range (j - i).toNat = l
  induction l with
  | nil => exact .nil
  | cons a l ih => exact .cons (by rw [R]) ih
section
variable {X : Cx} {W : WX} {L : List Nat} {n m kk : Nat} {a b : Expr} {f g : EF} {p p2 p3 pos : Pos}
theorem eo_lrg1 (hc : X.calm = true) (hg : Gl X "list") (hm : X.mg "list" = none) (hg2 : Gl X "range") (hm2 : X.mg "range" = none) (ha : EB X W L n a f)
    (na : starEach [a] X.env = (false, eval a X.env) :: starEach [] X.env := by rfl)
    (nb : starEach [Expr.Call (.Name "range" p2) [a] [] p3] X.env = (false, eval (Expr.Call (.Name "range" p2) [a] [] p3) X.env) :: starEach [] X.env := by rfl) : EO X W L 1 (.Call (.Name "list" p) [.Call (.Name "range" p2) [a] [] p3] [] pos) (eRg1 .lst f) :=
  PE.imp (pe_listRg hc hg hm (prg_1 hg2 hm2 ha na) nb) fun σ H Q ⟨ex, ρ, fp, I, o⟩ => ⟨ex, ρ, fp, I, o.bind.mono fun d q v H1 e1 r1 => by
    unfold rgD at q
    split at q
    · rename_i j
      split at q
      · rename_i hj
        refine ⟨j, r1.int, ⟨by omega, by omega, by omega, by omega, by omega⟩, fun l hl => ?_⟩
        refine QO.lst (K := X.K) (ex := ex) (fun v H5 fq e5 ro nd nw => q v H5 fq (e1.trans e5) ro nd fun a ha => e1.free (nw a ha)) (rng_paired 0 j) hl ?_
        rw [rgV_length, sizeLine_eq]
        omega
      · exact q.elim
    · exact q.elim⟩
theorem eo_trg1 (hc : X.calm = true) (hg : Gl X "tuple") (hm : X.mg "tuple" = none) (hg2 : Gl X "range") (hm2 : X.mg "range" = none) (ha : EB X W L n a f)
    (na : starEach [a] X.env = (false, eval a X.env) :: starEach [] X.env := by rfl)
    (nb : starEach [Expr.Call (.Name "range" p2) [a] [] p3] X.env = (false, eval (Expr.Call (.Name "range" p2) [a] [] p3) X.env) :: starEach [] X.env := by rfl) : EO X W L kk (.Call (.Name "tuple" p) [.Call (.Name "range" p2) [a] [] p3] [] pos) (eRg1 .tup f) :=
  PE.imp (pe_tupRg hc hg hm (prg_1 hg2 hm2 ha na) nb) fun σ H Q ⟨ex, ρ, fp, I, o⟩ => ⟨ex, ρ, fp, I, o.bind.mono fun d q v H1 e1 r1 => by
    unfold rgD at q
    split at q
    · rename_i j
      split at q
      · rename_i hj
        refine ⟨j, r1.int, ⟨by omega, by omega, by omega, by omega, by omega⟩, fun l hl => ?_⟩
        refine QO.tup (K := X.K) (ex := ex) (fun v H5 fq e5 ro nd nw => q v H5 fq (e1.trans e5) ro nd fun a ha => e1.free (nw a ha)) (rng_paired 0 j) hl ?_
        rw [rgV_length, sizeLine_eq]
        omega
      · exact q.elim
    · exact q.elim⟩
theorem eo_lrg2 (hc : X.calm = true) (hg : Gl X "list") (hm : X.mg "list" = none) (hg2 : Gl X "range") (hm2 : X.mg "range" = none) (ha : EB X W L n a f) (hb : EB X W L m b g)
    (na : starEach [a, b] X.env = (false, eval a X.env) :: starEach [b] X.env := by rfl) (nb : starEach [b] X.env = (false, eval b X.env) :: starEach [] X.env := by rfl) (hp : (backTo p3 (starEach [b] X.env)).any (·.1) = false := by rfl)
    (nc : starEach [Expr.Call (.Name "range" p2) [a, b] [] p3] X.env = (false, eval (Expr.Call (.Name "range" p2) [a, b] [] p3) X.env) :: starEach [] X.env := by rfl) : EO X W L 1 (.Call (.Name "list" p) [.Call (.Name "range" p2) [a, b] [] p3] [] pos) (eRg2 .lst f g) :=
  PE.imp (pe_listRg hc hg hm (prg_2 hg2 hm2 ha hb na nb hp) nc) fun σ H Q ⟨ex, ρ, fp, I, o⟩ => ⟨ex, ρ, fp, I, o.bind.mono fun d q v H1 e1 r1 => ⟨ex, ρ, fp, I.same e1, (q.bind.later e1).mono fun d2 q2 v2 H2 e2 r2 => by
    cases d with
    | int i =>
      cases d2 with
      | int j =>
        have e9 : rgD .lst i (.int j) = if -(2 ^ 61) ≤ i ∧ i ≤ 2 ^ 61 ∧ -(2 ^ 61) ≤ j ∧ j ≤ 2 ^ 61 ∧ j - i ≤ 16777216 then .ok (.lst (rng i (j - i).toNat)) else .err := rfl
        dsimp only at q2
        rw [e9] at q2
        split at q2
        · rename_i hj
          refine ⟨i, j, r1.int, r2.int, ⟨by omega, by omega, by omega, by omega, by omega⟩, fun l hl => ?_⟩
          refine QO.lst (K := X.K) (ex := ex) (fun v H5 fq e5 ro nd nw => q2 v H5 fq ((e1.trans e2).trans e5) ro nd fun a ha => (e1.trans e2).free (nw a ha)) (rng_paired i j) hl ?_
          rw [rgV_length, sizeLine_eq]
          omega
        · exact q2.elim
      | _ => exact q2.elim
    | _ => exact q2.elim⟩⟩
end
/-! ### f() -/
section
variable {X : Cx} {W : WX} {L : List Nat} {k kr : Nat} {pos p : Pos} {f : Addr} {fd : FuncData} {ps : List Str} {x : Str} {C : List D → Res D}
theorem pe_callS0 {sp : Sp} {E : L2.St → XK} (F : FnOk X.prog X.w X.K X.mg X.base (L2.CX X.prog X.w) k f fd ps sp) (hr : Room k X.A) (hg : Gl X x) (hm : X.mg x = some (.ref f)) (hk : PySem.W.keepIn X.K (.ref f) = true) (hb : Binds X.K fd ps []) (hx : ∀ σ, PassesAt (L2.CX X.prog X.w) X σ (E σ))
    (hdb : (x == ("__debug__" : Str)) = false := by decide) : PE X (.Call (.Name x p) [] [] pos) (tCallS sp E tNil) := by
  refine ⟨fun pins s σ H Q I h => ?_⟩
  refine wpAny_Call_Name_kw (ld_glob I hg hm ?_ hdb)
  exact PySem.W.callWith_K0 I.kIn hk (run_fnS (us := []) F hr hb (hx σ) I .nil h)
theorem eo_call0 (F : FnOk X.prog X.w X.K X.mg X.base (L2.CX X.prog X.w) k f fd ps (Spec X.K X.mg 0 kr C)) (hr : Room k X.A) (hg : Gl X x) (hm : X.mg x = some (.ref f)) (hk : PySem.W.keepIn X.K (.ref f) = true) (hb : Binds X.K fd ps []) (tk : Takes X W)
    (hdb : (x == ("__debug__" : Str)) = false := by decide) : EO X W L kr (.Call (.Name x p) [] [] pos) (eCall C aNil) :=
  PE.imp (pe_callS0 F hr hg hm hk hb (fun σ => passAt tk σ) hdb) fun σ H Q ⟨ex, ρ, fp, I, o⟩ => by
    have o : Out X W σ H (C []) _ := o
    refine ⟨rfl, ex, [], I.ext, .nil, ?_⟩
    cases hC : C [] with
    | ok d =>
      rw [hC] at o
      exact fun v H2 fq e2 ro nd nw => o v H2 fq e2 ro nd nw
    | exc c =>
      rw [hC] at o
      exact fun Cl hCl H' e2 => o Cl hCl H' e2
    | err =>
      rw [hC] at o
      exact o.elim
end
/-! ### a, b, c = .. -/
section
variable {X : Cx} {W : WX} {kr : Nat} {Lb L : List Nat} {a b c : Expr} {f g h : EF} {pos : Pos}
theorem sj_par3 {i j l k1 k2 k3 : Nat} {x y z : Str} {px py pz pt : Pos} {kt kt2 : Nat} {pt2 : Pos} (hc : X.calm = true) (hN : X.N.Nodup) (hi : X.N[i]? = some x) (hj : X.N[j]? = some y) (hl : X.N[l]? = some z) (hij : i ≠ j) (hil : i ≠ l) (hjl : j ≠ l)
    (hx : X.env.scope.names.lookup x = some .local) (hy : X.env.scope.names.lookup y = some .local) (hz : X.env.scope.names.lookup z = some .local)
    (h1 : EO X W L k1 a f) (h2 : EO X W L k2 b g) (h3 : EO X W L k3 c h) (li : i < L.length) (lj : j < L.length) (ll : l < L.length)
    (hw : swappedStores [.Tuple [.Name x px, .Name y py, .Name z pz] kt pt] (.Tuple [a, b, c] kt2 pt2) X.env = pure (some [x, y, z])) (hs : swapsWithSole [.Tuple [.Name x px, .Name y py, .Name z pz] kt pt] (.Tuple [a, b, c] kt2 pt2) pos.line X.env = pure false := by rfl)
    (hs1 : starEach [a, b, c] X.env = (false, eval a X.env) :: starEach [b, c] X.env := by rfl) (hs2 : starEach [b, c] X.env = (false, eval b X.env) :: starEach [c] X.env := by rfl) (hs3 : starEach [c] X.env = (false, eval c X.env) :: starEach [] X.env := by rfl) :
    SJ X W kr Lb L (setLv L [i, j, l] [k1, k2, k3]) (.Assign [.Tuple [.Name x px, .Name y py, .Name z pz] kt pt] (.Tuple [a, b, c] kt2 pt2) pos) (sPar [i, j, l] [f, g, h]) :=
  PS.imp (ps_par3 hc hN hi hj hl hij hil hjl hx hy hz (eas_cons h1 (eas_cons h2 (eas_cons h3 eas_nil hs3) hs2) hs1) hw hs) fun Dn σ H ⟨ex0, Gs, ρ, fp, S, o⟩ => by
    refine ⟨_, ρ, fp, S.si, (flow_out S o).mono fun ds q vs fqs H1 e1 r nd nw => ?_⟩
    obtain ⟨fp', S'⟩ := S.puts (is := [i, j, l]) e1 r nd nw rfl (fun l' hl => by
      rcases List.mem_cons.mp hl with rfl | hl
      · exact li
      · rcases List.mem_cons.mp hl with rfl | hl
        · exact lj
        · rw [List.mem_singleton.mp hl]
          exact ll)
    have hl := r.lens
    clear nd nw r
    match vs, hl with
    | [v1, v2, v3], _ => exact ⟨v1, v2, v3, rfl, q _ _ _ S'⟩
end
end Px

namespace Px
open PySem PySem.Spec PyProof.Rows L2
/-! ### sep.join(a str) -/
section
open Builtin Builtin.Str
variable {prog : Program} {w : World} {A : Around} {E : Value → Shared → Prop} {s : Shared}
theorem join_tree_str (sep y : Str) (t u : Tok) : «str.join» ⟨[.str sep t, .str y u], []⟩ = (do
    let ty ← typeOf (.str y u)
    if (ty == .type "list" || ty == .type "tuple") = true then (do
      match ← seqItems? (.str y u) with
      | some xs => joinTail sep xs.toList
      | none => unsupported "internal:str.join")
    else (do
      let it ← (pyIter (.str y u)).tryCatch fun e => do
        if ← isInstance e (.type "TypeError") then rule "str.join.not-iterable"; raiseError "TypeError" "can only join an iterable" else throw e
      let items ← collect it
      joinTail sep items)) := rfl
def chs (y : Str) : List Str := y.cps.toList.map fun c => ⟨#[c]⟩
theorem join_str {x y : Str} {t u : Tok} {Q : Value → Shared → Prop} (hh : A.handled = none) (hsz : y.length ≤ sizeLine) (hok : y.length + y.length * x.length ≤ 16777216)
    (hq : ∀ h' k t', (∀ b o, s.heap.get? b = some o → h'.get? b = some o) → Q (.str (Txt.join x (chs y)) t') { s with heap := h', toks := k }) :
    wpAny (model prog w) A (call (.builtin "str.join") [.str x t, .str y u]) Q E s := by
  refine wpAny_call (codeAny_call_builtin F.slot_str_join.plain F.entry_str_join (F.slot_str_join.check _ _ _ _ _ _ _ _ (typeIs_str _ _ _) (F.args_str_join_2 _ _) ?_))
  rw [join_tree_str]
  refine wpAny_bind (wpAny_typeOf (typeIs_str _ y u) ?_)
  show wpAny _ A.in1 ((pyIter (.str y u)).tryCatch _ >>= fun it => collect it >>= fun items => joinTail x items) _ _ s
  refine wpAny_bind (wpAny_tryCatch (wpAny_pyIter_strU ?_))
  have hx : ∀ b o, s.heap.get? b = some o → (s.heap.push { cls := .type (strIterType y), data := .fields #[.str y u, .int 0 0] }).get? b = some o := fun b o e => Heap.get?_push_of_some _ e
  refine wpAny_bind (wpAny_collect_strIter (ty := strIterType y) (x := y) (t := u) hh (by unfold strIterType; split <;> simp) ⟨_, Heap.get?_push_size _ rfl, rfl, rfl⟩ (fun s' acc hk hg hd ho hacc => ?_) hsz)
  obtain ⟨l, hl⟩ := exists_strValues acc.toList fun v hv => by
    obtain ⟨j, hj, rfl⟩ := Array.mem_iff_getElem.mp (Array.mem_toList_iff.mp hv)
    obtain ⟨c, u, _, e⟩ := hacc.2 j _ (Array.getElem?_eq_getElem hj)
    exact ⟨_, u, e⟩
  have hlen : l.length = y.cps.size := by
    have := congrArg List.length hl
    have h2 : acc.toList.length = y.cps.size := by rw [Array.length_toList]; exact hacc.1
    rw [h2] at this
    rw [← this]
    simp [strValues]
  have hl1 : l.map (·.1) = chs y := by
    refine List.ext_getElem? fun j => ?_
    by_cases hj : j < l.length
    · have hj2 : j < y.cps.size := by omega
      have e1 : acc.toList[j]? = some (.str (l[j]).1 (l[j]).2) := by
        rw [← hl]
        simp [strValues, hj]
      rw [Array.getElem?_toList] at e1
      obtain ⟨c, u', hc, e2⟩ := hacc.2 j _ e1
      have h1 : (l[j]).1 = ⟨#[c]⟩ := (Value.str.inj e2).1
      rw [List.getElem?_map, List.getElem?_eq_getElem hj]
      unfold chs
      rw [List.getElem?_map, Array.getElem?_toList, hc]
      simp [h1]
    · rw [List.getElem?_eq_none (by rw [List.length_map]; omega), List.getElem?_eq_none (by unfold chs; rw [List.length_map, Array.length_toList]; omega)]
  have hsum : ∀ l : List Nat, ((l.map fun c => (⟨#[c]⟩ : Str)).map (·.length)).sum = l.length := fun l => by
    induction l with
    | nil => rfl
    | cons a l ih =>
      rw [List.map_cons, List.map_cons, List.sum_cons, ih, List.length_cons]
      show 1 + l.length = _
      omega
  have hok' : JoinOk x (l.map (·.1)) = true := by
    rw [hl1]
    refine joinOk_of ?_
    unfold chs
    rw [hsum, List.length_map, Array.length_toList]
    exact hok
  rw [← hl]
  unfold JoinOk at hok'
  rw [Bool.not_eq_true'] at hok'
  have g : Gives (joinTail x (strValues l)) (joinMade x l) := by
    have g0 := gives_joinTail x l hok'
    cases l with
    | nil => exact g0
    | cons p r => cases r with
      | nil => exact g0
      | cons q r' => exact g0
  refine g prog w A (wants Q E) s' (post_join l ⟨joinFit_length hok', fun t' k => ?_⟩)
  rw [hl1]
  obtain ⟨h', g', d', tk', os'⟩ := s'
  cases hg
  cases hd
  cases ho
  exact hq h' k t' fun b o e => hk b o (fun q => absurd (Heap.lt_size e) (by rw [q]; exact Nat.lt_irrefl _)) (hx b o e)
end
def fJoinS (a : Str) : List D → Res D
  | [.str y] => if y.length ≤ sizeLine ∧ y.length + y.length * a.length ≤ 16777216 then .ok (.str (Txt.join a (chs y))) else .err
  | [.lst xs] => joinR a xs
  | [.tup xs] => joinR a xs
  | _ => .err
theorem fJoinS_nx : NoXS fJoinS := fun s ds c h => by
  unfold fJoinS at h
  split at h <;> first | cases h | (split at h <;> cases h) | (unfold joinR at h; split at h <;> first | cases h | (split at h <;> cases h))
section
variable {X : Cx} {k : Nat}
theorem m_joinS (hc : X.calm = true) : MethS X "str.join" 1 k fJoinS := fun pins s σ H x xs v us Q I rx r h => by
  obtain ⟨ex, a, ds, d, ext, rfl, rs, e, q⟩ := h
  unfold fJoinS at e
  split at e
  · split at e
    · rename_i y hy
      cases e
      cases rs with
      | cons r1 t =>
        cases t
        have := r1.str
        subst this
        cases r with
        | cons r2 r3 =>
          cases r3
          obtain ⟨t1, rfl⟩ := rx
          obtain ⟨t2, rfl⟩ := r2
          exact join_str (I.ok.hd hc) hy.1 hy.2 fun h' kk t' hk => ⟨.str (Txt.join a (chs _)), H, I.kept (t' := kk) hk, ⟨t', rfl⟩, q.str⟩
    · cases e
  · exact m_join (k := k) pins s σ H _ xs v us Q I rx r ⟨ex, a, _, d, ext, rfl, rs, e, q⟩
  · exact m_join (k := k) pins s σ H _ xs v us Q I rx r ⟨ex, a, _, d, ext, rfl, rs, e, q⟩
  · cases e
end
end Px

namespace Px
open PySem PySem.Spec PyProof.Rows L2
/-! ### plain reading: more tools -/
abbrev dN (n : Nat) : D := .int (n : Int)
theorem dN_def (n : Nat) : dN n = .int (n : Int) := id rfl
mutual
theorem eqD_self : ∀ (k : Nat) (d : D), okN k d = true → eqD d d = true
  | k, .non, _ => by rw [eqD]
  | k, .bl b, _ => by rw [eqD]; simp
  | k, .int b, _ => by rw [eqD]; simp
  | k, .str b, _ => by rw [eqD]; simp
  | 0, .tup xs, h => by rw [okN] at h; cases h
  | k + 1, .tup xs, h => by rw [okN] at h; rw [eqD]; exact eqDL_self k xs h
  | 0, .lst xs, h => by rw [okN] at h; cases h
  | k + 1, .lst xs, h => by rw [okN] at h; rw [eqD]; exact eqDL_self k xs h
  | k, .dic _ _, h => by rw [okN] at h; cases h
  | k, .set _, h => by rw [okN] at h; cases h
  | k, .exc _, h => by rw [okN] at h; cases h
  | k, .oth, h => by rw [okN] at h; cases h
theorem eqDL_self : ∀ (k : Nat) (xs : List D), okL k xs = true → eqDL xs xs = true
  | k, [], _ => by rw [eqDL]
  | k, x :: xs, h => by
    rw [okL, Bool.and_eq_true] at h
    rw [eqDL, eqD_self k x h.1, eqDL_self k xs h.2]
    rfl
end
theorem dEq_self {d : D} (h : okN 60 d = true) : dEq d d = .ok (.bl true) := by
  unfold dEq
  rw [h, eqD_self 60 d h]
  rfl
theorem dNe_self {d : D} (h : okN 60 d = true) : dNe d d = .ok (.bl false) := by
  unfold dNe
  rw [h, eqD_self 60 d h]
  rfl
mutual
theorem okN_mono : ∀ {k m : Nat} {d : D}, k ≤ m → okN k d = true → okN m d = true
  | k, m, .non, _, _ => by rw [okN]
  | k, m, .bl _, _, _ => by rw [okN]
  | k, m, .int _, _, _ => by rw [okN]
  | k, m, .str s, _, h => by rw [okN] at h ⊢; exact h
  | 0, m, .tup xs, _, h => by rw [okN] at h; cases h
  | k + 1, 0, .tup xs, hk, h => by omega
  | k + 1, m + 1, .tup xs, hk, h => by rw [okN] at h ⊢; exact okL_mono (by omega) h
  | 0, m, .lst xs, _, h => by rw [okN] at h; cases h
  | k + 1, 0, .lst xs, hk, h => by omega
  | k + 1, m + 1, .lst xs, hk, h => by rw [okN] at h ⊢; exact okL_mono (by omega) h
  | k, m, .dic _ _, _, h => by rw [okN] at h; cases h
  | k, m, .set _, _, h => by rw [okN] at h; cases h
  | k, m, .exc _, _, h => by rw [okN] at h; cases h
  | k, m, .oth, _, h => by rw [okN] at h; cases h
theorem okL_mono : ∀ {k m : Nat} {xs : List D}, k ≤ m → okL k xs = true → okL m xs = true
  | k, m, [], _, _ => by rw [okL]
  | k, m, x :: xs, hk, h => by
    rw [okL, Bool.and_eq_true] at h ⊢
    exact ⟨okN_mono hk h.1, okL_mono hk h.2⟩
end
theorem okN_tup {k : Nat} {xs : List D} (h : ∀ x ∈ xs, okN k x = true) : okN (k + 1) (.tup xs) = true := by
  rw [okN, okL_all]
  exact List.all_eq_true.mpr h
theorem okN_lst {k : Nat} {xs : List D} (h : ∀ x ∈ xs, okN k x = true) : okN (k + 1) (.lst xs) = true := by
  rw [okN, okL_all]
  exact List.all_eq_true.mpr h
@[simp] theorem ok_non (k : Nat) : okN k .non = true := by rw [okN]
@[simp] theorem ok_bl (k : Nat) (b : Bool) : okN k (.bl b) = true := by rw [okN]
@[simp] theorem ok_int (k : Nat) (i : Int) : okN k (.int i) = true := by rw [okN]
@[simp] theorem ok_str (k : Nat) (s : Str) : okN k (.str s) = PyData.strOk s := by rw [okN]
theorem ok_ints (k : Nat) (l : List Nat) : okN (k + 1) (.tup (l.map dN)) = true := okN_tup fun x h => by
  obtain ⟨n, _, rfl⟩ := List.mem_map.mp h
  exact ok_int _ _
/-- equal exactly if the images are -/
theorem eqDL_map {α : Type} [DecidableEq α] {f : α → D} (h : ∀ a b, eqD (f a) (f b) = decide (a = b)) : ∀ (xs ys : List α), eqDL (xs.map f) (ys.map f) = decide (xs = ys)
  | [], [] => by rw [List.map_nil, eqDL]; simp
  | [], y :: ys => by rw [List.map_nil, List.map_cons, eqDL]; simp; all_goals (intros; contradiction)
  | x :: xs, [] => by rw [List.map_nil, List.map_cons, eqDL]; simp; all_goals (intros; contradiction)
  | x :: xs, y :: ys => by
    rw [List.map_cons, List.map_cons, eqDL, h, eqDL_map h xs ys]
    simp
theorem eqD_N (a b : Nat) : eqD (dN a) (dN b) = decide (a = b) := by
  rw [eqD]
  by_cases h : a = b
  · subst h; simp
  · rw [decide_eq_false h]
    exact beq_eq_false_iff_ne.mpr fun q => h (by omega)
theorem cut_map {α β : Type} (f : α → β) (xs : List α) (a b : Option Int) : cut (xs.map f) a b = (cut xs a b).map f := by
  unfold cut
  rw [List.length_map, List.map_take, List.map_drop]
theorem dIx_tm {α : Type} {f : α → D} {xs : List α} {n : Nat} {a : α} (h : xs[n]? = some a) : dIx (.tup (xs.map f)) (.int n) = .ok (f a) := dIx_tup (by rw [List.getElem?_map, h]; rfl)
theorem dIx_lm {α : Type} {f : α → D} {xs : List α} {n : Nat} {a : α} (h : xs[n]? = some a) : dIx (.lst (xs.map f)) (.int n) = .ok (f a) := dIx_lst (by rw [List.getElem?_map, h]; rfl)
theorem whileE_succ (t : Px.Env → Res Bool) (F : SF) (n : Nat) (ρ : Px.Env) : whileE t F (n + 1) ρ = (t ρ).flow ρ fun b => if b = true then loopK (F ρ) (whileE t F n) else .next ρ := id rfl
@[simp] theorem x_sWhile (n : Nat) (t : Px.Env → Res Bool) (F : SF) : sWhile n t F = whileE t F n := id rfl
@[simp] theorem forE_nil (gf : Px.Env → D → Res Px.Env) (F : SF) (ρ : Px.Env) : forE gf F [] ρ = .next ρ := id rfl
theorem forE_cons (gf : Px.Env → D → Res Px.Env) (F : SF) (d : D) (ds : List D) (ρ : Px.Env) : forE gf F (d :: ds) ρ = (gf ρ d).must fun ρ1 => loopK (F ρ1) (forE gf F ds) := id rfl
/-- x += e -/
def augK (r : Res D) (ρ : Px.Env) (i : Nat) : Px.Flow := match r with
  | .ok d => .next (ρ.set i (some d))
  | _ => .err
@[simp] theorem augK_ok (d : D) (ρ : Px.Env) (i : Nat) : augK (.ok d) ρ i = .next (ρ.set i (some d)) := id rfl
@[simp] theorem x_sAug (o : D → D → Res D) (i : Nat) (f : EF) (ρ : Px.Env) : sAug o i f ρ = (vD (ρ.getD i none)).flow ρ fun a => (f ρ).flow ρ fun b => augK (o a b) ρ i := by
  unfold sAug
  rw [x_eVar]
  rfl
@[simp] theorem flow_ite {α : Type} {c : Prop} [Decidable c] (a b : Res α) (ρ : Px.Env) (k : α → Px.Flow) : (if c then a else b).flow ρ k = if c then a.flow ρ k else b.flow ρ k := by split <;> rfl
@[simp] theorem bind_ite {α β : Type} {c : Prop} [Decidable c] (a b : Res α) (k : α → Res β) : ((if c then a else b) >>= k) = if c then a >>= k else b >>= k := by split <;> rfl
end Px

namespace Px
open PySem PySem.Spec PyProof.Rows L2
/-! ### texts by their signs -/
def sOf (l : List Nat) : Str := ⟨l.toArray⟩
abbrev dS (l : List Nat) : D := .str (sOf l)
theorem sOf_len (l : List Nat) : (sOf l).length = l.length := id rfl
theorem sOf_cps (l : List Nat) : (sOf l).cps.toList = l := id rfl
theorem sOf_one (c : Nat) : (⟨#[c]⟩ : Str) = sOf [c] := id rfl
theorem sOf_inj {a b : List Nat} (h : sOf a = sOf b) : a = b := by
  have := congrArg (fun s : Str => s.cps.toList) h
  exact this
theorem sOf_app (a b : List Nat) : sOf a ++ sOf b = sOf (a ++ b) := by
  show (⟨a.toArray ++ b.toArray⟩ : Str) = ⟨(a ++ b).toArray⟩
  rw [List.append_toArray]
theorem sOf_eta (s : Str) : sOf s.cps.toList = s := by
  obtain ⟨⟨l⟩⟩ := s
  rfl
theorem s_len (l : List Nat) (h : l.length ≤ 16777216) : fLen [.str (sOf l)] = .ok (.int l.length) := by
  show (if _ then _ else _) = _
  rw [sOf_len, if_pos (by rw [sizeLine_eq]; exact h)]
theorem s_ix (l : List Nat) (n c : Nat) (h : l[n]? = some c) (hl : l.length ≤ 16777216) : dIx (.str (sOf l)) (.int n) = .ok (.str (sOf [c])) := by
  show (if _ then _ else _) = _
  rw [sOf_len, if_pos (by rw [sizeLine_eq]; exact hl), sOf_cps, atI_nat, h]
  rfl
theorem s_items (l : List Nat) (h : l.length ≤ 16777216) : dItems (.str (sOf l)) = .ok (l.map fun c => .str (sOf [c])) := by
  show (if _ then _ else _) = _
  rw [sOf_len, if_pos (by rw [sizeLine_eq]; exact h)]
  rfl
theorem s_add (a b : List Nat) (h : a.length + b.length ≤ 16777216) : dAdd (.str (sOf a)) (.str (sOf b)) = .ok (.str (sOf (a ++ b))) := by
  show (if _ then _ else _) = _
  rw [sOf_len, sOf_len, if_pos (by rw [sizeLine_eq]; exact h), sOf_app]
theorem s_addT (a b : List Nat) (h : a.length + b.length ≤ 16777216) : dAddT (.str (sOf a)) (.str (sOf b)) = .ok (.str (sOf (a ++ b))) := by
  show (if _ then _ else _) = _
  rw [sOf_len, sOf_len, if_pos (by rw [sizeLine_eq]; exact h), sOf_app]
theorem s_sl (l : List Nat) (a b : Option Int) (h : l.length ≤ 16777216) : dSl (.str (sOf l)) a b = .ok (.str (sOf (cut l a b))) := by
  show (if _ then _ else _) = _
  rw [sOf_len, if_pos (by rw [sizeLine_eq]; exact h), sOf_cps]
  rfl
theorem s_rev (l : List Nat) (h : l.length ≤ 16777216) : dRev (.str (sOf l)) = .ok (.str (sOf l.reverse)) := by
  show (if _ then _ else _) = _
  rw [sOf_len, if_pos (by rw [sizeLine_eq]; exact h), sOf_cps]
  rfl
theorem s_in (c : Nat) (l : List Nat) : dIn (.str (sOf [c])) (.str (sOf l)) = .ok (.bl (decide (c ∈ l))) := by
  have e : (sOf [c]).cps.size = 1 := rfl
  show (if (sOf [c]).cps.size = 1 then Res.ok (D.bl (decide ((sOf [c]).cps.getD 0 0 ∈ (sOf l).cps.toList))) else .err) = _
  rw [if_pos e]
  rfl
theorem s_notIn (c : Nat) (l : List Nat) : dNotIn (.str (sOf [c])) (.str (sOf l)) = .ok (.bl (!decide (c ∈ l))) := by
  unfold dNotIn
  rw [s_in]
theorem s_ok (l : List Nat) : PyData.strOk (sOf l) = l.all (· < 0x110000) := by
  unfold PyData.strOk
  rw [← Array.all_toList]
  rfl
theorem s_eqD (a b : List Nat) : eqD (.str (sOf a)) (.str (sOf b)) = decide (a = b) := by
  rw [eqD]
  by_cases h : a = b
  · subst h; simp
  · rw [decide_eq_false h]
    exact beq_eq_false_iff_ne.mpr fun q => h (sOf_inj q)
theorem s_tru (l : List Nat) (h : l.length ≤ 16777216) : dTru (.str (sOf l)) = .ok (!l.isEmpty) := by
  show (if _ then _ else _) = _
  rw [sOf_len, if_pos (by rw [sizeLine_eq]; exact h)]
  congr 1
  cases l with
  | nil => rfl
  | cons a l =>
    rw [List.length_cons]
    simp
    omega
theorem s_sumlen : ∀ ps : List (List Nat), ((ps.map sOf).map (·.length)).sum = (ps.map (·.length)).sum
  | [] => rfl
  | p :: ps => by rw [List.map_cons, List.map_cons, List.map_cons, List.sum_cons, List.sum_cons, s_sumlen ps, sOf_len]
theorem s_txts : ∀ ps : List (List Nat), txtsD (ps.map fun l => .str (sOf l)) = some (ps.map sOf)
  | [] => rfl
  | p :: ps => by rw [List.map_cons, txtsD, s_txts ps]; rfl
theorem s_tl (ps : List (List Nat)) : (ps.map sOf).map TL.tl = ps := by
  induction ps with
  | nil => rfl
  | cons p ps ih => rw [List.map_cons, List.map_cons, ih]; rfl
theorem s_join (s : List Nat) (ps : List (List Nat)) (h : (ps.map (·.length)).sum + ps.length * s.length ≤ 16777216) : joinR (sOf s) (ps.map fun l => .str (sOf l)) = .ok (.str (sOf (TL.joinL s ps))) := by
  unfold joinR
  rw [s_txts]
  dsimp only
  rw [s_sumlen, List.length_map, sOf_len, if_pos h]
  congr 2
  have := TL.tl_join (sOf s) (ps.map sOf)
  rw [s_tl] at this
  rw [← sOf_eta (Txt.join (sOf s) (ps.map sOf))]
  congr 1
  rw [show Txt.join (sOf s) (ps.map sOf) = Str.join (sOf s) (ps.map sOf) from StrLaws.glued_eq_join _ _]
  exact this
theorem joinL_nil : ∀ ps : List (List Nat), TL.joinL [] ps = ps.flatten
  | [] => rfl
  | [p] => by rw [TL.joinL]; simp
  | p :: q :: r => by rw [TL.joinL, joinL_nil (q :: r)]; simp
@[simp] theorem x_all_c {α : Type} (p : α → Bool) (xs : List α) : fAll [.lst (xs.map (D.bl ∘ p))] = .ok (.bl (xs.all p)) := by
  rw [← List.map_map, x_all, List.all_map]
  rfl
@[simp] theorem x_any_c {α : Type} (p : α → Bool) (xs : List α) : fAny [.lst (xs.map (D.bl ∘ p))] = .ok (.bl (xs.any p)) := by
  rw [← List.map_map, x_any, List.any_map]
  rfl
@[simp] theorem x_all_f {α : Type} (p : α → Bool) (xs : List α) : fAll [.lst (xs.map fun x => D.bl (p x))] = .ok (.bl (xs.all p)) := x_all_c p xs
@[simp] theorem x_any_f {α : Type} (p : α → Bool) (xs : List α) : fAny [.lst (xs.map fun x => D.bl (p x))] = .ok (.bl (xs.any p)) := x_any_c p xs
/-- a comprehension over what comes of a list by a map -/
theorem lc_fun {α : Type} {gf : Px.Env → D → Res Px.Env} {f : EF} {ρ : Px.Env} {e : α → D} {g : α → D} : ∀ {xs : List α}, (∀ x ∈ xs, ∃ ρ1, gf ρ (e x) = .ok ρ1 ∧ f ρ1 = .ok (g x)) → lcE gf bYes f ρ (xs.map e) = .ok (xs.map g)
  | [], _ => rfl
  | x :: xs, h => by
    obtain ⟨ρ1, e1, e2⟩ := h x List.mem_cons_self
    have := lc_fun (xs := xs) fun y hy => h y (List.mem_cons_of_mem _ hy)
    simp [lcE, e1, e2, this]
end Px

namespace Px
open PySem PySem.Spec PySem.Calls PyProof.Rows L2
/-! ### sorted(xs) of a tuple (the kit has it of lists) -/
section
variable {prog : Program} {w : World} {A : Around} {E : Value → Shared → Prop} {s : Shared}
theorem collect_tuple {l : Addr} {vs : List Value} {Q : List Value → Shared → Prop} (hl : s.heap.IsTuple l vs.toArray)
    (h : Q vs { s with heap := (s.heap.push (seqObj "list" #[] 0)).update s.heap.objs.size (Obj.mapSeq (· ++ vs.toArray)) }) (hsz : vs.length ≤ sizeLine) :
    wpAny (model prog w) A (collect (.ref l)) Q E s := by
  obtain ⟨o, ho, hc, n, hd⟩ := id hl
  unfold collect
  refine wpAny_bind (wpAny_runValue (codeAny_builtin entry_proto_collect' ?_))
  show wpAny _ _ (do again (.builtin "list.__iadd__" ⟨[← newList [], .ref l], []⟩)) _ _ s
  refine wpAny_bind (wpAny_newList (wpAny_pure ⟨Code.quiet_builtin _ (by decide +kernel), codeAny_builtin entry_list_iadd' ?_⟩))
  show wpAny _ _ (Builtin.List.listExtendWith (.ref s.heap.objs.size) (.ref l) (.ref s.heap.objs.size)) _ _ { s with heap := s.heap.push (seqObj "list" #[] 0) }
  unfold Builtin.List.listExtendWith
  have ho' : (s.heap.push (seqObj "list" #[] 0)).get? l = some o := Heap.get?_push_of_some _ ho
  refine wpAny_bind (wpAny_typeOf (T := "tuple") ⟨o, ho', hc⟩ ?_)
  have ht : (Value.type "tuple" == Value.type "tuple") = true := by rfl
  rw [if_pos (by rw [ht]; simp)]
  refine wpAny_bind (listItems_at ho' hd ?_)
  refine wpAny_bind (listItems_at (xs := #[]) (n := 0) (Heap.get?_push_size _ rfl) rfl ?_)
  rw [if_neg (by simp)]
  refine wpAny_bind (listUpdate_at (xs := #[]) (n := 0) (Heap.get?_push_size _ rfl) rfl ?_ (Nat.zero_le _) (by show (#[] ++ vs.toArray).size ≤ sizeLine + 1; simp only [Array.size_append, List.size_toArray, List.length_nil]; omega))
  refine wpAny_pure ?_
  show wpAny (model prog w) A (do
      let o ← load s.heap.objs.size
      match o.data with
      | .seq xs _ => pure xs.toList
      | _ => unsupported "internal:collect") Q E { s with heap := (s.heap.push (seqObj "list" #[] 0)).update s.heap.objs.size (Obj.mapSeq (· ++ vs.toArray)) }
  refine wpAny_bind (wpAny_load (get?_update_seq (Heap.get?_push_size _ rfl) _) ?_)
  show wpAny _ _ (pure ((#[] : Array Value) ++ vs.toArray).toList) Q E _
  rw [show ((#[] : Array Value) ++ vs.toArray).toList = vs by simp]
  exact wpAny_pure h
theorem sorted_of_sort_t {l : Addr} {vs : List Value} {Q : Value → Shared → Prop} (hl : s.heap.IsTuple l vs.toArray) (hL : vs.length ≤ sizeLine)
    (body : ∀ E' : Value → Shared → Prop, wpAny (model prog w) A.in1.in1 (Builtin.«list.sort» ⟨[.ref (s.heap.objs.size + 1)], []⟩) (fun f s' => f = .done (.ret .none) ∧ Q (.ref (s.heap.objs.size + 1)) s') E' { s with heap := PySem.W.copyHeap s.heap vs }) :
    wpAny (model prog w) A (call (.builtin "sorted") [.ref l] []) Q E s := by
  refine call_function_entry_kw kind_sorted plain_sorted entry_sorted (args_sorted1 _) ?_
  unfold Builtin.«sorted»
  refine wpAny_bind (m := checkCount "sorted" 1 1 _) (wpAny_pure ?_)
  refine wpAny_bind (collect_tuple hl ?_ hL)
  refine wpAny_bind (wpAny_newList ?_ hL)
  have hsz : ((s.heap.push (seqObj "list" #[] 0)).update s.heap.objs.size (Obj.mapSeq (· ++ vs.toArray))).objs.size = s.heap.objs.size + 1 := by
    rw [Heap.size_update, size_push']
  show wpAny _ _ _ _ _ { s with heap := PySem.W.copyHeap s.heap vs }
  rw [hsz]
  refine wpAny_bind (wpAny_holding (wpAny_call_entry_kw slot_list_sort ⟨_, PySem.W.copyHeap_at s.heap vs, rfl⟩ entry_list_sort ?body (args_list_sort _)))
  case body =>
    show wpAny (model prog w) A.in1.in1 (Builtin.«list.sort» ⟨[.ref (s.heap.objs.size + 1)], []⟩) _ _ _
    refine wpAny_mono (body _) (fun f s' hf => ?_) fun _ _ e => e
    obtain ⟨rfl, hq⟩ := hf
    exact ⟨_, rfl, wpAny_pure ⟨_, rfl, hq⟩⟩
variable {β : Type} {vs : List Value} {bs : List β} {enc : β → PyData} {R : Value → β → Prop}
theorem sorted_data_t {l : Addr} {Q : Value → Shared → Prop} (hl : s.heap.IsTuple l vs.toArray) (e : PySem.W.EachIs R vs bs) (er : PySem.W.EachIs (fun v b => ∃ as, Reads s.heap v (enc b) as) vs bs) (hal : PySem.W.AllAlike (bs.map enc)) (hk : PySem.W.Sortable (bs.map enc)) (hL : bs.length ≤ sizeLine)
    (hu : ∀ b, b ∈ bs → A.units + 2 + (enc b).depth < cLine) (h : ∀ out, out.length = bs.length → PySem.W.EachIs R out (bs.mergeSort (PySem.W.dataLe false enc)) → Q (.ref (s.heap.objs.size + 1)) { s with heap := sortedAll s.heap vs (List.toArray out) }) :
    wpAny (model prog w) A (call (.builtin "sorted") [.ref l] []) Q E s := by
  have er' : PySem.W.EachIs (fun v b => ∃ as, Reads (PySem.W.sortingHeap (PySem.W.copyHeap s.heap vs) (s.heap.objs.size + 1) vs) v (enc b) as) vs bs := er.mono fun _ _ ⟨as, r⟩ => ⟨as, PyProof.Rows.Reads.keeps (fun _ _ => PySem.W.sorting_copy_old) r⟩
  exact sorted_of_sort_t hl (by rw [e.length]; exact hL) fun _ => PySem.W.list_sort_vals (s := { s with heap := PySem.W.copyHeap s.heap vs }) (PySem.W.copyHeap_at s.heap vs)
    (PySem.W.SortsAt.data (s := { s with heap := PySem.W.sortingHeap (PySem.W.copyHeap s.heap vs) (s.heap.objs.size + 1) vs }) (PySem.W.each_map (R := fun v d => ∃ as, Reads (PySem.W.sortingHeap (PySem.W.copyHeap s.heap vs) (s.heap.objs.size + 1) vs) v d as) enc er') hal hk (PySem.W.bound_map hu)) (by rw [e.length]; exact hL)
    ⟨rfl, h _ (by rw [PySem.W.sortVals_length false rfl]; exact e.length) (PySem.W.sortVals_data false e er' hal)⟩
end
/-! ### the rule -/
def tupAt : D → Bool
  | .tup (_ :: _) => true
  | _ => false
def noTup : D → Bool
  | .non => false
  | .tup _ => false
  | _ => true
def srtOk (xs : List D) : Bool := okL 60 xs && (xs.all fun a => xs.all fun b => PySem.W.alike (toP a) (toP b)) && (xs.all tupAt || xs.all noTup)
def dLe (a b : D) : Bool := PySem.W.dataLe false toP a b
def fSorted : List D → Res D
  | [.tup xs] => if srtOk xs = true then .ok (.lst (xs.mergeSort dLe)) else .err
  | [.lst xs] => if srtOk xs = true then .ok (.lst (xs.mergeSort dLe)) else .err
  | _ => .err
theorem fSorted_nx : NoXL fSorted := fun ds c h => by
  unfold fSorted at h
  split at h <;> first | cases h | (split at h <;> cases h)
theorem srt_facts {xs : List D} (h : srtOk xs = true) : (∀ b, b ∈ xs → (toP b).depth ≤ 60) ∧ PySem.W.AllAlike (xs.map toP) ∧ PySem.W.Sortable (xs.map toP) := by
  unfold srtOk at h
  rw [Bool.and_eq_true, Bool.and_eq_true, okL_all] at h
  obtain ⟨⟨h1, h2⟩, h3⟩ := h
  refine ⟨fun b hb => (ok_lay 60 b (List.all_eq_true.mp h1 b hb)).2, ?_, ?_⟩
  · intro d hd d' hd'
    obtain ⟨a, ha, rfl⟩ := List.mem_map.mp hd
    obtain ⟨b, hb, rfl⟩ := List.mem_map.mp hd'
    exact List.all_eq_true.mp (List.all_eq_true.mp h2 a ha) b hb
  · rw [Bool.or_eq_true] at h3
    rcases h3 with h3 | h3
    · refine .inl fun d hd => ?_
      obtain ⟨a, ha, rfl⟩ := List.mem_map.mp hd
      have := List.all_eq_true.mp h3 a ha
      cases a with
      | tup ys =>
        cases ys with
        | nil => cases this
        | cons y ys => exact ⟨toP y, toPL ys, by rw [toP, toPL]⟩
      | _ => cases this
    · refine .inr fun d hd => ?_
      obtain ⟨a, ha, rfl⟩ := List.mem_map.mp hd
      have := List.all_eq_true.mp h3 a ha
      have ok := List.all_eq_true.mp h1 a ha
      cases a with
      | tup ys => cases this
      | non => cases this
      | bl b => exact ⟨by rw [toP]; exact PyData.noConfusion, fun ys h => by rw [toP] at h; cases h⟩
      | int b => exact ⟨by rw [toP]; exact PyData.noConfusion, fun ys h => by rw [toP] at h; cases h⟩
      | str b => exact ⟨by rw [toP]; exact PyData.noConfusion, fun ys h => by rw [toP] at h; cases h⟩
      | lst b => exact ⟨by rw [toP]; exact PyData.noConfusion, fun ys h => by rw [toP] at h; cases h⟩
      | _ => exact absurd ok (by simp [okN])
section
variable {X : Cx}
/-- what a value stands for, by a plain datum -/
def Stands (K : PySem.W.Frag) (H : Hp) (v : Value) (d : D) : Prop := ∃ x, RelV x v ∧ R K (fun _ => False) H d x
theorem stands_of {K : PySem.W.Frag} {ex : AS} {H : Hp} (P : D → V → Prop) : ∀ {ds : List D} {xs : List V} {us : List Value}, Paired P ds xs → Vals xs us → PySem.W.EachIs (fun v d => ∃ x, RelV x v ∧ P d x) us ds
  | [], _, _, .nil, h => by cases h; exact .nil
  | d :: ds, _, _, .cons r t, h => by
    cases h with
    | cons h1 h2 => exact .cons ⟨_, h1, r⟩ (stands_of (K := K) (ex := ex) (H := H) P t h2)
theorem of_stands (P : D → V → Prop) : ∀ {ds : List D} {us : List Value}, PySem.W.EachIs (fun v d => ∃ x, RelV x v ∧ P d x) us ds → ∃ xs, Paired P ds xs ∧ Vals xs us
  | _, _, .nil => ⟨[], .nil, .nil⟩
  | _, _, .cons ⟨x, h1, r⟩ t => by
    obtain ⟨xs, p, q⟩ := of_stands P t
    exact ⟨x :: xs, .cons r p, .cons h1 q⟩
theorem c_sorted (hu : X.A.units + 64 < cLine) : CallD X 1 1 (.builtin "sorted") fSorted := fun pins s σ H xs us Q I r h => by
  obtain ⟨ex, ds, d, ext, rs, e, q⟩ := h
  have key : ∀ (zs : List D) (a : Addr) (ys : List V) (its : List Value), srtOk zs = true → d = .lst (zs.mergeSort dLe) → Paired (R X.K ex H) zs ys → Vals ys its → ys.length ≤ sizeLine → (s.heap.IsTuple a its.toArray ∨ s.heap.IsList a its.toArray) → wpAny (model X.prog X.w) X.A (call (.builtin "sorted") [.ref a] []) (L2.EP X pins σ Q) X.xe s := fun zs a ys its ok hd h3 rv hz hq => by
    subst hd
    obtain ⟨f1, f2, f3⟩ := srt_facts ok
    have e1 := stands_of (K := X.K) (ex := ex) (H := H) (R X.K ex H) h3 rv
    have er : PySem.W.EachIs (fun v b => ∃ as, Reads s.heap v (toP b) as) its zs := e1.mono fun v b ⟨x, h1, h2⟩ => Dp.reads I (toP b) x v (R.dp b h2) h1
    have hzl : zs.length ≤ sizeLine := by rw [← e1.length, ← rv.length]; exact hz
    have fin : ∀ out : List Value, out.length = zs.length → PySem.W.EachIs (fun v d => ∃ x, RelV x v ∧ R X.K ex H d x) out (zs.mergeSort (PySem.W.dataLe false toP)) → L2.EP X pins σ Q (.ref (s.heap.objs.size + 1)) { s with heap := sortedAll s.heap its (List.toArray out) } := fun out ho eo => by
      obtain ⟨ws, p, rw_⟩ := of_stands _ eo
      obtain ⟨ep, he'⟩ := PyProof.Rows.sortedAll_at s.heap its out.toArray
      have hlen : ws.length ≤ sizeLine := by rw [rw_.length, ho]; exact hzl
      exact ⟨.ref _, upd H (s.heap.objs.size + 1) (.lst ws), I.laid (t' := s.toks) (fun _ _ => PyProof.Rows.sortedAll_old) (Nat.le_succ _) ⟨hlen, out, ep, rw_, he'⟩, rfl, q.lst p (I.hok.fresh (Nat.le_succ _)) hlen⟩
    have hu2 : ∀ b, b ∈ zs → X.A.units + 2 + (toP b).depth < cLine := fun b hb => by have := f1 b hb; omega
    rcases hq with hq | hq
    · exact sorted_data_t hq e1 er f2 f3 hzl hu2 fin
    · exact PySem.W.sorted_data hq e1 er f2 f3 hzl hu2 fin
  unfold fSorted at e
  split at e
  · split at e
    · rename_i ok
      cases e
      cases rs with
      | cons r1 t =>
        cases t
        obtain ⟨a, ys, rfl, h1, h2, h3⟩ := RB.tup r1
        obtain ⟨its, rv, hl, hz⟩ := I.tuple h1
        rw [Vals.ref1 r]
        exact key _ a ys its ok rfl h3 rv hz (.inl hl)
    · cases e
  · split at e
    · rename_i ok
      cases e
      cases rs with
      | cons r1 t =>
        cases t
        obtain ⟨a, ys, rfl, h1, h2, h3⟩ := RB.lst r1
        obtain ⟨its, rv, hl, hz⟩ := I.list h1
        rw [Vals.ref1 r]
        exact key _ a ys its ok rfl h3 rv hz (.inr hl.isList)
    · cases e
  · cases e
end
end Px

namespace Px
open PySem PySem.Spec PyProof.Rows L2
/-! ### xs[i] = v, xs[i][j] = v, of own lists -/
section
variable {K : PySem.W.Frag} {H0 H H1 : Hp} {ex0 : AS} {G : List (D × V)} {L : List Nat} {ρ : Env} {σ : L2.St} {fp : Nat → List Addr}
theorem SS.upd1 (S : SS K H0 ex0 G L ρ σ H fp) (e : Same H H1) {i : Nat} {a : Addr} {vs vs' : List V} {dN : D} {vN : V} {fqN : List Addr} (hσ : σ[i]? = some (some vN)) (ha : a ∈ fp i) (hH : H a = some (.lst vs))
    (r : RO K (exOf (fun j => if j = i then fqN else fp j) ex0) (L2.upd H1 a (.lst vs')) (L.getD i 0) dN vN fqN) (nd : fqN.Nodup) (nw : ∀ b ∈ fqN, b ∈ fp i ∨ H b = none) :
    SS K H0 ex0 G L (ρ.set i (some dN)) σ (L2.upd H1 a (.lst vs')) fun j => if j = i then fqN else fp j := by
  have hH1 : H1 a = some (.lst vs) := e _ _ hH
  have kp : Keep (exOf fp ex0) H (L2.upd H1 a (.lst vs')) := by
    refine ⟨fun b xs h => ?_, fun b xs hn h => ?_⟩
    · have hb : b ≠ a := fun q => by
        rw [q] at h
        rcases h with h | ⟨o, h⟩ <;> rw [hH] at h <;> cases h
      rcases Same.rd e h with h2 | ⟨o, h2⟩
      · exact .inl (by rw [upd_ne hb]; exact h2)
      · exact .inr ⟨o, by rw [upd_ne hb]; exact h2⟩
    · have hb : b ≠ a := fun q => hn (.inl ⟨i, by rw [q]; exact ha⟩)
      rcases Same.rd e h with h2 | ⟨o, h2⟩
      · exact .inl (by rw [upd_ne hb]; exact h2)
      · exact .inr ⟨o, by rw [upd_ne hb]; exact h2⟩
  have le : ∀ b, exOf (fun j => if j = i then fqN else fp j) ex0 b → exOf fp ex0 b ∨ H b = none := fun b h => by
    rcases h with ⟨l, h⟩ | h
    · have h : b ∈ (if l = i then fqN else fp l) := h
      split at h
      · rcases nw b h with q | q
        · exact .inl (.inl ⟨i, q⟩)
        · exact .inr q
      · exact .inl (.inl ⟨l, h⟩)
    · exact .inl (.inr h)
  have nd2 : ∀ j b, j ≠ i → b ∈ fqN → b ∈ fp j → False := fun j b hj h1 h2 => by
    rcases nw b h1 with q | q
    · exact hj (S.si.dis j i b h2 q)
    · exact S.si.ext b (.inl ⟨j, h2⟩) q
  have free : ∀ b, L2.upd H1 a (.lst vs') b = none → H b = none := fun b q => by
    by_cases hb : b = a
    · rw [hb, upd_same] at q
      cases q
    · rw [upd_ne hb] at q
      exact e.free q
  refine ⟨⟨by rw [List.length_set]; exact S.si.len, fun j d' h => ?_, fun j => ?_, fun j l b h1 h2 => ?_, fun j b h => .inl ⟨j, h⟩, fun b h q => ?_⟩, fun j b h => ?_, S.old, fun b o h => ?_, fun g hg => R.keep kp le _ (S.held g hg)⟩
  · by_cases ej : i = j
    · subst ej
      by_cases hl : i < ρ.length
      · rw [List.getElem?_set_self hl] at h
        cases h
        refine ⟨_, hσ, ?_⟩
        rw [if_pos rfl]
        exact r
      · rw [List.getElem?_eq_none (by rw [List.length_set]; omega)] at h
        cases h
    · rw [List.getElem?_set_ne ej] at h
      obtain ⟨u, h1, h2⟩ := S.si.val j d' h
      refine ⟨u, h1, ?_⟩
      show RO K _ _ _ d' u (if j = i then fqN else fp j)
      rw [if_neg (fun q => ej q.symm)]
      refine RO.keep kp le (fun b hb o q => ?_) h2
      have hba : b ≠ a := fun q => ej (S.si.dis i j a ha (by rw [← q]; exact hb))
      rw [upd_ne hba]
      exact e _ _ q
  · show (if j = i then fqN else fp j).Nodup
    split
    · exact nd
    · exact S.si.nod j
  · have h1 : b ∈ (if j = i then fqN else fp j) := h1
    have h2 : b ∈ (if l = i then fqN else fp l) := h2
    split at h1
    · split at h2
      · rename_i a1 a2
        rw [a1, a2]
      · rename_i hl
        exact (nd2 _ _ hl h1 h2).elim
    · split at h2
      · rename_i hj _
        exact (nd2 _ _ hj h2 h1).elim
      · exact S.si.dis j l b h1 h2
  · rcases h with ⟨l, h⟩ | h
    · have h : b ∈ (if l = i then fqN else fp l) := h
      split at h
      · exact r.there b h q
      · exact S.si.ext b (.inl ⟨l, h⟩) (free b q)
    · exact S.si.ext b (.inr h) (free b q)
  · have h : b ∈ (if j = i then fqN else fp j) := h
    split at h
    · rcases nw b h with q | q
      · exact S.own i b q
      · exact S.same.free q
    · exact S.own j b h
  · have hb : b ≠ a := fun q => by
      have := S.own i a ha
      rw [q, this] at h
      cases h
    rw [upd_ne hb]
    exact e _ _ (S.same _ _ h)
end
theorem p3_zero {K : PySem.W.Frag} {ex : AS} {H : Hp} : ∀ {ds : List D} {vs : List V} {fps : List (List Addr)}, P3 (RO K ex H 0) ds vs fps → fps.flatten = [] ∧ Paired (R K ex H) ds vs
  | _, _, _, .nil => ⟨rfl, .nil⟩
  | _, _, _, .cons h t => by
    rw [RO] at h
    obtain ⟨a, b⟩ := p3_zero t
    exact ⟨by rw [List.flatten_cons, h.1, a]; rfl, .cons h.2 b⟩
theorem of_pair {K : PySem.W.Frag} {ex : AS} {H : Hp} {ds : List D} {vs : List V} (h : Paired (R K ex H) ds vs) : ∃ fps, P3 (RO K ex H 0) ds vs fps ∧ fps.flatten = [] := P3.ofP (G := RO K ex H 0) (fun a b q => ⟨rfl, q⟩) h
theorem paired_set {α β : Type} {F : α → β → Prop} : ∀ {as : List α} {bs : List β} {a : α} {b : β} (n : Nat), Paired F as bs → F a b → Paired F (as.set n a) (bs.set n b)
  | _, _, _, _, _, .nil, _ => .nil
  | _, _, _, _, 0, .cons _ t, h => .cons h t
  | _, _, _, _, n + 1, .cons x t, h => .cons x (paired_set n t h)
theorem p3_put {K : PySem.W.Frag} {ex ex' : AS} {H H' : Hp} {k : Nat} (kp : Keep ex H H') (m : ∀ a, ex' a → ex a ∨ H a = none) : ∀ {ds : List D} {vs : List V} {fps : List (List Addr)} {n : Nat} {d0 : D}, P3 (RO K ex H k) ds vs fps → fps.flatten.Nodup → ds[n]? = some d0 →
    ∃ v0 g0, vs[n]? = some v0 ∧ RO K ex H k d0 v0 g0 ∧ (∀ x ∈ g0, x ∈ fps.flatten) ∧ ∀ d1, (∀ x ∈ fps.flatten, x ∉ g0 → ∀ o, H x = some o → H' x = some o) → RO K ex' H' k d1 v0 g0 → P3 (RO K ex' H' k) (ds.set n d1) vs fps
  | _, _, _, _, _, .nil, _, h => by cases h
  | _, _, _, 0, _, .cons (c := g) (cs := gs) h t, nd, e => by
    cases e
    rw [List.flatten_cons] at nd
    refine ⟨_, _, rfl, h, fun x hx => by rw [List.flatten_cons]; exact List.mem_append_left _ hx, fun d1 o r => .cons r (P3.keep kp m (fun a ha u q => o a ?_ ?_ u q) t)⟩
    · rw [List.flatten_cons]; exact List.mem_append_right _ ha
    · exact fun z => (List.nodup_append.mp nd).2.2 _ z _ ha rfl
  | _, _, _, n + 1, _, .cons (c := g) (cs := gs) h t, nd, e => by
    rw [List.flatten_cons] at nd
    have nd2 := List.nodup_append.mp nd
    obtain ⟨v0, g0, e1, r0, sub, fin⟩ := p3_put kp m t nd2.2.1 e
    refine ⟨v0, g0, e1, r0, fun x hx => by rw [List.flatten_cons]; exact List.mem_append_right _ (sub x hx), fun d1 o r => .cons (RO.keep kp m (fun a ha u q => o a ?_ ?_ u q) h) (fin d1 (fun x hx hn u q => o x ?_ hn u q) r)⟩
    · rw [List.flatten_cons]; exact List.mem_append_left _ ha
    · exact fun z => nd2.2.2 _ ha _ (sub _ z) rfl
    · rw [List.flatten_cons]; exact List.mem_append_right _ hx
def putN (xs : List D) (j d : D) (k : List D → Flow) : Flow := match j with
  | .int z => match ixN xs.length z with
    | some n => k (xs.set n d)
    | none => .err
  | _ => .err
def sPut (i : Nat) (fi f : EF) : SF := fun ρ => match ρ.getD i none with
  | some (.lst xs) => (f ρ).flow ρ fun d => (fi ρ).flow ρ fun j => putN xs j d fun ys => .next (ρ.set i (some (.lst ys)))
  | _ => .err
def rowAt (rows : List D) (a : D) (k : Nat → List D → Flow) : Flow := match a with
  | .int z => match ixN rows.length z with
    | some m => match rows[m]? with
      | some (.lst xs) => k m xs
      | _ => .err
    | none => .err
  | _ => .err
def sPut2 (i : Nat) (fi fj f : EF) : SF := fun ρ => match ρ.getD i none with
  | some (.lst rows) => (f ρ).flow ρ fun d => (fi ρ).flow ρ fun a => rowAt rows a fun m xs => (fj ρ).flow ρ fun b => putN xs b d fun ys => .next (ρ.set i (some (.lst (rows.set m (.lst ys)))))
  | _ => .err
theorem putN_get {xs : List D} {j d : D} {k : List D → Flow} : putN xs j d k = .err ∨ ∃ z m, j = .int z ∧ ixN xs.length z = some m ∧ putN xs j d k = k (xs.set m d) := by
  cases j with
  | int z =>
    cases hz : ixN xs.length z with
    | none => exact .inl (by simp only [putN, hz])
    | some m => exact .inr ⟨z, m, rfl, hz, by simp only [putN, hz]⟩
  | _ => exact .inl rfl
theorem rowAt_get {rows : List D} {a : D} {k : Nat → List D → Flow} : rowAt rows a k = .err ∨ ∃ z m xs, a = .int z ∧ ixN rows.length z = some m ∧ rows[m]? = some (.lst xs) ∧ rowAt rows a k = k m xs := by
  cases a with
  | int z =>
    cases hz : ixN rows.length z with
    | none => exact .inl (by simp only [rowAt, hz])
    | some m =>
      cases hr : rows[m]? with
      | none => exact .inl (by simp only [rowAt, hz, hr])
      | some r =>
        cases r with
        | lst xs => exact .inr ⟨z, m, xs, rfl, hz, hr, by simp only [rowAt, hz, hr]⟩
        | _ => exact .inl (by simp only [rowAt, hz, hr])
  | _ => exact .inl rfl
section
variable {X : Cx} {W : WX} {kr n n2 k : Nat} {Lb L : List Nat} {e ei ej : Expr} {f fi fj : EF} {pos apos bpos npos : Pos} {x : Str} {i : Nat}
theorem keep_upd {K : PySem.W.Frag} {ex : AS} {H H1 : Hp} {a : Addr} {vs vs' : List V} (e : Same H H1) (hH : H a = some (.lst vs)) (hx : ex a) : Keep ex H (L2.upd H1 a (.lst vs')) := by
  refine ⟨fun b zs h => ?_, fun b zs hn h => ?_⟩
  · have hb : b ≠ a := fun q => by
      rw [q] at h
      rcases h with h | ⟨o, h⟩ <;> rw [hH] at h <;> cases h
    rcases Same.rd e h with h2 | ⟨o, h2⟩
    · exact .inl (by rw [upd_ne hb]; exact h2)
    · exact .inr ⟨o, by rw [upd_ne hb]; exact h2⟩
  · have hb : b ≠ a := fun q => hn (by rw [q]; exact hx)
    rcases Same.rd e h with h2 | ⟨o, h2⟩
    · exact .inl (by rw [upd_ne hb]; exact h2)
    · exact .inr ⟨o, by rw [upd_ne hb]; exact h2⟩
theorem exOf_same {fp : Nat → List Addr} {ex0 : AS} {i : Nat} {g : List Addr} (hg : ∀ b ∈ g, b ∈ fp i) : ∀ b, exOf (fun j => if j = i then g else fp j) ex0 b → exOf fp ex0 b := fun b h => by
  rcases h with ⟨l, h⟩ | h
  · have h : b ∈ (if l = i then g else fp l) := h
    split at h
    · exact .inl ⟨i, hg b h⟩
    · exact .inl ⟨l, h⟩
  · exact .inr h
theorem sj_put (hx' : X.N[i]? = some x) (hv : Vis X.env.scope x) (hL : L.getD i 0 = 1) (he : EB X W L 0 e f) (hi : EB X W L n ei fi) (hd : (x == ("__debug__" : Str)) = false := by decide) (hcd : (x == ("__classdict__" : Str)) = false := by decide)
    (ha : ∀ v, assign (.Subscript (.Name x npos) ei apos) X.env v = (do
      let ov ← holding [v] (eval (.Name x npos) X.env)
      let iv ← holding [v, ov] (eval ei X.env)
      standAt apos
      holding [v, ov, iv] (setItem ov iv v)
      release [v, ov, iv] []) := by intro _; rfl)
    (hs : swapsWithSole [.Subscript (.Name x npos) ei apos] e pos.line X.env = pure false := by rfl) (hw : swappedStores [.Subscript (.Name x npos) ei apos] e X.env = pure none := by rfl)
    (h1 : (assignEach [.Subscript (.Name x npos) ei apos] X.env).map (·.2) = [assign (.Subscript (.Name x npos) ei apos) X.env] := by rfl) :
    SJ X W kr Lb L L (.Assign [.Subscript (.Name x npos) ei apos] e pos) (sPut i fi f) :=
  PS.imp (ps_asg he (pg_sub (pe_var hx' hv hd hcd) hi set_list ha) hs hw h1) fun Dn σ H ⟨ex0, Gs, ρ, fp, S, o⟩ => by
    unfold sPut at o
    cases hρ : ρ.getD i none with
    | none => rw [hρ] at o; exact o.elim
    | some d0 =>
      rw [hρ] at o
      cases d0 with
      | lst xs =>
        obtain ⟨a, vs, fps, g1, g2, g3, g4, g5⟩ := own_list S hρ hL
        obtain ⟨fe, pr⟩ := p3_zero g5
        have ha : a ∈ fp i := by rw [g4]; exact List.mem_cons_self
        refine ⟨_, ρ, fp, S.si, (flow_out S o).mono fun d q v H1 e1 rv => ⟨.ref a, g1, _, ρ, fp, S.si.same e1, ((flow_out S q).later e1).mono fun j qj vj H2 e2 rj => ?_⟩⟩
        rcases putN_get (xs := xs) (j := j) (d := d) (k := fun ys => Flow.next (ρ.set i (some (.lst ys)))) with hp | ⟨z, m, rfl, hz, hp⟩
        · rw [hp] at qj
          exact qj.elim
        · rw [hp] at qj
          have e12 := e1.trans e2
          have hH2 : H2 a = some (.lst vs) := e12 _ _ g2
          have hl : xs.length = vs.length := P3.length g5
          refine ⟨a, vs, z, m, rfl, rj.int, hH2, by rw [← hl]; exact hz, qj _ _ _ (S.upd1 e12 (i := i) (a := a) (vs := vs) (vs' := vs.set m v) (dN := .lst (xs.set m d)) (fqN := [a]) g1 ha g2 ?_ (List.nodup_cons.mpr ⟨List.not_mem_nil, List.nodup_nil⟩) fun b hb => .inl (by rw [List.mem_singleton.mp hb]; exact ha))⟩
          have kp := keep_upd (K := X.K) (ex := exOf fp ex0) (vs' := vs.set m v) e12 g2 (.inl ⟨i, ha⟩)
          have kp2 := keep_upd (K := X.K) (ex := exOf fp ex0) (vs' := vs.set m v) (Same.refl H2) hH2 (.inl ⟨i, ha⟩)
          have le := exOf_same (ex0 := ex0) (i := i) (g := [a]) (fp := fp) fun b hb => by rw [List.mem_singleton.mp hb]; exact ha
          have r2 : Paired (R X.K (exOf (fun j => if j = i then [a] else fp j) ex0) (L2.upd H2 a (.lst (vs.set m v)))) (xs.set m d) (vs.set m v) :=
            paired_set m (pr.mono fun p q r => R.keep kp (fun b h => .inl (le b h)) _ r) (R.keep kp2 (fun b h => .inl (le b h)) _ (R.keep (Keep.same e2) (fun b h => .inl h) _ rv))
          obtain ⟨fps', p3, fe'⟩ := of_pair r2
          rw [hL, RO]
          exact ⟨a, vs.set m v, fps', rfl, ⟨upd_same, by rw [List.length_set]; exact g3⟩, by rw [fe'], p3⟩
      | _ => exact o.elim
theorem sj_put2 (hx' : X.N[i]? = some x) (hv : Vis X.env.scope x) (hL : L.getD i 0 = 2) (he : EB X W L 0 e f) (hi : EB X W L n ei fi) (hj : EB X W L n2 ej fj) (hd : (x == ("__debug__" : Str)) = false := by decide) (hcd : (x == ("__classdict__" : Str)) = false := by decide)
    (hpx : PlainIx ei := by intro _ _; rfl)
    (ha : ∀ v, assign (.Subscript (.Subscript (.Name x npos) ei apos) ej bpos) X.env v = (do
      let ov ← holding [v] (eval (.Subscript (.Name x npos) ei apos) X.env)
      let iv ← holding [v, ov] (eval ej X.env)
      standAt bpos
      holding [v, ov, iv] (setItem ov iv v)
      release [v, ov, iv] []) := by intro _; rfl)
    (hs : swapsWithSole [.Subscript (.Subscript (.Name x npos) ei apos) ej bpos] e pos.line X.env = pure false := by rfl) (hw : swappedStores [.Subscript (.Subscript (.Name x npos) ei apos) ej bpos] e X.env = pure none := by rfl)
    (h1 : (assignEach [.Subscript (.Subscript (.Name x npos) ei apos) ej bpos] X.env).map (·.2) = [assign (.Subscript (.Subscript (.Name x npos) ei apos) ej bpos) X.env] := by rfl) :
    SJ X W kr Lb L L (.Assign [.Subscript (.Subscript (.Name x npos) ei apos) ej bpos] e pos) (sPut2 i fi fj f) :=
  PS.imp (ps_asg he (pg_sub (pe_ix ix_seq (pe_var hx' hv hd hcd) hi hpx) hj set_list ha) hs hw h1) fun Dn σ H ⟨ex0, Gs, ρ, fp, S, o⟩ => by
    unfold sPut2 at o
    cases hρ : ρ.getD i none with
    | none => rw [hρ] at o; exact o.elim
    | some d0 =>
      rw [hρ] at o
      cases d0 with
      | lst rows =>
        obtain ⟨a, vs, fps, g1, g2, g3, g4, g5⟩ := own_list S hρ hL
        have ha : a ∈ fp i := by rw [g4]; exact List.mem_cons_self
        have nd := S.si.nod i
        rw [g4] at nd
        obtain ⟨na, nd2⟩ := List.nodup_cons.mp nd
        refine ⟨_, ρ, fp, S.si, (flow_out S o).mono fun d q v H1 e1 rv => ⟨.ref a, g1, _, ρ, fp, S.si.same e1, ((flow_out S q).later e1).mono fun p qp vp H2 e2 rp => ?_⟩⟩
        rcases rowAt_get (rows := rows) (a := p) (k := fun m xs => (fj ρ).flow ρ fun b => putN xs b d fun ys => Flow.next (ρ.set i (some (.lst (rows.set m (.lst ys)))))) with hp | ⟨z, m, xs, rfl, hz, hr, hp⟩
        · rw [hp] at qp
          exact qp.elim
        · rw [hp] at qp
          have e12 := e1.trans e2
          have hl : rows.length = vs.length := P3.length g5
          -- the row as it stands at first
          obtain ⟨v0, g0, hv0, r0, _⟩ := p3_put (K := X.K) (ex := exOf fp ex0) (ex' := exOf fp ex0) (H := H) (H' := H) (Keep.same (Same.refl H)) (fun b h => .inl h) g5 nd2 hr
          rw [RO] at r0
          obtain ⟨b, ws, gs, rfl, ⟨hb0, hbl⟩, hg0, r0⟩ := r0
          have atv : atI vs z = some (.ref b) := by
            unfold atI
            rw [← hl, hz]
            exact hv0
          refine .inl ⟨a, vs, z, _, rfl, rp.int, .inl (.inl (e12 _ _ g2)), atv, _, ρ, fp, S.si.same e12, ((flow_out S qp).later e12).mono fun j qj vj H3 e3 rj => ?_⟩
          have e13 := e12.trans e3
          rcases putN_get (xs := xs) (j := j) (d := d) (k := fun ys => Flow.next (ρ.set i (some (.lst (rows.set m (.lst ys)))))) with hp | ⟨z2, m2, rfl, hz2, hp⟩
          · rw [hp] at qj
            exact qj.elim
          · rw [hp] at qj
            obtain ⟨fe, pr⟩ := p3_zero r0
            rw [fe] at hg0
            have hH3 : H3 b = some (.lst ws) := e13 _ _ hb0
            have hlx : xs.length = ws.length := P3.length r0
            have hbi : b ∈ fp i := by
              obtain ⟨v1, g1', hv1, r1, sub, _⟩ := p3_put (K := X.K) (ex := exOf fp ex0) (ex' := exOf fp ex0) (H := H) (H' := H) (Keep.same (Same.refl H)) (fun b h => .inl h) g5 nd2 hr
              rw [hv0] at hv1
              cases hv1
              rw [RO] at r1
              obtain ⟨b', ws', gs', e', _, hg', _⟩ := r1
              cases e'
              rw [g4]
              exact List.mem_cons_of_mem _ (sub _ (by rw [hg']; exact List.mem_cons_self))
            have kp := keep_upd (K := X.K) (ex := exOf fp ex0) (vs' := ws.set m2 v) e13 hb0 (.inl ⟨i, hbi⟩)
            have kp2 := keep_upd (K := X.K) (ex := exOf fp ex0) (vs' := ws.set m2 v) (Same.refl H3) hH3 (.inl ⟨i, hbi⟩)
            have le := exOf_same (ex0 := ex0) (i := i) (g := fp i) (fp := fp) fun c hc => hc
            have hba : b ≠ a := fun q => na (by
              rw [← q]
              rw [g4] at hbi
              rcases List.mem_cons.mp hbi with h | h
              · obtain ⟨v1, g1', hv1, r1, sub, _⟩ := p3_put (K := X.K) (ex := exOf fp ex0) (ex' := exOf fp ex0) (H := H) (H' := H) (Keep.same (Same.refl H)) (fun b h => .inl h) g5 nd2 hr
                rw [hv0] at hv1
                cases hv1
                rw [RO] at r1
                obtain ⟨b', ws', gs', e', _, hg', _⟩ := r1
                cases e'
                exact sub _ (by rw [hg']; exact List.mem_cons_self)
              · exact h)
            refine ⟨b, ws, z2, m2, rfl, rj.int, hH3, by rw [← hlx]; exact hz2, qj _ _ _ (S.upd1 e13 (i := i) (a := b) (vs := ws) (vs' := ws.set m2 v) (dN := .lst (rows.set m (.lst (xs.set m2 d)))) (fqN := fp i) g1 hbi hb0 ?_ (S.si.nod i) fun c hc => .inl hc)⟩
            have r2 : Paired (R X.K (exOf (fun j => if j = i then fp i else fp j) ex0) (L2.upd H3 b (.lst (ws.set m2 v)))) (xs.set m2 d) (ws.set m2 v) :=
              paired_set m2 (pr.mono fun p q r => R.keep kp (fun b h => .inl (le b h)) _ r) (R.keep kp2 (fun b h => .inl (le b h)) _ (R.keep (Keep.same (e2.trans e3)) (fun b h => .inl h) _ rv))
            obtain ⟨gs', p3', fe'⟩ := of_pair r2
            obtain ⟨v1, g1', hv1, r1, sub, fin⟩ := p3_put (K := X.K) kp (fun b h => .inl (le b h)) g5 nd2 hr
            rw [hv0] at hv1
            cases hv1
            have hg1 : g1' = [b] := by
              rw [RO] at r1
              obtain ⟨b', ws', gs'', e', _, hg', r1⟩ := r1
              cases e'
              rw [hg', (p3_zero r1).1]
            rw [hL, RO]
            refine ⟨a, vs, fps, rfl, ⟨by rw [upd_ne (fun q => hba q.symm)]; exact e13 _ _ g2, g3⟩, g4, fin _ (fun c hc hn o hq => ?_) ?_⟩
            · have hcb : c ≠ b := fun q => hn (by rw [hg1, q]; exact List.mem_singleton_self b)
              rw [upd_ne hcb]
              exact e13 _ _ hq
            · rw [hg1, RO]
              exact ⟨b, ws.set m2 v, gs', rfl, ⟨upd_same, by rw [List.length_set]; exact hbl⟩, by rw [fe'], p3'⟩
      | _ => exact o.elim
end
end Px

namespace L2
open PySem PySem.Spec PyProof.Rows
/-- t * 1: the tuple itself -/
theorem tuple_mul1 (l : Addr) (items : Array Value) (n : Nat) (dd : Option Addr) (sl : Array (Option Value)) (u : Tok) :
    Meets (Builtin.«tuple.__mul__» ⟨[.ref l, .int 1 u], []⟩) (fun _ R s => s.heap.get? l = some { cls := .type "tuple", dict := dd, data := .seq items n, slots := sl } ∧ R (.ok (.ret (Value.ref l))) s) :=
  .of_wp fun prog w A R s h => by
    obtain ⟨hp, g, d, tk, os⟩ := s
    obtain ⟨hl, h⟩ := h
    have f1 := AutoSeq1.idx_int
    wp_walk using wpAny_loadPart' hl
    repeat (first
      | (refine wpAny_ite_false (decide_eq_false (by decide)) ?_; wp_walk using wpAny_loadPart' hl)
      | (refine wpAny_ite_true (decide_eq_true (by simp)) ?_; wp_walk using wpAny_loadPart' hl))
    exact ⟨_, rfl, h⟩
section
variable {X : Cx}
theorem op_repT1 : OpR X (binaryOp .Mult) (fun x y H Q => ∃ l xs, x = .ref l ∧ y = .int 1 ∧ SqT X.K H l xs ∧ Q (.ref l) H) := by
  intro pins s σ H x y v u Q I rx ry h
  obtain ⟨l, xs, rfl, rfl, hT, q⟩ := h
  cases rx
  obtain ⟨t, rfl⟩ := ry
  obtain ⟨its, r, ⟨⟨cls, dd, data, sl⟩, ho, hc, n, hd⟩, hs⟩ := I.tuple hT
  simp only at hc hd
  subst hc hd
  refine wpAny_binaryOp_repeat_ref (T := "tuple") (U := "int") (by decide) ⟨_, ho, rfl⟩ (fun s' => typeIs_int s' 1 t) noFill_tuple_mul F.fills_int_mul F.slot_int_rmul repeat_tuple F.slot_int_index.lookup
    (call_meets F.slot_int_rmul (typeIs_int s 1 t) F.entry_int_rmul (F.args_int_rmul_2 _ _) (int_rmul_tuple 1 t l its.toArray n dd sl)
      ⟨ho, rfl, ⟨_, ho, rfl⟩, call_meets F.slot_tuple_mul ⟨_, ho, rfl⟩ F.entry_tuple_mul (F.args_tuple_mul_2 _ _) (tuple_mul1 l its.toArray n dd sl t) ⟨ho, ?_⟩⟩)
  exact ⟨.ref l, H, I, rfl, q⟩
end
end L2
namespace Px
open PySem PySem.Spec PyProof.Rows L2
theorem paired_rep {α β : Type} {F : α → β → Prop} {as : List α} {bs : List β} (h : Paired F as bs) : ∀ n : Nat, Paired F (List.replicate n as).flatten (List.replicate n bs).flatten
  | 0 => .nil
  | n + 1 => by
    rw [List.replicate_succ, List.replicate_succ, List.flatten_cons, List.flatten_cons]
    exact Paired.app h (paired_rep h n)
theorem rep_len {α : Type} (as : List α) : ∀ n : Nat, (List.replicate n as).flatten.length = n * as.length
  | 0 => by simp
  | n + 1 => by rw [List.replicate_succ, List.flatten_cons, List.length_append, rep_len as n, Nat.succ_mul, Nat.add_comm]
/-- times: of ints, of a tuple and an int -/
def dMulT : D → D → Res D
  | .tup xs, .int j => if 0 < xs.length ∧ xs.length ≤ 1000 ∧ 1 ≤ j ∧ j ≤ 1000 then .ok (.tup (List.replicate j.toNat xs).flatten) else .err
  | .int i, .int j => dMul (.int i) (.int j)
  | _, _ => .err
theorem dMulT_nx : NoX2 dMulT := fun a b c h => by
  unfold dMulT at h
  split at h
  · split at h <;> cases h
  · exact dMul_nx _ _ _ h
  · cases h
section
variable {X : Cx} {n m k : Nat}
theorem o_mulT : Op2 X n m k (binaryOp .Mult) dMulT := fun pins s σ H x y v u Q I rx ry h => by
  obtain ⟨ex, d1, d2, d, ext, r1, r2, e, q⟩ := h
  unfold dMulT at e
  split at e
  · split at e
    · rename_i xs j hc
      cases e
      obtain ⟨l, vs, rfl, h1, z1, p1⟩ := r1.tup
      have hl : xs.length = vs.length := p1.length
      by_cases h2 : 2 ≤ j
      · refine L2.op_repT pins s σ H _ _ v u Q I rx ry ⟨l, j, vs, rfl, r2.int, h1, fun e => ?_, h2, hc.2.2.2, by omega, fun p hp => q.tup (paired_rep p1 _) hp ?_⟩
        · rw [e] at hl
          have := hc.1
          simp at hl
          rw [hl] at this
          simp at this
        · rw [rep_len, line_eq, ← hl]
          have : j.toNat * xs.length ≤ 1000 * 1000 := Nat.mul_le_mul (by omega) hc.2.1
          omega
      · have hj : j = 1 := by omega
        subst hj
        have ee : (List.replicate ((1 : Int)).toNat xs).flatten = xs := by
          show (List.replicate 1 xs).flatten = xs
          simp
        rw [ee] at q
        exact L2.op_repT1 pins s σ H _ _ v u Q I rx ry ⟨l, vs, rfl, r2.int, h1, q.flat (by rw [R]; exact ⟨l, vs, rfl, ⟨h1, z1⟩, RL.of p1⟩) rfl⟩
    · cases e
  · exact o_mul (n := n) (m := m) pins s σ H x y v u Q I rx ry ⟨ex, _, _, d, ext, r1, r2, e, q⟩
  · cases e
end
end Px

namespace K
open PySem PySem.Spec PyProof.Rows L2 Px
/-! _law_draws -/
def B__law_draws_2 : SF := (sSeq (sIf (eUn asB (eOp (dCmpI iGt) (eVar 5) (eC (.int 0)))) (sSeq (sAppend 2 (eOp dMod (eCall fInt (aCons (eVar 5) aNil)) (eC (.int 1009))))
  (sSet 5 (eOp dDiv (eVar 5) (eC (.int 1009))))) sNext)
  (sKill [6] sNext))
def B__law_draws_1 : SF := (sSeq (sSet 5 (eCall fAbs (aCons (eVar 4) aNil)))
  (sSeq (sSet 3 (eOp dMod (eCall fInt (aCons (eOp dAdd (eOp dAdd (eOp dMul (eVar 3) (eC (.int 48271))) (eVar 5)) (eC (.int 11))) aNil)) (eC (.int 2147483647))))
  (sSeq (sIf (eUn asB (eOp (dCmpI iGe) (eVar 5) (eOp dPow (eC (.int 10)) (eC (.int 18))))) (sSeq (sFor (iCall dRng1 (aCons (eC (.int 60)) aNil)) (gfName 6)
  B__law_draws_2)
  (sKill [5, 6] sNext)) (sAppend 2 (eOp dMod (eOp dDiv (eCall fInt (aCons (eOp dAdd (eOp dMul (eVar 3) (eC (.int 16807))) (eC (.int 5))) aNil)) (eC (.int 3))) (eC (.int 65521)))))
  (sKill [4, 5, 6] sNext))))
def B__law_draws_3 : SF := (sSeq (sIf (eUn asB (eOp (dCmpI iLt) (eCall fLen (aCons (eVar 2) aNil)) (eVar 1))) (sSeq (sSet 3 (eOp dMod (eCall fInt (aCons (eOp dAdd (eOp dAdd (eOp dMul (eVar 3) (eC (.int 69621))) (eVar 6)) (eC (.int 1))) aNil)) (eC (.int 2147483647))))
  (sAppend 2 (eOp dMod (eOp dDiv (eCall fInt (aCons (eVar 3) aNil)) (eC (.int 7))) (eC (.int 65521))))) sNext)
  (sKill [6] sNext))
def F__law_draws : SF := (sSeq (sSet 2 (eC (.lst [])))
  (sSeq (sSet 3 (eC (.int 7)))
  (sSeq (sFor (iSeq (eSl (eVar 0) oNone (oSome (eC (.int 63))))) (gfName 4)
  B__law_draws_1)
  (sKill [4, 5, 6] (sSeq (sFor (iCall dRng1 (aCons (eVar 1) aNil)) (gfName 6)
  B__law_draws_3)
  (sKill [3, 6] (sRet (eSl (eVar 2) oNone (oSome (eVar 1))))))))))
def C__law_draws : List D → Res D := fnE 7 F__law_draws
/-! _law_size -/
def B__law_size_1 : SF := (sPar [1, 0] [(eOp dAdd (eVar 1) (eC (.int 1))), (eOp dDiv (eVar 0) (eC (.int 128)))])
def F__law_size : SF := (sSeq (sSet 1 (eC (.int 1)))
  (sSeq (sWhile 100000 (eUn asB (eOp (dCmpI iGt) (eVar 0) (eC (.int 127))))
  B__law_size_1)
  (sKill [0] (sRet (eVar 1)))))
def C__law_size : List D → Res D := fnE 2 F__law_size
/-! _law_cost -/
def F__law_cost : SF := (sSeq (sIf (eUn asB (eOp (dEq) (eOp dIx (eVar 0) (eC (.int 0))) (eC (.str "copy")))) (sRet (eOp dAdd (eOp dAdd (eC (.int 1)) (eCall C__law_size (aCons (eOp dIx (eVar 0) (eC (.int 1))) aNil))) (eCall C__law_size (aCons (eOp dIx (eVar 0) (eC (.int 2))) aNil)))) sNext)
  (sRet (eOp dAdd (eOp dAdd (eC (.int 1)) (eCall C__law_size (aCons (eCall fLen (aCons (eOp dIx (eVar 0) (eC (.int 1))) aNil)) aNil))) (eCall fLen (aCons (eOp dIx (eVar 0) (eC (.int 1))) aNil)))))
def C__law_cost : List D → Res D := fnE 1 F__law_cost
/-! _law_steps -/
def B__law_steps_2 : SF := (sSeq (sAppend 4 (eTup (aCons (eCall C__law_cost (aCons (eTup (aCons (eC (.str "put")) (aCons (eSl (eVar 1) (oSome (eVar 3)) (oSome (eVar 5))) aNil))) aNil)) (aCons (eVar 5) aNil))))
  (sSeq (sSet 6 (eLc (iCall dRng1 (aCons (eCall fLen (aCons (eVar 0) aNil)) aNil)) [7] (gfName 7) (eUn asB (eOp (dEq) (eSl (eVar 0) (oSome (eVar 7)) (oSome (eOp dSub (eOp dAdd (eVar 7) (eVar 5)) (eVar 3)))) (eSl (eVar 1) (oSome (eVar 3)) (oSome (eVar 5))))) (eVar 7)))
  (sSeq (sIf (eUn asB (eOp (dCmpI iGt) (eCall fLen (aCons (eVar 6) aNil)) (eC (.int 0)))) (sAppend 4 (eTup (aCons (eCall C__law_cost (aCons (eTup (aCons (eC (.str "copy")) (aCons (eOp dIx (eVar 6) (eC (.int 0))) (aCons (eOp dSub (eVar 5) (eVar 3)) aNil)))) aNil)) (aCons (eVar 5) aNil)))) sNext)
  (sKill [5, 6] sNext))))
def B__law_steps_1 : SF := (sSeq (sSet 4 (eC (.lst [])))
  (sSeq (sFor (iCall dRng2 (aCons (eOp dAdd (eVar 3) (eC (.int 1))) (aCons (eOp dAdd (eCall fLen (aCons (eVar 1) aNil)) (eC (.int 1))) aNil))) (gfName 5)
  B__law_steps_2)
  (sKill [5, 6] (sSeq (sAppend 2 (eVar 4))
  (sKill [3, 4, 5, 6] sNext)))))
def F__law_steps : SF := (sSeq (sSet 2 (eC (.lst [])))
  (sSeq (sFor (iCall dRng1 (aCons (eCall fLen (aCons (eVar 1) aNil)) aNil)) (gfName 3)
  B__law_steps_1)
  (sKill [3, 4, 5, 6] (sRet (eVar 2)))))
def C__law_steps : List D → Res D := fnE 8 F__law_steps
/-! _law_prices -/
def B__law_prices_1 : SF := (sSeq (sSet 1 (eOp dAdd (eLst (aCons (eCall fMin (aCons (eLc (iSeq (eOp dIx (eVar 0) (eVar 2))) [3, 4] (gfTup [3, 4]) bYes (eOp dAdd (eVar 3) (eOp dIx (eVar 1) (eOp dSub (eOp dSub (eVar 4) (eVar 2)) (eC (.int 1)))))) aNil)) aNil)) (eVar 1)))
  (sKill [2] sNext))
def F__law_prices : SF := (sSeq (sSet 1 (eLst (aCons (eC (.int 0)) aNil)))
  (sSeq (sFor (iCall dRng3 (aCons (eOp dSub (eCall fLen (aCons (eVar 0) aNil)) (eC (.int 1))) (aCons (eUn dNeg (eC (.int 1))) (aCons (eUn dNeg (eC (.int 1))) aNil)))) (gfName 2)
  B__law_prices_1)
  (sKill [2] (sRet (eCall fTuple (aCons (eVar 1) aNil))))))
def C__law_prices : List D → Res D := fnE 5 F__law_prices
/-! is_whole -/
def F_is_whole : SF := (sRet (eAnd (eUn (dIsi isInt) (eVar 0)) (eAnd (eNot (eUn (dIsi isBool) (eVar 0))) (eOp (dCmpI iGe) (eVar 0) (eC (.int 0))))))
def C_is_whole : List D → Res D := fnE 1 F_is_whole
/-! is_row -/
def F_is_row : SF := (sRet (eAnd (eUn (dIsi isTup) (eVar 0)) (eCall fAll (aCons (eLc (iSeq (eVar 0)) [1] (gfName 1) bYes (eAnd (eCall C_is_whole (aCons (eVar 1) aNil)) (eOp (dCmpI iLt) (eVar 1) (eC (.int 256))))) aNil))))
def C_is_row : List D → Res D := fnE 2 F_is_row
/-! check_rows -/
def F_check_rows : SF := (sIf (bNot (eUn dTru (eCall fAll (aCons (eLc (iSeq (eVar 0)) [1] (gfName 1) bYes (eCall C_is_row (aCons (eVar 1) aNil))) aNil)))) (sRaise "BadOctets") sNext)
def C_check_rows : List D → Res D := fnE 2 F_check_rows
/-! _check -/
def F__check : SF := (sSeq (sDrop (eCall C_check_rows (aCons (eLst (aCons (eVar 0) (aCons (eVar 1) aNil))) aNil)))
  (sIf (eUn asB (eOp (dCmpI iGt) (eCall fMax (aCons (eCall fLen (aCons (eVar 0) aNil)) (aCons (eCall fLen (aCons (eVar 1) aNil)) aNil))) (eC (.int 60)))) (sRaise "TooMany") sNext))
def C__check : List D → Res D := fnE 2 F__check
/-! _alike -/
def B__alike_2 : SF := (sSeq (sIf (eUn asB (eOp (dEq) (eOp dIx (eVar 0) (eVar 3)) (eOp dIx (eVar 1) (eVar 4)))) (sPut2 2 (eVar 3) (eVar 4) (eOp dAdd (eOp dIx (eOp dIx (eVar 2) (eOp dAdd (eVar 3) (eC (.int 1)))) (eOp dAdd (eVar 4) (eC (.int 1)))) (eC (.int 1)))) sNext)
  (sKill [4] sNext))
def B__alike_1 : SF := (sSeq (sFor (iCall dRng3 (aCons (eOp dSub (eCall fLen (aCons (eVar 1) aNil)) (eC (.int 1))) (aCons (eUn dNeg (eC (.int 1))) (aCons (eUn dNeg (eC (.int 1))) aNil)))) (gfName 4)
  B__alike_2)
  (sKill [4] (sKill [3, 4] sNext)))
def F__alike : SF := (sSeq (sSet 2 (eLc (iCall dRng1 (aCons (eOp dAdd (eCall fLen (aCons (eVar 0) aNil)) (eC (.int 1))) aNil)) [5] (gfName 5) bYes (eOp dRep (eLst (aCons (eC (.int 0)) aNil)) (eOp dAdd (eCall fLen (aCons (eVar 1) aNil)) (eC (.int 1))))))
  (sSeq (sFor (iCall dRng3 (aCons (eOp dSub (eCall fLen (aCons (eVar 0) aNil)) (eC (.int 1))) (aCons (eUn dNeg (eC (.int 1))) (aCons (eUn dNeg (eC (.int 1))) aNil)))) (gfName 3)
  B__alike_1)
  (sKill [3, 4] (sRet (eVar 2)))))
def C__alike : List D → Res D := fnE 6 F__alike
/-! written -/
def B_written_1 : SF := (sSeq (sAppend 1 (eOp dAdd (eOp dMod (eVar 0) (eC (.int 128))) (eC (.int 128))))
  (sAug dDiv 0 (eC (.int 128))))
def F_written : SF := (sSeq (sSet 1 (eC (.lst [])))
  (sSeq (sWhile 100000 (eUn asB (eOp (dCmpI iGe) (eVar 0) (eC (.int 128))))
  B_written_1)
  (sRet (eOp dAdd (eCall fTuple (aCons (eVar 1) aNil)) (eTup (aCons (eVar 0) aNil))))))
def C_written : List D → Res D := fnE 2 F_written
/-! _put_cost -/
def F__put_cost : SF := (sRet (eOp dAdd (eOp dAdd (eC (.int 1)) (eCall fLen (aCons (eCall C_written (aCons (eVar 0) aNil)) aNil))) (eVar 0)))
def C__put_cost : List D → Res D := fnE 1 F__put_cost
/-! _copy_cost -/
def F__copy_cost : SF := (sRet (eOp dAdd (eOp dAdd (eC (.int 1)) (eCall fLen (aCons (eCall C_written (aCons (eVar 0) aNil)) aNil))) (eCall fLen (aCons (eCall C_written (aCons (eVar 1) aNil)) aNil))))
def C__copy_cost : List D → Res D := fnE 2 F__copy_cost
/-! _pieces -/
def B__pieces_1 : SF := (sSeq (sAppend 4 (eTup (aCons (eCall C__put_cost (aCons (eVar 5) aNil)) (aCons (eOp dAdd (eVar 3) (eVar 5)) (aCons (eTup (aCons (eC (.str "put")) (aCons (eSl (eVar 1) (oSome (eVar 3)) (oSome (eOp dAdd (eVar 3) (eVar 5)))) aNil))) aNil)))))
  (sKill [5] sNext))
def B__pieces_3 : SF := (sSeq (sAppend 4 (eTup (aCons (eCall C__copy_cost (aCons (eVar 6) (aCons (eVar 5) aNil))) (aCons (eOp dAdd (eVar 3) (eVar 5)) (aCons (eTup (aCons (eC (.str "copy")) (aCons (eVar 6) (aCons (eVar 5) aNil)))) aNil)))))
  (sKill [5] sNext))
def B__pieces_2 : SF := (sSeq (sFor (iCall dRng2 (aCons (eC (.int 1)) (aCons (eOp dAdd (eOp dIx (eOp dIx (eVar 2) (eVar 6)) (eVar 3)) (eC (.int 1))) aNil))) (gfName 5)
  B__pieces_3)
  (sKill [5] (sKill [5, 6] sNext)))
def F__pieces : SF := (sSeq (sSet 4 (eC (.lst [])))
  (sSeq (sFor (iCall dRng2 (aCons (eC (.int 1)) (aCons (eOp dAdd (eOp dSub (eCall fLen (aCons (eVar 1) aNil)) (eVar 3)) (eC (.int 1))) aNil))) (gfName 5)
  B__pieces_1)
  (sKill [5] (sSeq (sFor (iCall dRng1 (aCons (eCall fLen (aCons (eVar 0) aNil)) aNil)) (gfName 6)
  B__pieces_2)
  (sKill [5, 6] (sRet (eVar 4)))))))
def C__pieces : List D → Res D := fnE 7 F__pieces
/-! least_delta -/
def B_least_delta_2 : SF := (sSeq (sIf (bOr (eUn asB (eOp (dIs) (eOp dIx (eVar 4) (eVar 5)) (eC .non))) (eUn asB (eOp (dCmpI iLt) (eOp dAdd (eVar 6) (eOp dIx (eVar 3) (eVar 7))) (eOp dIx (eVar 3) (eVar 5))))) (sSeq (sPut 3 (eVar 5) (eOp dAdd (eVar 6) (eOp dIx (eVar 3) (eVar 7))))
  (sPut 4 (eVar 5) (eTup (aCons (eVar 7) (aCons (eVar 8) aNil))))) sNext)
  (sKill [6, 7, 8] sNext))
def B_least_delta_1 : SF := (sSeq (sFor (iSeq (eCall C__pieces (aCons (eVar 0) (aCons (eVar 1) (aCons (eVar 2) (aCons (eVar 5) aNil)))))) (gfTup [6, 7, 8])
  B_least_delta_2)
  (sKill [6, 7, 8] (sKill [5, 6, 7, 8] sNext)))
def B_least_delta_3 : SF := (sSeq (sUnp (gfTup [5, 8]) (eOp dIx (eVar 4) (eVar 5)))
  (sSeq (sAppend 9 (eVar 8))
  (sKill [8] sNext)))
def F_least_delta : SF := (sSeq (sDrop (eCall C__check (aCons (eVar 0) (aCons (eVar 1) aNil))))
  (sSeq (sSet 2 (eCall C__alike (aCons (eVar 0) (aCons (eVar 1) aNil))))
  (sSeq (sSet 3 (eOp dRep (eLst (aCons (eC (.int 0)) aNil)) (eOp dAdd (eCall fLen (aCons (eVar 1) aNil)) (eC (.int 1)))))
  (sSeq (sSet 4 (eOp dRep (eLst (aCons (eC .non) aNil)) (eCall fLen (aCons (eVar 1) aNil))))
  (sSeq (sFor (iCall dRng3 (aCons (eOp dSub (eCall fLen (aCons (eVar 1) aNil)) (eC (.int 1))) (aCons (eUn dNeg (eC (.int 1))) (aCons (eUn dNeg (eC (.int 1))) aNil)))) (gfName 5)
  B_least_delta_1)
  (sKill [5, 6, 7, 8] (sSeq (sSet 9 (eC (.lst [])))
  (sSeq (sSet 5 (eC (.int 0)))
  (sSeq (sWhile 100000 (eUn asB (eOp (dCmpI iLt) (eVar 5) (eCall fLen (aCons (eVar 1) aNil))))
  B_least_delta_3)
  (sKill [5, 8] (sRet (eTup (aCons (eOp dIx (eVar 3) (eC (.int 0))) (aCons (eCall fTuple (aCons (eVar 9) aNil)) (aCons (eCall fTuple (aCons (eVar 3) aNil)) aNil)))))))))))))))
def C_least_delta : List D → Res D := fnE 10 F_least_delta
/-! _law_is_row -/
def F__law_is_row : SF := (sRet (eAnd (eUn (dIsi isTup) (eVar 0)) (eCall fAll (aCons (eLc (iSeq (eVar 0)) [1] (gfName 1) bYes (eAnd (eUn (dIsi isInt) (eVar 1)) (eAnd (eNot (eUn (dIsi isBool) (eVar 1))) (eChain (dCmpI iLe) (dCmpI iLt) (eC (.int 0)) (eVar 1) (eC (.int 256)))))) aNil))))
def C__law_is_row : List D → Res D := fnE 2 F__law_is_row
/-! _law_fault -/
def B__law_fault_1 : SF := (sSeq (sIf (bOr (bNot (eUn dTru (eUn (dIsi isTup) (eVar 2)))) (bOr (eUn asB (eOp (dNotIn) (eCall fLen (aCons (eVar 2) aNil)) (eTup (aCons (eC (.int 2)) (aCons (eC (.int 3)) aNil))))) (bOr (bNot (eUn dTru (eUn (dIsi isStr) (eOp dIx (eVar 2) (eC (.int 0)))))) (eUn asB (eOp (dNe) (eOp dIx (eVar 2) (eC (.int 0))) (eDLit (((eC (.int 2)), (eC (.str "put"))) :: (((eC (.int 3)), (eC (.str "copy"))) :: [])) (eCall fLen (aCons (eVar 2) aNil)))))))) (sRet (eC (.str "form"))) sNext)
  (sSeq (sIf (bAnd (eUn asB (eOp (dEq) (eCall fLen (aCons (eVar 2) aNil)) (eC (.int 2)))) (bOr (bNot (eUn dTru (eCall C__law_is_row (aCons (eOp dIx (eVar 2) (eC (.int 1))) aNil)))) (eUn asB (eOp (dEq) (eOp dIx (eVar 2) (eC (.int 1))) (eTup aNil))))) (sRet (eC (.str "form"))) sNext)
  (sSeq (sIf (bAnd (eUn asB (eOp (dEq) (eCall fLen (aCons (eVar 2) aNil)) (eC (.int 3)))) (bOr (bNot (eUn dTru (eCall fAll (aCons (eLc (iSeq (eSl (eVar 2) (oSome (eC (.int 1))) oNone)) [5] (gfName 5) bYes (eAnd (eUn (dIsi isInt) (eVar 5)) (eAnd (eNot (eUn (dIsi isBool) (eVar 5))) (eOp (dCmpI iGe) (eVar 5) (eC (.int 0)))))) aNil)))) (eUn asB (eOp (dEq) (eOp dIx (eVar 2) (eC (.int 2))) (eC (.int 0)))))) (sRet (eC (.str "form"))) sNext)
  (sKill [2] sNext))))
def F__law_fault : SF := (sSeq (sIf (bNot (eUn dTru (eUn (dIsi isTup) (eVar 1)))) (sRet (eC (.str "form"))) sNext)
  (sSeq (sFor (iSeq (eVar 1)) (gfName 2)
  B__law_fault_1)
  (sKill [2] (sSeq (sSet 3 (eLc (iCall dRng1 (aCons (eCall fLen (aCons (eVar 1) aNil)) aNil)) [4] (gfName 4) (bAnd (eUn asB (eOp (dEq) (eOp dIx (eOp dIx (eVar 1) (eVar 4)) (eC (.int 0))) (eC (.str "copy")))) (eUn asB (eOp (dCmpI iGt) (eOp dAdd (eOp dIx (eOp dIx (eVar 1) (eVar 4)) (eC (.int 1))) (eOp dIx (eOp dIx (eVar 1) (eVar 4)) (eC (.int 2)))) (eCall fLen (aCons (eVar 0) aNil))))) (eVar 4)))
  (sRet (eIf (eUn asB (eOp (dCmpI iGt) (eCall fLen (aCons (eVar 3) aNil)) (eC (.int 0)))) (eOp dIx (eVar 3) (eC (.int 0))) (eC .non)))))))
def C__law_fault : List D → Res D := fnE 6 F__law_fault
/-! _law_made -/
def B__law_made_1 : SF := (sSeq (sSet 2 (eOp dAdd (eVar 2) (eIf (eUn asB (eOp (dEq) (eOp dIx (eVar 3) (eC (.int 0))) (eC (.str "copy")))) (eSl (eVar 0) (oSome (eOp dIx (eVar 3) (eC (.int 1)))) (oSome (eOp dAdd (eOp dIx (eVar 3) (eC (.int 1))) (eOp dIx (eVar 3) (eC (.int 2)))))) (eOp dIx (eVar 3) (eC (.int 1))))))
  (sKill [3] sNext))
def F__law_made : SF := (sSeq (sSet 2 (eTup aNil))
  (sSeq (sFor (iSeq (eVar 1)) (gfName 3)
  B__law_made_1)
  (sKill [3] (sRet (eVar 2)))))
def C__law_made : List D → Res D := fnE 4 F__law_made
/-! _is_piece -/
def F__is_piece : SF := (sSeq (sIf (bOr (bNot (eUn dTru (eUn (dIsi isTup) (eVar 0)))) (bOr (eUn asB (eOp (dEq) (eCall fLen (aCons (eVar 0) aNil)) (eC (.int 0)))) (bNot (eUn dTru (eUn (dIsi isStr) (eOp dIx (eVar 0) (eC (.int 0)))))))) (sRet (eC (.bl false))) sNext)
  (sSeq (sIf (bAnd (eUn asB (eOp (dEq) (eOp dIx (eVar 0) (eC (.int 0))) (eC (.str "copy")))) (eUn asB (eOp (dEq) (eCall fLen (aCons (eVar 0) aNil)) (eC (.int 3))))) (sRet (eAnd (eCall C_is_whole (aCons (eOp dIx (eVar 0) (eC (.int 1))) aNil)) (eAnd (eCall C_is_whole (aCons (eOp dIx (eVar 0) (eC (.int 2))) aNil)) (eOp (dCmpI iGt) (eOp dIx (eVar 0) (eC (.int 2))) (eC (.int 0)))))) sNext)
  (sRet (eAnd (eOp (dEq) (eOp dIx (eVar 0) (eC (.int 0))) (eC (.str "put"))) (eAnd (eOp (dEq) (eCall fLen (aCons (eVar 0) aNil)) (eC (.int 2))) (eAnd (eCall C_is_row (aCons (eOp dIx (eVar 0) (eC (.int 1))) aNil)) (eOp (dCmpI iGt) (eCall fLen (aCons (eOp dIx (eVar 0) (eC (.int 1))) aNil)) (eC (.int 0)))))))))
def C__is_piece : List D → Res D := fnE 1 F__is_piece
/-! _is_delta -/
def F__is_delta : SF := (sRet (eAnd (eUn (dIsi isTup) (eVar 0)) (eCall fAll (aCons (eLc (iSeq (eVar 0)) [1] (gfName 1) bYes (eCall C__is_piece (aCons (eVar 1) aNil))) aNil))))
def C__is_delta : List D → Res D := fnE 2 F__is_delta
/-! delta_fault -/
def B_delta_fault_1 : SF := (sSeq (sIf (bAnd (eUn asB (eOp (dEq) (eOp dIx (eVar 3) (eC (.int 0))) (eC (.str "copy")))) (eUn asB (eOp (dCmpI iGt) (eOp dAdd (eOp dIx (eVar 3) (eC (.int 1))) (eOp dIx (eVar 3) (eC (.int 2)))) (eCall fLen (aCons (eVar 0) aNil))))) (sRet (eVar 2)) sNext)
  (sKill [2, 3] sNext))
def F_delta_fault : SF := (sSeq (sDrop (eCall C_check_rows (aCons (eLst (aCons (eVar 0) aNil)) aNil)))
  (sSeq (sIf (bNot (eUn dTru (eCall C__is_delta (aCons (eVar 1) aNil)))) (sRet (eC (.str "form"))) sNext)
  (sSeq (sFor (iCall dEnum (aCons (eVar 1) aNil)) (gfTup [2, 3])
  B_delta_fault_1)
  (sKill [2, 3] (sRet (eC .non))))))
def C_delta_fault : List D → Res D := fnE 4 F_delta_fault
/-! made -/
def B_made_1 : SF := (sSeq (sAug dAddT 2 (eIf (eUn asB (eOp (dEq) (eOp dIx (eVar 3) (eC (.int 0))) (eC (.str "copy")))) (eSl (eVar 0) (oSome (eOp dIx (eVar 3) (eC (.int 1)))) (oSome (eOp dAdd (eOp dIx (eVar 3) (eC (.int 1))) (eOp dIx (eVar 3) (eC (.int 2)))))) (eOp dIx (eVar 3) (eC (.int 1)))))
  (sKill [3] sNext))
def F_made : SF := (sSeq (sIf (eUn asB (eOp (dIsNot) (eCall C_delta_fault (aCons (eVar 0) (aCons (eVar 1) aNil))) (eC .non))) (sRaise "BadDelta") sNext)
  (sSeq (sSet 2 (eTup aNil))
  (sSeq (sFor (iSeq (eVar 1)) (gfName 3)
  B_made_1)
  (sKill [3] (sRet (eVar 2))))))
def C_made : List D → Res D := fnE 4 F_made
/-! cost_of -/
def F_cost_of : SF := (sSeq (sIf (bNot (eUn dTru (eCall C__is_delta (aCons (eVar 0) aNil)))) (sRaise "BadDelta") sNext)
  (sRet (eCall fSum (aCons (eLc (iSeq (eVar 0)) [1] (gfName 1) bYes (eIf (eUn asB (eOp (dEq) (eOp dIx (eVar 1) (eC (.int 0))) (eC (.str "copy")))) (eCall C__copy_cost (aCons (eOp dIx (eVar 1) (eC (.int 1))) (aCons (eOp dIx (eVar 1) (eC (.int 2))) aNil))) (eCall C__put_cost (aCons (eCall fLen (aCons (eOp dIx (eVar 1) (eC (.int 1))) aNil)) aNil)))) aNil))))
def C_cost_of : List D → Res D := fnE 2 F_cost_of
/-! delta_prices_fault -/
def B_delta_prices_fault_1 : SF := (sSeq (sIf (eUn dTru (eCall fAny (aCons (eLc (iSeq (eCall C__pieces (aCons (eVar 0) (aCons (eVar 1) (aCons (eVar 3) (aCons (eVar 4) aNil)))))) [5, 6, 7] (gfTup [5, 6, 7]) bYes (eOp (dCmpI iGt) (eOp dIx (eVar 2) (eVar 4)) (eOp dAdd (eVar 5) (eOp dIx (eVar 2) (eVar 6))))) aNil))) (sRet (eVar 4)) sNext)
  (sKill [4] sNext))
def F_delta_prices_fault : SF := (sSeq (sDrop (eCall C__check (aCons (eVar 0) (aCons (eVar 1) aNil))))
  (sSeq (sIf (bOr (bNot (eUn dTru (eUn (dIsi isTup) (eVar 2)))) (bOr (eUn asB (eOp (dNe) (eCall fLen (aCons (eVar 2) aNil)) (eOp dAdd (eCall fLen (aCons (eVar 1) aNil)) (eC (.int 1))))) (bNot (eUn dTru (eCall fAll (aCons (eLc (iSeq (eVar 2)) [8] (gfName 8) bYes (eCall C_is_whole (aCons (eVar 8) aNil))) aNil)))))) (sRet (eC (.str "form"))) sNext)
  (sSeq (sIf (eUn asB (eOp (dNe) (eOp dIx (eVar 2) (eUn dNeg (eC (.int 1)))) (eC (.int 0)))) (sRet (eC (.str "end"))) sNext)
  (sSeq (sSet 3 (eCall C__alike (aCons (eVar 0) (aCons (eVar 1) aNil))))
  (sSeq (sFor (iCall dRng1 (aCons (eCall fLen (aCons (eVar 1) aNil)) aNil)) (gfName 4)
  B_delta_prices_fault_1)
  (sKill [4] (sRet (eC .non))))))))
def C_delta_prices_fault : List D → Res D := fnE 9 F_delta_prices_fault
/-! _law_price_fault -/
def F__law_price_fault : SF := (sSeq (sIf (bOr (bNot (eUn dTru (eUn (dIsi isTup) (eVar 1)))) (bOr (eUn asB (eOp (dNe) (eCall fLen (aCons (eVar 1) aNil)) (eOp dAdd (eCall fLen (aCons (eVar 0) aNil)) (eC (.int 1))))) (bNot (eUn dTru (eCall fAll (aCons (eLc (iSeq (eVar 1)) [4] (gfName 4) bYes (eAnd (eUn (dIsi isInt) (eVar 4)) (eAnd (eNot (eUn (dIsi isBool) (eVar 4))) (eOp (dCmpI iGe) (eVar 4) (eC (.int 0)))))) aNil)))))) (sRet (eC (.str "form"))) sNext)
  (sSeq (sIf (eUn asB (eOp (dNe) (eOp dIx (eVar 1) (eUn dNeg (eC (.int 1)))) (eC (.int 0)))) (sRet (eC (.str "end"))) sNext)
  (sSeq (sSet 2 (eLc (iCall dRng1 (aCons (eCall fLen (aCons (eVar 0) aNil)) aNil)) [3] (gfName 3) (eUn dTru (eCall fAny (aCons (eLc (iSeq (eOp dIx (eVar 0) (eVar 3))) [5, 6] (gfTup [5, 6]) bYes (eOp (dCmpI iGt) (eOp dIx (eVar 1) (eVar 3)) (eOp dAdd (eVar 5) (eOp dIx (eVar 1) (eVar 6))))) aNil))) (eVar 3)))
  (sRet (eIf (eUn asB (eOp (dCmpI iGt) (eCall fLen (aCons (eVar 2) aNil)) (eC (.int 0)))) (eOp dIx (eVar 2) (eC (.int 0))) (eC .non))))))
def C__law_price_fault : List D → Res D := fnE 7 F__law_price_fault
/-! _law_error -/
def F__law_error : SF := (sSeq (sTry ["BadDelta", "BadOctets", "TooMany"] (sIf (eUn asB (eOp (dEq) (eVar 0) (eC (.int 0)))) (sDrop (eCall C_delta_fault (aCons (eVar 1) (aCons (eVar 2) aNil)))) (sIf (eUn asB (eOp (dEq) (eVar 0) (eC (.int 1)))) (sDrop (eCall C_made (aCons (eVar 1) (aCons (eVar 2) aNil)))) (sIf (eUn asB (eOp (dEq) (eVar 0) (eC (.int 2)))) (sDrop (eCall C_cost_of (aCons (eVar 2) aNil))) (sIf (eUn asB (eOp (dEq) (eVar 0) (eC (.int 3)))) (sDrop (eCall C_least_delta (aCons (eVar 1) (aCons (eVar 2) aNil)))) (sDrop (eCall C_delta_prices_fault (aCons (eVar 1) (aCons (eVar 2) (aCons (eVar 3) aNil))))))))) [(["BadOctets"], (sNx (sRet (eC (.str "octets"))))), (["BadDelta"], (sNx (sRet (eC (.str "delta"))))), (["TooMany"], (sNx (sRet (eC (.str "many")))))])
  (sRet (eC (.str "none"))))
def C__law_error : List D → Res D := fnE 4 F__law_error
/-! law -/
def B_law_1 : SF := (sSeq (sPar [13, 14] [(eOp dMod (eCall fInt (aCons (eOp dIx (eVar 1) (eOp dAdd (eC (.int 33)) (eVar 2))) aNil)) (eC (.int 15))), (eOp dMod (eCall fInt (aCons (eOp dIx (eVar 1) (eOp dAdd (eC (.int 37)) (eVar 2))) aNil)) (eC (.int 5)))])
  (sSeq (sSet 15 (eLst (aCons (eTup (aCons (eC (.str "copy")) (aCons (eVar 13) (aCons (eVar 14) aNil)))) (aCons (eTup (aCons (eC (.str "put")) (aCons (eSl (eVar 4) oNone (oSome (eVar 14))) aNil))) (aCons (eTup (aCons (eC (.str "copy")) (aCons (eVar 13) (aCons (eC (.int 1)) aNil)))) (aCons (eTup (aCons (eC (.str "put")) (aCons (eTup (aCons (eC (.int 255)) (aCons (eC (.int 0)) aNil))) aNil))) aNil))))))
  (sSeq (sIf (eUn asB (eOp (dEq) (eOp dMod (eCall fInt (aCons (eOp dIx (eVar 1) (eC (.int 45))) aNil)) (eC (.int 3))) (eC (.int 0)))) (sSet 15 (eOp dAdd (eVar 15) (eLst (aCons (eTup (aCons (eC (.str "copy")) (aCons (eVar 13) aNil))) (aCons (eTup (aCons (eC (.str "put")) (aCons (eTup aNil) aNil))) (aCons (eTup (aCons (eC (.str "put")) (aCons (eTup (aCons (eC (.int 256)) aNil)) aNil))) (aCons (eTup (aCons (eC (.str "keep")) (aCons (eC (.int 0)) (aCons (eC (.int 1)) aNil)))) (aCons (eC .non) aNil)))))))) sNext)
  (sSeq (sAppend 12 (eOp dIx (eVar 15) (eOp dMod (eCall fInt (aCons (eOp dIx (eVar 1) (eOp dAdd (eC (.int 41)) (eVar 2))) aNil)) (eCall fLen (aCons (eVar 15) aNil)))))
  (sKill [13, 14, 15] sNext)))))
def B_law_2 : SF := (sSeq (sSet 17 (eCall C__law_fault (aCons (eVar 3) (aCons (eVar 16) aNil))))
  (sSeq (sIf (bOr (eUn asB (eOp (dNe) (eCall C_delta_fault (aCons (eVar 3) (aCons (eVar 16) aNil))) (eVar 17))) (bOr (eUn asB (eOp (dNe) (eOp (dEq) (eCall C__law_error (aCons (eC (.int 1)) (aCons (eVar 3) (aCons (eVar 16) (aCons (eC .non) aNil))))) (eC (.str "delta"))) (eOp (dIsNot) (eVar 17) (eC .non)))) (eUn asB (eOp (dNe) (eOp (dEq) (eCall C__law_error (aCons (eC (.int 2)) (aCons (eC .non) (aCons (eVar 16) (aCons (eC .non) aNil))))) (eC (.str "delta"))) (eOp (dEq) (eVar 17) (eC (.str "form"))))))) (sRet (eC (.bl false))) sNext)
  (sSeq (sIf (bAnd (eUn asB (eOp (dIs) (eVar 17) (eC .non))) (bOr (eUn asB (eOp (dNe) (eCall C_made (aCons (eVar 3) (aCons (eVar 16) aNil))) (eCall C__law_made (aCons (eVar 3) (aCons (eVar 16) aNil))))) (eUn asB (eOp (dNe) (eCall C_cost_of (aCons (eVar 16) aNil)) (eCall fSum (aCons (eLc (iSeq (eVar 16)) [22] (gfName 22) bYes (eCall C__law_cost (aCons (eVar 22) aNil))) aNil)))))) (sRet (eC (.bl false))) sNext)
  (sSeq (sIf (bAnd (eUn asB (eOp (dIs) (eVar 17) (eC .non))) (bAnd (eUn asB (eOp (dCmpI iLt) (eCall C_cost_of (aCons (eVar 16) aNil)) (eOp dIx (eCall C_least_delta (aCons (eVar 3) (aCons (eSl (eCall C_made (aCons (eVar 3) (aCons (eVar 16) aNil))) oNone (oSome (eC (.int 60)))) aNil))) (eC (.int 0))))) (eUn asB (eOp (dCmpI iLe) (eCall fLen (aCons (eCall C_made (aCons (eVar 3) (aCons (eVar 16) aNil))) aNil)) (eC (.int 60)))))) (sRet (eC (.bl false))) sNext)
  (sKill [16, 17] sNext)))))
def B_law_4 : SF := (sSeq (sIf (eUn asB (eOp (dNe) (eCall C_delta_prices_fault (aCons (eVar 3) (aCons (eVar 4) (aCons (eVar 16) aNil)))) (eCall C__law_price_fault (aCons (eVar 7) (aCons (eVar 16) aNil))))) (sRet (eC (.bl false))) sNext)
  (sKill [16] sNext))
def B_law_3 : SF := (sSeq (sSet 13 (eOp dMod (eCall fInt (aCons (eOp dIx (eVar 1) (eOp dAdd (eC (.int 46)) (eVar 2))) aNil)) (eCall fLen (aCons (eVar 8) aNil))))
  (sSeq (sSet 18 (eOp dAdd (eOp dAdd (eSl (eVar 8) oNone (oSome (eVar 13))) (eTup (aCons (eOp dIx (eLst (aCons (eOp dAdd (eOp dIx (eVar 8) (eVar 13)) (eC (.int 1))) (aCons (eCall fMax (aCons (eC (.int 0)) (aCons (eOp dSub (eOp dIx (eVar 8) (eVar 13)) (eC (.int 1))) aNil))) (aCons (eC .non) (aCons (eC (.bl true)) (aCons (eUn dNeg (eC (.int 1))) (aCons (eOp dAdd (eOp dIx (eVar 8) (eVar 13)) (eC (.int 4))) aNil))))))) (eOp dMod (eCall fInt (aCons (eOp dIx (eVar 1) (eOp dAdd (eC (.int 50)) (eVar 2))) aNil)) (eC (.int 6)))) aNil))) (eSl (eVar 8) (oSome (eOp dAdd (eVar 13) (eC (.int 1)))) oNone)))
  (sSeq (sFor (iSeq (eTup (aCons (eVar 18) (aCons (eSl (eVar 8) oNone (oSome (eUn dNeg (eC (.int 1))))) (aCons (eCall fList (aCons (eVar 8) aNil)) (aCons (eOp dMulT (eTup (aCons (eC (.int 0)) aNil)) (eCall fLen (aCons (eVar 8) aNil))) aNil)))))) (gfName 16)
  B_law_4)
  (sKill [16] (sKill [13, 16, 18] sNext)))))
def B_law_5 : SF := (sSeq (sIf (bOr (eUn asB (eOp (dNe) (eLc (iSeq (eTup (aCons (eC (.int 0)) (aCons (eC (.int 1)) (aCons (eC (.int 3)) (aCons (eC (.int 4)) aNil)))))) [21] (gfName 21) bYes (eCall C__law_error (aCons (eVar 21) (aCons (eVar 19) (aCons (eTup aNil) (aCons (eC .non) aNil)))))) (eOp dRep (eLst (aCons (eC (.str "octets")) aNil)) (eC (.int 4))))) (eUn asB (eOp (dNe) (eLc (iSeq (eTup (aCons (eC (.int 3)) (aCons (eC (.int 4)) aNil)))) [21] (gfName 21) bYes (eCall C__law_error (aCons (eVar 21) (aCons (eTup aNil) (aCons (eVar 19) (aCons (eC .non) aNil)))))) (eOp dRep (eLst (aCons (eC (.str "octets")) aNil)) (eC (.int 2)))))) (sRet (eC (.bl false))) sNext)
  (sKill [19] sNext))
def F_law : SF := (sSeq (sSet 1 (eCall C__law_draws (aCons (eVar 0) (aCons (eC (.int 90)) aNil))))
  (sSeq (sSet 3 (eCall fTuple (aCons (eLc (iCall dRng1 (aCons (eOp dMod (eCall fInt (aCons (eOp dIx (eVar 1) (eC (.int 0))) aNil)) (eC (.int 13))) aNil)) [2] (gfName 2) bYes (eOp dMod (eCall fInt (aCons (eOp dIx (eVar 1) (eOp dAdd (eC (.int 1)) (eVar 2))) aNil)) (eC (.int 3)))) aNil)))
  (sSeq (sSet 4 (eCall fTuple (aCons (eLc (iCall dRng1 (aCons (eOp dMod (eCall fInt (aCons (eOp dIx (eVar 1) (eC (.int 14))) aNil)) (eC (.int 13))) aNil)) [2] (gfName 2) bYes (eOp dMod (eCall fInt (aCons (eOp dIx (eVar 1) (eOp dAdd (eC (.int 15)) (eVar 2))) aNil)) (eC (.int 3)))) aNil)))
  (sSeq (sIf (eUn asB (eOp (dEq) (eOp dMod (eCall fInt (aCons (eOp dIx (eVar 1) (eC (.int 28))) aNil)) (eC (.int 2))) (eC (.int 0)))) (sSeq (sPar [5, 6] [(eOp dMod (eCall fInt (aCons (eOp dIx (eVar 1) (eC (.int 29))) aNil)) (eOp dAdd (eCall fLen (aCons (eVar 3) aNil)) (eC (.int 1)))), (eOp dMod (eCall fInt (aCons (eOp dIx (eVar 1) (eC (.int 30))) aNil)) (eOp dAdd (eCall fLen (aCons (eVar 3) aNil)) (eC (.int 1))))])
  (sSet 4 (eSl (eOp dAdd (eOp dAdd (eSl (eVar 3) (oSome (eVar 5)) oNone) (eSl (eVar 4) oNone (oSome (eOp dMod (eCall fInt (aCons (eOp dIx (eVar 1) (eC (.int 31))) aNil)) (eC (.int 3)))))) (eSl (eVar 3) (oSome (eVar 6)) oNone)) oNone (oSome (eC (.int 14)))))) sNext)
  (sSeq (sSet 7 (eCall C__law_steps (aCons (eVar 3) (aCons (eVar 4) aNil))))
  (sSeq (sSet 8 (eCall C__law_prices (aCons (eVar 7) aNil)))
  (sSeq (sUnp (gfTup [9, 10, 11]) (eCall C_least_delta (aCons (eVar 3) (aCons (eVar 4) aNil))))
  (sSeq (sIf (bOr (eUn asB (eOp (dNe) (eVar 9) (eOp dIx (eVar 8) (eC (.int 0))))) (bOr (eUn asB (eOp (dNe) (eVar 11) (eVar 8))) (bOr (eUn asB (eOp (dIsNot) (eCall C__law_fault (aCons (eVar 3) (aCons (eVar 10) aNil))) (eC .non))) (bOr (eUn asB (eOp (dNe) (eCall C__law_made (aCons (eVar 3) (aCons (eVar 10) aNil))) (eVar 4))) (eUn asB (eOp (dNe) (eCall fSum (aCons (eLc (iSeq (eVar 10)) [22] (gfName 22) bYes (eCall C__law_cost (aCons (eVar 22) aNil))) aNil)) (eVar 9))))))) (sRet (eC (.bl false))) sNext)
  (sSeq (sIf (bOr (eUn asB (eOp (dNe) (eCall C_made (aCons (eVar 3) (aCons (eVar 10) aNil))) (eVar 4))) (bOr (eUn asB (eOp (dNe) (eCall C_cost_of (aCons (eVar 10) aNil)) (eVar 9))) (bOr (eUn asB (eOp (dIsNot) (eCall C_delta_fault (aCons (eVar 3) (aCons (eVar 10) aNil))) (eC .non))) (eUn asB (eOp (dIsNot) (eCall C_delta_prices_fault (aCons (eVar 3) (aCons (eVar 4) (aCons (eVar 11) aNil)))) (eC .non)))))) (sRet (eC (.bl false))) sNext)
  (sSeq (sSet 12 (eC (.lst [])))
  (sSeq (sFor (iCall dRng1 (aCons (eOp dMod (eCall fInt (aCons (eOp dIx (eVar 1) (eC (.int 32))) aNil)) (eC (.int 4))) aNil)) (gfName 2)
  B_law_1)
  (sKill [13, 14, 15] (sSeq (sFor (iSeq (eTup (aCons (eCall fTuple (aCons (eVar 12) aNil)) (aCons (eOp dAdd (eVar 10) (eCall fTuple (aCons (eVar 12) aNil))) (aCons (eCall fList (aCons (eVar 10) aNil)) (aCons (eSl (eVar 10) (oSome (eC (.int 1))) oNone) aNil)))))) (gfName 16)
  B_law_2)
  (sKill [16, 17] (sSeq (sFor (iCall dRng1 (aCons (eC (.int 4)) aNil)) (gfName 2)
  B_law_3)
  (sKill [13, 16, 18] (sSeq (sFor (iSeq (eTup (aCons (eC .non) (aCons (eLst (aCons (eC (.int 1)) aNil)) (aCons (eTup (aCons (eC (.int 256)) aNil)) (aCons (eTup (aCons (eC (.bl true)) aNil)) aNil)))))) (gfName 19)
  B_law_5)
  (sKill [19] (sSeq (sSet 20 (eCall fTuple (aCons (eLc (iCall dRng1 (aCons (eC (.int 300)) aNil)) [2] (gfName 2) bYes (eOp dMod (eVar 2) (eC (.int 251)))) aNil)))
  (sSeq (sIf (bOr (eUn asB (eOp (dNe) (eCall C_cost_of (aCons (eTup (aCons (eTup (aCons (eC (.str "copy")) (aCons (eC (.int 200)) (aCons (eC (.int 90)) aNil)))) (aCons (eTup (aCons (eC (.str "put")) (aCons (eSl (eVar 20) oNone (oSome (eC (.int 130)))) aNil))) aNil))) aNil)) (eOp dAdd (eOp dAdd (eOp dAdd (eOp dAdd (eOp dAdd (eC (.int 1)) (eC (.int 2))) (eC (.int 1))) (eC (.int 1))) (eC (.int 2))) (eC (.int 130))))) (eUn asB (eOp (dNe) (eCall C_made (aCons (eVar 20) (aCons (eTup (aCons (eTup (aCons (eC (.str "copy")) (aCons (eC (.int 200)) (aCons (eC (.int 90)) aNil)))) aNil)) aNil))) (eSl (eVar 20) (oSome (eC (.int 200))) (oSome (eC (.int 290))))))) (sRet (eC (.bl false))) sNext)
  (sRet (eOp (dEq) (eOp dAdd (eLc (iSeq (eTup (aCons (eC (.int 3)) (aCons (eC (.int 4)) aNil)))) [21] (gfName 21) bYes (eCall C__law_error (aCons (eVar 21) (aCons (eOp dMulT (eTup (aCons (eC (.int 0)) aNil)) (eC (.int 61))) (aCons (eTup aNil) (aCons (eTup aNil) aNil)))))) (eLc (iSeq (eTup (aCons (eC (.int 3)) (aCons (eC (.int 4)) aNil)))) [21] (gfName 21) bYes (eCall C__law_error (aCons (eVar 21) (aCons (eTup aNil) (aCons (eOp dMulT (eTup (aCons (eC (.int 0)) aNil)) (eC (.int 61))) (aCons (eTup aNil) aNil))))))) (eOp dRep (eLst (aCons (eC (.str "many")) aNil)) (eC (.int 4)))))))))))))))))))))))))
def C_law : List D → Res D := fnE 23 F_law
end K
namespace K
open PySem PySem.Spec PyProof.Rows L2 Px
def topS (i : Nat) : Stmt := PySem.Challenge.pw_patchwright_k88_whole_least_deltas.main.body.getD i (.Pass ⟨0, 0, 0, 0⟩)
/-! _law_draws -/
abbrev s__law_draws : Stmt := topS 29
abbrev n__law_draws : List Str := ["script", "many", "draws", "seed", "cell", "number", "k"]
theorem sc__law_draws : FnScope n__law_draws ["script", "many"] (defScope s__law_draws) := ⟨rfl, rfl, rfl, by decide +kernel, rfl, by decide +kernel, by decide +kernel⟩
/-! _law_size -/
abbrev s__law_size : Stmt := topS 30
abbrev n__law_size : List Str := ["number", "found"]
theorem sc__law_size : FnScope n__law_size ["number"] (defScope s__law_size) := ⟨rfl, rfl, rfl, by decide +kernel, rfl, by decide +kernel, by decide +kernel⟩
/-! _law_cost -/
abbrev s__law_cost : Stmt := topS 31
abbrev n__law_cost : List Str := ["piece"]
theorem sc__law_cost : FnScope n__law_cost ["piece"] (defScope s__law_cost) := ⟨rfl, rfl, rfl, by decide +kernel, rfl, by decide +kernel, by decide +kernel⟩
/-! _law_steps -/
abbrev s__law_steps : Stmt := topS 35
abbrev n__law_steps : List Str := ["base", "goal", "rows", "place", "row", "end", "copies", "at"]
theorem sc__law_steps : FnScope n__law_steps ["base", "goal"] (defScope s__law_steps) := ⟨rfl, rfl, rfl, by decide +kernel, rfl, by decide +kernel, by decide +kernel⟩
/-! _law_prices -/
abbrev s__law_prices : Stmt := topS 36
abbrev n__law_prices : List Str := ["steps", "prices", "place", "cost", "end"]
theorem sc__law_prices : FnScope n__law_prices ["steps"] (defScope s__law_prices) := ⟨rfl, rfl, rfl, by decide +kernel, rfl, by decide +kernel, by decide +kernel⟩
/-! is_whole -/
abbrev s_is_whole : Stmt := topS 6
abbrev n_is_whole : List Str := ["value"]
theorem sc_is_whole : FnScope n_is_whole ["value"] (defScope s_is_whole) := ⟨rfl, rfl, rfl, by decide +kernel, rfl, by decide +kernel, by decide +kernel⟩
/-! is_row -/
abbrev s_is_row : Stmt := topS 9
abbrev n_is_row : List Str := ["value", "one"]
theorem sc_is_row : FnScope n_is_row ["value"] (defScope s_is_row) := ⟨rfl, rfl, rfl, by decide +kernel, rfl, by decide +kernel, by decide +kernel⟩
/-! check_rows -/
abbrev s_check_rows : Stmt := topS 10
abbrev n_check_rows : List Str := ["values", "value"]
theorem sc_check_rows : FnScope n_check_rows ["values"] (defScope s_check_rows) := ⟨rfl, rfl, rfl, by decide +kernel, rfl, by decide +kernel, by decide +kernel⟩
/-! _check -/
abbrev s__check : Stmt := topS 25
abbrev n__check : List Str := ["base", "goal"]
theorem sc__check : FnScope n__check ["base", "goal"] (defScope s__check) := ⟨rfl, rfl, rfl, by decide +kernel, rfl, by decide +kernel, by decide +kernel⟩
/-! _alike -/
abbrev s__alike : Stmt := topS 23
abbrev n__alike : List Str := ["base", "goal", "found", "at", "place", "_place"]
theorem sc__alike : FnScope n__alike ["base", "goal"] (defScope s__alike) := ⟨rfl, rfl, rfl, by decide +kernel, rfl, by decide +kernel, by decide +kernel⟩
/-! written -/
abbrev s_written : Stmt := topS 11
abbrev n_written : List Str := ["number", "found"]
theorem sc_written : FnScope n_written ["number"] (defScope s_written) := ⟨rfl, rfl, rfl, by decide +kernel, rfl, by decide +kernel, by decide +kernel⟩
/-! _put_cost -/
abbrev s__put_cost : Stmt := topS 21
abbrev n__put_cost : List Str := ["many"]
theorem sc__put_cost : FnScope n__put_cost ["many"] (defScope s__put_cost) := ⟨rfl, rfl, rfl, by decide +kernel, rfl, by decide +kernel, by decide +kernel⟩
/-! _copy_cost -/
abbrev s__copy_cost : Stmt := topS 20
abbrev n__copy_cost : List Str := ["at", "many"]
theorem sc__copy_cost : FnScope n__copy_cost ["at", "many"] (defScope s__copy_cost) := ⟨rfl, rfl, rfl, by decide +kernel, rfl, by decide +kernel, by decide +kernel⟩
/-! _pieces -/
abbrev s__pieces : Stmt := topS 24
abbrev n__pieces : List Str := ["base", "goal", "alike", "place", "found", "many", "at"]
theorem sc__pieces : FnScope n__pieces ["base", "goal", "alike", "place"] (defScope s__pieces) := ⟨rfl, rfl, rfl, by decide +kernel, rfl, by decide +kernel, by decide +kernel⟩
/-! least_delta -/
abbrev s_least_delta : Stmt := topS 26
abbrev n_least_delta : List Str := ["base", "goal", "alike", "prices", "best", "place", "cost", "there", "piece", "delta"]
theorem sc_least_delta : FnScope n_least_delta ["base", "goal"] (defScope s_least_delta) := ⟨rfl, rfl, rfl, by decide +kernel, rfl, by decide +kernel, by decide +kernel⟩
/-! _law_is_row -/
abbrev s__law_is_row : Stmt := topS 32
abbrev n__law_is_row : List Str := ["value", "one"]
theorem sc__law_is_row : FnScope n__law_is_row ["value"] (defScope s__law_is_row) := ⟨rfl, rfl, rfl, by decide +kernel, rfl, by decide +kernel, by decide +kernel⟩
/-! _law_fault -/
abbrev s__law_fault : Stmt := topS 33
abbrev n__law_fault : List Str := ["base", "delta", "piece", "wrong", "k", "one"]
theorem sc__law_fault : FnScope n__law_fault ["base", "delta"] (defScope s__law_fault) := ⟨rfl, rfl, rfl, by decide +kernel, rfl, by decide +kernel, by decide +kernel⟩
/-! _law_made -/
abbrev s__law_made : Stmt := topS 34
abbrev n__law_made : List Str := ["base", "delta", "found", "piece"]
theorem sc__law_made : FnScope n__law_made ["base", "delta"] (defScope s__law_made) := ⟨rfl, rfl, rfl, by decide +kernel, rfl, by decide +kernel, by decide +kernel⟩
/-! _is_piece -/
abbrev s__is_piece : Stmt := topS 16
abbrev n__is_piece : List Str := ["value"]
theorem sc__is_piece : FnScope n__is_piece ["value"] (defScope s__is_piece) := ⟨rfl, rfl, rfl, by decide +kernel, rfl, by decide +kernel, by decide +kernel⟩
/-! _is_delta -/
abbrev s__is_delta : Stmt := topS 17
abbrev n__is_delta : List Str := ["value", "piece"]
theorem sc__is_delta : FnScope n__is_delta ["value"] (defScope s__is_delta) := ⟨rfl, rfl, rfl, by decide +kernel, rfl, by decide +kernel, by decide +kernel⟩
/-! delta_fault -/
abbrev s_delta_fault : Stmt := topS 18
abbrev n_delta_fault : List Str := ["base", "delta", "number", "piece"]
theorem sc_delta_fault : FnScope n_delta_fault ["base", "delta"] (defScope s_delta_fault) := ⟨rfl, rfl, rfl, by decide +kernel, rfl, by decide +kernel, by decide +kernel⟩
/-! made -/
abbrev s_made : Stmt := topS 19
abbrev n_made : List Str := ["base", "delta", "found", "piece"]
theorem sc_made : FnScope n_made ["base", "delta"] (defScope s_made) := ⟨rfl, rfl, rfl, by decide +kernel, rfl, by decide +kernel, by decide +kernel⟩
/-! cost_of -/
abbrev s_cost_of : Stmt := topS 22
abbrev n_cost_of : List Str := ["delta", "piece"]
theorem sc_cost_of : FnScope n_cost_of ["delta"] (defScope s_cost_of) := ⟨rfl, rfl, rfl, by decide +kernel, rfl, by decide +kernel, by decide +kernel⟩
/-! delta_prices_fault -/
abbrev s_delta_prices_fault : Stmt := topS 27
abbrev n_delta_prices_fault : List Str := ["base", "goal", "prices", "alike", "place", "cost", "there", "_piece", "one"]
theorem sc_delta_prices_fault : FnScope n_delta_prices_fault ["base", "goal", "prices"] (defScope s_delta_prices_fault) := ⟨rfl, rfl, rfl, by decide +kernel, rfl, by decide +kernel, by decide +kernel⟩
/-! _law_price_fault -/
abbrev s__law_price_fault : Stmt := topS 37
abbrev n__law_price_fault : List Str := ["steps", "prices", "wrong", "place", "one", "cost", "end"]
theorem sc__law_price_fault : FnScope n__law_price_fault ["steps", "prices"] (defScope s__law_price_fault) := ⟨rfl, rfl, rfl, by decide +kernel, rfl, by decide +kernel, by decide +kernel⟩
/-! _law_error -/
abbrev s__law_error : Stmt := topS 38
abbrev n__law_error : List Str := ["call", "one", "two", "three"]
theorem sc__law_error : FnScope n__law_error ["call", "one", "two", "three"] (defScope s__law_error) := ⟨rfl, rfl, rfl, by decide +kernel, rfl, by decide +kernel, by decide +kernel⟩
/-! law -/
abbrev s_law : Stmt := topS 39
abbrev n_law : List Str := ["script", "draws", "k", "base", "goal", "cut", "other", "steps", "prices", "cost", "delta", "told", "pieces", "at", "many", "sorts", "one", "fault", "bent", "wrong", "far", "call", "piece"]
theorem sc_law : FnScope n_law ["script"] (defScope s_law) := ⟨rfl, rfl, rfl, by decide +kernel, rfl, by decide +kernel, by decide +kernel⟩
structure Txt (K : PySem.W.Frag) (mg : Str → Option Value) : Prop where
  F__law_draws : ∃ fd, Fun K "_law_draws" "_law_draws" s__law_draws (He.ga K "_law_draws") fd ∧ BA fd ["script", "many"]
  g__law_draws : mg "_law_draws" = some (.ref (He.ga K "_law_draws"))
  F__law_size : ∃ fd, Fun K "_law_size" "_law_size" s__law_size (He.ga K "_law_size") fd ∧ BA fd ["number"]
  g__law_size : mg "_law_size" = some (.ref (He.ga K "_law_size"))
  F__law_cost : ∃ fd, Fun K "_law_cost" "_law_cost" s__law_cost (He.ga K "_law_cost") fd ∧ BA fd ["piece"]
  g__law_cost : mg "_law_cost" = some (.ref (He.ga K "_law_cost"))
  F__law_steps : ∃ fd, Fun K "_law_steps" "_law_steps" s__law_steps (He.ga K "_law_steps") fd ∧ BA fd ["base", "goal"]
  g__law_steps : mg "_law_steps" = some (.ref (He.ga K "_law_steps"))
  F__law_prices : ∃ fd, Fun K "_law_prices" "_law_prices" s__law_prices (He.ga K "_law_prices") fd ∧ BA fd ["steps"]
  g__law_prices : mg "_law_prices" = some (.ref (He.ga K "_law_prices"))
  F_is_whole : ∃ fd, Fun K "is_whole" "is_whole" s_is_whole (He.ga K "is_whole") fd ∧ BA fd ["value"]
  g_is_whole : mg "is_whole" = some (.ref (He.ga K "is_whole"))
  F_is_row : ∃ fd, Fun K "is_row" "is_row" s_is_row (He.ga K "is_row") fd ∧ BA fd ["value"]
  g_is_row : mg "is_row" = some (.ref (He.ga K "is_row"))
  F_check_rows : ∃ fd, Fun K "check_rows" "check_rows" s_check_rows (He.ga K "check_rows") fd ∧ BA fd ["values"]
  g_check_rows : mg "check_rows" = some (.ref (He.ga K "check_rows"))
  F__check : ∃ fd, Fun K "_check" "_check" s__check (He.ga K "_check") fd ∧ BA fd ["base", "goal"]
  g__check : mg "_check" = some (.ref (He.ga K "_check"))
  F__alike : ∃ fd, Fun K "_alike" "_alike" s__alike (He.ga K "_alike") fd ∧ BA fd ["base", "goal"]
  g__alike : mg "_alike" = some (.ref (He.ga K "_alike"))
  F_written : ∃ fd, Fun K "written" "written" s_written (He.ga K "written") fd ∧ BA fd ["number"]
  g_written : mg "written" = some (.ref (He.ga K "written"))
  F__put_cost : ∃ fd, Fun K "_put_cost" "_put_cost" s__put_cost (He.ga K "_put_cost") fd ∧ BA fd ["many"]
  g__put_cost : mg "_put_cost" = some (.ref (He.ga K "_put_cost"))
  F__copy_cost : ∃ fd, Fun K "_copy_cost" "_copy_cost" s__copy_cost (He.ga K "_copy_cost") fd ∧ BA fd ["at", "many"]
  g__copy_cost : mg "_copy_cost" = some (.ref (He.ga K "_copy_cost"))
  F__pieces : ∃ fd, Fun K "_pieces" "_pieces" s__pieces (He.ga K "_pieces") fd ∧ BA fd ["base", "goal", "alike", "place"]
  g__pieces : mg "_pieces" = some (.ref (He.ga K "_pieces"))
  F_least_delta : ∃ fd, Fun K "least_delta" "least_delta" s_least_delta (He.ga K "least_delta") fd ∧ BA fd ["base", "goal"]
  g_least_delta : mg "least_delta" = some (.ref (He.ga K "least_delta"))
  F__law_is_row : ∃ fd, Fun K "_law_is_row" "_law_is_row" s__law_is_row (He.ga K "_law_is_row") fd ∧ BA fd ["value"]
  g__law_is_row : mg "_law_is_row" = some (.ref (He.ga K "_law_is_row"))
  F__law_fault : ∃ fd, Fun K "_law_fault" "_law_fault" s__law_fault (He.ga K "_law_fault") fd ∧ BA fd ["base", "delta"]
  g__law_fault : mg "_law_fault" = some (.ref (He.ga K "_law_fault"))
  F__law_made : ∃ fd, Fun K "_law_made" "_law_made" s__law_made (He.ga K "_law_made") fd ∧ BA fd ["base", "delta"]
  g__law_made : mg "_law_made" = some (.ref (He.ga K "_law_made"))
  F__is_piece : ∃ fd, Fun K "_is_piece" "_is_piece" s__is_piece (He.ga K "_is_piece") fd ∧ BA fd ["value"]
  g__is_piece : mg "_is_piece" = some (.ref (He.ga K "_is_piece"))
  F__is_delta : ∃ fd, Fun K "_is_delta" "_is_delta" s__is_delta (He.ga K "_is_delta") fd ∧ BA fd ["value"]
  g__is_delta : mg "_is_delta" = some (.ref (He.ga K "_is_delta"))
  F_delta_fault : ∃ fd, Fun K "delta_fault" "delta_fault" s_delta_fault (He.ga K "delta_fault") fd ∧ BA fd ["base", "delta"]
  g_delta_fault : mg "delta_fault" = some (.ref (He.ga K "delta_fault"))
  F_made : ∃ fd, Fun K "made" "made" s_made (He.ga K "made") fd ∧ BA fd ["base", "delta"]
  g_made : mg "made" = some (.ref (He.ga K "made"))
  F_cost_of : ∃ fd, Fun K "cost_of" "cost_of" s_cost_of (He.ga K "cost_of") fd ∧ BA fd ["delta"]
  g_cost_of : mg "cost_of" = some (.ref (He.ga K "cost_of"))
  F_delta_prices_fault : ∃ fd, Fun K "delta_prices_fault" "delta_prices_fault" s_delta_prices_fault (He.ga K "delta_prices_fault") fd ∧ BA fd ["base", "goal", "prices"]
  g_delta_prices_fault : mg "delta_prices_fault" = some (.ref (He.ga K "delta_prices_fault"))
  F__law_price_fault : ∃ fd, Fun K "_law_price_fault" "_law_price_fault" s__law_price_fault (He.ga K "_law_price_fault") fd ∧ BA fd ["steps", "prices"]
  g__law_price_fault : mg "_law_price_fault" = some (.ref (He.ga K "_law_price_fault"))
  F__law_error : ∃ fd, Fun K "_law_error" "_law_error" s__law_error (He.ga K "_law_error") fd ∧ BA fd ["call", "one", "two", "three"]
  g__law_error : mg "_law_error" = some (.ref (He.ga K "_law_error"))
  F_law : ∃ fd, Fun K "law" "law" s_law (He.ga K "law") fd ∧ BA fd ["script"]
  g_law : mg "law" = some (.ref (He.ga K "law"))
  z_abs : mg "abs" = none
  z_int : mg "int" = none
  z_range : mg "range" = none
  z_len : mg "len" = none
  z_min : mg "min" = none
  z_tuple : mg "tuple" = none
  z_isinstance : mg "isinstance" = none
  z_bool : mg "bool" = none
  z_all : mg "all" = none
  z_max : mg "max" = none
  z_str : mg "str" = none
  z_enumerate : mg "enumerate" = none
  z_sum : mg "sum" = none
  z_any : mg "any" = none
  z_list : mg "list" = none
  c_MOST_OCTETS : ∃ t, mg "MOST_OCTETS" = some (.int 60 t)
  c_GROUP : ∃ t, mg "GROUP" = some (.int 128 t)
  c_PUT : ∃ t, mg "PUT" = some (.str "put" t)
  c_COPY : ∃ t, mg "COPY" = some (.str "copy" t)
  e_BadOctets : mg "BadOctets" = some (.ref (He.ga K "BadOctets")) ∧ PySem.W.excIn K (He.ga K "BadOctets") He.veBase "ValueError.__new__" = true ∧ PySem.W.keepIn K (.ref (He.ga K "BadOctets")) = true ∧ PySem.W.subIn K (.ref (He.ga K "BadOctets")) (.type "BaseException") = some true ∧ PySem.W.typeIn K (.ref (He.ga K "BadOctets")) = some (.type "type")
  e_TooMany : mg "TooMany" = some (.ref (He.ga K "TooMany")) ∧ PySem.W.excIn K (He.ga K "TooMany") He.veBase "ValueError.__new__" = true ∧ PySem.W.keepIn K (.ref (He.ga K "TooMany")) = true ∧ PySem.W.subIn K (.ref (He.ga K "TooMany")) (.type "BaseException") = some true ∧ PySem.W.typeIn K (.ref (He.ga K "TooMany")) = some (.type "type")
  e_BadDelta : mg "BadDelta" = some (.ref (He.ga K "BadDelta")) ∧ PySem.W.excIn K (He.ga K "BadDelta") He.veBase "ValueError.__new__" = true ∧ PySem.W.keepIn K (.ref (He.ga K "BadDelta")) = true ∧ PySem.W.subIn K (.ref (He.ga K "BadDelta")) (.type "BaseException") = some true ∧ PySem.W.typeIn K (.ref (He.ga K "BadDelta")) = some (.type "type")
  m_BadDelta_BadOctets : PySem.W.exmOne K (.ref (He.ga K "BadDelta")) (.ref (He.ga K "BadOctets")) = some false
  m_BadOctets_BadOctets : PySem.W.exmOne K (.ref (He.ga K "BadOctets")) (.ref (He.ga K "BadOctets")) = some true
  m_TooMany_BadOctets : PySem.W.exmOne K (.ref (He.ga K "TooMany")) (.ref (He.ga K "BadOctets")) = some false
  m_BadDelta_BadDelta : PySem.W.exmOne K (.ref (He.ga K "BadDelta")) (.ref (He.ga K "BadDelta")) = some true
  m_BadOctets_BadDelta : PySem.W.exmOne K (.ref (He.ga K "BadOctets")) (.ref (He.ga K "BadDelta")) = some false
  m_TooMany_BadDelta : PySem.W.exmOne K (.ref (He.ga K "TooMany")) (.ref (He.ga K "BadDelta")) = some false
  m_BadDelta_TooMany : PySem.W.exmOne K (.ref (He.ga K "BadDelta")) (.ref (He.ga K "TooMany")) = some false
  m_BadOctets_TooMany : PySem.W.exmOne K (.ref (He.ga K "BadOctets")) (.ref (He.ga K "TooMany")) = some false
  m_TooMany_TooMany : PySem.W.exmOne K (.ref (He.ga K "TooMany")) (.ref (He.ga K "TooMany")) = some true
section
variable {P : Program} {w : World} {K : PySem.W.Frag} {mg : Str → Option Value}
theorem ok__law_draws (T : Txt K mg) : ∃ fd, (∀ base : Heap, FnOk P w K mg base (L2.CX P w) 1 (He.ga K "_law_draws") fd ["script", "many"] (Spec K mg 2 0 C__law_draws)) ∧ BA fd ["script", "many"] ∧ PySem.W.keepIn K (.ref (He.ga K "_law_draws")) = true := by
  obtain ⟨fd, F, b⟩ := T.F__law_draws
  exact ⟨fd, fun base => fn_ok (N := n__law_draws) (nN := 7) (k := 0) (kr := 0) (L := [0, 0, 0, 0, 0, 0, 0]) (L' := [0, 0, 0, 0, 0, 0, 0]) (FF := F__law_draws) F sc__law_draws rfl rfl rfl rfl fun cdv A outer s H E hr => ((sjs_cons (L1 := [0, 0, 1, 0, 0, 0, 0]) (sj_set (i := 2) (k := 1) sc__law_draws.nd rfl (.inl (by kernel_rfl)) (eo_nil) (by decide) rfl (.inl rfl))
  (sjs_cons (L1 := [0, 0, 1, 0, 0, 0, 0]) (sj_set (i := 3) (k := 0) sc__law_draws.nd rfl (.inl (by kernel_rfl)) eo_int (by decide) rfl (.inl rfl))
  (sjs_cons (L1 := [0, 0, 1, 0, 0, 0, 0]) (sj_for (passes_of rfl) rfl (ei_seq (EO.up (k := 1) (n := 0) (eo_sl (eb_var (n := 1) (i := 0) rfl (.inl (by kernel_rfl)) (by decide)) ep_none (ep_some (EO.up (k := 0) (n := 0) eo_int))))) (pg_name (i := 4) sc__law_draws.nd rfl (.inl (by kernel_rfl)) (.inl rfl)) (gs_name 4) (by decide)
  (sjs_cons (L1 := [0, 0, 1, 0, 0, 0, 0]) (sj_set (i := 5) (k := 0) sc__law_draws.nd rfl (.inl (by kernel_rfl)) (eo_callB c_abs fAbs_nx (gl_of (by kernel_rfl)) T.z_abs (by decide +kernel) (ea_cons (eb_var (n := 0) (i := 4) rfl (.inl (by kernel_rfl)) (by decide)) ea_nil)) (by decide) rfl (.inl rfl))
  (sjs_cons (L1 := [0, 0, 1, 0, 0, 0, 0]) (sj_set (i := 3) (k := 0) sc__law_draws.nd rfl (.inl (by kernel_rfl)) (eo_op o_mod dMod_nx (EO.up (k := 0) (n := 0) (eo_callTy c_int fInt_nx (gl_of (by kernel_rfl)) T.z_int (by decide +kernel) (ea_cons (EO.up (k := 1) (n := 0) (eo_op o_add dAdd_nx (EO.up (k := 1) (n := 1) (eo_op o_add dAdd_nx (EO.up (k := 0) (n := 1) (eo_op o_mul dMul_nx (eb_var (n := 0) (i := 3) rfl (.inl (by kernel_rfl)) (by decide)) (EO.up (k := 0) (n := 0) eo_int))) (eb_var (n := 1) (i := 5) rfl (.inl (by kernel_rfl)) (by decide)))) (EO.up (k := 0) (n := 1) eo_int))) ea_nil))) (EO.up (k := 0) (n := 0) eo_int)) (by decide) rfl (.inl rfl))
  (sjs_cons (L1 := [0, 0, 1, 0, 0, 0, 0]) (sj_if (et_cmp o_ge dCmpI_nx (eb_var (n := 0) (i := 5) rfl (.inl (by kernel_rfl)) (by decide)) (EO.up (k := 0) (n := 0) (eo_op o_pow dPow_nx (EO.up (k := 0) (n := 0) eo_int) (EO.up (k := 0) (n := 0) eo_int))) (nomark _)) (sjs_cons (L1 := [0, 0, 1, 0, 0, 0, 0]) (sj_for (passes_of rfl) rfl (ei_range1 (gl_of (by kernel_rfl)) T.z_range (ea_cons (EO.up (k := 0) (n := 0) eo_int) ea_nil)) (pg_name (i := 6) sc__law_draws.nd rfl (.inl (by kernel_rfl)) (.inl rfl)) (gs_name 6) (by decide)
  (sjs_cons (L1 := [0, 0, 1, 0, 0, 0, 0]) (sj_if (et_cmp o_gt dCmpI_nx (eb_var (n := 0) (i := 5) rfl (.inl (by kernel_rfl)) (by decide)) (EO.up (k := 0) (n := 0) eo_int) (nomark _)) (sjs_cons (L1 := [0, 0, 1, 0, 0, 0, 0]) (sj_append (i := 2) (k := 0) rfl (.inl (by kernel_rfl)) rfl (eo_op o_mod dMod_nx (EO.up (k := 0) (n := 0) (eo_callTy c_int fInt_nx (gl_of (by kernel_rfl)) T.z_int (by decide +kernel) (ea_cons (eb_var (n := 0) (i := 5) rfl (.inl (by kernel_rfl)) (by decide)) ea_nil))) (EO.up (k := 0) (n := 0) eo_int)))
  (sjs_one (sj_set (i := 5) (k := 0) sc__law_draws.nd rfl (.inl (by kernel_rfl)) (eo_op o_div dDiv_nx (eb_var (n := 0) (i := 5) rfl (.inl (by kernel_rfl)) (by decide)) (EO.up (k := 0) (n := 0) eo_int)) (by decide) rfl (.inl rfl)))) sjs_nil)
  (sjs_kill [6] sjs_nil)))
  (sjs_kill [5, 6] sjs_nil)) (sjs_one (sj_append (i := 2) (k := 0) rfl (.inl (by kernel_rfl)) rfl (eo_op o_mod dMod_nx (EO.up (k := 0) (n := 0) (eo_op o_div dDiv_nx (EO.up (k := 0) (n := 0) (eo_callTy c_int fInt_nx (gl_of (by kernel_rfl)) T.z_int (by decide +kernel) (ea_cons (EO.up (k := 1) (n := 0) (eo_op o_add dAdd_nx (EO.up (k := 0) (n := 1) (eo_op o_mul dMul_nx (eb_var (n := 0) (i := 3) rfl (.inl (by kernel_rfl)) (by decide)) (EO.up (k := 0) (n := 0) eo_int))) (EO.up (k := 0) (n := 1) eo_int))) ea_nil))) (EO.up (k := 0) (n := 0) eo_int))) (EO.up (k := 0) (n := 0) eo_int)))))
  (sjs_kill [4, 5, 6] sjs_nil)))))
  (sjs_kill [4, 5, 6] (sjs_cons (L1 := [0, 0, 1, 0, 0, 0, 0]) (sj_for (passes_of rfl) rfl (ei_range1 (gl_of (by kernel_rfl)) T.z_range (ea_cons (eb_var (n := 0) (i := 1) rfl (.inl (by kernel_rfl)) (by decide)) ea_nil)) (pg_name (i := 6) sc__law_draws.nd rfl (.inl (by kernel_rfl)) (.inl rfl)) (gs_name 6) (by decide)
  (sjs_cons (L1 := [0, 0, 1, 0, 0, 0, 0]) (sj_if (et_cmp o_lt dCmpI_nx (EO.up (k := 0) (n := 0) (eo_callB c_len fLen_nx (gl_of (by kernel_rfl)) T.z_len (by decide +kernel) (ea_cons (eb_var (n := 1) (i := 2) rfl (.inl (by kernel_rfl)) (by decide)) ea_nil))) (eb_var (n := 0) (i := 1) rfl (.inl (by kernel_rfl)) (by decide)) (nomark _)) (sjs_cons (L1 := [0, 0, 1, 0, 0, 0, 0]) (sj_set (i := 3) (k := 0) sc__law_draws.nd rfl (.inl (by kernel_rfl)) (eo_op o_mod dMod_nx (EO.up (k := 0) (n := 0) (eo_callTy c_int fInt_nx (gl_of (by kernel_rfl)) T.z_int (by decide +kernel) (ea_cons (EO.up (k := 1) (n := 0) (eo_op o_add dAdd_nx (EO.up (k := 1) (n := 1) (eo_op o_add dAdd_nx (EO.up (k := 0) (n := 1) (eo_op o_mul dMul_nx (eb_var (n := 0) (i := 3) rfl (.inl (by kernel_rfl)) (by decide)) (EO.up (k := 0) (n := 0) eo_int))) (eb_var (n := 1) (i := 6) rfl (.inl (by kernel_rfl)) (by decide)))) (EO.up (k := 0) (n := 1) eo_int))) ea_nil))) (EO.up (k := 0) (n := 0) eo_int)) (by decide) rfl (.inl rfl))
  (sjs_one (sj_append (i := 2) (k := 0) rfl (.inl (by kernel_rfl)) rfl (eo_op o_mod dMod_nx (EO.up (k := 0) (n := 0) (eo_op o_div dDiv_nx (EO.up (k := 0) (n := 0) (eo_callTy c_int fInt_nx (gl_of (by kernel_rfl)) T.z_int (by decide +kernel) (ea_cons (eb_var (n := 0) (i := 3) rfl (.inl (by kernel_rfl)) (by decide)) ea_nil))) (EO.up (k := 0) (n := 0) eo_int))) (EO.up (k := 0) (n := 0) eo_int))))) sjs_nil)
  (sjs_kill [6] sjs_nil)))
  (sjs_kill [3, 6] (sjs_one (sj_ret (EB.o (EO.b (k := 1) (eo_sl (eb_var (n := 1) (i := 2) rfl (.inl (by kernel_rfl)) (by decide)) ep_none (ep_some (eb_var (n := 0) (i := 1) rfl (.inl (by kernel_rfl)) (by decide))))))))))))))), b, F.kp⟩
theorem ok__law_size (T : Txt K mg) : ∃ fd, (∀ base : Heap, FnOk P w K mg base (L2.CX P w) 1 (He.ga K "_law_size") fd ["number"] (Spec K mg 1 0 C__law_size)) ∧ BA fd ["number"] ∧ PySem.W.keepIn K (.ref (He.ga K "_law_size")) = true := by
  obtain ⟨fd, F, b⟩ := T.F__law_size
  exact ⟨fd, fun base => fn_ok (N := n__law_size) (nN := 2) (k := 0) (kr := 0) (L := [0, 0]) (L' := [0, 0]) (FF := F__law_size) F sc__law_size rfl rfl rfl rfl fun cdv A outer s H E hr => ((sjs_cons (L1 := [0, 0]) (sj_set (i := 1) (k := 0) sc__law_size.nd rfl (.inl (by kernel_rfl)) eo_int (by decide) rfl (.inl rfl))
  (sjs_cons (L1 := [0, 0]) (sj_while 100000 (passes_of rfl) (et_cmp o_gt dCmpI_nx (eb_var (n := 0) (i := 0) rfl (.inl (by kernel_rfl)) (by decide)) (EO.up (k := 0) (n := 0) eo_int) (nomark _))
  (sjs_one (sj_par2 (i := 1) (j := 0) (k1 := 0) (k2 := 0) rfl sc__law_size.nd rfl rfl (by decide) (by kernel_rfl) (by kernel_rfl) (EB.o (EO.b (k := 1) (eo_op o_add dAdd_nx (eb_var (n := 1) (i := 1) rfl (.inl (by kernel_rfl)) (by decide)) (EO.up (k := 0) (n := 1) eo_int)))) (eo_op o_div dDiv_nx (eb_var (n := 0) (i := 0) rfl (.inl (by kernel_rfl)) (by decide)) (EO.up (k := 0) (n := 0) eo_int)) (by decide) (by decide) (by kernel_rfl))))
  (sjs_kill [0] (sjs_one (sj_ret (EB.o (eb_var (n := 0) (i := 1) rfl (.inl (by kernel_rfl)) (by decide))))))))), b, F.kp⟩
theorem ok__law_cost (T : Txt K mg) : ∃ fd, (∀ base : Heap, FnOk P w K mg base (L2.CX P w) 2 (He.ga K "_law_cost") fd ["piece"] (Spec K mg 1 0 C__law_cost)) ∧ BA fd ["piece"] ∧ PySem.W.keepIn K (.ref (He.ga K "_law_cost")) = true := by
  obtain ⟨fd, F, b⟩ := T.F__law_cost
  obtain ⟨fd__law_size, G__law_size, b__law_size, k__law_size⟩ := ok__law_size (P := P) (w := w) T
  exact ⟨fd, fun base => fn_ok (N := n__law_cost) (nN := 1) (k := 1) (kr := 0) (L := [0]) (L' := [0]) (FF := F__law_cost) F sc__law_cost rfl rfl rfl rfl fun cdv A outer s H E hr => ((sjs_cons (L1 := [0]) (sj_if (et_cmp (o_eq hr.units) dEq_nx (eb_ix (eb_var (n := 2) (i := 0) rfl (.inl (by kernel_rfl)) (by decide)) (EO.up (k := 0) (n := 0) eo_int)) (EO.up (k := 0) (n := 1) eo_str) (nomark _)) (sjs_one (sj_ret (EB.o (EO.b (k := 1) (eo_op o_add dAdd_nx (EO.up (k := 1) (n := 1) (eo_op o_add dAdd_nx (EO.up (k := 0) (n := 1) eo_int) (EO.up (k := 0) (n := 1) (eo_call (G__law_size base) (hr.mono (by decide)) (gl_of (by kernel_rfl)) T.g__law_size k__law_size b__law_size.b (takes_of rfl rfl rfl rfl) (ea_cons (eb_ix (eb_var (n := 1) (i := 0) rfl (.inl (by kernel_rfl)) (by decide)) (EO.up (k := 0) (n := 0) eo_int)) ea_nil))))) (EO.up (k := 0) (n := 1) (eo_call (G__law_size base) (hr.mono (by decide)) (gl_of (by kernel_rfl)) T.g__law_size k__law_size b__law_size.b (takes_of rfl rfl rfl rfl) (ea_cons (eb_ix (eb_var (n := 1) (i := 0) rfl (.inl (by kernel_rfl)) (by decide)) (EO.up (k := 0) (n := 0) eo_int)) ea_nil)))))))) sjs_nil)
  (sjs_one (sj_ret (EB.o (EO.b (k := 1) (eo_op o_add dAdd_nx (EO.up (k := 1) (n := 1) (eo_op o_add dAdd_nx (EO.up (k := 0) (n := 1) eo_int) (EO.up (k := 0) (n := 1) (eo_call (G__law_size base) (hr.mono (by decide)) (gl_of (by kernel_rfl)) T.g__law_size k__law_size b__law_size.b (takes_of rfl rfl rfl rfl) (ea_cons (EO.up (k := 0) (n := 0) (eo_callB c_len fLen_nx (gl_of (by kernel_rfl)) T.z_len (by decide +kernel) (ea_cons (eb_ix (eb_var (n := 2) (i := 0) rfl (.inl (by kernel_rfl)) (by decide)) (EO.up (k := 0) (n := 0) eo_int)) ea_nil))) ea_nil))))) (EO.up (k := 0) (n := 1) (eo_callB c_len fLen_nx (gl_of (by kernel_rfl)) T.z_len (by decide +kernel) (ea_cons (eb_ix (eb_var (n := 2) (i := 0) rfl (.inl (by kernel_rfl)) (by decide)) (EO.up (k := 0) (n := 0) eo_int)) ea_nil)))))))))), b, F.kp⟩
theorem ok__law_steps (T : Txt K mg) : ∃ fd, (∀ base : Heap, FnOk P w K mg base (L2.CX P w) 3 (He.ga K "_law_steps") fd ["base", "goal"] (Spec K mg 2 0 C__law_steps)) ∧ BA fd ["base", "goal"] ∧ PySem.W.keepIn K (.ref (He.ga K "_law_steps")) = true := by
  obtain ⟨fd, F, b⟩ := T.F__law_steps
  obtain ⟨fd__law_cost, G__law_cost, b__law_cost, k__law_cost⟩ := ok__law_cost (P := P) (w := w) T
  exact ⟨fd, fun base => fn_ok (N := n__law_steps) (nN := 8) (k := 2) (kr := 0) (L := [0, 0, 0, 0, 0, 0, 0, 0]) (L' := [0, 0, 0, 0, 0, 0, 0, 0]) (FF := F__law_steps) F sc__law_steps rfl rfl rfl rfl fun cdv A outer s H E hr => ((sjs_cons (L1 := [0, 0, 1, 0, 0, 0, 0, 0]) (sj_set (i := 2) (k := 1) sc__law_steps.nd rfl (.inl (by kernel_rfl)) (eo_nil) (by decide) rfl (.inl rfl))
  (sjs_cons (L1 := [0, 0, 1, 0, 0, 0, 0, 0]) (sj_for (passes_of rfl) rfl (ei_range1 (gl_of (by kernel_rfl)) T.z_range (ea_cons (EO.up (k := 0) (n := 0) (eo_callB c_len fLen_nx (gl_of (by kernel_rfl)) T.z_len (by decide +kernel) (ea_cons (eb_var (n := 1) (i := 1) rfl (.inr (.inl (by kernel_rfl))) (by decide)) ea_nil))) ea_nil)) (pg_name (i := 3) sc__law_steps.nd rfl (.inr (by kernel_rfl)) (.inl rfl)) (gs_name 3) (by decide)
  (sjs_cons (L1 := [0, 0, 1, 0, 1, 0, 0, 0]) (sj_set (i := 4) (k := 1) sc__law_steps.nd rfl (.inl (by kernel_rfl)) (eo_nil) (by decide) rfl (.inl rfl))
  (sjs_cons (L1 := [0, 0, 1, 0, 1, 0, 0, 0]) (sj_for (passes_of rfl) rfl (ei_range2 (gl_of (by kernel_rfl)) T.z_range (ea_cons (EO.up (k := 1) (n := 0) (eo_op o_add dAdd_nx (eb_var (n := 1) (i := 3) rfl (.inr (.inl (by kernel_rfl))) (by decide)) (EO.up (k := 0) (n := 1) eo_int))) (ea_cons (EO.up (k := 1) (n := 0) (eo_op o_add dAdd_nx (EO.up (k := 0) (n := 1) (eo_callB c_len fLen_nx (gl_of (by kernel_rfl)) T.z_len (by decide +kernel) (ea_cons (eb_var (n := 1) (i := 1) rfl (.inr (.inl (by kernel_rfl))) (by decide)) ea_nil))) (EO.up (k := 0) (n := 1) eo_int))) ea_nil))) (pg_name (i := 5) sc__law_steps.nd rfl (.inr (by kernel_rfl)) (.inl rfl)) (gs_name 5) (by decide)
  (sjs_cons (L1 := [0, 0, 1, 0, 1, 0, 0, 0]) (sj_append (i := 4) (k := 0) rfl (.inl (by kernel_rfl)) rfl (eo_tup (ea_cons (EO.up (k := 0) (n := 0) (eo_call (G__law_cost base) (hr.mono (by decide)) (gl_of (by kernel_rfl)) T.g__law_cost k__law_cost b__law_cost.b (takes_of rfl rfl rfl rfl) (ea_cons (EO.up (k := 0) (n := 0) (eo_tup (ea_cons (EO.up (k := 0) (n := 0) eo_str) (ea_cons (EO.up (k := 1) (n := 0) (eo_sl (eb_var (n := 1) (i := 1) rfl (.inr (.inl (by kernel_rfl))) (by decide)) (ep_some (eb_var (n := 0) (i := 3) rfl (.inr (.inl (by kernel_rfl))) (by decide))) (ep_some (eb_var (n := 0) (i := 5) rfl (.inr (.inl (by kernel_rfl))) (by decide))))) ea_nil)))) ea_nil))) (ea_cons (eb_var (n := 0) (i := 5) rfl (.inr (.inl (by kernel_rfl))) (by decide)) ea_nil))))
  (sjs_cons (L1 := [0, 0, 1, 0, 1, 0, 1, 0]) (sj_setLc (i := 6) (k := 0) (own := [("at", 7)]) rfl sc__law_steps.nd rfl (by kernel_rfl) (by decide) (sw_true rfl (by kernel_rfl) rfl (by decide +kernel)) (ei_range1 (gl_of (by kernel_rfl)) T.z_range (ea_cons (EO.up (k := 0) (n := 0) (eo_callB c_len fLen_nx (gl_of (by kernel_rfl)) T.z_len (by decide +kernel) (ea_cons (eb_var (n := 1) (i := 0) rfl (.inr (.inl (by kernel_rfl))) (by decide)) ea_nil))) ea_nil)) (blkOk_by (by kernel_rfl)) (fun _ _ _ _ _ => (pg_name (i := 7) sc__law_steps.nd rfl (.inl (by kernel_rfl)) (.inr (by kernel_rfl)))) (fun _ _ _ _ _ => (ets_one (et_cmp (o_eq hr.units) dEq_nx (EO.up (k := 1) (n := 1) (eo_sl (eb_var (n := 1) (i := 0) rfl (.inr (.inl (by kernel_rfl))) (by decide)) (ep_some (eb_var (n := 0) (i := 7) rfl (.inl (by kernel_rfl)) (by decide))) (ep_some (EO.up (k := 0) (n := 0) (eo_op o_sub dSub_nx (EO.up (k := 1) (n := 0) (eo_op o_add dAdd_nx (eb_var (n := 1) (i := 7) rfl (.inl (by kernel_rfl)) (by decide)) (eb_var (n := 1) (i := 5) rfl (.inr (.inl (by kernel_rfl))) (by decide)))) (eb_var (n := 0) (i := 3) rfl (.inr (.inl (by kernel_rfl))) (by decide))))))) (EO.up (k := 1) (n := 1) (eo_sl (eb_var (n := 1) (i := 1) rfl (.inr (.inl (by kernel_rfl))) (by decide)) (ep_some (eb_var (n := 0) (i := 3) rfl (.inr (.inl (by kernel_rfl))) (by decide))) (ep_some (eb_var (n := 0) (i := 5) rfl (.inr (.inl (by kernel_rfl))) (by decide))))) (nomark _)))) (fun _ _ _ _ _ => (EB.o (eb_var (n := 0) (i := 7) rfl (.inl (by kernel_rfl)) (by decide)))) (gs_name 7) (by decide) (by decide))
  (sjs_cons (L1 := [0, 0, 1, 0, 1, 0, 1, 0]) (sj_if (et_cmp o_gt dCmpI_nx (EO.up (k := 0) (n := 0) (eo_callB c_len fLen_nx (gl_of (by kernel_rfl)) T.z_len (by decide +kernel) (ea_cons (eb_var (n := 1) (i := 6) rfl (.inl (by kernel_rfl)) (by decide)) ea_nil))) (EO.up (k := 0) (n := 0) eo_int) (nomark _)) (sjs_one (sj_append (i := 4) (k := 0) rfl (.inl (by kernel_rfl)) rfl (eo_tup (ea_cons (EO.up (k := 0) (n := 0) (eo_call (G__law_cost base) (hr.mono (by decide)) (gl_of (by kernel_rfl)) T.g__law_cost k__law_cost b__law_cost.b (takes_of rfl rfl rfl rfl) (ea_cons (EO.up (k := 0) (n := 0) (eo_tup (ea_cons (EO.up (k := 0) (n := 0) eo_str) (ea_cons (eb_ix (eb_var (n := 1) (i := 6) rfl (.inl (by kernel_rfl)) (by decide)) (EO.up (k := 0) (n := 0) eo_int)) (ea_cons (EO.up (k := 0) (n := 0) (eo_op o_sub dSub_nx (eb_var (n := 0) (i := 5) rfl (.inr (.inl (by kernel_rfl))) (by decide)) (eb_var (n := 0) (i := 3) rfl (.inr (.inl (by kernel_rfl))) (by decide)))) ea_nil))))) ea_nil))) (ea_cons (eb_var (n := 0) (i := 5) rfl (.inr (.inl (by kernel_rfl))) (by decide)) ea_nil))))) sjs_nil)
  (sjs_kill [5, 6] (sjs_drop 6 sjs_nil))))))
  (sjs_kill [5, 6] (sjs_drop 4 (sjs_cons (L1 := [0, 0, 1, 0, 0, 0, 0, 0]) (sj_append (i := 2) (k := 0) rfl (.inl (by kernel_rfl)) rfl (EB.o (eb_var (n := 0) (i := 4) rfl (.inl (by kernel_rfl)) (by decide))))
  (sjs_kill [3, 4, 5, 6] sjs_nil)))))))
  (sjs_kill [3, 4, 5, 6] (sjs_drop 2 (sjs_one (sj_ret (EB.o (eb_var (n := 0) (i := 2) rfl (.inl (by kernel_rfl)) (by decide)))))))))), b, F.kp⟩
theorem ok__law_prices (T : Txt K mg) : ∃ fd, (∀ base : Heap, FnOk P w K mg base (L2.CX P w) 1 (He.ga K "_law_prices") fd ["steps"] (Spec K mg 1 0 C__law_prices)) ∧ BA fd ["steps"] ∧ PySem.W.keepIn K (.ref (He.ga K "_law_prices")) = true := by
  obtain ⟨fd, F, b⟩ := T.F__law_prices
  exact ⟨fd, fun base => fn_ok (N := n__law_prices) (nN := 5) (k := 0) (kr := 0) (L := [0, 0, 0, 0, 0]) (L' := [0, 0, 0, 0, 0]) (FF := F__law_prices) F sc__law_prices rfl rfl rfl rfl fun cdv A outer s H E hr => ((sjs_cons (L1 := [0, 0, 0, 0, 0]) (sj_set (i := 1) (k := 0) sc__law_prices.nd rfl (.inr (by kernel_rfl)) (EB.o (EO.b (k := 1) (eo_lst (ea_cons (EO.up (k := 0) (n := 0) eo_int) ea_nil)))) (by decide) rfl (.inl rfl))
  (sjs_cons (L1 := [0, 0, 0, 0, 0]) (sj_for (passes_of rfl) rfl (ei_range3 (gl_of (by kernel_rfl)) T.z_range (ea_cons (EO.up (k := 0) (n := 0) (eo_op o_sub dSub_nx (EO.up (k := 0) (n := 0) (eo_callB c_len fLen_nx (gl_of (by kernel_rfl)) T.z_len (by decide +kernel) (ea_cons (eb_var (n := 1) (i := 0) rfl (.inl (by kernel_rfl)) (by decide)) ea_nil))) (EO.up (k := 0) (n := 0) eo_int))) (ea_cons (EO.up (k := 0) (n := 0) (eo_un o_neg dNeg_nx (EO.up (k := 0) (n := 0) eo_int))) (ea_cons (EO.up (k := 0) (n := 0) (eo_un o_neg dNeg_nx (EO.up (k := 0) (n := 0) eo_int))) ea_nil)))) (pg_name (i := 2) sc__law_prices.nd rfl (.inr (by kernel_rfl)) (.inl rfl)) (gs_name 2) (by decide)
  (sjs_cons (L1 := [0, 0, 0, 0, 0]) (sj_set (i := 1) (k := 0) sc__law_prices.nd rfl (.inr (by kernel_rfl)) (EB.o (EO.b (k := 1) (eo_op o_add dAdd_nx (EO.up (k := 1) (n := 1) (eo_lst (ea_cons (EO.up (k := 0) (n := 0) (eo_callB (c_min rfl hr.hd hr.units) fMin_nx (gl_of (by kernel_rfl)) T.z_min (by decide +kernel) (ea_cons (EO.up (k := 1) (n := 1) (eo_lc (own := [("cost", 3), ("end", 4)]) rfl sc__law_prices.nd (ei_seq (eb_ix (eb_var (n := 2) (i := 0) rfl (.inl (by kernel_rfl)) (by decide)) (eb_var (n := 0) (i := 2) rfl (.inr (.inl (by kernel_rfl))) (by decide)))) (blkOk_by (by kernel_rfl)) (fun _ _ _ _ _ => (pg_tup rfl (pgs_cons (pg_name (i := 3) sc__law_prices.nd rfl (.inl (by kernel_rfl)) (.inr (by kernel_rfl))) (pgs_cons (pg_name (i := 4) sc__law_prices.nd rfl (.inl (by kernel_rfl)) (.inr (by kernel_rfl))) pgs_nil)))) (fun _ _ _ _ _ => ets_nil) (fun _ _ _ _ _ => (EB.o (EO.b (k := 1) (eo_op o_add dAdd_nx (eb_var (n := 1) (i := 3) rfl (.inl (by kernel_rfl)) (by decide)) (eb_ix (eb_var (n := 2) (i := 1) rfl (.inr (.inl (by kernel_rfl))) (by decide)) (EO.up (k := 0) (n := 0) (eo_op o_sub dSub_nx (EO.up (k := 0) (n := 0) (eo_op o_sub dSub_nx (eb_var (n := 0) (i := 4) rfl (.inl (by kernel_rfl)) (by decide)) (eb_var (n := 0) (i := 2) rfl (.inr (.inl (by kernel_rfl))) (by decide)))) (EO.up (k := 0) (n := 0) eo_int)))))))) (gs_tup [3, 4]) (by decide) (by decide))) ea_nil))) ea_nil))) (eb_var (n := 1) (i := 1) rfl (.inr (.inl (by kernel_rfl))) (by decide))))) (by decide) rfl (.inl rfl))
  (sjs_kill [2] sjs_nil)))
  (sjs_kill [2] (sjs_one (sj_ret (eo_callTy c_tuple fTuple_nx (gl_of (by kernel_rfl)) T.z_tuple (by decide +kernel) (ea_cons (eb_var (n := 1) (i := 1) rfl (.inr (.inl (by kernel_rfl))) (by decide)) ea_nil)))))))), b, F.kp⟩
theorem ok_is_whole (T : Txt K mg) : ∃ fd, (∀ base : Heap, FnOk P w K mg base (L2.CX P w) 1 (He.ga K "is_whole") fd ["value"] (Spec K mg 1 0 C_is_whole)) ∧ BA fd ["value"] ∧ PySem.W.keepIn K (.ref (He.ga K "is_whole")) = true := by
  obtain ⟨fd, F, b⟩ := T.F_is_whole
  exact ⟨fd, fun base => fn_ok (N := n_is_whole) (nN := 1) (k := 0) (kr := 0) (L := [0]) (L' := [0]) (FF := F_is_whole) F sc_is_whole rfl rfl rfl rfl fun cdv A outer s H E hr => ((sjs_one (sj_ret (EB.o (eb_and (EO.up (k := 0) (n := 0) (eo_isi kind_int (gl_of (by kernel_rfl)) T.z_isinstance (gl_of (by kernel_rfl)) T.z_int (by decide +kernel) (eb_var (n := 1) (i := 0) rfl (.inl (by kernel_rfl)) (by decide)))) (eb_and (EO.up (k := 0) (n := 0) (eo_not (EO.up (k := 0) (n := 1) (eo_isi kind_bool (gl_of (by kernel_rfl)) T.z_isinstance (gl_of (by kernel_rfl)) T.z_bool (by decide +kernel) (eb_var (n := 1) (i := 0) rfl (.inl (by kernel_rfl)) (by decide)))))) (eb_one (EO.up (k := 0) (n := 0) (eo_cmp o_ge dCmpI_nx (eb_var (n := 0) (i := 0) rfl (.inl (by kernel_rfl)) (by decide)) (EO.up (k := 0) (n := 0) eo_int) (nomark _)))))))))), b, F.kp⟩
theorem ok_is_row (T : Txt K mg) : ∃ fd, (∀ base : Heap, FnOk P w K mg base (L2.CX P w) 2 (He.ga K "is_row") fd ["value"] (Spec K mg 1 0 C_is_row)) ∧ BA fd ["value"] ∧ PySem.W.keepIn K (.ref (He.ga K "is_row")) = true := by
  obtain ⟨fd, F, b⟩ := T.F_is_row
  obtain ⟨fd_is_whole, G_is_whole, b_is_whole, k_is_whole⟩ := ok_is_whole (P := P) (w := w) T
  exact ⟨fd, fun base => fn_ok (N := n_is_row) (nN := 2) (k := 1) (kr := 0) (L := [0, 0]) (L' := [0, 0]) (FF := F_is_row) F sc_is_row rfl rfl rfl rfl fun cdv A outer s H E hr => ((sjs_one (sj_ret (EB.o (eb_and (EO.up (k := 0) (n := 0) (eo_isi kind_tup (gl_of (by kernel_rfl)) T.z_isinstance (gl_of (by kernel_rfl)) T.z_tuple (by decide +kernel) (eb_var (n := 1) (i := 0) rfl (.inl (by kernel_rfl)) (by decide)))) (eb_one (EO.up (k := 0) (n := 0) (eo_callB (c_all rfl) fAll_nx (gl_of (by kernel_rfl)) T.z_all (by decide +kernel) (ea_cons (EO.up (k := 1) (n := 1) (eo_lc (own := [("one", 1)]) rfl sc_is_row.nd (ei_seq (eb_var (n := 1) (i := 0) rfl (.inl (by kernel_rfl)) (by decide))) (blkOk_by (by kernel_rfl)) (fun _ _ _ _ _ => (pg_name (i := 1) sc_is_row.nd rfl (.inl (by kernel_rfl)) (.inr (by kernel_rfl)))) (fun _ _ _ _ _ => ets_nil) (fun _ _ _ _ _ => (EB.o (eb_and (EO.up (k := 0) (n := 0) (eo_call (G_is_whole base) (hr.mono (by decide)) (gl_of (by kernel_rfl)) T.g_is_whole k_is_whole b_is_whole.b takes0 (ea_cons (eb_var (n := 0) (i := 1) rfl (.inl (by kernel_rfl)) (by decide)) ea_nil))) (eb_one (EO.up (k := 0) (n := 0) (eo_cmp o_lt dCmpI_nx (eb_var (n := 0) (i := 1) rfl (.inl (by kernel_rfl)) (by decide)) (EO.up (k := 0) (n := 0) eo_int) (nomark _))))))) (gs_name 1) (by decide) (by decide))) ea_nil))))))))), b, F.kp⟩
theorem ok_check_rows (T : Txt K mg) : ∃ fd, (∀ base : Heap, FnOk P w K mg base (L2.CX P w) 3 (He.ga K "check_rows") fd ["values"] (Spec K mg 1 0 C_check_rows)) ∧ BA fd ["values"] ∧ PySem.W.keepIn K (.ref (He.ga K "check_rows")) = true := by
  obtain ⟨fd, F, b⟩ := T.F_check_rows
  obtain ⟨fd_is_row, G_is_row, b_is_row, k_is_row⟩ := ok_is_row (P := P) (w := w) T
  exact ⟨fd, fun base => fn_ok (N := n_check_rows) (nN := 2) (k := 2) (kr := 0) (L := [0, 0]) (L' := [0, 0]) (FF := F_check_rows) F sc_check_rows rfl rfl rfl rfl fun cdv A outer s H E hr => ((sjs_one (sj_if (et_not (et_val (EO.up (k := 0) (n := 1) (eo_callB (c_all rfl) fAll_nx (gl_of (by kernel_rfl)) T.z_all (by decide +kernel) (ea_cons (EO.up (k := 1) (n := 1) (eo_lc (own := [("value", 1)]) rfl sc_check_rows.nd (ei_seq (eb_var (n := 1) (i := 0) rfl (.inl (by kernel_rfl)) (by decide))) (blkOk_by (by kernel_rfl)) (fun _ _ _ _ _ => (pg_name (i := 1) sc_check_rows.nd rfl (.inl (by kernel_rfl)) (.inr (by kernel_rfl)))) (fun _ _ _ _ _ => ets_nil) (fun _ _ _ _ _ => (eo_call (G_is_row base) (hr.mono (by decide)) (gl_of (by kernel_rfl)) T.g_is_row k_is_row b_is_row.b takes0 (ea_cons (eb_var (n := 0) (i := 1) rfl (.inl (by kernel_rfl)) (by decide)) ea_nil))) (gs_name 1) (by decide) (by decide))) ea_nil))))) (sjs_one (sj_raise rfl (takes_of rfl rfl rfl rfl) PySem.F.excBase_ValueError T.e_BadOctets.2.1 T.e_BadOctets.1 T.e_BadOctets.2.2.1 (raises_own T.e_BadOctets.2.2.2.1 T.e_BadOctets.2.2.2.2) (gl_of (by kernel_rfl)))) sjs_nil))), b, F.kp⟩
theorem ok__check (T : Txt K mg) : ∃ fd, (∀ base : Heap, FnOk P w K mg base (L2.CX P w) 4 (He.ga K "_check") fd ["base", "goal"] (Spec K mg 2 0 C__check)) ∧ BA fd ["base", "goal"] ∧ PySem.W.keepIn K (.ref (He.ga K "_check")) = true := by
  obtain ⟨fd, F, b⟩ := T.F__check
  obtain ⟨fd_check_rows, G_check_rows, b_check_rows, k_check_rows⟩ := ok_check_rows (P := P) (w := w) T
  exact ⟨fd, fun base => fn_ok (N := n__check) (nN := 2) (k := 3) (kr := 0) (L := [0, 0]) (L' := [0, 0]) (FF := F__check) F sc__check rfl rfl rfl rfl fun cdv A outer s H E hr => ((sjs_cons (L1 := [0, 0]) (sj_expr (EO.up (k := 0) (n := 0) (eo_call (G_check_rows base) (hr.mono (by decide)) (gl_of (by kernel_rfl)) T.g_check_rows k_check_rows b_check_rows.b (takes_of rfl rfl rfl rfl) (ea_cons (EO.up (k := 1) (n := 0) (eo_lst (ea_cons (eb_var (n := 0) (i := 0) rfl (.inl (by kernel_rfl)) (by decide)) (ea_cons (eb_var (n := 0) (i := 1) rfl (.inl (by kernel_rfl)) (by decide)) ea_nil)))) ea_nil))))
  (sjs_one (sj_if (et_cmp o_gt dCmpI_nx (EO.up (k := 0) (n := 0) (eo_callB (c_max rfl hr.hd hr.units) fMax_nx (gl_of (by kernel_rfl)) T.z_max (by decide +kernel) (ea_cons (EO.up (k := 0) (n := 1) (eo_callB c_len fLen_nx (gl_of (by kernel_rfl)) T.z_len (by decide +kernel) (ea_cons (eb_var (n := 1) (i := 0) rfl (.inl (by kernel_rfl)) (by decide)) ea_nil))) (ea_cons (EO.up (k := 0) (n := 1) (eo_callB c_len fLen_nx (gl_of (by kernel_rfl)) T.z_len (by decide +kernel) (ea_cons (eb_var (n := 1) (i := 1) rfl (.inl (by kernel_rfl)) (by decide)) ea_nil))) ea_nil)))) (EO.up (k := 0) (n := 0) (eo_gint (gl_of (by kernel_rfl)) T.c_MOST_OCTETS.choose_spec)) (nomark _)) (sjs_one (sj_raise rfl (takes_of rfl rfl rfl rfl) PySem.F.excBase_ValueError T.e_TooMany.2.1 T.e_TooMany.1 T.e_TooMany.2.2.1 (raises_own T.e_TooMany.2.2.2.1 T.e_TooMany.2.2.2.2) (gl_of (by kernel_rfl)))) sjs_nil)))), b, F.kp⟩
theorem ok__alike (T : Txt K mg) : ∃ fd, (∀ base : Heap, FnOk P w K mg base (L2.CX P w) 1 (He.ga K "_alike") fd ["base", "goal"] (Spec K mg 2 0 C__alike)) ∧ BA fd ["base", "goal"] ∧ PySem.W.keepIn K (.ref (He.ga K "_alike")) = true := by
  obtain ⟨fd, F, b⟩ := T.F__alike
  exact ⟨fd, fun base => fn_ok (N := n__alike) (nN := 6) (k := 0) (kr := 0) (L := [0, 0, 0, 0, 0, 0]) (L' := [0, 0, 0, 0, 0, 0]) (FF := F__alike) F sc__alike rfl rfl rfl rfl fun cdv A outer s H E hr => ((sjs_cons (L1 := [0, 0, 2, 0, 0, 0]) (sj_setLc (i := 2) (k := 1) (own := [("_place", 5)]) rfl sc__alike.nd rfl (by kernel_rfl) (by decide) (sw_true rfl (by kernel_rfl) rfl (by decide +kernel)) (ei_range1 (gl_of (by kernel_rfl)) T.z_range (ea_cons (EO.up (k := 1) (n := 0) (eo_op o_add dAdd_nx (EO.up (k := 0) (n := 1) (eo_callB c_len fLen_nx (gl_of (by kernel_rfl)) T.z_len (by decide +kernel) (ea_cons (eb_var (n := 1) (i := 0) rfl (.inl (by kernel_rfl)) (by decide)) ea_nil))) (EO.up (k := 0) (n := 1) eo_int))) ea_nil)) (blkOk_by (by kernel_rfl)) (fun _ _ _ _ _ => (pg_name (i := 5) sc__alike.nd rfl (.inl (by kernel_rfl)) (.inr (by kernel_rfl)))) (fun _ _ _ _ _ => ets_nil) (fun _ _ _ _ _ => (eo_rep (eo_lst (ea_cons (EO.up (k := 0) (n := 0) eo_int) ea_nil)) (EO.up (k := 1) (n := 0) (eo_op o_add dAdd_nx (EO.up (k := 0) (n := 1) (eo_callB c_len fLen_nx (gl_of (by kernel_rfl)) T.z_len (by decide +kernel) (ea_cons (eb_var (n := 1) (i := 1) rfl (.inr (.inl (by kernel_rfl))) (by decide)) ea_nil))) (EO.up (k := 0) (n := 1) eo_int))))) (gs_name 5) (by decide) (by decide))
  (sjs_cons (L1 := [0, 0, 2, 0, 0, 0]) (sj_for (passes_of rfl) rfl (ei_range3 (gl_of (by kernel_rfl)) T.z_range (ea_cons (EO.up (k := 0) (n := 0) (eo_op o_sub dSub_nx (EO.up (k := 0) (n := 0) (eo_callB c_len fLen_nx (gl_of (by kernel_rfl)) T.z_len (by decide +kernel) (ea_cons (eb_var (n := 1) (i := 0) rfl (.inl (by kernel_rfl)) (by decide)) ea_nil))) (EO.up (k := 0) (n := 0) eo_int))) (ea_cons (EO.up (k := 0) (n := 0) (eo_un o_neg dNeg_nx (EO.up (k := 0) (n := 0) eo_int))) (ea_cons (EO.up (k := 0) (n := 0) (eo_un o_neg dNeg_nx (EO.up (k := 0) (n := 0) eo_int))) ea_nil)))) (pg_name (i := 3) sc__alike.nd rfl (.inl (by kernel_rfl)) (.inl rfl)) (gs_name 3) (by decide)
  (sjs_cons (L1 := [0, 0, 2, 0, 0, 0]) (sj_for (passes_of rfl) rfl (ei_range3 (gl_of (by kernel_rfl)) T.z_range (ea_cons (EO.up (k := 0) (n := 0) (eo_op o_sub dSub_nx (EO.up (k := 0) (n := 0) (eo_callB c_len fLen_nx (gl_of (by kernel_rfl)) T.z_len (by decide +kernel) (ea_cons (eb_var (n := 1) (i := 1) rfl (.inr (.inl (by kernel_rfl))) (by decide)) ea_nil))) (EO.up (k := 0) (n := 0) eo_int))) (ea_cons (EO.up (k := 0) (n := 0) (eo_un o_neg dNeg_nx (EO.up (k := 0) (n := 0) eo_int))) (ea_cons (EO.up (k := 0) (n := 0) (eo_un o_neg dNeg_nx (EO.up (k := 0) (n := 0) eo_int))) ea_nil)))) (pg_name (i := 4) sc__alike.nd rfl (.inl (by kernel_rfl)) (.inl rfl)) (gs_name 4) (by decide)
  (sjs_cons (L1 := [0, 0, 2, 0, 0, 0]) (sj_if (et_cmp (o_eq hr.units) dEq_nx (eb_ix (eb_var (n := 2) (i := 0) rfl (.inl (by kernel_rfl)) (by decide)) (eb_var (n := 0) (i := 3) rfl (.inl (by kernel_rfl)) (by decide))) (eb_ix (eb_var (n := 2) (i := 1) rfl (.inr (.inl (by kernel_rfl))) (by decide)) (eb_var (n := 0) (i := 4) rfl (.inl (by kernel_rfl)) (by decide))) (nomark _)) (sjs_one (sj_put2 (i := 2) rfl (.inl (by kernel_rfl)) rfl (EO.up (k := 1) (n := 0) (eo_op o_add dAdd_nx (eb_ix (eb_ix (eb_var (n := 3) (i := 2) rfl (.inl (by kernel_rfl)) (by decide)) (EO.up (k := 1) (n := 0) (eo_op o_add dAdd_nx (eb_var (n := 1) (i := 3) rfl (.inl (by kernel_rfl)) (by decide)) (EO.up (k := 0) (n := 1) eo_int)))) (EO.up (k := 1) (n := 0) (eo_op o_add dAdd_nx (eb_var (n := 1) (i := 4) rfl (.inl (by kernel_rfl)) (by decide)) (EO.up (k := 0) (n := 1) eo_int)))) (EO.up (k := 0) (n := 1) eo_int))) (eb_var (n := 0) (i := 3) rfl (.inl (by kernel_rfl)) (by decide)) (eb_var (n := 0) (i := 4) rfl (.inl (by kernel_rfl)) (by decide)))) sjs_nil)
  (sjs_kill [4] sjs_nil)))
  (sjs_kill [4] (sjs_kill [3, 4] sjs_nil))))
  (sjs_kill [3, 4] (sjs_drop 2 (sjs_one (sj_ret (EB.o (eb_var (n := 0) (i := 2) rfl (.inl (by kernel_rfl)) (by decide)))))))))), b, F.kp⟩
theorem ok_written (T : Txt K mg) : ∃ fd, (∀ base : Heap, FnOk P w K mg base (L2.CX P w) 1 (He.ga K "written") fd ["number"] (Spec K mg 1 0 C_written)) ∧ BA fd ["number"] ∧ PySem.W.keepIn K (.ref (He.ga K "written")) = true := by
  obtain ⟨fd, F, b⟩ := T.F_written
  exact ⟨fd, fun base => fn_ok (N := n_written) (nN := 2) (k := 0) (kr := 0) (L := [0, 0]) (L' := [0, 0]) (FF := F_written) F sc_written rfl rfl rfl rfl fun cdv A outer s H E hr => ((sjs_cons (L1 := [0, 1]) (sj_set (i := 1) (k := 1) sc_written.nd rfl (.inl (by kernel_rfl)) (eo_nil) (by decide) rfl (.inl rfl))
  (sjs_cons (L1 := [0, 1]) (sj_while 100000 (passes_of rfl) (et_cmp o_ge dCmpI_nx (eb_var (n := 0) (i := 0) rfl (.inl (by kernel_rfl)) (by decide)) (EO.up (k := 0) (n := 0) (eo_gint (gl_of (by kernel_rfl)) T.c_GROUP.choose_spec)) (nomark _))
  (sjs_cons (L1 := [0, 1]) (sj_append (i := 1) (k := 0) rfl (.inl (by kernel_rfl)) rfl (EB.o (EO.b (k := 1) (eo_op o_add dAdd_nx (EO.up (k := 0) (n := 1) (eo_op o_mod dMod_nx (eb_var (n := 0) (i := 0) rfl (.inl (by kernel_rfl)) (by decide)) (EO.up (k := 0) (n := 0) (eo_gint (gl_of (by kernel_rfl)) T.c_GROUP.choose_spec)))) (EO.up (k := 0) (n := 1) (eo_gint (gl_of (by kernel_rfl)) T.c_GROUP.choose_spec))))))
  (sjs_one (sj_aug (i := 0) sc_written.nd rfl (.inl (by kernel_rfl)) o_idiv (EO.up (k := 0) (n := 0) (eo_gint (gl_of (by kernel_rfl)) T.c_GROUP.choose_spec)) (by decide) rfl (.inl rfl)))))
  (sjs_one (sj_ret (EB.o (EO.b (k := 1) (eo_op o_add dAdd_nx (EO.up (k := 0) (n := 1) (eo_callTy c_tuple fTuple_nx (gl_of (by kernel_rfl)) T.z_tuple (by decide +kernel) (ea_cons (eb_var (n := 1) (i := 1) rfl (.inl (by kernel_rfl)) (by decide)) ea_nil))) (EO.up (k := 0) (n := 1) (eo_tup (ea_cons (eb_var (n := 0) (i := 0) rfl (.inl (by kernel_rfl)) (by decide)) ea_nil))))))))))), b, F.kp⟩
theorem ok__put_cost (T : Txt K mg) : ∃ fd, (∀ base : Heap, FnOk P w K mg base (L2.CX P w) 2 (He.ga K "_put_cost") fd ["many"] (Spec K mg 1 0 C__put_cost)) ∧ BA fd ["many"] ∧ PySem.W.keepIn K (.ref (He.ga K "_put_cost")) = true := by
  obtain ⟨fd, F, b⟩ := T.F__put_cost
  obtain ⟨fd_written, G_written, b_written, k_written⟩ := ok_written (P := P) (w := w) T
  exact ⟨fd, fun base => fn_ok (N := n__put_cost) (nN := 1) (k := 1) (kr := 0) (L := [0]) (L' := [0]) (FF := F__put_cost) F sc__put_cost rfl rfl rfl rfl fun cdv A outer s H E hr => ((sjs_one (sj_ret (EB.o (EO.b (k := 1) (eo_op o_add dAdd_nx (EO.up (k := 1) (n := 1) (eo_op o_add dAdd_nx (EO.up (k := 0) (n := 1) eo_int) (EO.up (k := 0) (n := 1) (eo_callB c_len fLen_nx (gl_of (by kernel_rfl)) T.z_len (by decide +kernel) (ea_cons (EO.up (k := 0) (n := 1) (eo_call (G_written base) (hr.mono (by decide)) (gl_of (by kernel_rfl)) T.g_written k_written b_written.b (takes_of rfl rfl rfl rfl) (ea_cons (eb_var (n := 0) (i := 0) rfl (.inl (by kernel_rfl)) (by decide)) ea_nil))) ea_nil))))) (eb_var (n := 1) (i := 0) rfl (.inl (by kernel_rfl)) (by decide)))))))), b, F.kp⟩
theorem ok__copy_cost (T : Txt K mg) : ∃ fd, (∀ base : Heap, FnOk P w K mg base (L2.CX P w) 2 (He.ga K "_copy_cost") fd ["at", "many"] (Spec K mg 2 0 C__copy_cost)) ∧ BA fd ["at", "many"] ∧ PySem.W.keepIn K (.ref (He.ga K "_copy_cost")) = true := by
  obtain ⟨fd, F, b⟩ := T.F__copy_cost
  obtain ⟨fd_written, G_written, b_written, k_written⟩ := ok_written (P := P) (w := w) T
  exact ⟨fd, fun base => fn_ok (N := n__copy_cost) (nN := 2) (k := 1) (kr := 0) (L := [0, 0]) (L' := [0, 0]) (FF := F__copy_cost) F sc__copy_cost rfl rfl rfl rfl fun cdv A outer s H E hr => ((sjs_one (sj_ret (EB.o (EO.b (k := 1) (eo_op o_add dAdd_nx (EO.up (k := 1) (n := 1) (eo_op o_add dAdd_nx (EO.up (k := 0) (n := 1) eo_int) (EO.up (k := 0) (n := 1) (eo_callB c_len fLen_nx (gl_of (by kernel_rfl)) T.z_len (by decide +kernel) (ea_cons (EO.up (k := 0) (n := 1) (eo_call (G_written base) (hr.mono (by decide)) (gl_of (by kernel_rfl)) T.g_written k_written b_written.b (takes_of rfl rfl rfl rfl) (ea_cons (eb_var (n := 0) (i := 0) rfl (.inl (by kernel_rfl)) (by decide)) ea_nil))) ea_nil))))) (EO.up (k := 0) (n := 1) (eo_callB c_len fLen_nx (gl_of (by kernel_rfl)) T.z_len (by decide +kernel) (ea_cons (EO.up (k := 0) (n := 1) (eo_call (G_written base) (hr.mono (by decide)) (gl_of (by kernel_rfl)) T.g_written k_written b_written.b (takes_of rfl rfl rfl rfl) (ea_cons (eb_var (n := 0) (i := 1) rfl (.inl (by kernel_rfl)) (by decide)) ea_nil))) ea_nil))))))))), b, F.kp⟩
theorem ok__pieces (T : Txt K mg) : ∃ fd, (∀ base : Heap, FnOk P w K mg base (L2.CX P w) 3 (He.ga K "_pieces") fd ["base", "goal", "alike", "place"] (Spec K mg 4 0 C__pieces)) ∧ BA fd ["base", "goal", "alike", "place"] ∧ PySem.W.keepIn K (.ref (He.ga K "_pieces")) = true := by
  obtain ⟨fd, F, b⟩ := T.F__pieces
  obtain ⟨fd__put_cost, G__put_cost, b__put_cost, k__put_cost⟩ := ok__put_cost (P := P) (w := w) T
  obtain ⟨fd__copy_cost, G__copy_cost, b__copy_cost, k__copy_cost⟩ := ok__copy_cost (P := P) (w := w) T
  exact ⟨fd, fun base => fn_ok (N := n__pieces) (nN := 7) (k := 2) (kr := 0) (L := [0, 0, 0, 0, 0, 0, 0]) (L' := [0, 0, 0, 0, 0, 0, 0]) (FF := F__pieces) F sc__pieces rfl rfl rfl rfl fun cdv A outer s H E hr => ((sjs_cons (L1 := [0, 0, 0, 0, 1, 0, 0]) (sj_set (i := 4) (k := 1) sc__pieces.nd rfl (.inl (by kernel_rfl)) (eo_nil) (by decide) rfl (.inl rfl))
  (sjs_cons (L1 := [0, 0, 0, 0, 1, 0, 0]) (sj_for (passes_of rfl) rfl (ei_range2 (gl_of (by kernel_rfl)) T.z_range (ea_cons (EO.up (k := 0) (n := 0) eo_int) (ea_cons (EO.up (k := 1) (n := 0) (eo_op o_add dAdd_nx (EO.up (k := 0) (n := 1) (eo_op o_sub dSub_nx (EO.up (k := 0) (n := 0) (eo_callB c_len fLen_nx (gl_of (by kernel_rfl)) T.z_len (by decide +kernel) (ea_cons (eb_var (n := 1) (i := 1) rfl (.inl (by kernel_rfl)) (by decide)) ea_nil))) (eb_var (n := 0) (i := 3) rfl (.inl (by kernel_rfl)) (by decide)))) (EO.up (k := 0) (n := 1) eo_int))) ea_nil))) (pg_name (i := 5) sc__pieces.nd rfl (.inl (by kernel_rfl)) (.inl rfl)) (gs_name 5) (by decide)
  (sjs_cons (L1 := [0, 0, 0, 0, 1, 0, 0]) (sj_append (i := 4) (k := 0) rfl (.inl (by kernel_rfl)) rfl (eo_tup (ea_cons (EO.up (k := 0) (n := 0) (eo_call (G__put_cost base) (hr.mono (by decide)) (gl_of (by kernel_rfl)) T.g__put_cost k__put_cost b__put_cost.b (takes_of rfl rfl rfl rfl) (ea_cons (eb_var (n := 0) (i := 5) rfl (.inl (by kernel_rfl)) (by decide)) ea_nil))) (ea_cons (EO.up (k := 1) (n := 0) (eo_op o_add dAdd_nx (eb_var (n := 1) (i := 3) rfl (.inl (by kernel_rfl)) (by decide)) (eb_var (n := 1) (i := 5) rfl (.inl (by kernel_rfl)) (by decide)))) (ea_cons (EO.up (k := 0) (n := 0) (eo_tup (ea_cons (EO.up (k := 0) (n := 0) (eo_gstr (gl_of (by kernel_rfl)) T.c_PUT.choose_spec)) (ea_cons (EO.up (k := 1) (n := 0) (eo_sl (eb_var (n := 1) (i := 1) rfl (.inl (by kernel_rfl)) (by decide)) (ep_some (eb_var (n := 0) (i := 3) rfl (.inl (by kernel_rfl)) (by decide))) (ep_some (EO.up (k := 1) (n := 0) (eo_op o_add dAdd_nx (eb_var (n := 1) (i := 3) rfl (.inl (by kernel_rfl)) (by decide)) (eb_var (n := 1) (i := 5) rfl (.inl (by kernel_rfl)) (by decide))))))) ea_nil)))) ea_nil)))))
  (sjs_kill [5] sjs_nil)))
  (sjs_kill [5] (sjs_cons (L1 := [0, 0, 0, 0, 1, 0, 0]) (sj_for (passes_of rfl) rfl (ei_range1 (gl_of (by kernel_rfl)) T.z_range (ea_cons (EO.up (k := 0) (n := 0) (eo_callB c_len fLen_nx (gl_of (by kernel_rfl)) T.z_len (by decide +kernel) (ea_cons (eb_var (n := 1) (i := 0) rfl (.inl (by kernel_rfl)) (by decide)) ea_nil))) ea_nil)) (pg_name (i := 6) sc__pieces.nd rfl (.inl (by kernel_rfl)) (.inl rfl)) (gs_name 6) (by decide)
  (sjs_cons (L1 := [0, 0, 0, 0, 1, 0, 0]) (sj_for (passes_of rfl) rfl (ei_range2 (gl_of (by kernel_rfl)) T.z_range (ea_cons (EO.up (k := 0) (n := 0) eo_int) (ea_cons (EO.up (k := 1) (n := 0) (eo_op o_add dAdd_nx (eb_ix (eb_ix (eb_var (n := 3) (i := 2) rfl (.inl (by kernel_rfl)) (by decide)) (eb_var (n := 0) (i := 6) rfl (.inl (by kernel_rfl)) (by decide))) (eb_var (n := 0) (i := 3) rfl (.inl (by kernel_rfl)) (by decide))) (EO.up (k := 0) (n := 1) eo_int))) ea_nil))) (pg_name (i := 5) sc__pieces.nd rfl (.inl (by kernel_rfl)) (.inl rfl)) (gs_name 5) (by decide)
  (sjs_cons (L1 := [0, 0, 0, 0, 1, 0, 0]) (sj_append (i := 4) (k := 0) rfl (.inl (by kernel_rfl)) rfl (eo_tup (ea_cons (EO.up (k := 0) (n := 0) (eo_call (G__copy_cost base) (hr.mono (by decide)) (gl_of (by kernel_rfl)) T.g__copy_cost k__copy_cost b__copy_cost.b (takes_of rfl rfl rfl rfl) (ea_cons (eb_var (n := 0) (i := 6) rfl (.inl (by kernel_rfl)) (by decide)) (ea_cons (eb_var (n := 0) (i := 5) rfl (.inl (by kernel_rfl)) (by decide)) ea_nil)))) (ea_cons (EO.up (k := 1) (n := 0) (eo_op o_add dAdd_nx (eb_var (n := 1) (i := 3) rfl (.inl (by kernel_rfl)) (by decide)) (eb_var (n := 1) (i := 5) rfl (.inl (by kernel_rfl)) (by decide)))) (ea_cons (EO.up (k := 0) (n := 0) (eo_tup (ea_cons (EO.up (k := 0) (n := 0) (eo_gstr (gl_of (by kernel_rfl)) T.c_COPY.choose_spec)) (ea_cons (eb_var (n := 0) (i := 6) rfl (.inl (by kernel_rfl)) (by decide)) (ea_cons (eb_var (n := 0) (i := 5) rfl (.inl (by kernel_rfl)) (by decide)) ea_nil))))) ea_nil)))))
  (sjs_kill [5] sjs_nil)))
  (sjs_kill [5] (sjs_kill [5, 6] sjs_nil))))
  (sjs_kill [5, 6] (sjs_drop 4 (sjs_one (sj_ret (EB.o (eb_var (n := 0) (i := 4) rfl (.inl (by kernel_rfl)) (by decide)))))))))))), b, F.kp⟩
theorem ok_least_delta (T : Txt K mg) : ∃ fd, (∀ base : Heap, FnOk P w K mg base (L2.CX P w) 5 (He.ga K "least_delta") fd ["base", "goal"] (Spec K mg 2 0 C_least_delta)) ∧ BA fd ["base", "goal"] ∧ PySem.W.keepIn K (.ref (He.ga K "least_delta")) = true := by
  obtain ⟨fd, F, b⟩ := T.F_least_delta
  obtain ⟨fd__check, G__check, b__check, k__check⟩ := ok__check (P := P) (w := w) T
  obtain ⟨fd__alike, G__alike, b__alike, k__alike⟩ := ok__alike (P := P) (w := w) T
  obtain ⟨fd__pieces, G__pieces, b__pieces, k__pieces⟩ := ok__pieces (P := P) (w := w) T
  exact ⟨fd, fun base => fn_ok (N := n_least_delta) (nN := 10) (k := 4) (kr := 0) (L := [0, 0, 0, 0, 0, 0, 0, 0, 0, 0]) (L' := [0, 0, 0, 0, 0, 0, 0, 0, 0, 0]) (FF := F_least_delta) F sc_least_delta rfl rfl rfl rfl fun cdv A outer s H E hr => ((sjs_cons (L1 := [0, 0, 0, 0, 0, 0, 0, 0, 0, 0]) (sj_expr (EO.up (k := 0) (n := 0) (eo_call (G__check base) (hr.mono (by decide)) (gl_of (by kernel_rfl)) T.g__check k__check b__check.b (takes_of rfl rfl rfl rfl) (ea_cons (eb_var (n := 0) (i := 0) rfl (.inl (by kernel_rfl)) (by decide)) (ea_cons (eb_var (n := 0) (i := 1) rfl (.inl (by kernel_rfl)) (by decide)) ea_nil)))))
  (sjs_cons (L1 := [0, 0, 0, 0, 0, 0, 0, 0, 0, 0]) (sj_set (i := 2) (k := 0) sc_least_delta.nd rfl (.inl (by kernel_rfl)) (eo_call (G__alike base) (hr.mono (by decide)) (gl_of (by kernel_rfl)) T.g__alike k__alike b__alike.b (takes_of rfl rfl rfl rfl) (ea_cons (eb_var (n := 0) (i := 0) rfl (.inl (by kernel_rfl)) (by decide)) (ea_cons (eb_var (n := 0) (i := 1) rfl (.inl (by kernel_rfl)) (by decide)) ea_nil))) (by decide) rfl (.inl rfl))
  (sjs_cons (L1 := [0, 0, 0, 1, 0, 0, 0, 0, 0, 0]) (sj_set (i := 3) (k := 1) sc_least_delta.nd rfl (.inl (by kernel_rfl)) (eo_rep (eo_lst (ea_cons (EO.up (k := 0) (n := 0) eo_int) ea_nil)) (EO.up (k := 1) (n := 0) (eo_op o_add dAdd_nx (EO.up (k := 0) (n := 1) (eo_callB c_len fLen_nx (gl_of (by kernel_rfl)) T.z_len (by decide +kernel) (ea_cons (eb_var (n := 1) (i := 1) rfl (.inl (by kernel_rfl)) (by decide)) ea_nil))) (EO.up (k := 0) (n := 1) eo_int)))) (by decide) rfl (.inl rfl))
  (sjs_cons (L1 := [0, 0, 0, 1, 1, 0, 0, 0, 0, 0]) (sj_set (i := 4) (k := 1) sc_least_delta.nd rfl (.inl (by kernel_rfl)) (eo_rep (eo_lst (ea_cons (EO.up (k := 0) (n := 0) eo_non) ea_nil)) (EO.up (k := 0) (n := 0) (eo_callB c_len fLen_nx (gl_of (by kernel_rfl)) T.z_len (by decide +kernel) (ea_cons (eb_var (n := 1) (i := 1) rfl (.inl (by kernel_rfl)) (by decide)) ea_nil)))) (by decide) rfl (.inl rfl))
  (sjs_cons (L1 := [0, 0, 0, 1, 1, 0, 0, 0, 0, 0]) (sj_for (passes_of rfl) rfl (ei_range3 (gl_of (by kernel_rfl)) T.z_range (ea_cons (EO.up (k := 0) (n := 0) (eo_op o_sub dSub_nx (EO.up (k := 0) (n := 0) (eo_callB c_len fLen_nx (gl_of (by kernel_rfl)) T.z_len (by decide +kernel) (ea_cons (eb_var (n := 1) (i := 1) rfl (.inl (by kernel_rfl)) (by decide)) ea_nil))) (EO.up (k := 0) (n := 0) eo_int))) (ea_cons (EO.up (k := 0) (n := 0) (eo_un o_neg dNeg_nx (EO.up (k := 0) (n := 0) eo_int))) (ea_cons (EO.up (k := 0) (n := 0) (eo_un o_neg dNeg_nx (EO.up (k := 0) (n := 0) eo_int))) ea_nil)))) (pg_name (i := 5) sc_least_delta.nd rfl (.inl (by kernel_rfl)) (.inl rfl)) (gs_name 5) (by decide)
  (sjs_cons (L1 := [0, 0, 0, 1, 1, 0, 0, 0, 0, 0]) (sj_for (passes_of rfl) rfl (ei_seq (EO.up (k := 0) (n := 0) (eo_call (G__pieces base) (hr.mono (by decide)) (gl_of (by kernel_rfl)) T.g__pieces k__pieces b__pieces.b (takes_of rfl rfl rfl rfl) (ea_cons (eb_var (n := 0) (i := 0) rfl (.inl (by kernel_rfl)) (by decide)) (ea_cons (eb_var (n := 0) (i := 1) rfl (.inl (by kernel_rfl)) (by decide)) (ea_cons (eb_var (n := 0) (i := 2) rfl (.inl (by kernel_rfl)) (by decide)) (ea_cons (eb_var (n := 0) (i := 5) rfl (.inl (by kernel_rfl)) (by decide)) ea_nil))))))) (pg_tup rfl (pgs_cons (pg_name (i := 6) sc_least_delta.nd rfl (.inl (by kernel_rfl)) (.inl rfl)) (pgs_cons (pg_name (i := 7) sc_least_delta.nd rfl (.inl (by kernel_rfl)) (.inl rfl)) (pgs_cons (pg_name (i := 8) sc_least_delta.nd rfl (.inl (by kernel_rfl)) (.inl rfl)) pgs_nil)))) (gs_tup [6, 7, 8]) (by decide)
  (sjs_cons (L1 := [0, 0, 0, 1, 1, 0, 0, 0, 0, 0]) (sj_if (et_w (ew_or (et_cmp o_is dIs_nx (eb_ix (eb_var (n := 2) (i := 4) rfl (.inl (by kernel_rfl)) (by decide)) (eb_var (n := 0) (i := 5) rfl (.inl (by kernel_rfl)) (by decide))) (EO.up (k := 0) (n := 1) eo_non) (nomark _)) (ew_or1 (et_cmp o_lt dCmpI_nx (EO.up (k := 1) (n := 0) (eo_op o_add dAdd_nx (eb_var (n := 1) (i := 6) rfl (.inl (by kernel_rfl)) (by decide)) (eb_ix (eb_var (n := 2) (i := 3) rfl (.inl (by kernel_rfl)) (by decide)) (eb_var (n := 0) (i := 7) rfl (.inl (by kernel_rfl)) (by decide))))) (eb_ix (eb_var (n := 1) (i := 3) rfl (.inl (by kernel_rfl)) (by decide)) (eb_var (n := 0) (i := 5) rfl (.inl (by kernel_rfl)) (by decide))) (nomark _))))) (sjs_cons (L1 := [0, 0, 0, 1, 1, 0, 0, 0, 0, 0]) (sj_put (i := 3) rfl (.inl (by kernel_rfl)) rfl (EO.up (k := 1) (n := 0) (eo_op o_add dAdd_nx (eb_var (n := 1) (i := 6) rfl (.inl (by kernel_rfl)) (by decide)) (eb_ix (eb_var (n := 2) (i := 3) rfl (.inl (by kernel_rfl)) (by decide)) (eb_var (n := 0) (i := 7) rfl (.inl (by kernel_rfl)) (by decide))))) (eb_var (n := 0) (i := 5) rfl (.inl (by kernel_rfl)) (by decide)))
  (sjs_one (sj_put (i := 4) rfl (.inl (by kernel_rfl)) rfl (EO.up (k := 0) (n := 0) (eo_tup (ea_cons (eb_var (n := 0) (i := 7) rfl (.inl (by kernel_rfl)) (by decide)) (ea_cons (eb_var (n := 0) (i := 8) rfl (.inl (by kernel_rfl)) (by decide)) ea_nil)))) (eb_var (n := 0) (i := 5) rfl (.inl (by kernel_rfl)) (by decide))))) sjs_nil)
  (sjs_kill [6, 7, 8] sjs_nil)))
  (sjs_kill [6, 7, 8] (sjs_kill [5, 6, 7, 8] sjs_nil))))
  (sjs_kill [5, 6, 7, 8] (sjs_cons (L1 := [0, 0, 0, 1, 1, 0, 0, 0, 0, 1]) (sj_set (i := 9) (k := 1) sc_least_delta.nd rfl (.inl (by kernel_rfl)) (eo_nil) (by decide) rfl (.inl rfl))
  (sjs_cons (L1 := [0, 0, 0, 1, 1, 0, 0, 0, 0, 1]) (sj_set (i := 5) (k := 0) sc_least_delta.nd rfl (.inl (by kernel_rfl)) eo_int (by decide) rfl (.inl rfl))
  (sjs_cons (L1 := [0, 0, 0, 1, 1, 0, 0, 0, 0, 1]) (sj_while 100000 (passes_of rfl) (et_cmp o_lt dCmpI_nx (eb_var (n := 0) (i := 5) rfl (.inl (by kernel_rfl)) (by decide)) (EO.up (k := 0) (n := 0) (eo_callB c_len fLen_nx (gl_of (by kernel_rfl)) T.z_len (by decide +kernel) (ea_cons (eb_var (n := 1) (i := 1) rfl (.inl (by kernel_rfl)) (by decide)) ea_nil))) (nomark _))
  (sjs_cons (L1 := [0, 0, 0, 1, 1, 0, 0, 0, 0, 1]) (sj_unp (pg_tup rfl (pgs_cons (pg_name (i := 5) sc_least_delta.nd rfl (.inl (by kernel_rfl)) (.inl rfl)) (pgs_cons (pg_name (i := 8) sc_least_delta.nd rfl (.inl (by kernel_rfl)) (.inl rfl)) pgs_nil))) (gs_tup [5, 8]) (eb_ix (eb_var (n := 1) (i := 4) rfl (.inl (by kernel_rfl)) (by decide)) (eb_var (n := 0) (i := 5) rfl (.inl (by kernel_rfl)) (by decide))) (by decide))
  (sjs_cons (L1 := [0, 0, 0, 1, 1, 0, 0, 0, 0, 1]) (sj_append (i := 9) (k := 0) rfl (.inl (by kernel_rfl)) rfl (EB.o (eb_var (n := 0) (i := 8) rfl (.inl (by kernel_rfl)) (by decide))))
  (sjs_kill [8] sjs_nil))))
  (sjs_kill [5, 8] (sjs_one (sj_ret (eo_tup (ea_cons (eb_ix (eb_var (n := 1) (i := 3) rfl (.inl (by kernel_rfl)) (by decide)) (EO.up (k := 0) (n := 0) eo_int)) (ea_cons (EO.up (k := 0) (n := 0) (eo_callTy c_tuple fTuple_nx (gl_of (by kernel_rfl)) T.z_tuple (by decide +kernel) (ea_cons (eb_var (n := 1) (i := 9) rfl (.inl (by kernel_rfl)) (by decide)) ea_nil))) (ea_cons (EO.up (k := 0) (n := 0) (eo_callTy c_tuple fTuple_nx (gl_of (by kernel_rfl)) T.z_tuple (by decide +kernel) (ea_cons (eb_var (n := 1) (i := 3) rfl (.inl (by kernel_rfl)) (by decide)) ea_nil))) ea_nil))))))))))))))))), b, F.kp⟩
theorem ok__law_is_row (T : Txt K mg) : ∃ fd, (∀ base : Heap, FnOk P w K mg base (L2.CX P w) 1 (He.ga K "_law_is_row") fd ["value"] (Spec K mg 1 0 C__law_is_row)) ∧ BA fd ["value"] ∧ PySem.W.keepIn K (.ref (He.ga K "_law_is_row")) = true := by
  obtain ⟨fd, F, b⟩ := T.F__law_is_row
  exact ⟨fd, fun base => fn_ok (N := n__law_is_row) (nN := 2) (k := 0) (kr := 0) (L := [0, 0]) (L' := [0, 0]) (FF := F__law_is_row) F sc__law_is_row rfl rfl rfl rfl fun cdv A outer s H E hr => ((sjs_one (sj_ret (EB.o (eb_and (EO.up (k := 0) (n := 0) (eo_isi kind_tup (gl_of (by kernel_rfl)) T.z_isinstance (gl_of (by kernel_rfl)) T.z_tuple (by decide +kernel) (eb_var (n := 1) (i := 0) rfl (.inl (by kernel_rfl)) (by decide)))) (eb_one (EO.up (k := 0) (n := 0) (eo_callB (c_all rfl) fAll_nx (gl_of (by kernel_rfl)) T.z_all (by decide +kernel) (ea_cons (EO.up (k := 1) (n := 1) (eo_lc (own := [("one", 1)]) rfl sc__law_is_row.nd (ei_seq (eb_var (n := 1) (i := 0) rfl (.inl (by kernel_rfl)) (by decide))) (blkOk_by (by kernel_rfl)) (fun _ _ _ _ _ => (pg_name (i := 1) sc__law_is_row.nd rfl (.inl (by kernel_rfl)) (.inr (by kernel_rfl)))) (fun _ _ _ _ _ => ets_nil) (fun _ _ _ _ _ => (EB.o (eb_and (EO.up (k := 0) (n := 0) (eo_isi kind_int (gl_of (by kernel_rfl)) T.z_isinstance (gl_of (by kernel_rfl)) T.z_int (by decide +kernel) (eb_var (n := 1) (i := 1) rfl (.inl (by kernel_rfl)) (by decide)))) (eb_and (EO.up (k := 0) (n := 0) (eo_not (EO.up (k := 0) (n := 1) (eo_isi kind_bool (gl_of (by kernel_rfl)) T.z_isinstance (gl_of (by kernel_rfl)) T.z_bool (by decide +kernel) (eb_var (n := 1) (i := 1) rfl (.inl (by kernel_rfl)) (by decide)))))) (eb_one (EO.up (k := 0) (n := 0) (eo_chain o_le dCmpI_nx o_lt dCmpI_nx (EO.up (k := 0) (n := 0) eo_int) (eb_var (n := 0) (i := 1) rfl (.inl (by kernel_rfl)) (by decide)) (EO.up (k := 0) (n := 0) eo_int)))))))) (gs_name 1) (by decide) (by decide))) ea_nil))))))))), b, F.kp⟩
theorem ok__law_fault (T : Txt K mg) : ∃ fd, (∀ base : Heap, FnOk P w K mg base (L2.CX P w) 2 (He.ga K "_law_fault") fd ["base", "delta"] (Spec K mg 2 0 C__law_fault)) ∧ BA fd ["base", "delta"] ∧ PySem.W.keepIn K (.ref (He.ga K "_law_fault")) = true := by
  obtain ⟨fd, F, b⟩ := T.F__law_fault
  obtain ⟨fd__law_is_row, G__law_is_row, b__law_is_row, k__law_is_row⟩ := ok__law_is_row (P := P) (w := w) T
  exact ⟨fd, fun base => fn_ok (N := n__law_fault) (nN := 6) (k := 1) (kr := 0) (L := [0, 0, 0, 0, 0, 0]) (L' := [0, 0, 0, 0, 0, 0]) (FF := F__law_fault) F sc__law_fault rfl rfl rfl rfl fun cdv A outer s H E hr => ((sjs_cons (L1 := [0, 0, 0, 0, 0, 0]) (sj_if (et_not (et_val (EO.up (k := 0) (n := 1) (eo_isi kind_tup (gl_of (by kernel_rfl)) T.z_isinstance (gl_of (by kernel_rfl)) T.z_tuple (by decide +kernel) (eb_var (n := 1) (i := 1) rfl (.inr (.inl (by kernel_rfl))) (by decide)))))) (sjs_one (sj_ret eo_str)) sjs_nil)
  (sjs_cons (L1 := [0, 0, 0, 0, 0, 0]) (sj_for (passes_of rfl) rfl (ei_seq (eb_var (n := 0) (i := 1) rfl (.inr (.inl (by kernel_rfl))) (by decide))) (pg_name (i := 2) sc__law_fault.nd rfl (.inl (by kernel_rfl)) (.inl rfl)) (gs_name 2) (by decide)
  (sjs_cons (L1 := [0, 0, 0, 0, 0, 0]) (sj_if (et_w (ew_or (et_not (et_val (EO.up (k := 0) (n := 1) (eo_isi kind_tup (gl_of (by kernel_rfl)) T.z_isinstance (gl_of (by kernel_rfl)) T.z_tuple (by decide +kernel) (eb_var (n := 1) (i := 2) rfl (.inl (by kernel_rfl)) (by decide)))))) (ew_or (et_cmp (o_notIn (hu65 hr)) dNotIn_nx (EO.up (k := 0) (n := 1) (eo_callB c_len fLen_nx (gl_of (by kernel_rfl)) T.z_len (by decide +kernel) (ea_cons (eb_var (n := 1) (i := 2) rfl (.inl (by kernel_rfl)) (by decide)) ea_nil))) (EO.up (k := 0) (n := 1) (eo_tup (ea_cons (EO.up (k := 0) (n := 0) eo_int) (ea_cons (EO.up (k := 0) (n := 0) eo_int) ea_nil)))) (by rfl)) (ew_or (et_not (et_val (EO.up (k := 0) (n := 1) (eo_isi kind_str (gl_of (by kernel_rfl)) T.z_isinstance (gl_of (by kernel_rfl)) T.z_str (by decide +kernel) (eb_ix (eb_var (n := 2) (i := 2) rfl (.inl (by kernel_rfl)) (by decide)) (EO.up (k := 0) (n := 0) eo_int)))))) (ew_or1 (et_cmp (o_ne hr.units) dNe_nx (eb_ix (eb_var (n := 2) (i := 2) rfl (.inl (by kernel_rfl)) (by decide)) (EO.up (k := 0) (n := 0) eo_int)) (EB.up (n := 1) (eb_dlit (hu_of hr) (eps_cons (EO.up (k := 0) (n := 0) eo_int) (EO.up (k := 0) (n := 0) eo_str) (eps_cons (EO.up (k := 0) (n := 0) eo_int) (EO.up (k := 0) (n := 0) eo_str) eps_nil)) (EO.up (k := 0) (n := 0) (eo_callB c_len fLen_nx (gl_of (by kernel_rfl)) T.z_len (by decide +kernel) (ea_cons (eb_var (n := 1) (i := 2) rfl (.inl (by kernel_rfl)) (by decide)) ea_nil))))) (nomark _))))))) (sjs_one (sj_ret eo_str)) sjs_nil)
  (sjs_cons (L1 := [0, 0, 0, 0, 0, 0]) (sj_if (et_w (ew_and (et_cmp (o_eq hr.units) dEq_nx (EO.up (k := 0) (n := 1) (eo_callB c_len fLen_nx (gl_of (by kernel_rfl)) T.z_len (by decide +kernel) (ea_cons (eb_var (n := 1) (i := 2) rfl (.inl (by kernel_rfl)) (by decide)) ea_nil))) (EO.up (k := 0) (n := 1) eo_int) (nomark _)) (ew_and1 (et_w (ew_or (et_not (et_val (EO.up (k := 0) (n := 1) (eo_call (G__law_is_row base) (hr.mono (by decide)) (gl_of (by kernel_rfl)) T.g__law_is_row k__law_is_row b__law_is_row.b (takes_of rfl rfl rfl rfl) (ea_cons (eb_ix (eb_var (n := 1) (i := 2) rfl (.inl (by kernel_rfl)) (by decide)) (EO.up (k := 0) (n := 0) eo_int)) ea_nil))))) (ew_or1 (et_cmp (o_eq hr.units) dEq_nx (eb_ix (eb_var (n := 2) (i := 2) rfl (.inl (by kernel_rfl)) (by decide)) (EO.up (k := 0) (n := 0) eo_int)) (EO.up (k := 0) (n := 1) (eo_tup ea_nil)) (nomark _)))))))) (sjs_one (sj_ret eo_str)) sjs_nil)
  (sjs_cons (L1 := [0, 0, 0, 0, 0, 0]) (sj_if (et_w (ew_and (et_cmp (o_eq hr.units) dEq_nx (EO.up (k := 0) (n := 1) (eo_callB c_len fLen_nx (gl_of (by kernel_rfl)) T.z_len (by decide +kernel) (ea_cons (eb_var (n := 1) (i := 2) rfl (.inl (by kernel_rfl)) (by decide)) ea_nil))) (EO.up (k := 0) (n := 1) eo_int) (nomark _)) (ew_and1 (et_w (ew_or (et_not (et_val (EO.up (k := 0) (n := 1) (eo_callB (c_all rfl) fAll_nx (gl_of (by kernel_rfl)) T.z_all (by decide +kernel) (ea_cons (EO.up (k := 1) (n := 1) (eo_lc (own := [("one", 5)]) rfl sc__law_fault.nd (ei_seq (EO.up (k := 1) (n := 1) (eo_sl (eb_var (n := 1) (i := 2) rfl (.inl (by kernel_rfl)) (by decide)) (ep_some (EO.up (k := 0) (n := 0) eo_int)) ep_none))) (blkOk_by (by kernel_rfl)) (fun _ _ _ _ _ => (pg_name (i := 5) sc__law_fault.nd rfl (.inl (by kernel_rfl)) (.inr (by kernel_rfl)))) (fun _ _ _ _ _ => ets_nil) (fun _ _ _ _ _ => (EB.o (eb_and (EO.up (k := 0) (n := 0) (eo_isi kind_int (gl_of (by kernel_rfl)) T.z_isinstance (gl_of (by kernel_rfl)) T.z_int (by decide +kernel) (eb_var (n := 1) (i := 5) rfl (.inl (by kernel_rfl)) (by decide)))) (eb_and (EO.up (k := 0) (n := 0) (eo_not (EO.up (k := 0) (n := 1) (eo_isi kind_bool (gl_of (by kernel_rfl)) T.z_isinstance (gl_of (by kernel_rfl)) T.z_bool (by decide +kernel) (eb_var (n := 1) (i := 5) rfl (.inl (by kernel_rfl)) (by decide)))))) (eb_one (EO.up (k := 0) (n := 0) (eo_cmp o_ge dCmpI_nx (eb_var (n := 0) (i := 5) rfl (.inl (by kernel_rfl)) (by decide)) (EO.up (k := 0) (n := 0) eo_int) (nomark _)))))))) (gs_name 5) (by decide) (by decide))) ea_nil))))) (ew_or1 (et_cmp (o_eq hr.units) dEq_nx (eb_ix (eb_var (n := 2) (i := 2) rfl (.inl (by kernel_rfl)) (by decide)) (EO.up (k := 0) (n := 0) eo_int)) (EO.up (k := 0) (n := 1) eo_int) (nomark _)))))))) (sjs_one (sj_ret eo_str)) sjs_nil)
  (sjs_kill [2] sjs_nil)))))
  (sjs_kill [2] (sjs_cons (L1 := [0, 0, 0, 1, 0, 0]) (sj_setLc (i := 3) (k := 0) (own := [("k", 4)]) rfl sc__law_fault.nd rfl (by kernel_rfl) (by decide) (sw_true rfl (by kernel_rfl) rfl (by decide +kernel)) (ei_range1 (gl_of (by kernel_rfl)) T.z_range (ea_cons (EO.up (k := 0) (n := 0) (eo_callB c_len fLen_nx (gl_of (by kernel_rfl)) T.z_len (by decide +kernel) (ea_cons (eb_var (n := 1) (i := 1) rfl (.inr (.inl (by kernel_rfl))) (by decide)) ea_nil))) ea_nil)) (blkOk_by (by kernel_rfl)) (fun _ _ _ _ _ => (pg_name (i := 4) sc__law_fault.nd rfl (.inl (by kernel_rfl)) (.inr (by kernel_rfl)))) (fun _ _ _ _ _ => (ets_one (et_w (ew_and (et_cmp (o_eq hr.units) dEq_nx (eb_ix (eb_ix (eb_var (n := 3) (i := 1) rfl (.inr (.inl (by kernel_rfl))) (by decide)) (eb_var (n := 0) (i := 4) rfl (.inl (by kernel_rfl)) (by decide))) (EO.up (k := 0) (n := 0) eo_int)) (EO.up (k := 0) (n := 1) eo_str) (nomark _)) (ew_and1 (et_cmp o_gt dCmpI_nx (EO.up (k := 1) (n := 0) (eo_op o_add dAdd_nx (eb_ix (eb_ix (eb_var (n := 3) (i := 1) rfl (.inr (.inl (by kernel_rfl))) (by decide)) (eb_var (n := 0) (i := 4) rfl (.inl (by kernel_rfl)) (by decide))) (EO.up (k := 0) (n := 0) eo_int)) (eb_ix (eb_ix (eb_var (n := 3) (i := 1) rfl (.inr (.inl (by kernel_rfl))) (by decide)) (eb_var (n := 0) (i := 4) rfl (.inl (by kernel_rfl)) (by decide))) (EO.up (k := 0) (n := 0) eo_int)))) (EO.up (k := 0) (n := 0) (eo_callB c_len fLen_nx (gl_of (by kernel_rfl)) T.z_len (by decide +kernel) (ea_cons (eb_var (n := 1) (i := 0) rfl (.inr (.inl (by kernel_rfl))) (by decide)) ea_nil))) (nomark _))))))) (fun _ _ _ _ _ => (EB.o (eb_var (n := 0) (i := 4) rfl (.inl (by kernel_rfl)) (by decide)))) (gs_name 4) (by decide) (by decide))
  (sjs_one (sj_ret (EB.o (eb_if (et_cmp o_gt dCmpI_nx (EO.up (k := 0) (n := 0) (eo_callB c_len fLen_nx (gl_of (by kernel_rfl)) T.z_len (by decide +kernel) (ea_cons (eb_var (n := 1) (i := 3) rfl (.inl (by kernel_rfl)) (by decide)) ea_nil))) (EO.up (k := 0) (n := 0) eo_int) (nomark _)) (eb_ix (eb_var (n := 1) (i := 3) rfl (.inl (by kernel_rfl)) (by decide)) (EO.up (k := 0) (n := 0) eo_int)) (EO.up (k := 0) (n := 0) eo_non)))))))))), b, F.kp⟩
theorem ok__law_made (T : Txt K mg) : ∃ fd, (∀ base : Heap, FnOk P w K mg base (L2.CX P w) 1 (He.ga K "_law_made") fd ["base", "delta"] (Spec K mg 2 0 C__law_made)) ∧ BA fd ["base", "delta"] ∧ PySem.W.keepIn K (.ref (He.ga K "_law_made")) = true := by
  obtain ⟨fd, F, b⟩ := T.F__law_made
  exact ⟨fd, fun base => fn_ok (N := n__law_made) (nN := 4) (k := 0) (kr := 0) (L := [0, 0, 0, 0]) (L' := [0, 0, 0, 0]) (FF := F__law_made) F sc__law_made rfl rfl rfl rfl fun cdv A outer s H E hr => ((sjs_cons (L1 := [0, 0, 0, 0]) (sj_set (i := 2) (k := 0) sc__law_made.nd rfl (.inl (by kernel_rfl)) (eo_tup ea_nil) (by decide) rfl (.inl rfl))
  (sjs_cons (L1 := [0, 0, 0, 0]) (sj_for (passes_of rfl) rfl (ei_seq (eb_var (n := 0) (i := 1) rfl (.inl (by kernel_rfl)) (by decide))) (pg_name (i := 3) sc__law_made.nd rfl (.inl (by kernel_rfl)) (.inl rfl)) (gs_name 3) (by decide)
  (sjs_cons (L1 := [0, 0, 0, 0]) (sj_set (i := 2) (k := 0) sc__law_made.nd rfl (.inl (by kernel_rfl)) (EB.o (EO.b (k := 1) (eo_op o_add dAdd_nx (eb_var (n := 1) (i := 2) rfl (.inl (by kernel_rfl)) (by decide)) (eb_if (et_cmp (o_eq hr.units) dEq_nx (eb_ix (eb_var (n := 2) (i := 3) rfl (.inl (by kernel_rfl)) (by decide)) (EO.up (k := 0) (n := 0) eo_int)) (EO.up (k := 0) (n := 1) eo_str) (nomark _)) (EO.up (k := 1) (n := 1) (eo_sl (eb_var (n := 1) (i := 0) rfl (.inl (by kernel_rfl)) (by decide)) (ep_some (eb_ix (eb_var (n := 1) (i := 3) rfl (.inl (by kernel_rfl)) (by decide)) (EO.up (k := 0) (n := 0) eo_int))) (ep_some (EO.up (k := 1) (n := 0) (eo_op o_add dAdd_nx (eb_ix (eb_var (n := 2) (i := 3) rfl (.inl (by kernel_rfl)) (by decide)) (EO.up (k := 0) (n := 0) eo_int)) (eb_ix (eb_var (n := 2) (i := 3) rfl (.inl (by kernel_rfl)) (by decide)) (EO.up (k := 0) (n := 0) eo_int))))))) (eb_ix (eb_var (n := 2) (i := 3) rfl (.inl (by kernel_rfl)) (by decide)) (EO.up (k := 0) (n := 0) eo_int)))))) (by decide) rfl (.inl rfl))
  (sjs_kill [3] sjs_nil)))
  (sjs_kill [3] (sjs_one (sj_ret (EB.o (eb_var (n := 0) (i := 2) rfl (.inl (by kernel_rfl)) (by decide))))))))), b, F.kp⟩
theorem ok__is_piece (T : Txt K mg) : ∃ fd, (∀ base : Heap, FnOk P w K mg base (L2.CX P w) 3 (He.ga K "_is_piece") fd ["value"] (Spec K mg 1 0 C__is_piece)) ∧ BA fd ["value"] ∧ PySem.W.keepIn K (.ref (He.ga K "_is_piece")) = true := by
  obtain ⟨fd, F, b⟩ := T.F__is_piece
  obtain ⟨fd_is_whole, G_is_whole, b_is_whole, k_is_whole⟩ := ok_is_whole (P := P) (w := w) T
  obtain ⟨fd_is_row, G_is_row, b_is_row, k_is_row⟩ := ok_is_row (P := P) (w := w) T
  exact ⟨fd, fun base => fn_ok (N := n__is_piece) (nN := 1) (k := 2) (kr := 0) (L := [0]) (L' := [0]) (FF := F__is_piece) F sc__is_piece rfl rfl rfl rfl fun cdv A outer s H E hr => ((sjs_cons (L1 := [0]) (sj_if (et_w (ew_or (et_not (et_val (EO.up (k := 0) (n := 1) (eo_isi kind_tup (gl_of (by kernel_rfl)) T.z_isinstance (gl_of (by kernel_rfl)) T.z_tuple (by decide +kernel) (eb_var (n := 1) (i := 0) rfl (.inl (by kernel_rfl)) (by decide)))))) (ew_or (et_cmp (o_eq hr.units) dEq_nx (EO.up (k := 0) (n := 1) (eo_callB c_len fLen_nx (gl_of (by kernel_rfl)) T.z_len (by decide +kernel) (ea_cons (eb_var (n := 1) (i := 0) rfl (.inl (by kernel_rfl)) (by decide)) ea_nil))) (EO.up (k := 0) (n := 1) eo_int) (nomark _)) (ew_or1 (et_not (et_val (EO.up (k := 0) (n := 1) (eo_isi kind_str (gl_of (by kernel_rfl)) T.z_isinstance (gl_of (by kernel_rfl)) T.z_str (by decide +kernel) (eb_ix (eb_var (n := 2) (i := 0) rfl (.inl (by kernel_rfl)) (by decide)) (EO.up (k := 0) (n := 0) eo_int)))))))))) (sjs_one (sj_ret eo_bl)) sjs_nil)
  (sjs_cons (L1 := [0]) (sj_if (et_w (ew_and (et_cmp (o_eq hr.units) dEq_nx (eb_ix (eb_var (n := 2) (i := 0) rfl (.inl (by kernel_rfl)) (by decide)) (EO.up (k := 0) (n := 0) eo_int)) (EO.up (k := 0) (n := 1) (eo_gstr (gl_of (by kernel_rfl)) T.c_COPY.choose_spec)) (nomark _)) (ew_and1 (et_cmp (o_eq hr.units) dEq_nx (EO.up (k := 0) (n := 1) (eo_callB c_len fLen_nx (gl_of (by kernel_rfl)) T.z_len (by decide +kernel) (ea_cons (eb_var (n := 1) (i := 0) rfl (.inl (by kernel_rfl)) (by decide)) ea_nil))) (EO.up (k := 0) (n := 1) eo_int) (nomark _))))) (sjs_one (sj_ret (EB.o (eb_and (EO.up (k := 0) (n := 0) (eo_call (G_is_whole base) (hr.mono (by decide)) (gl_of (by kernel_rfl)) T.g_is_whole k_is_whole b_is_whole.b (takes_of rfl rfl rfl rfl) (ea_cons (eb_ix (eb_var (n := 1) (i := 0) rfl (.inl (by kernel_rfl)) (by decide)) (EO.up (k := 0) (n := 0) eo_int)) ea_nil))) (eb_and (EO.up (k := 0) (n := 0) (eo_call (G_is_whole base) (hr.mono (by decide)) (gl_of (by kernel_rfl)) T.g_is_whole k_is_whole b_is_whole.b (takes_of rfl rfl rfl rfl) (ea_cons (eb_ix (eb_var (n := 1) (i := 0) rfl (.inl (by kernel_rfl)) (by decide)) (EO.up (k := 0) (n := 0) eo_int)) ea_nil))) (eb_one (EO.up (k := 0) (n := 0) (eo_cmp o_gt dCmpI_nx (eb_ix (eb_var (n := 1) (i := 0) rfl (.inl (by kernel_rfl)) (by decide)) (EO.up (k := 0) (n := 0) eo_int)) (EO.up (k := 0) (n := 0) eo_int) (nomark _))))))))) sjs_nil)
  (sjs_one (sj_ret (EB.o (eb_and (EO.up (k := 0) (n := 0) (eo_cmp (o_eq hr.units) dEq_nx (eb_ix (eb_var (n := 2) (i := 0) rfl (.inl (by kernel_rfl)) (by decide)) (EO.up (k := 0) (n := 0) eo_int)) (EO.up (k := 0) (n := 1) (eo_gstr (gl_of (by kernel_rfl)) T.c_PUT.choose_spec)) (nomark _))) (eb_and (EO.up (k := 0) (n := 0) (eo_cmp (o_eq hr.units) dEq_nx (EO.up (k := 0) (n := 1) (eo_callB c_len fLen_nx (gl_of (by kernel_rfl)) T.z_len (by decide +kernel) (ea_cons (eb_var (n := 1) (i := 0) rfl (.inl (by kernel_rfl)) (by decide)) ea_nil))) (EO.up (k := 0) (n := 1) eo_int) (nomark _))) (eb_and (EO.up (k := 0) (n := 0) (eo_call (G_is_row base) (hr.mono (by decide)) (gl_of (by kernel_rfl)) T.g_is_row k_is_row b_is_row.b (takes_of rfl rfl rfl rfl) (ea_cons (eb_ix (eb_var (n := 1) (i := 0) rfl (.inl (by kernel_rfl)) (by decide)) (EO.up (k := 0) (n := 0) eo_int)) ea_nil))) (eb_one (EO.up (k := 0) (n := 0) (eo_cmp o_gt dCmpI_nx (EO.up (k := 0) (n := 0) (eo_callB c_len fLen_nx (gl_of (by kernel_rfl)) T.z_len (by decide +kernel) (ea_cons (eb_ix (eb_var (n := 2) (i := 0) rfl (.inl (by kernel_rfl)) (by decide)) (EO.up (k := 0) (n := 0) eo_int)) ea_nil))) (EO.up (k := 0) (n := 0) eo_int) (nomark _))))))))))))), b, F.kp⟩
theorem ok__is_delta (T : Txt K mg) : ∃ fd, (∀ base : Heap, FnOk P w K mg base (L2.CX P w) 4 (He.ga K "_is_delta") fd ["value"] (Spec K mg 1 0 C__is_delta)) ∧ BA fd ["value"] ∧ PySem.W.keepIn K (.ref (He.ga K "_is_delta")) = true := by
  obtain ⟨fd, F, b⟩ := T.F__is_delta
  obtain ⟨fd__is_piece, G__is_piece, b__is_piece, k__is_piece⟩ := ok__is_piece (P := P) (w := w) T
  exact ⟨fd, fun base => fn_ok (N := n__is_delta) (nN := 2) (k := 3) (kr := 0) (L := [0, 0]) (L' := [0, 0]) (FF := F__is_delta) F sc__is_delta rfl rfl rfl rfl fun cdv A outer s H E hr => ((sjs_one (sj_ret (EB.o (eb_and (EO.up (k := 0) (n := 0) (eo_isi kind_tup (gl_of (by kernel_rfl)) T.z_isinstance (gl_of (by kernel_rfl)) T.z_tuple (by decide +kernel) (eb_var (n := 1) (i := 0) rfl (.inl (by kernel_rfl)) (by decide)))) (eb_one (EO.up (k := 0) (n := 0) (eo_callB (c_all rfl) fAll_nx (gl_of (by kernel_rfl)) T.z_all (by decide +kernel) (ea_cons (EO.up (k := 1) (n := 1) (eo_lc (own := [("piece", 1)]) rfl sc__is_delta.nd (ei_seq (eb_var (n := 1) (i := 0) rfl (.inl (by kernel_rfl)) (by decide))) (blkOk_by (by kernel_rfl)) (fun _ _ _ _ _ => (pg_name (i := 1) sc__is_delta.nd rfl (.inl (by kernel_rfl)) (.inr (by kernel_rfl)))) (fun _ _ _ _ _ => ets_nil) (fun _ _ _ _ _ => (eo_call (G__is_piece base) (hr.mono (by decide)) (gl_of (by kernel_rfl)) T.g__is_piece k__is_piece b__is_piece.b takes0 (ea_cons (eb_var (n := 0) (i := 1) rfl (.inl (by kernel_rfl)) (by decide)) ea_nil))) (gs_name 1) (by decide) (by decide))) ea_nil))))))))), b, F.kp⟩
theorem ok_delta_fault (T : Txt K mg) : ∃ fd, (∀ base : Heap, FnOk P w K mg base (L2.CX P w) 5 (He.ga K "delta_fault") fd ["base", "delta"] (Spec K mg 2 0 C_delta_fault)) ∧ BA fd ["base", "delta"] ∧ PySem.W.keepIn K (.ref (He.ga K "delta_fault")) = true := by
  obtain ⟨fd, F, b⟩ := T.F_delta_fault
  obtain ⟨fd_check_rows, G_check_rows, b_check_rows, k_check_rows⟩ := ok_check_rows (P := P) (w := w) T
  obtain ⟨fd__is_delta, G__is_delta, b__is_delta, k__is_delta⟩ := ok__is_delta (P := P) (w := w) T
  exact ⟨fd, fun base => fn_ok (N := n_delta_fault) (nN := 4) (k := 4) (kr := 0) (L := [0, 0, 0, 0]) (L' := [0, 0, 0, 0]) (FF := F_delta_fault) F sc_delta_fault rfl rfl rfl rfl fun cdv A outer s H E hr => ((sjs_cons (L1 := [0, 0, 0, 0]) (sj_expr (EO.up (k := 0) (n := 0) (eo_call (G_check_rows base) (hr.mono (by decide)) (gl_of (by kernel_rfl)) T.g_check_rows k_check_rows b_check_rows.b (takes_of rfl rfl rfl rfl) (ea_cons (EO.up (k := 1) (n := 0) (eo_lst (ea_cons (eb_var (n := 0) (i := 0) rfl (.inl (by kernel_rfl)) (by decide)) ea_nil))) ea_nil))))
  (sjs_cons (L1 := [0, 0, 0, 0]) (sj_if (et_not (et_val (EO.up (k := 0) (n := 1) (eo_call (G__is_delta base) (hr.mono (by decide)) (gl_of (by kernel_rfl)) T.g__is_delta k__is_delta b__is_delta.b (takes_of rfl rfl rfl rfl) (ea_cons (eb_var (n := 0) (i := 1) rfl (.inl (by kernel_rfl)) (by decide)) ea_nil))))) (sjs_one (sj_ret eo_str)) sjs_nil)
  (sjs_cons (L1 := [0, 0, 0, 0]) (sj_for (passes_of rfl) rfl (ei_enum (gl_of (by kernel_rfl)) T.z_enumerate (ea_cons (eb_var (n := 0) (i := 1) rfl (.inl (by kernel_rfl)) (by decide)) ea_nil)) (pg_tup rfl (pgs_cons (pg_name (i := 2) sc_delta_fault.nd rfl (.inl (by kernel_rfl)) (.inl rfl)) (pgs_cons (pg_name (i := 3) sc_delta_fault.nd rfl (.inl (by kernel_rfl)) (.inl rfl)) pgs_nil))) (gs_tup [2, 3]) (by decide)
  (sjs_cons (L1 := [0, 0, 0, 0]) (sj_if (et_w (ew_and (et_cmp (o_eq hr.units) dEq_nx (eb_ix (eb_var (n := 2) (i := 3) rfl (.inl (by kernel_rfl)) (by decide)) (EO.up (k := 0) (n := 0) eo_int)) (EO.up (k := 0) (n := 1) (eo_gstr (gl_of (by kernel_rfl)) T.c_COPY.choose_spec)) (nomark _)) (ew_and1 (et_cmp o_gt dCmpI_nx (EO.up (k := 1) (n := 0) (eo_op o_add dAdd_nx (eb_ix (eb_var (n := 2) (i := 3) rfl (.inl (by kernel_rfl)) (by decide)) (EO.up (k := 0) (n := 0) eo_int)) (eb_ix (eb_var (n := 2) (i := 3) rfl (.inl (by kernel_rfl)) (by decide)) (EO.up (k := 0) (n := 0) eo_int)))) (EO.up (k := 0) (n := 0) (eo_callB c_len fLen_nx (gl_of (by kernel_rfl)) T.z_len (by decide +kernel) (ea_cons (eb_var (n := 1) (i := 0) rfl (.inl (by kernel_rfl)) (by decide)) ea_nil))) (nomark _))))) (sjs_one (sj_ret (EB.o (eb_var (n := 0) (i := 2) rfl (.inl (by kernel_rfl)) (by decide))))) sjs_nil)
  (sjs_kill [2, 3] sjs_nil)))
  (sjs_kill [2, 3] (sjs_one (sj_ret eo_non))))))), b, F.kp⟩
theorem ok_made (T : Txt K mg) : ∃ fd, (∀ base : Heap, FnOk P w K mg base (L2.CX P w) 6 (He.ga K "made") fd ["base", "delta"] (Spec K mg 2 0 C_made)) ∧ BA fd ["base", "delta"] ∧ PySem.W.keepIn K (.ref (He.ga K "made")) = true := by
  obtain ⟨fd, F, b⟩ := T.F_made
  obtain ⟨fd_delta_fault, G_delta_fault, b_delta_fault, k_delta_fault⟩ := ok_delta_fault (P := P) (w := w) T
  exact ⟨fd, fun base => fn_ok (N := n_made) (nN := 4) (k := 5) (kr := 0) (L := [0, 0, 0, 0]) (L' := [0, 0, 0, 0]) (FF := F_made) F sc_made rfl rfl rfl rfl fun cdv A outer s H E hr => ((sjs_cons (L1 := [0, 0, 0, 0]) (sj_if (et_cmp o_isNot dIsNot_nx (EO.up (k := 0) (n := 1) (eo_call (G_delta_fault base) (hr.mono (by decide)) (gl_of (by kernel_rfl)) T.g_delta_fault k_delta_fault b_delta_fault.b (takes_of rfl rfl rfl rfl) (ea_cons (eb_var (n := 0) (i := 0) rfl (.inl (by kernel_rfl)) (by decide)) (ea_cons (eb_var (n := 0) (i := 1) rfl (.inl (by kernel_rfl)) (by decide)) ea_nil)))) (EO.up (k := 0) (n := 1) eo_non) (nomark _)) (sjs_one (sj_raise rfl (takes_of rfl rfl rfl rfl) PySem.F.excBase_ValueError T.e_BadDelta.2.1 T.e_BadDelta.1 T.e_BadDelta.2.2.1 (raises_own T.e_BadDelta.2.2.2.1 T.e_BadDelta.2.2.2.2) (gl_of (by kernel_rfl)))) sjs_nil)
  (sjs_cons (L1 := [0, 0, 0, 0]) (sj_set (i := 2) (k := 0) sc_made.nd rfl (.inl (by kernel_rfl)) (eo_tup ea_nil) (by decide) rfl (.inl rfl))
  (sjs_cons (L1 := [0, 0, 0, 0]) (sj_for (passes_of rfl) rfl (ei_seq (eb_var (n := 0) (i := 1) rfl (.inl (by kernel_rfl)) (by decide))) (pg_name (i := 3) sc_made.nd rfl (.inl (by kernel_rfl)) (.inl rfl)) (gs_name 3) (by decide)
  (sjs_cons (L1 := [0, 0, 0, 0]) (sj_aug (i := 2) sc_made.nd rfl (.inl (by kernel_rfl)) o_iaddT (eb_if (et_cmp (o_eq hr.units) dEq_nx (eb_ix (eb_var (n := 2) (i := 3) rfl (.inl (by kernel_rfl)) (by decide)) (EO.up (k := 0) (n := 0) eo_int)) (EO.up (k := 0) (n := 1) (eo_gstr (gl_of (by kernel_rfl)) T.c_COPY.choose_spec)) (nomark _)) (EO.up (k := 1) (n := 0) (eo_sl (eb_var (n := 1) (i := 0) rfl (.inl (by kernel_rfl)) (by decide)) (ep_some (eb_ix (eb_var (n := 1) (i := 3) rfl (.inl (by kernel_rfl)) (by decide)) (EO.up (k := 0) (n := 0) eo_int))) (ep_some (EO.up (k := 1) (n := 0) (eo_op o_add dAdd_nx (eb_ix (eb_var (n := 2) (i := 3) rfl (.inl (by kernel_rfl)) (by decide)) (EO.up (k := 0) (n := 0) eo_int)) (eb_ix (eb_var (n := 2) (i := 3) rfl (.inl (by kernel_rfl)) (by decide)) (EO.up (k := 0) (n := 0) eo_int))))))) (eb_ix (eb_var (n := 1) (i := 3) rfl (.inl (by kernel_rfl)) (by decide)) (EO.up (k := 0) (n := 0) eo_int))) (by decide) rfl (.inl rfl))
  (sjs_kill [3] sjs_nil)))
  (sjs_kill [3] (sjs_one (sj_ret (EB.o (eb_var (n := 0) (i := 2) rfl (.inl (by kernel_rfl)) (by decide)))))))))), b, F.kp⟩
theorem ok_cost_of (T : Txt K mg) : ∃ fd, (∀ base : Heap, FnOk P w K mg base (L2.CX P w) 5 (He.ga K "cost_of") fd ["delta"] (Spec K mg 1 0 C_cost_of)) ∧ BA fd ["delta"] ∧ PySem.W.keepIn K (.ref (He.ga K "cost_of")) = true := by
  obtain ⟨fd, F, b⟩ := T.F_cost_of
  obtain ⟨fd__is_delta, G__is_delta, b__is_delta, k__is_delta⟩ := ok__is_delta (P := P) (w := w) T
  obtain ⟨fd__copy_cost, G__copy_cost, b__copy_cost, k__copy_cost⟩ := ok__copy_cost (P := P) (w := w) T
  obtain ⟨fd__put_cost, G__put_cost, b__put_cost, k__put_cost⟩ := ok__put_cost (P := P) (w := w) T
  exact ⟨fd, fun base => fn_ok (N := n_cost_of) (nN := 2) (k := 4) (kr := 0) (L := [0, 0]) (L' := [0, 0]) (FF := F_cost_of) F sc_cost_of rfl rfl rfl rfl fun cdv A outer s H E hr => ((sjs_cons (L1 := [0, 0]) (sj_if (et_not (et_val (EO.up (k := 0) (n := 1) (eo_call (G__is_delta base) (hr.mono (by decide)) (gl_of (by kernel_rfl)) T.g__is_delta k__is_delta b__is_delta.b (takes_of rfl rfl rfl rfl) (ea_cons (eb_var (n := 0) (i := 0) rfl (.inl (by kernel_rfl)) (by decide)) ea_nil))))) (sjs_one (sj_raise rfl (takes_of rfl rfl rfl rfl) PySem.F.excBase_ValueError T.e_BadDelta.2.1 T.e_BadDelta.1 T.e_BadDelta.2.2.1 (raises_own T.e_BadDelta.2.2.2.1 T.e_BadDelta.2.2.2.2) (gl_of (by kernel_rfl)))) sjs_nil)
  (sjs_one (sj_ret (eo_callB (c_sum rfl) fSum_nx (gl_of (by kernel_rfl)) T.z_sum (by decide +kernel) (ea_cons (EO.up (k := 1) (n := 1) (eo_lc (own := [("piece", 1)]) rfl sc_cost_of.nd (ei_seq (eb_var (n := 1) (i := 0) rfl (.inl (by kernel_rfl)) (by decide))) (blkOk_by (by kernel_rfl)) (fun _ _ _ _ _ => (pg_name (i := 1) sc_cost_of.nd rfl (.inl (by kernel_rfl)) (.inr (by kernel_rfl)))) (fun _ _ _ _ _ => ets_nil) (fun _ _ _ _ _ => (EB.o (eb_if (et_cmp (o_eq hr.units) dEq_nx (eb_ix (eb_var (n := 2) (i := 1) rfl (.inl (by kernel_rfl)) (by decide)) (EO.up (k := 0) (n := 0) eo_int)) (EO.up (k := 0) (n := 1) (eo_gstr (gl_of (by kernel_rfl)) T.c_COPY.choose_spec)) (nomark _)) (EO.up (k := 0) (n := 0) (eo_call (G__copy_cost base) (hr.mono (by decide)) (gl_of (by kernel_rfl)) T.g__copy_cost k__copy_cost b__copy_cost.b takes0 (ea_cons (eb_ix (eb_var (n := 1) (i := 1) rfl (.inl (by kernel_rfl)) (by decide)) (EO.up (k := 0) (n := 0) eo_int)) (ea_cons (eb_ix (eb_var (n := 1) (i := 1) rfl (.inl (by kernel_rfl)) (by decide)) (EO.up (k := 0) (n := 0) eo_int)) ea_nil)))) (EO.up (k := 0) (n := 0) (eo_call (G__put_cost base) (hr.mono (by decide)) (gl_of (by kernel_rfl)) T.g__put_cost k__put_cost b__put_cost.b takes0 (ea_cons (EO.up (k := 0) (n := 0) (eo_callB c_len fLen_nx (gl_of (by kernel_rfl)) T.z_len (by decide +kernel) (ea_cons (eb_ix (eb_var (n := 2) (i := 1) rfl (.inl (by kernel_rfl)) (by decide)) (EO.up (k := 0) (n := 0) eo_int)) ea_nil))) ea_nil)))))) (gs_name 1) (by decide) (by decide))) ea_nil)))))), b, F.kp⟩
theorem ok_delta_prices_fault (T : Txt K mg) : ∃ fd, (∀ base : Heap, FnOk P w K mg base (L2.CX P w) 5 (He.ga K "delta_prices_fault") fd ["base", "goal", "prices"] (Spec K mg 3 0 C_delta_prices_fault)) ∧ BA fd ["base", "goal", "prices"] ∧ PySem.W.keepIn K (.ref (He.ga K "delta_prices_fault")) = true := by
  obtain ⟨fd, F, b⟩ := T.F_delta_prices_fault
  obtain ⟨fd__check, G__check, b__check, k__check⟩ := ok__check (P := P) (w := w) T
  obtain ⟨fd_is_whole, G_is_whole, b_is_whole, k_is_whole⟩ := ok_is_whole (P := P) (w := w) T
  obtain ⟨fd__alike, G__alike, b__alike, k__alike⟩ := ok__alike (P := P) (w := w) T
  obtain ⟨fd__pieces, G__pieces, b__pieces, k__pieces⟩ := ok__pieces (P := P) (w := w) T
  exact ⟨fd, fun base => fn_ok (N := n_delta_prices_fault) (nN := 9) (k := 4) (kr := 0) (L := [0, 0, 0, 0, 0, 0, 0, 0, 0]) (L' := [0, 0, 0, 0, 0, 0, 0, 0, 0]) (FF := F_delta_prices_fault) F sc_delta_prices_fault rfl rfl rfl rfl fun cdv A outer s H E hr => ((sjs_cons (L1 := [0, 0, 0, 0, 0, 0, 0, 0, 0]) (sj_expr (EO.up (k := 0) (n := 0) (eo_call (G__check base) (hr.mono (by decide)) (gl_of (by kernel_rfl)) T.g__check k__check b__check.b (takes_of rfl rfl rfl rfl) (ea_cons (eb_var (n := 0) (i := 0) rfl (.inl (by kernel_rfl)) (by decide)) (ea_cons (eb_var (n := 0) (i := 1) rfl (.inl (by kernel_rfl)) (by decide)) ea_nil)))))
  (sjs_cons (L1 := [0, 0, 0, 0, 0, 0, 0, 0, 0]) (sj_if (et_w (ew_or (et_not (et_val (EO.up (k := 0) (n := 1) (eo_isi kind_tup (gl_of (by kernel_rfl)) T.z_isinstance (gl_of (by kernel_rfl)) T.z_tuple (by decide +kernel) (eb_var (n := 1) (i := 2) rfl (.inr (.inl (by kernel_rfl))) (by decide)))))) (ew_or (et_cmp (o_ne hr.units) dNe_nx (EO.up (k := 0) (n := 1) (eo_callB c_len fLen_nx (gl_of (by kernel_rfl)) T.z_len (by decide +kernel) (ea_cons (eb_var (n := 1) (i := 2) rfl (.inr (.inl (by kernel_rfl))) (by decide)) ea_nil))) (EO.up (k := 1) (n := 1) (eo_op o_add dAdd_nx (EO.up (k := 0) (n := 1) (eo_callB c_len fLen_nx (gl_of (by kernel_rfl)) T.z_len (by decide +kernel) (ea_cons (eb_var (n := 1) (i := 1) rfl (.inl (by kernel_rfl)) (by decide)) ea_nil))) (EO.up (k := 0) (n := 1) eo_int))) (nomark _)) (ew_or1 (et_not (et_val (EO.up (k := 0) (n := 1) (eo_callB (c_all rfl) fAll_nx (gl_of (by kernel_rfl)) T.z_all (by decide +kernel) (ea_cons (EO.up (k := 1) (n := 1) (eo_lc (own := [("one", 8)]) rfl sc_delta_prices_fault.nd (ei_seq (eb_var (n := 1) (i := 2) rfl (.inr (.inl (by kernel_rfl))) (by decide))) (blkOk_by (by kernel_rfl)) (fun _ _ _ _ _ => (pg_name (i := 8) sc_delta_prices_fault.nd rfl (.inl (by kernel_rfl)) (.inr (by kernel_rfl)))) (fun _ _ _ _ _ => ets_nil) (fun _ _ _ _ _ => (eo_call (G_is_whole base) (hr.mono (by decide)) (gl_of (by kernel_rfl)) T.g_is_whole k_is_whole b_is_whole.b takes0 (ea_cons (eb_var (n := 0) (i := 8) rfl (.inl (by kernel_rfl)) (by decide)) ea_nil))) (gs_name 8) (by decide) (by decide))) ea_nil))))))))) (sjs_one (sj_ret eo_str)) sjs_nil)
  (sjs_cons (L1 := [0, 0, 0, 0, 0, 0, 0, 0, 0]) (sj_if (et_cmp (o_ne hr.units) dNe_nx (eb_ix (eb_var (n := 2) (i := 2) rfl (.inr (.inl (by kernel_rfl))) (by decide)) (EO.up (k := 0) (n := 0) (eo_un o_neg dNeg_nx (EO.up (k := 0) (n := 0) eo_int)))) (EO.up (k := 0) (n := 1) eo_int) (nomark _)) (sjs_one (sj_ret eo_str)) sjs_nil)
  (sjs_cons (L1 := [0, 0, 0, 0, 0, 0, 0, 0, 0]) (sj_set (i := 3) (k := 0) sc_delta_prices_fault.nd rfl (.inl (by kernel_rfl)) (eo_call (G__alike base) (hr.mono (by decide)) (gl_of (by kernel_rfl)) T.g__alike k__alike b__alike.b (takes_of rfl rfl rfl rfl) (ea_cons (eb_var (n := 0) (i := 0) rfl (.inl (by kernel_rfl)) (by decide)) (ea_cons (eb_var (n := 0) (i := 1) rfl (.inl (by kernel_rfl)) (by decide)) ea_nil))) (by decide) rfl (.inl rfl))
  (sjs_cons (L1 := [0, 0, 0, 0, 0, 0, 0, 0, 0]) (sj_for (passes_of rfl) rfl (ei_range1 (gl_of (by kernel_rfl)) T.z_range (ea_cons (EO.up (k := 0) (n := 0) (eo_callB c_len fLen_nx (gl_of (by kernel_rfl)) T.z_len (by decide +kernel) (ea_cons (eb_var (n := 1) (i := 1) rfl (.inl (by kernel_rfl)) (by decide)) ea_nil))) ea_nil)) (pg_name (i := 4) sc_delta_prices_fault.nd rfl (.inr (by kernel_rfl)) (.inl rfl)) (gs_name 4) (by decide)
  (sjs_cons (L1 := [0, 0, 0, 0, 0, 0, 0, 0, 0]) (sj_if (et_val (EO.up (k := 0) (n := 1) (eo_callB (c_any rfl) fAny_nx (gl_of (by kernel_rfl)) T.z_any (by decide +kernel) (ea_cons (EO.up (k := 1) (n := 1) (eo_lc (own := [("cost", 5), ("there", 6), ("_piece", 7)]) rfl sc_delta_prices_fault.nd (ei_seq (EO.up (k := 0) (n := 1) (eo_call (G__pieces base) (hr.mono (by decide)) (gl_of (by kernel_rfl)) T.g__pieces k__pieces b__pieces.b (takes_of rfl rfl rfl rfl) (ea_cons (eb_var (n := 0) (i := 0) rfl (.inl (by kernel_rfl)) (by decide)) (ea_cons (eb_var (n := 0) (i := 1) rfl (.inl (by kernel_rfl)) (by decide)) (ea_cons (eb_var (n := 0) (i := 3) rfl (.inl (by kernel_rfl)) (by decide)) (ea_cons (eb_var (n := 0) (i := 4) rfl (.inr (.inl (by kernel_rfl))) (by decide)) ea_nil))))))) (blkOk_by (by kernel_rfl)) (fun _ _ _ _ _ => (pg_tup rfl (pgs_cons (pg_name (i := 5) sc_delta_prices_fault.nd rfl (.inl (by kernel_rfl)) (.inr (by kernel_rfl))) (pgs_cons (pg_name (i := 6) sc_delta_prices_fault.nd rfl (.inl (by kernel_rfl)) (.inr (by kernel_rfl))) (pgs_cons (pg_name (i := 7) sc_delta_prices_fault.nd rfl (.inl (by kernel_rfl)) (.inr (by kernel_rfl))) pgs_nil))))) (fun _ _ _ _ _ => ets_nil) (fun _ _ _ _ _ => (eo_cmp o_gt dCmpI_nx (eb_ix (eb_var (n := 1) (i := 2) rfl (.inr (.inl (by kernel_rfl))) (by decide)) (eb_var (n := 0) (i := 4) rfl (.inr (.inl (by kernel_rfl))) (by decide))) (EO.up (k := 1) (n := 0) (eo_op o_add dAdd_nx (eb_var (n := 1) (i := 5) rfl (.inl (by kernel_rfl)) (by decide)) (eb_ix (eb_var (n := 2) (i := 2) rfl (.inr (.inl (by kernel_rfl))) (by decide)) (eb_var (n := 0) (i := 6) rfl (.inl (by kernel_rfl)) (by decide))))) (nomark _))) (gs_tup [5, 6, 7]) (by decide) (by decide))) ea_nil)))) (sjs_one (sj_ret (EB.o (eb_var (n := 0) (i := 4) rfl (.inr (.inl (by kernel_rfl))) (by decide))))) sjs_nil)
  (sjs_kill [4] sjs_nil)))
  (sjs_kill [4] (sjs_one (sj_ret eo_non))))))))), b, F.kp⟩
theorem ok__law_price_fault (T : Txt K mg) : ∃ fd, (∀ base : Heap, FnOk P w K mg base (L2.CX P w) 1 (He.ga K "_law_price_fault") fd ["steps", "prices"] (Spec K mg 2 0 C__law_price_fault)) ∧ BA fd ["steps", "prices"] ∧ PySem.W.keepIn K (.ref (He.ga K "_law_price_fault")) = true := by
  obtain ⟨fd, F, b⟩ := T.F__law_price_fault
  exact ⟨fd, fun base => fn_ok (N := n__law_price_fault) (nN := 7) (k := 0) (kr := 0) (L := [0, 0, 0, 0, 0, 0, 0]) (L' := [0, 0, 0, 0, 0, 0, 0]) (FF := F__law_price_fault) F sc__law_price_fault rfl rfl rfl rfl fun cdv A outer s H E hr => ((sjs_cons (L1 := [0, 0, 0, 0, 0, 0, 0]) (sj_if (et_w (ew_or (et_not (et_val (EO.up (k := 0) (n := 1) (eo_isi kind_tup (gl_of (by kernel_rfl)) T.z_isinstance (gl_of (by kernel_rfl)) T.z_tuple (by decide +kernel) (eb_var (n := 1) (i := 1) rfl (.inr (.inl (by kernel_rfl))) (by decide)))))) (ew_or (et_cmp (o_ne hr.units) dNe_nx (EO.up (k := 0) (n := 1) (eo_callB c_len fLen_nx (gl_of (by kernel_rfl)) T.z_len (by decide +kernel) (ea_cons (eb_var (n := 1) (i := 1) rfl (.inr (.inl (by kernel_rfl))) (by decide)) ea_nil))) (EO.up (k := 1) (n := 1) (eo_op o_add dAdd_nx (EO.up (k := 0) (n := 1) (eo_callB c_len fLen_nx (gl_of (by kernel_rfl)) T.z_len (by decide +kernel) (ea_cons (eb_var (n := 1) (i := 0) rfl (.inr (.inl (by kernel_rfl))) (by decide)) ea_nil))) (EO.up (k := 0) (n := 1) eo_int))) (nomark _)) (ew_or1 (et_not (et_val (EO.up (k := 0) (n := 1) (eo_callB (c_all rfl) fAll_nx (gl_of (by kernel_rfl)) T.z_all (by decide +kernel) (ea_cons (EO.up (k := 1) (n := 1) (eo_lc (own := [("one", 4)]) rfl sc__law_price_fault.nd (ei_seq (eb_var (n := 1) (i := 1) rfl (.inr (.inl (by kernel_rfl))) (by decide))) (blkOk_by (by kernel_rfl)) (fun _ _ _ _ _ => (pg_name (i := 4) sc__law_price_fault.nd rfl (.inl (by kernel_rfl)) (.inr (by kernel_rfl)))) (fun _ _ _ _ _ => ets_nil) (fun _ _ _ _ _ => (EB.o (eb_and (EO.up (k := 0) (n := 0) (eo_isi kind_int (gl_of (by kernel_rfl)) T.z_isinstance (gl_of (by kernel_rfl)) T.z_int (by decide +kernel) (eb_var (n := 1) (i := 4) rfl (.inl (by kernel_rfl)) (by decide)))) (eb_and (EO.up (k := 0) (n := 0) (eo_not (EO.up (k := 0) (n := 1) (eo_isi kind_bool (gl_of (by kernel_rfl)) T.z_isinstance (gl_of (by kernel_rfl)) T.z_bool (by decide +kernel) (eb_var (n := 1) (i := 4) rfl (.inl (by kernel_rfl)) (by decide)))))) (eb_one (EO.up (k := 0) (n := 0) (eo_cmp o_ge dCmpI_nx (eb_var (n := 0) (i := 4) rfl (.inl (by kernel_rfl)) (by decide)) (EO.up (k := 0) (n := 0) eo_int) (nomark _)))))))) (gs_name 4) (by decide) (by decide))) ea_nil))))))))) (sjs_one (sj_ret eo_str)) sjs_nil)
  (sjs_cons (L1 := [0, 0, 0, 0, 0, 0, 0]) (sj_if (et_cmp (o_ne hr.units) dNe_nx (eb_ix (eb_var (n := 2) (i := 1) rfl (.inr (.inl (by kernel_rfl))) (by decide)) (EO.up (k := 0) (n := 0) (eo_un o_neg dNeg_nx (EO.up (k := 0) (n := 0) eo_int)))) (EO.up (k := 0) (n := 1) eo_int) (nomark _)) (sjs_one (sj_ret eo_str)) sjs_nil)
  (sjs_cons (L1 := [0, 0, 1, 0, 0, 0, 0]) (sj_setLc (i := 2) (k := 0) (own := [("place", 3)]) rfl sc__law_price_fault.nd rfl (by kernel_rfl) (by decide) (sw_true rfl (by kernel_rfl) rfl (by decide +kernel)) (ei_range1 (gl_of (by kernel_rfl)) T.z_range (ea_cons (EO.up (k := 0) (n := 0) (eo_callB c_len fLen_nx (gl_of (by kernel_rfl)) T.z_len (by decide +kernel) (ea_cons (eb_var (n := 1) (i := 0) rfl (.inr (.inl (by kernel_rfl))) (by decide)) ea_nil))) ea_nil)) (blkOk_by (by kernel_rfl)) (fun _ _ _ _ _ => (pg_name (i := 3) sc__law_price_fault.nd rfl (.inr (by kernel_rfl)) (.inl (by kernel_rfl)))) (fun _ _ _ _ _ => (ets_one (et_val (EO.up (k := 0) (n := 1) (eo_callB (c_any rfl) fAny_nx (gl_of (by kernel_rfl)) T.z_any (by decide +kernel) (ea_cons (EO.up (k := 1) (n := 1) (eo_lc (own := [("cost", 5), ("end", 6)]) rfl sc__law_price_fault.nd (ei_seq (eb_ix (eb_var (n := 2) (i := 0) rfl (.inr (.inl (by kernel_rfl))) (by decide)) (eb_var (n := 0) (i := 3) rfl (.inr (.inl (by kernel_rfl))) (by decide)))) (blkOk_by (by kernel_rfl)) (fun _ _ _ _ _ => (pg_tup rfl (pgs_cons (pg_name (i := 5) sc__law_price_fault.nd rfl (.inl (by kernel_rfl)) (.inr (by kernel_rfl))) (pgs_cons (pg_name (i := 6) sc__law_price_fault.nd rfl (.inl (by kernel_rfl)) (.inr (by kernel_rfl))) pgs_nil)))) (fun _ _ _ _ _ => ets_nil) (fun _ _ _ _ _ => (eo_cmp o_gt dCmpI_nx (eb_ix (eb_var (n := 1) (i := 1) rfl (.inr (.inl (by kernel_rfl))) (by decide)) (eb_var (n := 0) (i := 3) rfl (.inr (.inl (by kernel_rfl))) (by decide))) (EO.up (k := 1) (n := 0) (eo_op o_add dAdd_nx (eb_var (n := 1) (i := 5) rfl (.inl (by kernel_rfl)) (by decide)) (eb_ix (eb_var (n := 2) (i := 1) rfl (.inr (.inl (by kernel_rfl))) (by decide)) (eb_var (n := 0) (i := 6) rfl (.inl (by kernel_rfl)) (by decide))))) (nomark _))) (gs_tup [5, 6]) (by decide) (by decide))) ea_nil)))))) (fun _ _ _ _ _ => (EB.o (eb_var (n := 0) (i := 3) rfl (.inr (.inl (by kernel_rfl))) (by decide)))) (gs_name 3) (by decide) (by decide))
  (sjs_one (sj_ret (EB.o (eb_if (et_cmp o_gt dCmpI_nx (EO.up (k := 0) (n := 0) (eo_callB c_len fLen_nx (gl_of (by kernel_rfl)) T.z_len (by decide +kernel) (ea_cons (eb_var (n := 1) (i := 2) rfl (.inl (by kernel_rfl)) (by decide)) ea_nil))) (EO.up (k := 0) (n := 0) eo_int) (nomark _)) (eb_ix (eb_var (n := 1) (i := 2) rfl (.inl (by kernel_rfl)) (by decide)) (EO.up (k := 0) (n := 0) eo_int)) (EO.up (k := 0) (n := 0) eo_non))))))))), b, F.kp⟩
theorem ok__law_error (T : Txt K mg) : ∃ fd, (∀ base : Heap, FnOk P w K mg base (L2.CX P w) 7 (He.ga K "_law_error") fd ["call", "one", "two", "three"] (Spec K mg 4 0 C__law_error)) ∧ BA fd ["call", "one", "two", "three"] ∧ PySem.W.keepIn K (.ref (He.ga K "_law_error")) = true := by
  obtain ⟨fd, F, b⟩ := T.F__law_error
  obtain ⟨fd_delta_fault, G_delta_fault, b_delta_fault, k_delta_fault⟩ := ok_delta_fault (P := P) (w := w) T
  obtain ⟨fd_made, G_made, b_made, k_made⟩ := ok_made (P := P) (w := w) T
  obtain ⟨fd_cost_of, G_cost_of, b_cost_of, k_cost_of⟩ := ok_cost_of (P := P) (w := w) T
  obtain ⟨fd_least_delta, G_least_delta, b_least_delta, k_least_delta⟩ := ok_least_delta (P := P) (w := w) T
  obtain ⟨fd_delta_prices_fault, G_delta_prices_fault, b_delta_prices_fault, k_delta_prices_fault⟩ := ok_delta_prices_fault (P := P) (w := w) T
  exact ⟨fd, fun base => fn_ok (N := n__law_error) (nN := 4) (k := 6) (kr := 0) (L := [0, 0, 0, 0]) (L' := [0, 0, 0, 0]) (FF := F__law_error) F sc__law_error rfl rfl rfl rfl fun cdv A outer s H E hr => ((sjs_cons (L1 := [0, 0, 0, 0]) (sj_try (us := ["BadDelta", "BadOctets", "TooMany"]) [(.ref (He.ga K "BadOctets"), ["BadOctets"], (sNx (sRet (eC (.str "octets"))))), (.ref (He.ga K "BadDelta"), ["BadDelta"], (sNx (sRet (eC (.str "delta"))))), (.ref (He.ga K "TooMany"), ["TooMany"], (sNx (sRet (eC (.str "many")))))] rfl rfl (takes_of rfl rfl rfl rfl) (hm_c (hc_c T.e_BadDelta.1 T.m_BadDelta_BadOctets (by decide +kernel) (hc_c T.e_BadDelta.1 T.m_BadDelta_BadDelta (by decide +kernel) (hc_c T.e_BadDelta.1 T.m_BadDelta_TooMany (by decide +kernel) hc_n))) (hm_c (hc_c T.e_BadOctets.1 T.m_BadOctets_BadOctets (by decide +kernel) (hc_c T.e_BadOctets.1 T.m_BadOctets_BadDelta (by decide +kernel) (hc_c T.e_BadOctets.1 T.m_BadOctets_TooMany (by decide +kernel) hc_n))) (hm_c (hc_c T.e_TooMany.1 T.m_TooMany_BadOctets (by decide +kernel) (hc_c T.e_TooMany.1 T.m_TooMany_BadDelta (by decide +kernel) (hc_c T.e_TooMany.1 T.m_TooMany_TooMany (by decide +kernel) hc_n))) hm_n))) (fun W2 pnX xeX tkX pasX => (sjs_one (sj_if (et_cmp (o_eq hr.units) dEq_nx (eb_var (n := 1) (i := 0) rfl (.inl (by kernel_rfl)) (by decide)) (EO.up (k := 0) (n := 1) eo_int) (nomark _)) (sjs_one (sj_expr (EO.up (k := 0) (n := 0) (eo_call (G_delta_fault base) (hr.mono (by decide)) (gl_of (by kernel_rfl)) T.g_delta_fault k_delta_fault b_delta_fault.b tkX (ea_cons (eb_var (n := 0) (i := 1) rfl (.inl (by kernel_rfl)) (by decide)) (ea_cons (eb_var (n := 0) (i := 2) rfl (.inl (by kernel_rfl)) (by decide)) ea_nil)))))) (sjs_one (sj_if (et_cmp (o_eq hr.units) dEq_nx (eb_var (n := 1) (i := 0) rfl (.inl (by kernel_rfl)) (by decide)) (EO.up (k := 0) (n := 1) eo_int) (nomark _)) (sjs_one (sj_expr (EO.up (k := 0) (n := 0) (eo_call (G_made base) (hr.mono (by decide)) (gl_of (by kernel_rfl)) T.g_made k_made b_made.b tkX (ea_cons (eb_var (n := 0) (i := 1) rfl (.inl (by kernel_rfl)) (by decide)) (ea_cons (eb_var (n := 0) (i := 2) rfl (.inl (by kernel_rfl)) (by decide)) ea_nil)))))) (sjs_one (sj_if (et_cmp (o_eq hr.units) dEq_nx (eb_var (n := 1) (i := 0) rfl (.inl (by kernel_rfl)) (by decide)) (EO.up (k := 0) (n := 1) eo_int) (nomark _)) (sjs_one (sj_expr (EO.up (k := 0) (n := 0) (eo_call (G_cost_of base) (hr.mono (by decide)) (gl_of (by kernel_rfl)) T.g_cost_of k_cost_of b_cost_of.b tkX (ea_cons (eb_var (n := 0) (i := 2) rfl (.inl (by kernel_rfl)) (by decide)) ea_nil))))) (sjs_one (sj_if (et_cmp (o_eq hr.units) dEq_nx (eb_var (n := 1) (i := 0) rfl (.inl (by kernel_rfl)) (by decide)) (EO.up (k := 0) (n := 1) eo_int) (nomark _)) (sjs_one (sj_expr (EO.up (k := 0) (n := 0) (eo_call (G_least_delta base) (hr.mono (by decide)) (gl_of (by kernel_rfl)) T.g_least_delta k_least_delta b_least_delta.b tkX (ea_cons (eb_var (n := 0) (i := 1) rfl (.inl (by kernel_rfl)) (by decide)) (ea_cons (eb_var (n := 0) (i := 2) rfl (.inl (by kernel_rfl)) (by decide)) ea_nil)))))) (sjs_one (sj_expr (EO.up (k := 0) (n := 0) (eo_call (G_delta_prices_fault base) (hr.mono (by decide)) (gl_of (by kernel_rfl)) T.g_delta_prices_fault k_delta_prices_fault b_delta_prices_fault.b tkX (ea_cons (eb_var (n := 0) (i := 1) rfl (.inl (by kernel_rfl)) (by decide)) (ea_cons (eb_var (n := 0) (i := 2) rfl (.inl (by kernel_rfl)) (by decide)) (ea_cons (eb_var (n := 0) (i := 3) rfl (.inl (by kernel_rfl)) (by decide)) ea_nil)))))))))))))))) (hp_cons 4 (names_g (gl_of (by kernel_rfl)) T.e_BadOctets.1) (fun _ _ => (sjs_one (sj_ret eo_str))) (hp_cons 4 (names_g (gl_of (by kernel_rfl)) T.e_BadDelta.1) (fun _ _ => (sjs_one (sj_ret eo_str))) (hp_cons 4 (names_g (gl_of (by kernel_rfl)) T.e_TooMany.1) (fun _ _ => (sjs_one (sj_ret eo_str))) hp_nil))))
  (sjs_one (sj_ret eo_str)))), b, F.kp⟩
theorem ok_law (T : Txt K mg) : ∃ fd, (∀ base : Heap, FnOk P w K mg base (L2.CX P w) 8 (He.ga K "law") fd ["script"] (Spec K mg 1 0 C_law)) ∧ BA fd ["script"] ∧ PySem.W.keepIn K (.ref (He.ga K "law")) = true := by
  obtain ⟨fd, F, b⟩ := T.F_law
  obtain ⟨fd__law_draws, G__law_draws, b__law_draws, k__law_draws⟩ := ok__law_draws (P := P) (w := w) T
  obtain ⟨fd__law_steps, G__law_steps, b__law_steps, k__law_steps⟩ := ok__law_steps (P := P) (w := w) T
  obtain ⟨fd__law_prices, G__law_prices, b__law_prices, k__law_prices⟩ := ok__law_prices (P := P) (w := w) T
  obtain ⟨fd_least_delta, G_least_delta, b_least_delta, k_least_delta⟩ := ok_least_delta (P := P) (w := w) T
  obtain ⟨fd__law_fault, G__law_fault, b__law_fault, k__law_fault⟩ := ok__law_fault (P := P) (w := w) T
  obtain ⟨fd__law_made, G__law_made, b__law_made, k__law_made⟩ := ok__law_made (P := P) (w := w) T
  obtain ⟨fd__law_cost, G__law_cost, b__law_cost, k__law_cost⟩ := ok__law_cost (P := P) (w := w) T
  obtain ⟨fd_made, G_made, b_made, k_made⟩ := ok_made (P := P) (w := w) T
  obtain ⟨fd_cost_of, G_cost_of, b_cost_of, k_cost_of⟩ := ok_cost_of (P := P) (w := w) T
  obtain ⟨fd_delta_fault, G_delta_fault, b_delta_fault, k_delta_fault⟩ := ok_delta_fault (P := P) (w := w) T
  obtain ⟨fd_delta_prices_fault, G_delta_prices_fault, b_delta_prices_fault, k_delta_prices_fault⟩ := ok_delta_prices_fault (P := P) (w := w) T
  obtain ⟨fd__law_error, G__law_error, b__law_error, k__law_error⟩ := ok__law_error (P := P) (w := w) T
  obtain ⟨fd__law_price_fault, G__law_price_fault, b__law_price_fault, k__law_price_fault⟩ := ok__law_price_fault (P := P) (w := w) T
  exact ⟨fd, fun base => fn_ok (N := n_law) (nN := 23) (k := 7) (kr := 0) (L := [0, 0, 0, 0, 0, 0, 0, 0, 0, 0, 0, 0, 0, 0, 0, 0, 0, 0, 0, 0, 0, 0, 0]) (L' := [0, 0, 0, 0, 0, 0, 0, 0, 0, 0, 0, 0, 0, 0, 0, 0, 0, 0, 0, 0, 0, 0, 0]) (FF := F_law) F sc_law rfl rfl rfl rfl fun cdv A outer s H E hr => ((sjs_cons (L1 := [0, 0, 0, 0, 0, 0, 0, 0, 0, 0, 0, 0, 0, 0, 0, 0, 0, 0, 0, 0, 0, 0, 0]) (sj_set (i := 1) (k := 0) sc_law.nd rfl (.inr (by kernel_rfl)) (eo_call (G__law_draws base) (hr.mono (by decide)) (gl_of (by kernel_rfl)) T.g__law_draws k__law_draws b__law_draws.b (takes_of rfl rfl rfl rfl) (ea_cons (eb_var (n := 0) (i := 0) rfl (.inl (by kernel_rfl)) (by decide)) (ea_cons (EO.up (k := 0) (n := 0) eo_int) ea_nil))) (by decide) rfl (.inl rfl))
  (sjs_cons (L1 := [0, 0, 0, 0, 0, 0, 0, 0, 0, 0, 0, 0, 0, 0, 0, 0, 0, 0, 0, 0, 0, 0, 0]) (sj_set (i := 3) (k := 0) sc_law.nd rfl (.inl (by kernel_rfl)) (eo_callTy c_tuple fTuple_nx (gl_of (by kernel_rfl)) T.z_tuple (by decide +kernel) (ea_cons (EO.up (k := 1) (n := 1) (eo_lc (own := [("k", 2)]) rfl sc_law.nd (ei_range1 (gl_of (by kernel_rfl)) T.z_range (ea_cons (EO.up (k := 0) (n := 0) (eo_op o_mod dMod_nx (EO.up (k := 0) (n := 0) (eo_callTy c_int fInt_nx (gl_of (by kernel_rfl)) T.z_int (by decide +kernel) (ea_cons (eb_ix (eb_var (n := 1) (i := 1) rfl (.inr (.inl (by kernel_rfl))) (by decide)) (EO.up (k := 0) (n := 0) eo_int)) ea_nil))) (EO.up (k := 0) (n := 0) eo_int))) ea_nil)) (blkOk_by (by kernel_rfl)) (fun _ _ _ _ _ => (pg_name (i := 2) sc_law.nd rfl (.inl (by kernel_rfl)) (.inr (by kernel_rfl)))) (fun _ _ _ _ _ => ets_nil) (fun _ _ _ _ _ => (eo_op o_mod dMod_nx (EO.up (k := 0) (n := 0) (eo_callTy c_int fInt_nx (gl_of (by kernel_rfl)) T.z_int (by decide +kernel) (ea_cons (eb_ix (eb_var (n := 1) (i := 1) rfl (.inr (.inl (by kernel_rfl))) (by decide)) (EO.up (k := 1) (n := 0) (eo_op o_add dAdd_nx (EO.up (k := 0) (n := 1) eo_int) (eb_var (n := 1) (i := 2) rfl (.inl (by kernel_rfl)) (by decide))))) ea_nil))) (EO.up (k := 0) (n := 0) eo_int))) (gs_name 2) (by decide) (by decide))) ea_nil)) (by decide) rfl (.inl rfl))
  (sjs_cons (L1 := [0, 0, 0, 0, 0, 0, 0, 0, 0, 0, 0, 0, 0, 0, 0, 0, 0, 0, 0, 0, 0, 0, 0]) (sj_set (i := 4) (k := 0) sc_law.nd rfl (.inl (by kernel_rfl)) (eo_callTy c_tuple fTuple_nx (gl_of (by kernel_rfl)) T.z_tuple (by decide +kernel) (ea_cons (EO.up (k := 1) (n := 1) (eo_lc (own := [("k", 2)]) rfl sc_law.nd (ei_range1 (gl_of (by kernel_rfl)) T.z_range (ea_cons (EO.up (k := 0) (n := 0) (eo_op o_mod dMod_nx (EO.up (k := 0) (n := 0) (eo_callTy c_int fInt_nx (gl_of (by kernel_rfl)) T.z_int (by decide +kernel) (ea_cons (eb_ix (eb_var (n := 1) (i := 1) rfl (.inr (.inl (by kernel_rfl))) (by decide)) (EO.up (k := 0) (n := 0) eo_int)) ea_nil))) (EO.up (k := 0) (n := 0) eo_int))) ea_nil)) (blkOk_by (by kernel_rfl)) (fun _ _ _ _ _ => (pg_name (i := 2) sc_law.nd rfl (.inl (by kernel_rfl)) (.inr (by kernel_rfl)))) (fun _ _ _ _ _ => ets_nil) (fun _ _ _ _ _ => (eo_op o_mod dMod_nx (EO.up (k := 0) (n := 0) (eo_callTy c_int fInt_nx (gl_of (by kernel_rfl)) T.z_int (by decide +kernel) (ea_cons (eb_ix (eb_var (n := 1) (i := 1) rfl (.inr (.inl (by kernel_rfl))) (by decide)) (EO.up (k := 1) (n := 0) (eo_op o_add dAdd_nx (EO.up (k := 0) (n := 1) eo_int) (eb_var (n := 1) (i := 2) rfl (.inl (by kernel_rfl)) (by decide))))) ea_nil))) (EO.up (k := 0) (n := 0) eo_int))) (gs_name 2) (by decide) (by decide))) ea_nil)) (by decide) rfl (.inl rfl))
  (sjs_cons (L1 := [0, 0, 0, 0, 0, 0, 0, 0, 0, 0, 0, 0, 0, 0, 0, 0, 0, 0, 0, 0, 0, 0, 0]) (sj_if (et_cmp (o_eq hr.units) dEq_nx (EO.up (k := 0) (n := 1) (eo_op o_mod dMod_nx (EO.up (k := 0) (n := 0) (eo_callTy c_int fInt_nx (gl_of (by kernel_rfl)) T.z_int (by decide +kernel) (ea_cons (eb_ix (eb_var (n := 1) (i := 1) rfl (.inr (.inl (by kernel_rfl))) (by decide)) (EO.up (k := 0) (n := 0) eo_int)) ea_nil))) (EO.up (k := 0) (n := 0) eo_int))) (EO.up (k := 0) (n := 1) eo_int) (nomark _)) (sjs_cons (L1 := [0, 0, 0, 0, 0, 0, 0, 0, 0, 0, 0, 0, 0, 0, 0, 0, 0, 0, 0, 0, 0, 0, 0]) (sj_par2 (i := 5) (j := 6) (k1 := 0) (k2 := 0) rfl sc_law.nd rfl rfl (by decide) (by kernel_rfl) (by kernel_rfl) (eo_op o_mod dMod_nx (EO.up (k := 0) (n := 0) (eo_callTy c_int fInt_nx (gl_of (by kernel_rfl)) T.z_int (by decide +kernel) (ea_cons (eb_ix (eb_var (n := 1) (i := 1) rfl (.inr (.inl (by kernel_rfl))) (by decide)) (EO.up (k := 0) (n := 0) eo_int)) ea_nil))) (EO.up (k := 1) (n := 0) (eo_op o_add dAdd_nx (EO.up (k := 0) (n := 1) (eo_callB c_len fLen_nx (gl_of (by kernel_rfl)) T.z_len (by decide +kernel) (ea_cons (eb_var (n := 1) (i := 3) rfl (.inl (by kernel_rfl)) (by decide)) ea_nil))) (EO.up (k := 0) (n := 1) eo_int)))) (eo_op o_mod dMod_nx (EO.up (k := 0) (n := 0) (eo_callTy c_int fInt_nx (gl_of (by kernel_rfl)) T.z_int (by decide +kernel) (ea_cons (eb_ix (eb_var (n := 1) (i := 1) rfl (.inr (.inl (by kernel_rfl))) (by decide)) (EO.up (k := 0) (n := 0) eo_int)) ea_nil))) (EO.up (k := 1) (n := 0) (eo_op o_add dAdd_nx (EO.up (k := 0) (n := 1) (eo_callB c_len fLen_nx (gl_of (by kernel_rfl)) T.z_len (by decide +kernel) (ea_cons (eb_var (n := 1) (i := 3) rfl (.inl (by kernel_rfl)) (by decide)) ea_nil))) (EO.up (k := 0) (n := 1) eo_int)))) (by decide) (by decide) (by kernel_rfl))
  (sjs_one (sj_set (i := 4) (k := 0) sc_law.nd rfl (.inl (by kernel_rfl)) (EB.o (EO.b (k := 1) (eo_sl (EO.up (k := 1) (n := 1) (eo_op o_add dAdd_nx (EO.up (k := 1) (n := 1) (eo_op o_add dAdd_nx (EO.up (k := 1) (n := 1) (eo_sl (eb_var (n := 1) (i := 3) rfl (.inl (by kernel_rfl)) (by decide)) (ep_some (eb_var (n := 0) (i := 5) rfl (.inl (by kernel_rfl)) (by decide))) ep_none)) (EO.up (k := 1) (n := 1) (eo_sl (eb_var (n := 1) (i := 4) rfl (.inl (by kernel_rfl)) (by decide)) ep_none (ep_some (EO.up (k := 0) (n := 0) (eo_op o_mod dMod_nx (EO.up (k := 0) (n := 0) (eo_callTy c_int fInt_nx (gl_of (by kernel_rfl)) T.z_int (by decide +kernel) (ea_cons (eb_ix (eb_var (n := 1) (i := 1) rfl (.inr (.inl (by kernel_rfl))) (by decide)) (EO.up (k := 0) (n := 0) eo_int)) ea_nil))) (EO.up (k := 0) (n := 0) eo_int)))))))) (EO.up (k := 1) (n := 1) (eo_sl (eb_var (n := 1) (i := 3) rfl (.inl (by kernel_rfl)) (by decide)) (ep_some (eb_var (n := 0) (i := 6) rfl (.inl (by kernel_rfl)) (by decide))) ep_none)))) ep_none (ep_some (EO.up (k := 0) (n := 0) eo_int))))) (by decide) rfl (.inl rfl)))) sjs_nil)
  (sjs_cons (L1 := [0, 0, 0, 0, 0, 0, 0, 0, 0, 0, 0, 0, 0, 0, 0, 0, 0, 0, 0, 0, 0, 0, 0]) (sj_set (i := 7) (k := 0) sc_law.nd rfl (.inl (by kernel_rfl)) (eo_call (G__law_steps base) (hr.mono (by decide)) (gl_of (by kernel_rfl)) T.g__law_steps k__law_steps b__law_steps.b (takes_of rfl rfl rfl rfl) (ea_cons (eb_var (n := 0) (i := 3) rfl (.inl (by kernel_rfl)) (by decide)) (ea_cons (eb_var (n := 0) (i := 4) rfl (.inl (by kernel_rfl)) (by decide)) ea_nil))) (by decide) rfl (.inl rfl))
  (sjs_cons (L1 := [0, 0, 0, 0, 0, 0, 0, 0, 0, 0, 0, 0, 0, 0, 0, 0, 0, 0, 0, 0, 0, 0, 0]) (sj_set (i := 8) (k := 0) sc_law.nd rfl (.inl (by kernel_rfl)) (eo_call (G__law_prices base) (hr.mono (by decide)) (gl_of (by kernel_rfl)) T.g__law_prices k__law_prices b__law_prices.b (takes_of rfl rfl rfl rfl) (ea_cons (eb_var (n := 0) (i := 7) rfl (.inl (by kernel_rfl)) (by decide)) ea_nil)) (by decide) rfl (.inl rfl))
  (sjs_cons (L1 := [0, 0, 0, 0, 0, 0, 0, 0, 0, 0, 0, 0, 0, 0, 0, 0, 0, 0, 0, 0, 0, 0, 0]) (sj_unp (pg_tup rfl (pgs_cons (pg_name (i := 9) sc_law.nd rfl (.inl (by kernel_rfl)) (.inl rfl)) (pgs_cons (pg_name (i := 10) sc_law.nd rfl (.inl (by kernel_rfl)) (.inl rfl)) (pgs_cons (pg_name (i := 11) sc_law.nd rfl (.inl (by kernel_rfl)) (.inl rfl)) pgs_nil)))) (gs_tup [9, 10, 11]) (EO.up (k := 0) (n := 0) (eo_call (G_least_delta base) (hr.mono (by decide)) (gl_of (by kernel_rfl)) T.g_least_delta k_least_delta b_least_delta.b (takes_of rfl rfl rfl rfl) (ea_cons (eb_var (n := 0) (i := 3) rfl (.inl (by kernel_rfl)) (by decide)) (ea_cons (eb_var (n := 0) (i := 4) rfl (.inl (by kernel_rfl)) (by decide)) ea_nil)))) (by decide))
  (sjs_cons (L1 := [0, 0, 0, 0, 0, 0, 0, 0, 0, 0, 0, 0, 0, 0, 0, 0, 0, 0, 0, 0, 0, 0, 0]) (sj_if (et_w (ew_or (et_cmp (o_ne hr.units) dNe_nx (eb_var (n := 1) (i := 9) rfl (.inl (by kernel_rfl)) (by decide)) (eb_ix (eb_var (n := 2) (i := 8) rfl (.inl (by kernel_rfl)) (by decide)) (EO.up (k := 0) (n := 0) eo_int)) (nomark _)) (ew_or (et_cmp (o_ne hr.units) dNe_nx (eb_var (n := 1) (i := 11) rfl (.inl (by kernel_rfl)) (by decide)) (eb_var (n := 1) (i := 8) rfl (.inl (by kernel_rfl)) (by decide)) (nomark _)) (ew_or (et_cmp o_isNot dIsNot_nx (EO.up (k := 0) (n := 1) (eo_call (G__law_fault base) (hr.mono (by decide)) (gl_of (by kernel_rfl)) T.g__law_fault k__law_fault b__law_fault.b (takes_of rfl rfl rfl rfl) (ea_cons (eb_var (n := 0) (i := 3) rfl (.inl (by kernel_rfl)) (by decide)) (ea_cons (eb_var (n := 0) (i := 10) rfl (.inl (by kernel_rfl)) (by decide)) ea_nil)))) (EO.up (k := 0) (n := 1) eo_non) (nomark _)) (ew_or (et_cmp (o_ne hr.units) dNe_nx (EO.up (k := 0) (n := 1) (eo_call (G__law_made base) (hr.mono (by decide)) (gl_of (by kernel_rfl)) T.g__law_made k__law_made b__law_made.b (takes_of rfl rfl rfl rfl) (ea_cons (eb_var (n := 0) (i := 3) rfl (.inl (by kernel_rfl)) (by decide)) (ea_cons (eb_var (n := 0) (i := 10) rfl (.inl (by kernel_rfl)) (by decide)) ea_nil)))) (eb_var (n := 1) (i := 4) rfl (.inl (by kernel_rfl)) (by decide)) (nomark _)) (ew_or1 (et_cmp (o_ne hr.units) dNe_nx (EO.up (k := 0) (n := 1) (eo_callB (c_sum rfl) fSum_nx (gl_of (by kernel_rfl)) T.z_sum (by decide +kernel) (ea_cons (EO.up (k := 1) (n := 1) (eo_lc (own := [("piece", 22)]) rfl sc_law.nd (ei_seq (eb_var (n := 1) (i := 10) rfl (.inl (by kernel_rfl)) (by decide))) (blkOk_by (by kernel_rfl)) (fun _ _ _ _ _ => (pg_name (i := 22) sc_law.nd rfl (.inl (by kernel_rfl)) (.inr (by kernel_rfl)))) (fun _ _ _ _ _ => ets_nil) (fun _ _ _ _ _ => (eo_call (G__law_cost base) (hr.mono (by decide)) (gl_of (by kernel_rfl)) T.g__law_cost k__law_cost b__law_cost.b takes0 (ea_cons (eb_var (n := 0) (i := 22) rfl (.inl (by kernel_rfl)) (by decide)) ea_nil))) (gs_name 22) (by decide) (by decide))) ea_nil))) (eb_var (n := 1) (i := 9) rfl (.inl (by kernel_rfl)) (by decide)) (nomark _)))))))) (sjs_one (sj_ret eo_bl)) sjs_nil)
  (sjs_cons (L1 := [0, 0, 0, 0, 0, 0, 0, 0, 0, 0, 0, 0, 0, 0, 0, 0, 0, 0, 0, 0, 0, 0, 0]) (sj_if (et_w (ew_or (et_cmp (o_ne hr.units) dNe_nx (EO.up (k := 0) (n := 1) (eo_call (G_made base) (hr.mono (by decide)) (gl_of (by kernel_rfl)) T.g_made k_made b_made.b (takes_of rfl rfl rfl rfl) (ea_cons (eb_var (n := 0) (i := 3) rfl (.inl (by kernel_rfl)) (by decide)) (ea_cons (eb_var (n := 0) (i := 10) rfl (.inl (by kernel_rfl)) (by decide)) ea_nil)))) (eb_var (n := 1) (i := 4) rfl (.inl (by kernel_rfl)) (by decide)) (nomark _)) (ew_or (et_cmp (o_ne hr.units) dNe_nx (EO.up (k := 0) (n := 1) (eo_call (G_cost_of base) (hr.mono (by decide)) (gl_of (by kernel_rfl)) T.g_cost_of k_cost_of b_cost_of.b (takes_of rfl rfl rfl rfl) (ea_cons (eb_var (n := 0) (i := 10) rfl (.inl (by kernel_rfl)) (by decide)) ea_nil))) (eb_var (n := 1) (i := 9) rfl (.inl (by kernel_rfl)) (by decide)) (nomark _)) (ew_or (et_cmp o_isNot dIsNot_nx (EO.up (k := 0) (n := 1) (eo_call (G_delta_fault base) (hr.mono (by decide)) (gl_of (by kernel_rfl)) T.g_delta_fault k_delta_fault b_delta_fault.b (takes_of rfl rfl rfl rfl) (ea_cons (eb_var (n := 0) (i := 3) rfl (.inl (by kernel_rfl)) (by decide)) (ea_cons (eb_var (n := 0) (i := 10) rfl (.inl (by kernel_rfl)) (by decide)) ea_nil)))) (EO.up (k := 0) (n := 1) eo_non) (nomark _)) (ew_or1 (et_cmp o_isNot dIsNot_nx (EO.up (k := 0) (n := 1) (eo_call (G_delta_prices_fault base) (hr.mono (by decide)) (gl_of (by kernel_rfl)) T.g_delta_prices_fault k_delta_prices_fault b_delta_prices_fault.b (takes_of rfl rfl rfl rfl) (ea_cons (eb_var (n := 0) (i := 3) rfl (.inl (by kernel_rfl)) (by decide)) (ea_cons (eb_var (n := 0) (i := 4) rfl (.inl (by kernel_rfl)) (by decide)) (ea_cons (eb_var (n := 0) (i := 11) rfl (.inl (by kernel_rfl)) (by decide)) ea_nil))))) (EO.up (k := 0) (n := 1) eo_non) (nomark _))))))) (sjs_one (sj_ret eo_bl)) sjs_nil)
  (sjs_cons (L1 := [0, 0, 0, 0, 0, 0, 0, 0, 0, 0, 0, 0, 1, 0, 0, 0, 0, 0, 0, 0, 0, 0, 0]) (sj_set (i := 12) (k := 1) sc_law.nd rfl (.inl (by kernel_rfl)) (eo_nil) (by decide) rfl (.inl rfl))
  (sjs_cons (L1 := [0, 0, 0, 0, 0, 0, 0, 0, 0, 0, 0, 0, 1, 0, 0, 0, 0, 0, 0, 0, 0, 0, 0]) (sj_for (passes_of rfl) rfl (ei_range1 (gl_of (by kernel_rfl)) T.z_range (ea_cons (EO.up (k := 0) (n := 0) (eo_op o_mod dMod_nx (EO.up (k := 0) (n := 0) (eo_callTy c_int fInt_nx (gl_of (by kernel_rfl)) T.z_int (by decide +kernel) (ea_cons (eb_ix (eb_var (n := 1) (i := 1) rfl (.inr (.inl (by kernel_rfl))) (by decide)) (EO.up (k := 0) (n := 0) eo_int)) ea_nil))) (EO.up (k := 0) (n := 0) eo_int))) ea_nil)) (pg_name (i := 2) sc_law.nd rfl (.inl (by kernel_rfl)) (.inl rfl)) (gs_name 2) (by decide)
  (sjs_cons (L1 := [0, 0, 0, 0, 0, 0, 0, 0, 0, 0, 0, 0, 1, 0, 0, 0, 0, 0, 0, 0, 0, 0, 0]) (sj_par2 (i := 13) (j := 14) (k1 := 0) (k2 := 0) rfl sc_law.nd rfl rfl (by decide) (by kernel_rfl) (by kernel_rfl) (eo_op o_mod dMod_nx (EO.up (k := 0) (n := 0) (eo_callTy c_int fInt_nx (gl_of (by kernel_rfl)) T.z_int (by decide +kernel) (ea_cons (eb_ix (eb_var (n := 1) (i := 1) rfl (.inr (.inl (by kernel_rfl))) (by decide)) (EO.up (k := 1) (n := 0) (eo_op o_add dAdd_nx (EO.up (k := 0) (n := 1) eo_int) (eb_var (n := 1) (i := 2) rfl (.inl (by kernel_rfl)) (by decide))))) ea_nil))) (EO.up (k := 0) (n := 0) eo_int)) (eo_op o_mod dMod_nx (EO.up (k := 0) (n := 0) (eo_callTy c_int fInt_nx (gl_of (by kernel_rfl)) T.z_int (by decide +kernel) (ea_cons (eb_ix (eb_var (n := 1) (i := 1) rfl (.inr (.inl (by kernel_rfl))) (by decide)) (EO.up (k := 1) (n := 0) (eo_op o_add dAdd_nx (EO.up (k := 0) (n := 1) eo_int) (eb_var (n := 1) (i := 2) rfl (.inl (by kernel_rfl)) (by decide))))) ea_nil))) (EO.up (k := 0) (n := 0) eo_int)) (by decide) (by decide) (by kernel_rfl))
  (sjs_cons (L1 := [0, 0, 0, 0, 0, 0, 0, 0, 0, 0, 0, 0, 1, 0, 0, 0, 0, 0, 0, 0, 0, 0, 0]) (sj_set (i := 15) (k := 0) sc_law.nd rfl (.inl (by kernel_rfl)) (EB.o (EO.b (k := 1) (eo_lst (ea_cons (EO.up (k := 0) (n := 0) (eo_tup (ea_cons (EO.up (k := 0) (n := 0) eo_str) (ea_cons (eb_var (n := 0) (i := 13) rfl (.inl (by kernel_rfl)) (by decide)) (ea_cons (eb_var (n := 0) (i := 14) rfl (.inl (by kernel_rfl)) (by decide)) ea_nil))))) (ea_cons (EO.up (k := 0) (n := 0) (eo_tup (ea_cons (EO.up (k := 0) (n := 0) eo_str) (ea_cons (EO.up (k := 1) (n := 0) (eo_sl (eb_var (n := 1) (i := 4) rfl (.inl (by kernel_rfl)) (by decide)) ep_none (ep_some (eb_var (n := 0) (i := 14) rfl (.inl (by kernel_rfl)) (by decide))))) ea_nil)))) (ea_cons (EO.up (k := 0) (n := 0) (eo_tup (ea_cons (EO.up (k := 0) (n := 0) eo_str) (ea_cons (eb_var (n := 0) (i := 13) rfl (.inl (by kernel_rfl)) (by decide)) (ea_cons (EO.up (k := 0) (n := 0) eo_int) ea_nil))))) (ea_cons (EO.up (k := 0) (n := 0) (eo_tup (ea_cons (EO.up (k := 0) (n := 0) eo_str) (ea_cons (EO.up (k := 0) (n := 0) (eo_tup (ea_cons (EO.up (k := 0) (n := 0) eo_int) (ea_cons (EO.up (k := 0) (n := 0) eo_int) ea_nil)))) ea_nil)))) ea_nil))))))) (by decide) rfl (.inl rfl))
  (sjs_cons (L1 := [0, 0, 0, 0, 0, 0, 0, 0, 0, 0, 0, 0, 1, 0, 0, 0, 0, 0, 0, 0, 0, 0, 0]) (sj_if (et_cmp (o_eq hr.units) dEq_nx (EO.up (k := 0) (n := 1) (eo_op o_mod dMod_nx (EO.up (k := 0) (n := 0) (eo_callTy c_int fInt_nx (gl_of (by kernel_rfl)) T.z_int (by decide +kernel) (ea_cons (eb_ix (eb_var (n := 1) (i := 1) rfl (.inr (.inl (by kernel_rfl))) (by decide)) (EO.up (k := 0) (n := 0) eo_int)) ea_nil))) (EO.up (k := 0) (n := 0) eo_int))) (EO.up (k := 0) (n := 1) eo_int) (nomark _)) (sjs_one (sj_set (i := 15) (k := 0) sc_law.nd rfl (.inl (by kernel_rfl)) (EB.o (EO.b (k := 1) (eo_op o_add dAdd_nx (eb_var (n := 1) (i := 15) rfl (.inl (by kernel_rfl)) (by decide)) (EO.up (k := 1) (n := 1) (eo_lst (ea_cons (EO.up (k := 0) (n := 0) (eo_tup (ea_cons (EO.up (k := 0) (n := 0) eo_str) (ea_cons (eb_var (n := 0) (i := 13) rfl (.inl (by kernel_rfl)) (by decide)) ea_nil)))) (ea_cons (EO.up (k := 0) (n := 0) (eo_tup (ea_cons (EO.up (k := 0) (n := 0) eo_str) (ea_cons (EO.up (k := 0) (n := 0) (eo_tup ea_nil)) ea_nil)))) (ea_cons (EO.up (k := 0) (n := 0) (eo_tup (ea_cons (EO.up (k := 0) (n := 0) eo_str) (ea_cons (EO.up (k := 0) (n := 0) (eo_tup (ea_cons (EO.up (k := 0) (n := 0) eo_int) ea_nil))) ea_nil)))) (ea_cons (EO.up (k := 0) (n := 0) (eo_tup (ea_cons (EO.up (k := 0) (n := 0) eo_str) (ea_cons (EO.up (k := 0) (n := 0) eo_int) (ea_cons (EO.up (k := 0) (n := 0) eo_int) ea_nil))))) (ea_cons (EO.up (k := 0) (n := 0) eo_non) ea_nil)))))))))) (by decide) rfl (.inl rfl))) sjs_nil)
  (sjs_cons (L1 := [0, 0, 0, 0, 0, 0, 0, 0, 0, 0, 0, 0, 1, 0, 0, 0, 0, 0, 0, 0, 0, 0, 0]) (sj_append (i := 12) (k := 0) rfl (.inl (by kernel_rfl)) rfl (EB.o (eb_ix (eb_var (n := 1) (i := 15) rfl (.inl (by kernel_rfl)) (by decide)) (EO.up (k := 0) (n := 0) (eo_op o_mod dMod_nx (EO.up (k := 0) (n := 0) (eo_callTy c_int fInt_nx (gl_of (by kernel_rfl)) T.z_int (by decide +kernel) (ea_cons (eb_ix (eb_var (n := 1) (i := 1) rfl (.inr (.inl (by kernel_rfl))) (by decide)) (EO.up (k := 1) (n := 0) (eo_op o_add dAdd_nx (EO.up (k := 0) (n := 1) eo_int) (eb_var (n := 1) (i := 2) rfl (.inl (by kernel_rfl)) (by decide))))) ea_nil))) (EO.up (k := 0) (n := 0) (eo_callB c_len fLen_nx (gl_of (by kernel_rfl)) T.z_len (by decide +kernel) (ea_cons (eb_var (n := 1) (i := 15) rfl (.inl (by kernel_rfl)) (by decide)) ea_nil))))))))
  (sjs_kill [13, 14, 15] sjs_nil))))))
  (sjs_kill [13, 14, 15] (sjs_cons (L1 := [0, 0, 0, 0, 0, 0, 0, 0, 0, 0, 0, 0, 1, 0, 0, 0, 0, 0, 0, 0, 0, 0, 0]) (sj_for (passes_of rfl) rfl (ei_seq (EO.up (k := 0) (n := 0) (eo_tup (ea_cons (EO.up (k := 0) (n := 0) (eo_callTy c_tuple fTuple_nx (gl_of (by kernel_rfl)) T.z_tuple (by decide +kernel) (ea_cons (eb_var (n := 1) (i := 12) rfl (.inl (by kernel_rfl)) (by decide)) ea_nil))) (ea_cons (EO.up (k := 1) (n := 0) (eo_op o_add dAdd_nx (eb_var (n := 1) (i := 10) rfl (.inl (by kernel_rfl)) (by decide)) (EO.up (k := 0) (n := 1) (eo_callTy c_tuple fTuple_nx (gl_of (by kernel_rfl)) T.z_tuple (by decide +kernel) (ea_cons (eb_var (n := 1) (i := 12) rfl (.inl (by kernel_rfl)) (by decide)) ea_nil))))) (ea_cons (EO.up (k := 1) (n := 0) (eo_callTy c_list fList_nx (gl_of (by kernel_rfl)) T.z_list (by decide +kernel) (ea_cons (eb_var (n := 1) (i := 10) rfl (.inl (by kernel_rfl)) (by decide)) ea_nil))) (ea_cons (EO.up (k := 1) (n := 0) (eo_sl (eb_var (n := 1) (i := 10) rfl (.inl (by kernel_rfl)) (by decide)) (ep_some (EO.up (k := 0) (n := 0) eo_int)) ep_none)) ea_nil))))))) (pg_name (i := 16) sc_law.nd rfl (.inl (by kernel_rfl)) (.inl rfl)) (gs_name 16) (by decide)
  (sjs_cons (L1 := [0, 0, 0, 0, 0, 0, 0, 0, 0, 0, 0, 0, 1, 0, 0, 0, 0, 0, 0, 0, 0, 0, 0]) (sj_set (i := 17) (k := 0) sc_law.nd rfl (.inl (by kernel_rfl)) (eo_call (G__law_fault base) (hr.mono (by decide)) (gl_of (by kernel_rfl)) T.g__law_fault k__law_fault b__law_fault.b (takes_of rfl rfl rfl rfl) (ea_cons (eb_var (n := 0) (i := 3) rfl (.inl (by kernel_rfl)) (by decide)) (ea_cons (eb_var (n := 0) (i := 16) rfl (.inl (by kernel_rfl)) (by decide)) ea_nil))) (by decide) rfl (.inl rfl))
  (sjs_cons (L1 := [0, 0, 0, 0, 0, 0, 0, 0, 0, 0, 0, 0, 1, 0, 0, 0, 0, 0, 0, 0, 0, 0, 0]) (sj_if (et_w (ew_or (et_cmp (o_ne hr.units) dNe_nx (EO.up (k := 0) (n := 1) (eo_call (G_delta_fault base) (hr.mono (by decide)) (gl_of (by kernel_rfl)) T.g_delta_fault k_delta_fault b_delta_fault.b (takes_of rfl rfl rfl rfl) (ea_cons (eb_var (n := 0) (i := 3) rfl (.inl (by kernel_rfl)) (by decide)) (ea_cons (eb_var (n := 0) (i := 16) rfl (.inl (by kernel_rfl)) (by decide)) ea_nil)))) (eb_var (n := 1) (i := 17) rfl (.inl (by kernel_rfl)) (by decide)) (nomark _)) (ew_or (et_cmp (o_ne hr.units) dNe_nx (EO.up (k := 0) (n := 1) (eo_cmp (o_eq hr.units) dEq_nx (EO.up (k := 0) (n := 1) (eo_call (G__law_error base) (hr.mono (by decide)) (gl_of (by kernel_rfl)) T.g__law_error k__law_error b__law_error.b (takes_of rfl rfl rfl rfl) (ea_cons (EO.up (k := 0) (n := 0) eo_int) (ea_cons (eb_var (n := 0) (i := 3) rfl (.inl (by kernel_rfl)) (by decide)) (ea_cons (eb_var (n := 0) (i := 16) rfl (.inl (by kernel_rfl)) (by decide)) (ea_cons (EO.up (k := 0) (n := 0) eo_non) ea_nil)))))) (EO.up (k := 0) (n := 1) eo_str) (nomark _))) (EO.up (k := 0) (n := 1) (eo_cmp o_isNot dIsNot_nx (eb_var (n := 1) (i := 17) rfl (.inl (by kernel_rfl)) (by decide)) (EO.up (k := 0) (n := 1) eo_non) (nomark _))) (nomark _)) (ew_or1 (et_cmp (o_ne hr.units) dNe_nx (EO.up (k := 0) (n := 1) (eo_cmp (o_eq hr.units) dEq_nx (EO.up (k := 0) (n := 1) (eo_call (G__law_error base) (hr.mono (by decide)) (gl_of (by kernel_rfl)) T.g__law_error k__law_error b__law_error.b (takes_of rfl rfl rfl rfl) (ea_cons (EO.up (k := 0) (n := 0) eo_int) (ea_cons (EO.up (k := 0) (n := 0) eo_non) (ea_cons (eb_var (n := 0) (i := 16) rfl (.inl (by kernel_rfl)) (by decide)) (ea_cons (EO.up (k := 0) (n := 0) eo_non) ea_nil)))))) (EO.up (k := 0) (n := 1) eo_str) (nomark _))) (EO.up (k := 0) (n := 1) (eo_cmp (o_eq hr.units) dEq_nx (eb_var (n := 1) (i := 17) rfl (.inl (by kernel_rfl)) (by decide)) (EO.up (k := 0) (n := 1) eo_str) (nomark _))) (nomark _)))))) (sjs_one (sj_ret eo_bl)) sjs_nil)
  (sjs_cons (L1 := [0, 0, 0, 0, 0, 0, 0, 0, 0, 0, 0, 0, 1, 0, 0, 0, 0, 0, 0, 0, 0, 0, 0]) (sj_if (et_w (ew_and (et_cmp o_is dIs_nx (eb_var (n := 1) (i := 17) rfl (.inl (by kernel_rfl)) (by decide)) (EO.up (k := 0) (n := 1) eo_non) (nomark _)) (ew_and1 (et_w (ew_or (et_cmp (o_ne hr.units) dNe_nx (EO.up (k := 0) (n := 1) (eo_call (G_made base) (hr.mono (by decide)) (gl_of (by kernel_rfl)) T.g_made k_made b_made.b (takes_of rfl rfl rfl rfl) (ea_cons (eb_var (n := 0) (i := 3) rfl (.inl (by kernel_rfl)) (by decide)) (ea_cons (eb_var (n := 0) (i := 16) rfl (.inl (by kernel_rfl)) (by decide)) ea_nil)))) (EO.up (k := 0) (n := 1) (eo_call (G__law_made base) (hr.mono (by decide)) (gl_of (by kernel_rfl)) T.g__law_made k__law_made b__law_made.b (takes_of rfl rfl rfl rfl) (ea_cons (eb_var (n := 0) (i := 3) rfl (.inl (by kernel_rfl)) (by decide)) (ea_cons (eb_var (n := 0) (i := 16) rfl (.inl (by kernel_rfl)) (by decide)) ea_nil)))) (nomark _)) (ew_or1 (et_cmp (o_ne hr.units) dNe_nx (EO.up (k := 0) (n := 1) (eo_call (G_cost_of base) (hr.mono (by decide)) (gl_of (by kernel_rfl)) T.g_cost_of k_cost_of b_cost_of.b (takes_of rfl rfl rfl rfl) (ea_cons (eb_var (n := 0) (i := 16) rfl (.inl (by kernel_rfl)) (by decide)) ea_nil))) (EO.up (k := 0) (n := 1) (eo_callB (c_sum rfl) fSum_nx (gl_of (by kernel_rfl)) T.z_sum (by decide +kernel) (ea_cons (EO.up (k := 1) (n := 1) (eo_lc (own := [("piece", 22)]) rfl sc_law.nd (ei_seq (eb_var (n := 1) (i := 16) rfl (.inl (by kernel_rfl)) (by decide))) (blkOk_by (by kernel_rfl)) (fun _ _ _ _ _ => (pg_name (i := 22) sc_law.nd rfl (.inl (by kernel_rfl)) (.inr (by kernel_rfl)))) (fun _ _ _ _ _ => ets_nil) (fun _ _ _ _ _ => (eo_call (G__law_cost base) (hr.mono (by decide)) (gl_of (by kernel_rfl)) T.g__law_cost k__law_cost b__law_cost.b takes0 (ea_cons (eb_var (n := 0) (i := 22) rfl (.inl (by kernel_rfl)) (by decide)) ea_nil))) (gs_name 22) (by decide) (by decide))) ea_nil))) (nomark _)))))))) (sjs_one (sj_ret eo_bl)) sjs_nil)
  (sjs_cons (L1 := [0, 0, 0, 0, 0, 0, 0, 0, 0, 0, 0, 0, 1, 0, 0, 0, 0, 0, 0, 0, 0, 0, 0]) (sj_if (et_w (ew_and (et_cmp o_is dIs_nx (eb_var (n := 1) (i := 17) rfl (.inl (by kernel_rfl)) (by decide)) (EO.up (k := 0) (n := 1) eo_non) (nomark _)) (ew_and (et_cmp o_lt dCmpI_nx (EO.up (k := 0) (n := 0) (eo_call (G_cost_of base) (hr.mono (by decide)) (gl_of (by kernel_rfl)) T.g_cost_of k_cost_of b_cost_of.b (takes_of rfl rfl rfl rfl) (ea_cons (eb_var (n := 0) (i := 16) rfl (.inl (by kernel_rfl)) (by decide)) ea_nil))) (eb_ix (EO.up (k := 0) (n := 1) (eo_call (G_least_delta base) (hr.mono (by decide)) (gl_of (by kernel_rfl)) T.g_least_delta k_least_delta b_least_delta.b (takes_of rfl rfl rfl rfl) (ea_cons (eb_var (n := 0) (i := 3) rfl (.inl (by kernel_rfl)) (by decide)) (ea_cons (EO.up (k := 1) (n := 0) (eo_sl (EO.up (k := 0) (n := 1) (eo_call (G_made base) (hr.mono (by decide)) (gl_of (by kernel_rfl)) T.g_made k_made b_made.b (takes_of rfl rfl rfl rfl) (ea_cons (eb_var (n := 0) (i := 3) rfl (.inl (by kernel_rfl)) (by decide)) (ea_cons (eb_var (n := 0) (i := 16) rfl (.inl (by kernel_rfl)) (by decide)) ea_nil)))) ep_none (ep_some (EO.up (k := 0) (n := 0) eo_int)))) ea_nil)))) (EO.up (k := 0) (n := 0) eo_int)) (nomark _)) (ew_and1 (et_cmp o_le dCmpI_nx (EO.up (k := 0) (n := 0) (eo_callB c_len fLen_nx (gl_of (by kernel_rfl)) T.z_len (by decide +kernel) (ea_cons (EO.up (k := 0) (n := 1) (eo_call (G_made base) (hr.mono (by decide)) (gl_of (by kernel_rfl)) T.g_made k_made b_made.b (takes_of rfl rfl rfl rfl) (ea_cons (eb_var (n := 0) (i := 3) rfl (.inl (by kernel_rfl)) (by decide)) (ea_cons (eb_var (n := 0) (i := 16) rfl (.inl (by kernel_rfl)) (by decide)) ea_nil)))) ea_nil))) (EO.up (k := 0) (n := 0) eo_int) (nomark _)))))) (sjs_one (sj_ret eo_bl)) sjs_nil)
  (sjs_kill [16, 17] sjs_nil))))))
  (sjs_kill [16, 17] (sjs_cons (L1 := [0, 0, 0, 0, 0, 0, 0, 0, 0, 0, 0, 0, 1, 0, 0, 0, 0, 0, 0, 0, 0, 0, 0]) (sj_for (passes_of rfl) rfl (ei_range1 (gl_of (by kernel_rfl)) T.z_range (ea_cons (EO.up (k := 0) (n := 0) eo_int) ea_nil)) (pg_name (i := 2) sc_law.nd rfl (.inl (by kernel_rfl)) (.inl rfl)) (gs_name 2) (by decide)
  (sjs_cons (L1 := [0, 0, 0, 0, 0, 0, 0, 0, 0, 0, 0, 0, 1, 0, 0, 0, 0, 0, 0, 0, 0, 0, 0]) (sj_set (i := 13) (k := 0) sc_law.nd rfl (.inl (by kernel_rfl)) (eo_op o_mod dMod_nx (EO.up (k := 0) (n := 0) (eo_callTy c_int fInt_nx (gl_of (by kernel_rfl)) T.z_int (by decide +kernel) (ea_cons (eb_ix (eb_var (n := 1) (i := 1) rfl (.inr (.inl (by kernel_rfl))) (by decide)) (EO.up (k := 1) (n := 0) (eo_op o_add dAdd_nx (EO.up (k := 0) (n := 1) eo_int) (eb_var (n := 1) (i := 2) rfl (.inl (by kernel_rfl)) (by decide))))) ea_nil))) (EO.up (k := 0) (n := 0) (eo_callB c_len fLen_nx (gl_of (by kernel_rfl)) T.z_len (by decide +kernel) (ea_cons (eb_var (n := 1) (i := 8) rfl (.inl (by kernel_rfl)) (by decide)) ea_nil)))) (by decide) rfl (.inl rfl))
  (sjs_cons (L1 := [0, 0, 0, 0, 0, 0, 0, 0, 0, 0, 0, 0, 1, 0, 0, 0, 0, 0, 0, 0, 0, 0, 0]) (sj_set (i := 18) (k := 0) sc_law.nd rfl (.inl (by kernel_rfl)) (EB.o (EO.b (k := 1) (eo_op o_add dAdd_nx (EO.up (k := 1) (n := 1) (eo_op o_add dAdd_nx (EO.up (k := 1) (n := 1) (eo_sl (eb_var (n := 1) (i := 8) rfl (.inl (by kernel_rfl)) (by decide)) ep_none (ep_some (eb_var (n := 0) (i := 13) rfl (.inl (by kernel_rfl)) (by decide))))) (EO.up (k := 0) (n := 1) (eo_tup (ea_cons (eb_ix (EO.up (k := 1) (n := 1) (eo_lst (ea_cons (EO.up (k := 1) (n := 0) (eo_op o_add dAdd_nx (eb_ix (eb_var (n := 2) (i := 8) rfl (.inl (by kernel_rfl)) (by decide)) (eb_var (n := 0) (i := 13) rfl (.inl (by kernel_rfl)) (by decide))) (EO.up (k := 0) (n := 1) eo_int))) (ea_cons (EO.up (k := 0) (n := 0) (eo_callB (c_max rfl hr.hd hr.units) fMax_nx (gl_of (by kernel_rfl)) T.z_max (by decide +kernel) (ea_cons (EO.up (k := 0) (n := 1) eo_int) (ea_cons (EO.up (k := 0) (n := 1) (eo_op o_sub dSub_nx (eb_ix (eb_var (n := 1) (i := 8) rfl (.inl (by kernel_rfl)) (by decide)) (eb_var (n := 0) (i := 13) rfl (.inl (by kernel_rfl)) (by decide))) (EO.up (k := 0) (n := 0) eo_int))) ea_nil)))) (ea_cons (EO.up (k := 0) (n := 0) eo_non) (ea_cons (EO.up (k := 0) (n := 0) eo_bl) (ea_cons (EO.up (k := 0) (n := 0) (eo_un o_neg dNeg_nx (EO.up (k := 0) (n := 0) eo_int))) (ea_cons (EO.up (k := 1) (n := 0) (eo_op o_add dAdd_nx (eb_ix (eb_var (n := 2) (i := 8) rfl (.inl (by kernel_rfl)) (by decide)) (eb_var (n := 0) (i := 13) rfl (.inl (by kernel_rfl)) (by decide))) (EO.up (k := 0) (n := 1) eo_int))) ea_nil)))))))) (EO.up (k := 0) (n := 0) (eo_op o_mod dMod_nx (EO.up (k := 0) (n := 0) (eo_callTy c_int fInt_nx (gl_of (by kernel_rfl)) T.z_int (by decide +kernel) (ea_cons (eb_ix (eb_var (n := 1) (i := 1) rfl (.inr (.inl (by kernel_rfl))) (by decide)) (EO.up (k := 1) (n := 0) (eo_op o_add dAdd_nx (EO.up (k := 0) (n := 1) eo_int) (eb_var (n := 1) (i := 2) rfl (.inl (by kernel_rfl)) (by decide))))) ea_nil))) (EO.up (k := 0) (n := 0) eo_int)))) ea_nil))))) (EO.up (k := 1) (n := 1) (eo_sl (eb_var (n := 1) (i := 8) rfl (.inl (by kernel_rfl)) (by decide)) (ep_some (EO.up (k := 1) (n := 0) (eo_op o_add dAdd_nx (eb_var (n := 1) (i := 13) rfl (.inl (by kernel_rfl)) (by decide)) (EO.up (k := 0) (n := 1) eo_int)))) ep_none))))) (by decide) rfl (.inl rfl))
  (sjs_cons (L1 := [0, 0, 0, 0, 0, 0, 0, 0, 0, 0, 0, 0, 1, 0, 0, 0, 0, 0, 0, 0, 0, 0, 0]) (sj_for (passes_of rfl) rfl (ei_seq (EO.up (k := 0) (n := 0) (eo_tup (ea_cons (eb_var (n := 0) (i := 18) rfl (.inl (by kernel_rfl)) (by decide)) (ea_cons (EO.up (k := 1) (n := 0) (eo_sl (eb_var (n := 1) (i := 8) rfl (.inl (by kernel_rfl)) (by decide)) ep_none (ep_some (EO.up (k := 0) (n := 0) (eo_un o_neg dNeg_nx (EO.up (k := 0) (n := 0) eo_int)))))) (ea_cons (EO.up (k := 1) (n := 0) (eo_callTy c_list fList_nx (gl_of (by kernel_rfl)) T.z_list (by decide +kernel) (ea_cons (eb_var (n := 1) (i := 8) rfl (.inl (by kernel_rfl)) (by decide)) ea_nil))) (ea_cons (EO.up (k := 0) (n := 0) (eo_op o_mulT dMulT_nx (EO.up (k := 0) (n := 0) (eo_tup (ea_cons (EO.up (k := 0) (n := 0) eo_int) ea_nil))) (EO.up (k := 0) (n := 0) (eo_callB c_len fLen_nx (gl_of (by kernel_rfl)) T.z_len (by decide +kernel) (ea_cons (eb_var (n := 1) (i := 8) rfl (.inl (by kernel_rfl)) (by decide)) ea_nil))))) ea_nil))))))) (pg_name (i := 16) sc_law.nd rfl (.inl (by kernel_rfl)) (.inl rfl)) (gs_name 16) (by decide)
  (sjs_cons (L1 := [0, 0, 0, 0, 0, 0, 0, 0, 0, 0, 0, 0, 1, 0, 0, 0, 0, 0, 0, 0, 0, 0, 0]) (sj_if (et_cmp (o_ne hr.units) dNe_nx (EO.up (k := 0) (n := 1) (eo_call (G_delta_prices_fault base) (hr.mono (by decide)) (gl_of (by kernel_rfl)) T.g_delta_prices_fault k_delta_prices_fault b_delta_prices_fault.b (takes_of rfl rfl rfl rfl) (ea_cons (eb_var (n := 0) (i := 3) rfl (.inl (by kernel_rfl)) (by decide)) (ea_cons (eb_var (n := 0) (i := 4) rfl (.inl (by kernel_rfl)) (by decide)) (ea_cons (eb_var (n := 0) (i := 16) rfl (.inl (by kernel_rfl)) (by decide)) ea_nil))))) (EO.up (k := 0) (n := 1) (eo_call (G__law_price_fault base) (hr.mono (by decide)) (gl_of (by kernel_rfl)) T.g__law_price_fault k__law_price_fault b__law_price_fault.b (takes_of rfl rfl rfl rfl) (ea_cons (eb_var (n := 0) (i := 7) rfl (.inl (by kernel_rfl)) (by decide)) (ea_cons (eb_var (n := 0) (i := 16) rfl (.inl (by kernel_rfl)) (by decide)) ea_nil)))) (nomark _)) (sjs_one (sj_ret eo_bl)) sjs_nil)
  (sjs_kill [16] sjs_nil)))
  (sjs_kill [16] (sjs_kill [13, 16, 18] sjs_nil))))))
  (sjs_kill [13, 16, 18] (sjs_cons (L1 := [0, 0, 0, 0, 0, 0, 0, 0, 0, 0, 0, 0, 1, 0, 0, 0, 0, 0, 0, 0, 0, 0, 0]) (sj_for (passes_of rfl) rfl (ei_seq (EO.up (k := 0) (n := 0) (eo_tup (ea_cons (EO.up (k := 0) (n := 0) eo_non) (ea_cons (EO.up (k := 1) (n := 0) (eo_lst (ea_cons (EO.up (k := 0) (n := 0) eo_int) ea_nil))) (ea_cons (EO.up (k := 0) (n := 0) (eo_tup (ea_cons (EO.up (k := 0) (n := 0) eo_int) ea_nil))) (ea_cons (EO.up (k := 0) (n := 0) (eo_tup (ea_cons (EO.up (k := 0) (n := 0) eo_bl) ea_nil))) ea_nil))))))) (pg_name (i := 19) sc_law.nd rfl (.inr (by kernel_rfl)) (.inl rfl)) (gs_name 19) (by decide)
  (sjs_cons (L1 := [0, 0, 0, 0, 0, 0, 0, 0, 0, 0, 0, 0, 1, 0, 0, 0, 0, 0, 0, 0, 0, 0, 0]) (sj_if (et_w (ew_or (et_cmp (o_ne hr.units) dNe_nx (EO.up (k := 1) (n := 1) (eo_lc (own := [("call", 21)]) rfl sc_law.nd (ei_seq (EO.up (k := 0) (n := 1) (eo_tup (ea_cons (EO.up (k := 0) (n := 0) eo_int) (ea_cons (EO.up (k := 0) (n := 0) eo_int) (ea_cons (EO.up (k := 0) (n := 0) eo_int) (ea_cons (EO.up (k := 0) (n := 0) eo_int) ea_nil))))))) (blkOk_by (by kernel_rfl)) (fun _ _ _ _ _ => (pg_name (i := 21) sc_law.nd rfl (.inl (by kernel_rfl)) (.inr (by kernel_rfl)))) (fun _ _ _ _ _ => ets_nil) (fun _ _ _ _ _ => (eo_call (G__law_error base) (hr.mono (by decide)) (gl_of (by kernel_rfl)) T.g__law_error k__law_error b__law_error.b takes0 (ea_cons (eb_var (n := 0) (i := 21) rfl (.inl (by kernel_rfl)) (by decide)) (ea_cons (eb_var (n := 0) (i := 19) rfl (.inr (.inl (by kernel_rfl))) (by decide)) (ea_cons (EO.up (k := 0) (n := 0) (eo_tup ea_nil)) (ea_cons (EO.up (k := 0) (n := 0) eo_non) ea_nil)))))) (gs_name 21) (by decide) (by decide))) (EO.up (k := 1) (n := 1) (eo_rep (eo_lst (ea_cons (EO.up (k := 0) (n := 0) eo_str) ea_nil)) (EO.up (k := 0) (n := 0) eo_int))) (nomark _)) (ew_or1 (et_cmp (o_ne hr.units) dNe_nx (EO.up (k := 1) (n := 1) (eo_lc (own := [("call", 21)]) rfl sc_law.nd (ei_seq (EO.up (k := 0) (n := 1) (eo_tup (ea_cons (EO.up (k := 0) (n := 0) eo_int) (ea_cons (EO.up (k := 0) (n := 0) eo_int) ea_nil))))) (blkOk_by (by kernel_rfl)) (fun _ _ _ _ _ => (pg_name (i := 21) sc_law.nd rfl (.inl (by kernel_rfl)) (.inr (by kernel_rfl)))) (fun _ _ _ _ _ => ets_nil) (fun _ _ _ _ _ => (eo_call (G__law_error base) (hr.mono (by decide)) (gl_of (by kernel_rfl)) T.g__law_error k__law_error b__law_error.b takes0 (ea_cons (eb_var (n := 0) (i := 21) rfl (.inl (by kernel_rfl)) (by decide)) (ea_cons (EO.up (k := 0) (n := 0) (eo_tup ea_nil)) (ea_cons (eb_var (n := 0) (i := 19) rfl (.inr (.inl (by kernel_rfl))) (by decide)) (ea_cons (EO.up (k := 0) (n := 0) eo_non) ea_nil)))))) (gs_name 21) (by decide) (by decide))) (EO.up (k := 1) (n := 1) (eo_rep (eo_lst (ea_cons (EO.up (k := 0) (n := 0) eo_str) ea_nil)) (EO.up (k := 0) (n := 0) eo_int))) (nomark _))))) (sjs_one (sj_ret eo_bl)) sjs_nil)
  (sjs_kill [19] sjs_nil)))
  (sjs_kill [19] (sjs_cons (L1 := [0, 0, 0, 0, 0, 0, 0, 0, 0, 0, 0, 0, 1, 0, 0, 0, 0, 0, 0, 0, 0, 0, 0]) (sj_set (i := 20) (k := 0) sc_law.nd rfl (.inl (by kernel_rfl)) (eo_callTy c_tuple fTuple_nx (gl_of (by kernel_rfl)) T.z_tuple (by decide +kernel) (ea_cons (EO.up (k := 1) (n := 1) (eo_lc (own := [("k", 2)]) rfl sc_law.nd (ei_range1 (gl_of (by kernel_rfl)) T.z_range (ea_cons (EO.up (k := 0) (n := 0) eo_int) ea_nil)) (blkOk_by (by kernel_rfl)) (fun _ _ _ _ _ => (pg_name (i := 2) sc_law.nd rfl (.inl (by kernel_rfl)) (.inr (by kernel_rfl)))) (fun _ _ _ _ _ => ets_nil) (fun _ _ _ _ _ => (eo_op o_mod dMod_nx (eb_var (n := 0) (i := 2) rfl (.inl (by kernel_rfl)) (by decide)) (EO.up (k := 0) (n := 0) eo_int))) (gs_name 2) (by decide) (by decide))) ea_nil)) (by decide) rfl (.inl rfl))
  (sjs_cons (L1 := [0, 0, 0, 0, 0, 0, 0, 0, 0, 0, 0, 0, 1, 0, 0, 0, 0, 0, 0, 0, 0, 0, 0]) (sj_if (et_w (ew_or (et_cmp (o_ne hr.units) dNe_nx (EO.up (k := 0) (n := 1) (eo_call (G_cost_of base) (hr.mono (by decide)) (gl_of (by kernel_rfl)) T.g_cost_of k_cost_of b_cost_of.b (takes_of rfl rfl rfl rfl) (ea_cons (EO.up (k := 0) (n := 0) (eo_tup (ea_cons (EO.up (k := 0) (n := 0) (eo_tup (ea_cons (EO.up (k := 0) (n := 0) eo_str) (ea_cons (EO.up (k := 0) (n := 0) eo_int) (ea_cons (EO.up (k := 0) (n := 0) eo_int) ea_nil))))) (ea_cons (EO.up (k := 0) (n := 0) (eo_tup (ea_cons (EO.up (k := 0) (n := 0) eo_str) (ea_cons (EO.up (k := 1) (n := 0) (eo_sl (eb_var (n := 1) (i := 20) rfl (.inl (by kernel_rfl)) (by decide)) ep_none (ep_some (EO.up (k := 0) (n := 0) eo_int)))) ea_nil)))) ea_nil)))) ea_nil))) (EO.up (k := 1) (n := 1) (eo_op o_add dAdd_nx (EO.up (k := 1) (n := 1) (eo_op o_add dAdd_nx (EO.up (k := 1) (n := 1) (eo_op o_add dAdd_nx (EO.up (k := 1) (n := 1) (eo_op o_add dAdd_nx (EO.up (k := 1) (n := 1) (eo_op o_add dAdd_nx (EO.up (k := 0) (n := 1) eo_int) (EO.up (k := 0) (n := 1) eo_int))) (EO.up (k := 0) (n := 1) eo_int))) (EO.up (k := 0) (n := 1) eo_int))) (EO.up (k := 0) (n := 1) eo_int))) (EO.up (k := 0) (n := 1) eo_int))) (nomark _)) (ew_or1 (et_cmp (o_ne hr.units) dNe_nx (EO.up (k := 0) (n := 1) (eo_call (G_made base) (hr.mono (by decide)) (gl_of (by kernel_rfl)) T.g_made k_made b_made.b (takes_of rfl rfl rfl rfl) (ea_cons (eb_var (n := 0) (i := 20) rfl (.inl (by kernel_rfl)) (by decide)) (ea_cons (EO.up (k := 0) (n := 0) (eo_tup (ea_cons (EO.up (k := 0) (n := 0) (eo_tup (ea_cons (EO.up (k := 0) (n := 0) eo_str) (ea_cons (EO.up (k := 0) (n := 0) eo_int) (ea_cons (EO.up (k := 0) (n := 0) eo_int) ea_nil))))) ea_nil))) ea_nil)))) (EO.up (k := 1) (n := 1) (eo_sl (eb_var (n := 1) (i := 20) rfl (.inl (by kernel_rfl)) (by decide)) (ep_some (EO.up (k := 0) (n := 0) eo_int)) (ep_some (EO.up (k := 0) (n := 0) eo_int)))) (nomark _))))) (sjs_one (sj_ret eo_bl)) sjs_nil)
  (sjs_one (sj_ret (eo_cmp (o_eq hr.units) dEq_nx (EO.up (k := 1) (n := 1) (eo_op o_add dAdd_nx (EO.up (k := 1) (n := 1) (eo_lc (own := [("call", 21)]) rfl sc_law.nd (ei_seq (EO.up (k := 0) (n := 1) (eo_tup (ea_cons (EO.up (k := 0) (n := 0) eo_int) (ea_cons (EO.up (k := 0) (n := 0) eo_int) ea_nil))))) (blkOk_by (by kernel_rfl)) (fun _ _ _ _ _ => (pg_name (i := 21) sc_law.nd rfl (.inl (by kernel_rfl)) (.inr (by kernel_rfl)))) (fun _ _ _ _ _ => ets_nil) (fun _ _ _ _ _ => (eo_call (G__law_error base) (hr.mono (by decide)) (gl_of (by kernel_rfl)) T.g__law_error k__law_error b__law_error.b takes0 (ea_cons (eb_var (n := 0) (i := 21) rfl (.inl (by kernel_rfl)) (by decide)) (ea_cons (EO.up (k := 0) (n := 0) (eo_op o_mulT dMulT_nx (EO.up (k := 0) (n := 0) (eo_tup (ea_cons (EO.up (k := 0) (n := 0) eo_int) ea_nil))) (EO.up (k := 0) (n := 0) eo_int))) (ea_cons (EO.up (k := 0) (n := 0) (eo_tup ea_nil)) (ea_cons (EO.up (k := 0) (n := 0) (eo_tup ea_nil)) ea_nil)))))) (gs_name 21) (by decide) (by decide))) (EO.up (k := 1) (n := 1) (eo_lc (own := [("call", 21)]) rfl sc_law.nd (ei_seq (EO.up (k := 0) (n := 1) (eo_tup (ea_cons (EO.up (k := 0) (n := 0) eo_int) (ea_cons (EO.up (k := 0) (n := 0) eo_int) ea_nil))))) (blkOk_by (by kernel_rfl)) (fun _ _ _ _ _ => (pg_name (i := 21) sc_law.nd rfl (.inl (by kernel_rfl)) (.inr (by kernel_rfl)))) (fun _ _ _ _ _ => ets_nil) (fun _ _ _ _ _ => (eo_call (G__law_error base) (hr.mono (by decide)) (gl_of (by kernel_rfl)) T.g__law_error k__law_error b__law_error.b takes0 (ea_cons (eb_var (n := 0) (i := 21) rfl (.inl (by kernel_rfl)) (by decide)) (ea_cons (EO.up (k := 0) (n := 0) (eo_tup ea_nil)) (ea_cons (EO.up (k := 0) (n := 0) (eo_op o_mulT dMulT_nx (EO.up (k := 0) (n := 0) (eo_tup (ea_cons (EO.up (k := 0) (n := 0) eo_int) ea_nil))) (EO.up (k := 0) (n := 0) eo_int))) (ea_cons (EO.up (k := 0) (n := 0) (eo_tup ea_nil)) ea_nil)))))) (gs_name 21) (by decide) (by decide))))) (EO.up (k := 1) (n := 1) (eo_rep (eo_lst (ea_cons (EO.up (k := 0) (n := 0) eo_str) ea_nil)) (EO.up (k := 0) (n := 0) eo_int))) (nomark _))))))))))))))))))))))))), b, F.kp⟩
end
end K
namespace K
open PySem PySem.Spec PyProof.Rows L2 Px
def fa_0 : List He.Fa := [.keep "_law_draws", .glo "_law_draws", .keep "_law_size", .glo "_law_size", .keep "_law_cost", .glo "_law_cost", .keep "_law_steps", .glo "_law_steps", .keep "_law_prices", .glo "_law_prices", .keep "is_whole", .glo "is_whole", .keep "is_row", .glo "is_row", .keep "check_rows", .glo "check_rows", .keep "_check", .glo "_check", .keep "_alike", .glo "_alike", .keep "written", .glo "written", .keep "_put_cost", .glo "_put_cost", .keep "_copy_cost", .glo "_copy_cost", .keep "_pieces", .glo "_pieces", .keep "least_delta", .glo "least_delta"]
def fa_1 : List He.Fa := [.keep "_law_is_row", .glo "_law_is_row", .keep "_law_fault", .glo "_law_fault", .keep "_law_made", .glo "_law_made", .keep "_is_piece", .glo "_is_piece", .keep "_is_delta", .glo "_is_delta", .keep "delta_fault", .glo "delta_fault", .keep "made", .glo "made", .keep "cost_of", .glo "cost_of", .keep "delta_prices_fault", .glo "delta_prices_fault", .keep "_law_price_fault", .glo "_law_price_fault", .keep "_law_error", .glo "_law_error", .keep "law", .glo "law", .free "abs", .free "int", .free "range", .free "len", .free "min", .free "tuple"]
def fa_2 : List He.Fa := [.free "isinstance", .free "bool", .free "all", .free "max", .free "str", .free "enumerate", .free "sum", .free "any", .free "list", .int "MOST_OCTETS" 60, .int "GROUP" 128, .str "PUT" "put", .str "COPY" "copy", .glo "BadOctets", .exc "BadOctets", .glo "TooMany", .exc "TooMany", .glo "BadDelta", .exc "BadDelta", .exm "BadDelta" "BadOctets" false, .exm "BadOctets" "BadOctets" true, .exm "TooMany" "BadOctets" false, .exm "BadDelta" "BadDelta" true, .exm "BadOctets" "BadDelta" false, .exm "TooMany" "BadDelta" false, .exm "BadDelta" "TooMany" false, .exm "BadOctets" "TooMany" false, .exm "TooMany" "TooMany" true]
def fa : List He.Fa := fa_0 ++ fa_1 ++ fa_2
def fn_0 : List He.FnD := [⟨("_law_draws", none), "_law_draws", "_law_draws", defArgs s__law_draws, defBody s__law_draws, defScope s__law_draws⟩, ⟨("_law_size", none), "_law_size", "_law_size", defArgs s__law_size, defBody s__law_size, defScope s__law_size⟩, ⟨("_law_cost", none), "_law_cost", "_law_cost", defArgs s__law_cost, defBody s__law_cost, defScope s__law_cost⟩, ⟨("_law_steps", none), "_law_steps", "_law_steps", defArgs s__law_steps, defBody s__law_steps, defScope s__law_steps⟩, ⟨("_law_prices", none), "_law_prices", "_law_prices", defArgs s__law_prices, defBody s__law_prices, defScope s__law_prices⟩, ⟨("is_whole", none), "is_whole", "is_whole", defArgs s_is_whole, defBody s_is_whole, defScope s_is_whole⟩, ⟨("is_row", none), "is_row", "is_row", defArgs s_is_row, defBody s_is_row, defScope s_is_row⟩, ⟨("check_rows", none), "check_rows", "check_rows", defArgs s_check_rows, defBody s_check_rows, defScope s_check_rows⟩, ⟨("_check", none), "_check", "_check", defArgs s__check, defBody s__check, defScope s__check⟩, ⟨("_alike", none), "_alike", "_alike", defArgs s__alike, defBody s__alike, defScope s__alike⟩, ⟨("written", none), "written", "written", defArgs s_written, defBody s_written, defScope s_written⟩, ⟨("_put_cost", none), "_put_cost", "_put_cost", defArgs s__put_cost, defBody s__put_cost, defScope s__put_cost⟩, ⟨("_copy_cost", none), "_copy_cost", "_copy_cost", defArgs s__copy_cost, defBody s__copy_cost, defScope s__copy_cost⟩, ⟨("_pieces", none), "_pieces", "_pieces", defArgs s__pieces, defBody s__pieces, defScope s__pieces⟩, ⟨("least_delta", none), "least_delta", "least_delta", defArgs s_least_delta, defBody s_least_delta, defScope s_least_delta⟩, ⟨("_law_is_row", none), "_law_is_row", "_law_is_row", defArgs s__law_is_row, defBody s__law_is_row, defScope s__law_is_row⟩, ⟨("_law_fault", none), "_law_fault", "_law_fault", defArgs s__law_fault, defBody s__law_fault, defScope s__law_fault⟩, ⟨("_law_made", none), "_law_made", "_law_made", defArgs s__law_made, defBody s__law_made, defScope s__law_made⟩, ⟨("_is_piece", none), "_is_piece", "_is_piece", defArgs s__is_piece, defBody s__is_piece, defScope s__is_piece⟩, ⟨("_is_delta", none), "_is_delta", "_is_delta", defArgs s__is_delta, defBody s__is_delta, defScope s__is_delta⟩, ⟨("delta_fault", none), "delta_fault", "delta_fault", defArgs s_delta_fault, defBody s_delta_fault, defScope s_delta_fault⟩, ⟨("made", none), "made", "made", defArgs s_made, defBody s_made, defScope s_made⟩, ⟨("cost_of", none), "cost_of", "cost_of", defArgs s_cost_of, defBody s_cost_of, defScope s_cost_of⟩, ⟨("delta_prices_fault", none), "delta_prices_fault", "delta_prices_fault", defArgs s_delta_prices_fault, defBody s_delta_prices_fault, defScope s_delta_prices_fault⟩, ⟨("_law_price_fault", none), "_law_price_fault", "_law_price_fault", defArgs s__law_price_fault, defBody s__law_price_fault, defScope s__law_price_fault⟩, ⟨("_law_error", none), "_law_error", "_law_error", defArgs s__law_error, defBody s__law_error, defScope s__law_error⟩, ⟨("law", none), "law", "law", defArgs s_law, defBody s_law, defScope s_law⟩]
def fn : List He.FnD := fn_0
def loose_0 : List Str := ["PatchError", "TooMany", "BadOctets", "BadDelta", "is_whole", "GROUP", "is_row", "check_rows", "written", "COPY", "PUT", "MOST_OCTETS", "_is_piece", "_is_delta", "delta_fault", "made", "_copy_cost", "_put_cost", "cost_of", "_alike", "_pieces", "_check", "least_delta", "delta_prices_fault", "_law_draws", "_law_size", "_law_cost", "_law_is_row", "_law_fault", "_law_made"]
def loose_1 : List Str := ["_law_steps", "_law_prices", "_law_price_fault", "_law_error"]
def loose : List Str := loose_0 ++ loose_1
abbrev R_ : PySem.W.OpenRow := PySem.W.OpenLaw.row PySem.Challenge.rw_patchwright_k88_whole_least_deltas
abbrev hk : PySem.W.Hook := He.hookE 4 fa fn
def ob (s : PySem.W.SharedT) : He.Al := He.obsG 4 fa fn (HandSHeadRun.getT s)
theorem ob_eq (s : PySem.W.SharedT) : ob s = hk.obs s.abs := He.obsG_eq (HandSHeadRun.getT_eq s)
theorem run (w : World) : HandSHeadRun.RunEq R_ (PySem.W.view R_.prog [39]) hk ob 4000 loose w := by
  intro os
  kernel_rfl
theorem txt {K : PySem.W.Frag} {h : Heap} {mg : Str → Option Value} (X : K.In h) (G : h.Ns mainGlobals mg) (c : He.SaysE fa fn K) : Txt K mg :=
  ⟨(txt_fun c 0 0 rfl rfl fun _ _ _ _ _ _ us hl => match us, hl with | [_, _], _ => rfl),
   (He.glo_ok X G (c.fact 1 rfl)),
   (txt_fun c 1 2 rfl rfl fun _ _ _ _ _ _ us hl => match us, hl with | [_], _ => rfl),
   (He.glo_ok X G (c.fact 3 rfl)),
   (txt_fun c 2 4 rfl rfl fun _ _ _ _ _ _ us hl => match us, hl with | [_], _ => rfl),
   (He.glo_ok X G (c.fact 5 rfl)),
   (txt_fun c 3 6 rfl rfl fun _ _ _ _ _ _ us hl => match us, hl with | [_, _], _ => rfl),
   (He.glo_ok X G (c.fact 7 rfl)),
   (txt_fun c 4 8 rfl rfl fun _ _ _ _ _ _ us hl => match us, hl with | [_], _ => rfl),
   (He.glo_ok X G (c.fact 9 rfl)),
   (txt_fun c 5 10 rfl rfl fun _ _ _ _ _ _ us hl => match us, hl with | [_], _ => rfl),
   (He.glo_ok X G (c.fact 11 rfl)),
   (txt_fun c 6 12 rfl rfl fun _ _ _ _ _ _ us hl => match us, hl with | [_], _ => rfl),
   (He.glo_ok X G (c.fact 13 rfl)),
   (txt_fun c 7 14 rfl rfl fun _ _ _ _ _ _ us hl => match us, hl with | [_], _ => rfl),
   (He.glo_ok X G (c.fact 15 rfl)),
   (txt_fun c 8 16 rfl rfl fun _ _ _ _ _ _ us hl => match us, hl with | [_, _], _ => rfl),
   (He.glo_ok X G (c.fact 17 rfl)),
   (txt_fun c 9 18 rfl rfl fun _ _ _ _ _ _ us hl => match us, hl with | [_, _], _ => rfl),
   (He.glo_ok X G (c.fact 19 rfl)),
   (txt_fun c 10 20 rfl rfl fun _ _ _ _ _ _ us hl => match us, hl with | [_], _ => rfl),
   (He.glo_ok X G (c.fact 21 rfl)),
   (txt_fun c 11 22 rfl rfl fun _ _ _ _ _ _ us hl => match us, hl with | [_], _ => rfl),
   (He.glo_ok X G (c.fact 23 rfl)),
   (txt_fun c 12 24 rfl rfl fun _ _ _ _ _ _ us hl => match us, hl with | [_, _], _ => rfl),
   (He.glo_ok X G (c.fact 25 rfl)),
   (txt_fun c 13 26 rfl rfl fun _ _ _ _ _ _ us hl => match us, hl with | [_, _, _, _], _ => rfl),
   (He.glo_ok X G (c.fact 27 rfl)),
   (txt_fun c 14 28 rfl rfl fun _ _ _ _ _ _ us hl => match us, hl with | [_, _], _ => rfl),
   (He.glo_ok X G (c.fact 29 rfl)),
   (txt_fun c 15 30 rfl rfl fun _ _ _ _ _ _ us hl => match us, hl with | [_], _ => rfl),
   (He.glo_ok X G (c.fact 31 rfl)),
   (txt_fun c 16 32 rfl rfl fun _ _ _ _ _ _ us hl => match us, hl with | [_, _], _ => rfl),
   (He.glo_ok X G (c.fact 33 rfl)),
   (txt_fun c 17 34 rfl rfl fun _ _ _ _ _ _ us hl => match us, hl with | [_, _], _ => rfl),
   (He.glo_ok X G (c.fact 35 rfl)),
   (txt_fun c 18 36 rfl rfl fun _ _ _ _ _ _ us hl => match us, hl with | [_], _ => rfl),
   (He.glo_ok X G (c.fact 37 rfl)),
   (txt_fun c 19 38 rfl rfl fun _ _ _ _ _ _ us hl => match us, hl with | [_], _ => rfl),
   (He.glo_ok X G (c.fact 39 rfl)),
   (txt_fun c 20 40 rfl rfl fun _ _ _ _ _ _ us hl => match us, hl with | [_, _], _ => rfl),
   (He.glo_ok X G (c.fact 41 rfl)),
   (txt_fun c 21 42 rfl rfl fun _ _ _ _ _ _ us hl => match us, hl with | [_, _], _ => rfl),
   (He.glo_ok X G (c.fact 43 rfl)),
   (txt_fun c 22 44 rfl rfl fun _ _ _ _ _ _ us hl => match us, hl with | [_], _ => rfl),
   (He.glo_ok X G (c.fact 45 rfl)),
   (txt_fun c 23 46 rfl rfl fun _ _ _ _ _ _ us hl => match us, hl with | [_, _, _], _ => rfl),
   (He.glo_ok X G (c.fact 47 rfl)),
   (txt_fun c 24 48 rfl rfl fun _ _ _ _ _ _ us hl => match us, hl with | [_, _], _ => rfl),
   (He.glo_ok X G (c.fact 49 rfl)),
   (txt_fun c 25 50 rfl rfl fun _ _ _ _ _ _ us hl => match us, hl with | [_, _, _, _], _ => rfl),
   (He.glo_ok X G (c.fact 51 rfl)),
   (txt_fun c 26 52 rfl rfl fun _ _ _ _ _ _ us hl => match us, hl with | [_], _ => rfl),
   (He.glo_ok X G (c.fact 53 rfl)),
   (He.free_ok X G (c.fact 54 rfl)),
   (He.free_ok X G (c.fact 55 rfl)),
   (He.free_ok X G (c.fact 56 rfl)),
   (He.free_ok X G (c.fact 57 rfl)),
   (He.free_ok X G (c.fact 58 rfl)),
   (He.free_ok X G (c.fact 59 rfl)),
   (He.free_ok X G (c.fact 60 rfl)),
   (He.free_ok X G (c.fact 61 rfl)),
   (He.free_ok X G (c.fact 62 rfl)),
   (He.free_ok X G (c.fact 63 rfl)),
   (He.free_ok X G (c.fact 64 rfl)),
   (He.free_ok X G (c.fact 65 rfl)),
   (He.free_ok X G (c.fact 66 rfl)),
   (He.free_ok X G (c.fact 67 rfl)),
   (He.free_ok X G (c.fact 68 rfl)),
   (He.int_ok X G (c.fact 69 rfl)),
   (He.int_ok X G (c.fact 70 rfl)),
   (He.str_ok X G (c.fact 71 rfl)),
   (He.str_ok X G (c.fact 72 rfl)),
   (txt_exc X G c 73 74 rfl rfl),
   (txt_exc X G c 75 76 rfl rfl),
   (txt_exc X G c 77 78 rfl rfl),
   (He.exm_ok (c.fact 79 rfl)),
   (He.exm_ok (c.fact 80 rfl)),
   (He.exm_ok (c.fact 81 rfl)),
   (He.exm_ok (c.fact 82 rfl)),
   (He.exm_ok (c.fact 83 rfl)),
   (He.exm_ok (c.fact 84 rfl)),
   (He.exm_ok (c.fact 85 rfl)),
   (He.exm_ok (c.fact 86 rfl)),
   (He.exm_ok (c.fact 87 rfl))⟩
theorem top (pure : ∀ ns : List Int, ns.length ≤ 63 → C_law [.lst (ns.map .int)] = .ok (.bl true)) : PySem.Challenge.rw_patchwright_k88_whole_least_deltas.Holds := by
  w_on; o_law
  refine HandSHeadRun.head_any (r := PySem.W.OpenLaw.row PySem.Challenge.rw_patchwright_k88_whole_least_deltas) (q := PySem.W.view (PySem.W.OpenLaw.row PySem.Challenge.rw_patchwright_k88_whole_least_deltas).prog [39]) (H := hk) (ob := ob) (M := 4000) (loose := loose) (d := HandSHeadRun.topDef (PySem.W.OpenLaw.row PySem.Challenge.rw_patchwright_k88_whole_least_deltas).prog 39) (kwd := []) ob_eq
    (by kernel_rfl) (fun s => by kernel_rfl) run (by kernel_rfl) (by kernel_rfl) (by kernel_rfl) (by rfl) (by first | assumption | decide +kernel) (by decide +kernel) ⟨rfl, rfl, rfl, rfl, rfl, by decide +kernel⟩ ?hw ?hc
  case hw => w_witness2
  case hc =>
    refine walk_px (l := PySem.Challenge.rw_patchwright_k88_whole_least_deltas) (n := 63) (k := 8) (x := "script") rfl (by decide) (by kernel_rfl) ⟨rfl, by decide, by decide⟩ ?F
    intro w mg fa h Y G hmg0
    obtain ⟨K, KX, c⟩ := Y
    have T := txt KX G c
    have hmg : mg ("law" : PySem.Str) = some (.ref fa) := by
      have e : (HandSHeadRun.topDef (PySem.W.OpenLaw.row PySem.Challenge.rw_patchwright_k88_whole_least_deltas).prog 39).name = ("law" : PySem.Str) := by kernel_rfl
      rw [← e]
      exact hmg0
    have e := hmg.symm.trans T.g_law
    cases e
    obtain ⟨fd, Fl, b, kp⟩ := ok_law (P := (PySem.Challenge.rw_patchwright_k88_whole_least_deltas).prog) (w := w) T
    exact ⟨K, fd, Spec K mg 1 0 C_law, KX, fun s v => b s [v] rfl, fun H a ns hl _ _ hS => spec_law (pure ns hl) (Nat.le_trans hl (by decide)) hS, fun base _ _ => Fl base⟩
end K
namespace K
open PySem PySem.Spec PyProof.Rows L2 Px
/-! ### the law's draws -/
theorem dr_inner (sc : D) (many seed : Int) (cell : D) (ds : List Int) (num : Int) (k : D) (hl : ds.length < 16777216) (hd : ∀ d ∈ ds, 0 ≤ d ∧ d < 65521) :
    ∃ (ds' : List Int) (num' : Int), B__law_draws_2 [some sc, some (.int many), some (.lst (ds.map .int)), some (.int seed), some cell, some (.int num), some k] = .next [some sc, some (.int many), some (.lst (ds'.map .int)), some (.int seed), some cell, some (.int num'), none] ∧ ds'.length ≤ ds.length + 1 ∧ ∀ d ∈ ds', 0 ≤ d ∧ d < 65521 := by
  unfold B__law_draws_2
  by_cases h : 0 < num
  · refine ⟨ds ++ [num % 1009], num / 1009, ?_, by simp, ?_⟩
    · simp [h, sAppend, sl_eq, hl]
    · intro d hm
      rcases List.mem_append.mp hm with hm | hm
      · exact hd d hm
      · simp at hm
        omega
  · exact ⟨ds, num, by simp [h], by omega, hd⟩
theorem dr_outer (sc : D) (many seed : Int) (c : Int) (a b k : Option D) (ds : List Int) (hl : ds.length + 60 < 16777216) (hd : ∀ d ∈ ds, 0 ≤ d ∧ d < 65521) :
    ∃ (ds' : List Int) (seed' : Int), B__law_draws_1 [some sc, some (.int many), some (.lst (ds.map .int)), some (.int seed), some (.int c), a, b] = .next [some sc, some (.int many), some (.lst (ds'.map .int)), some (.int seed'), none, none, none] ∧ ds'.length ≤ ds.length + 60 ∧ ∀ d ∈ ds', 0 ≤ d ∧ d < 65521 := by
  unfold B__law_draws_1
  generalize hn : (if c < 0 then -c else c) = num
  by_cases h : 10 ^ 18 ≤ num
  · obtain ⟨ρ', e, p⟩ := for_inv (gf := gfName 6) (F := B__law_draws_2) (ds := (List.range 60).map fun i => .int (i : Nat)) (n := 0)
      (ρ := [some sc, some (.int many), some (.lst (ds.map .int)), some (.int ((seed * 48271 + num + 11) % 2147483647)), some (.int c), some (.int num), b])
      (P := fun m ρ => ∃ (ds' : List Int) (num' : Int) (k : Option D), ρ = [some sc, some (.int many), some (.lst (ds'.map .int)), some (.int ((seed * 48271 + num + 11) % 2147483647)), some (.int c), some (.int num'), k] ∧ ds'.length ≤ ds.length + m ∧ ∀ d ∈ ds', 0 ≤ d ∧ d < 65521)
      ⟨ds, num, b, rfl, by omega, hd⟩ (fun i d hi ρ hp => by
        obtain ⟨ds1, num1, k1, rfl, hl1, hd1⟩ := hp
        have hi2 : i < 60 := by
          have := (List.getElem?_eq_some_iff.mp hi).1
          simpa using this
        obtain ⟨ds2, num2, e2, hl2, hd2⟩ := dr_inner sc many ((seed * 48271 + num + 11) % 2147483647) (.int c) ds1 num1 d (by omega) hd1
        exact ⟨_, _, rfl, .inl e2, ds2, num2, none, rfl, by omega, hd2⟩)
    obtain ⟨ds', num', k', rfl, hl', hd'⟩ := p
    refine ⟨ds', (seed * 48271 + num + 11) % 2147483647, ?_, by simpa using hl', hd'⟩
    have hm : mulOk seed 48271 = true := mulOk_r _ _ (by decide)
    have e0 := dRng1_nat 60 (by omega)
    have e0 : dRng1 [.int 60] = .ok ((List.range 60).map fun i => .int (i : Nat)) := e0
    have h' : (1000000000000000000 : Int) ≤ num := h
    simp [hn, hm, h', x_sFor, e0, e]
  · refine ⟨ds ++ [((seed * 48271 + num + 11) % 2147483647 * 16807 + 5) / 3 % 65521], (seed * 48271 + num + 11) % 2147483647, ?_, by simp, ?_⟩
    · have hm : mulOk seed 48271 = true := mulOk_r _ _ (by decide)
      have hm2 : mulOk ((seed * 48271 + num + 11) % 2147483647) 16807 = true := mulOk_r _ _ (by decide)
      have h' : ¬ (1000000000000000000 : Int) ≤ num := h
      simp [hn, hm, hm2, h', sAppend, sl_eq, show ds.length < 16777216 by omega]
    · intro d hm
      rcases List.mem_append.mp hm with hm | hm
      · exact hd d hm
      · simp at hm
        omega
theorem dr_more (sc : D) (many : Nat) (seed : Int) (j : Nat) (ds : List Int) (hl : ds.length < 16777216) (hd : ∀ d ∈ ds, 0 ≤ d ∧ d < 65521) :
    ∃ (ds' : List Int) (seed' : Int), B__law_draws_3 [some sc, some (.int many), some (.lst (ds.map .int)), some (.int seed), none, none, some (.int (j : Nat))] = .next [some sc, some (.int many), some (.lst (ds'.map .int)), some (.int seed'), none, none, none] ∧ (∀ d ∈ ds', 0 ≤ d ∧ d < 65521) ∧
      (many ≤ ds.length → ds'.length = ds.length) ∧ (ds.length < many → ds'.length = ds.length + 1) := by
  unfold B__law_draws_3
  by_cases h : ds.length < many
  · have hm : mulOk seed 69621 = true := mulOk_r _ _ (by decide)
    refine ⟨ds ++ [(seed * 69621 + j + 1) % 2147483647 / 7 % 65521], (seed * 69621 + j + 1) % 2147483647, ?_, ?_, by omega, by simp⟩
    · simp [h, hm, sAppend, sl_eq, hl]
    · intro d hm
      rcases List.mem_append.mp hm with hm | hm
      · exact hd d hm
      · simp at hm
        omega
  · exact ⟨ds, seed, by simp [h], hd, fun _ => rfl, fun z => absurd z h⟩
theorem draws_ok (ns : List Int) (hn : ns.length ≤ 63) (many : Nat) (hm : many ≤ 1000) : ∃ ds : List Int, ds.length = many ∧ (∀ d ∈ ds, 0 ≤ d ∧ d < 65521) ∧ C__law_draws [.lst (ns.map .int), .int many] = .ok (.lst (ds.map .int)) := by
  obtain ⟨ρ1, e1, ds1, seed1, a1, b1, k1, rfl, hl1, hd1⟩ := for_inv (gf := gfName 4) (F := B__law_draws_1) (ds := (ns.map D.int).take 63) (n := 0)
      (ρ := [some (.lst (ns.map .int)), some (.int many), some (.lst []), some (.int 7), none, none, none])
      (P := fun m ρ => ∃ (ds' : List Int) (seed : Int) (a b c : Option D), ρ = [some (.lst (ns.map .int)), some (.int many), some (.lst (ds'.map .int)), some (.int seed), a, b, c] ∧ ds'.length ≤ 60 * m ∧ ∀ d ∈ ds', 0 ≤ d ∧ d < 65521)
      ⟨[], 7, none, none, none, rfl, by simp, by simp⟩ (fun i d hi ρ hp => by
        obtain ⟨ds1, seed, a, b, c, rfl, hl1, hd1⟩ := hp
        have hi2 := (List.getElem?_eq_some_iff.mp hi).1
        have hmem := List.mem_of_getElem? hi
        obtain ⟨z, hz, rfl⟩ := List.mem_map.mp (List.mem_of_mem_take hmem)
        simp at hi2
        obtain ⟨ds2, seed2, e2, hl2, hd2⟩ := dr_outer (.lst (ns.map .int)) many seed z b c none ds1 (by omega) hd1
        exact ⟨_, _, rfl, .inl e2, ds2, seed2, none, none, none, rfl, by omega, hd2⟩)
  have hl1' : ds1.length ≤ 60 * 63 := by
    simp at hl1
    omega
  obtain ⟨ρ2, e2, ds2, seed2, c2, rfl, hd2, hl2, hg2⟩ := for_inv (gf := gfName 6) (F := B__law_draws_3) (ds := (List.range many).map fun i => .int (i : Nat)) (n := 0)
      (ρ := [some (.lst (ns.map .int)), some (.int many), some (.lst (ds1.map .int)), some (.int seed1), none, none, none])
      (P := fun m ρ => ∃ (ds' : List Int) (seed : Int) (c : Option D), ρ = [some (.lst (ns.map .int)), some (.int many), some (.lst (ds'.map .int)), some (.int seed), none, none, c] ∧ (∀ d ∈ ds', 0 ≤ d ∧ d < 65521) ∧ ds'.length ≤ 60 * 63 + m ∧ (m ≤ ds'.length ∨ many ≤ ds'.length))
      ⟨ds1, seed1, none, rfl, hd1, by omega, .inl (by omega)⟩ (fun i d hi ρ hp => by
        obtain ⟨ds3, seed3, c3, rfl, hd3, hl3, hg3⟩ := hp
        have hi2 := (List.getElem?_eq_some_iff.mp hi).1
        simp at hi2
        have hd : d = .int (i : Nat) := by
          rw [List.getElem?_map, List.getElem?_range hi2] at hi
          exact (Option.some.inj hi).symm
        subst hd
        obtain ⟨ds4, seed4, e4, hd4, n4, y4⟩ := dr_more (.lst (ns.map .int)) many seed3 i ds3 (by omega) hd3
        refine ⟨_, _, rfl, .inl e4, ds4, seed4, none, rfl, hd4, ?_, ?_⟩
        · by_cases q : ds3.length < many
          · rw [y4 q]; omega
          · rw [n4 (by omega)]; omega
        · by_cases q : ds3.length < many
          · rw [y4 q]; omega
          · rw [n4 (by omega)]; omega)
  simp only [List.length_map, List.length_range, Nat.zero_add] at hl2 hg2
  refine ⟨ds2.take many, by simp; omega, fun d h => hd2 d (List.mem_of_mem_take h), ?_⟩
  have e0 := dRng1_nat many (by omega)
  have ec : cut (ns.map D.int) none (some 63) = (ns.map D.int).take 63 := cut_hi _ 63
  simp [C__law_draws, fnE, startE, F__law_draws, x_sFor, ec, e1, e0, e2, cut_hi]
/-- the draws as numbers from nought on -/
theorem drawsN (ns : List Int) (hn : ns.length ≤ 63) (many : Nat) (hm : many ≤ 1000) : ∃ ds : List Nat, ds.length = many ∧ (∀ d ∈ ds, d < 65521) ∧ C__law_draws [.lst (ns.map .int), .int many] = .ok (.lst (ds.map dN)) := by
  obtain ⟨ds, h1, h2, e⟩ := draws_ok ns hn many hm
  refine ⟨ds.map Int.toNat, by rw [List.length_map]; exact h1, fun d h => ?_, ?_⟩
  · obtain ⟨z, hz, rfl⟩ := List.mem_map.mp h
    have := h2 z hz
    omega
  · rw [e, List.map_map]
    congr 2
    refine List.map_congr_left fun z hz => ?_
    have := h2 z hz
    show D.int z = D.int ((z.toNat : Nat) : Int)
    rw [Int.toNat_of_nonneg this.1]
/-! ### numbers as rows -/
abbrev rowD (l : List Nat) : D := .tup (l.map dN)
def encI (n : Nat) : List Nat := if h : n < 128 then [] else (n % 128 + 128) :: encI (n / 128)
termination_by n
decreasing_by omega
def encL (n : Nat) : Nat := if h : n < 128 then n else encL (n / 128)
termination_by n
decreasing_by omega
def enc (n : Nat) : List Nat := encI n ++ [encL n]
theorem encI_lt {n : Nat} (h : n < 128) : encI n = [] := by rw [encI, dif_pos h]
theorem encI_ge {n : Nat} (h : ¬ n < 128) : encI n = (n % 128 + 128) :: encI (n / 128) := by rw [encI, dif_neg h]
theorem encL_lt {n : Nat} (h : n < 128) : encL n = n := by rw [encL, dif_pos h]
theorem encL_ge {n : Nat} (h : ¬ n < 128) : encL n = encL (n / 128) := by rw [encL, dif_neg h]
theorem enc_lt {n : Nat} (h : n < 128) : enc n = [n] := by rw [enc, encI_lt h, encL_lt h]; rfl
theorem enc_ge {n : Nat} (h : ¬ n < 128) : enc n = (n % 128 + 128) :: enc (n / 128) := by rw [enc, encI_ge h, encL_ge h]; rfl
theorem enc_len : ∀ (k n : Nat), n < 128 ^ (k + 1) → (enc n).length ≤ k + 1
  | 0, n, h => by rw [enc_lt (by simpa using h)]; simp
  | k + 1, n, h => by
    by_cases hn : n < 128
    · rw [enc_lt hn]; simp
    · rw [enc_ge hn, List.length_cons]
      have h2 : n / 128 < 128 ^ (k + 1) := by
        rw [Nat.pow_succ] at h
        exact Nat.div_lt_of_lt_mul (by rw [Nat.mul_comm]; exact h)
      have := enc_len k (n / 128) h2
      omega
theorem enc_pos (n : Nat) : 0 < (enc n).length := by rw [enc, List.length_append]; simp
theorem enc_oct : ∀ (n : Nat), ∀ x ∈ enc n, x < 256 := fun n => by
  induction n using Nat.strongRecOn with
  | _ n ih =>
    intro x hx
    by_cases h : n < 128
    · rw [enc_lt h] at hx
      rw [List.mem_singleton.mp hx]
      omega
    · rw [enc_ge h] at hx
      rcases List.mem_cons.mp hx with rfl | hx
      · omega
      · exact ih _ (by omega) x hx
theorem row_snoc (l : List Nat) (x : Nat) : l.map dN ++ [dN x] = (l ++ [x]).map dN := by simp
theorem int_step (n : Nat) : ((n : Int) % 128 + 128) = ((n % 128 + 128 : Nat) : Int) := by omega
theorem wn_step (n : Nat) (pre : List Nat) (hl : pre.length < 16777216) : B_written_1 [some (dN n), some (.lst (pre.map dN))] = .next [some (dN (n / 128)), some (.lst ((pre ++ [n % 128 + 128]).map dN))] := by
  simp [B_written_1, sl_eq, hl, sAppend]
theorem wn_loop : ∀ (k n : Nat) (pre : List Nat) (fuel : Nat), n < 128 ^ (k + 1) → k < fuel → pre.length + k < 1000 →
    whileE (eUn asB (eOp (dCmpI iGe) (eVar 0) (eC (.int 128)))) B_written_1 fuel [some (dN n), some (.lst (pre.map dN))] = .next [some (dN (encL n)), some (.lst ((pre ++ encI n).map dN))]
  | k, n, pre, 0, h, hf, hp => by omega
  | k, n, pre, fuel + 1, h, hf, hp => by
    by_cases hn : n < 128
    · have h2 : ¬ ((128 : Int) ≤ n) := by omega
      simp [whileE_succ, h2, encL_lt hn, encI_lt hn]
    · have h2 : ((128 : Int) ≤ n) := by omega
      cases k with
      | zero => simp at h; omega
      | succ k =>
        have h3 : n / 128 < 128 ^ (k + 1) := by
          rw [Nat.pow_succ] at h
          exact Nat.div_lt_of_lt_mul (by rw [Nat.mul_comm]; exact h)
        have ih := wn_loop k (n / 128) (pre ++ [n % 128 + 128]) fuel h3 (by omega) (by simp; omega)
        rw [encL_ge hn, encI_ge hn]
        rw [List.append_assoc] at ih
        rw [whileE_succ]
        simp [h2, wn_step n pre (by omega), -List.map_append]
        exact ih
theorem wnum (n k : Nat) (h : n < 128 ^ (k + 1)) (hk : k < 900) : C_written [dN n] = .ok (rowD (enc n)) := by
  have e : whileE (eUn asB (eOp (dCmpI iGe) (eVar 0) (eC (.int 128)))) B_written_1 100000 [some (dN n), some (.lst [])] = .next [some (dN (encL n)), some (.lst ((encI n).map dN))] := wn_loop k n [] 100000 h (by omega) (by simp; omega)
  have hl := enc_len k n h
  rw [enc, List.length_append] at hl
  have hl2 : (encI n).length + 1 ≤ 16777216 := by simp at hl; omega
  simp [C_written, fnE, startE, F_written, e, enc, sl_eq, hl2]
/-! ### pieces, prices -/
theorem enc_mono : ∀ (b a : Nat), a ≤ b → (enc a).length ≤ (enc b).length := fun b => by
  induction b using Nat.strongRecOn with
  | _ b ih =>
    intro a h
    by_cases ha : a < 128
    · rw [enc_lt ha]
      exact enc_pos b
    · have hb : ¬ b < 128 := by omega
      rw [enc_ge ha, enc_ge hb, List.length_cons, List.length_cons]
      have := ih (b / 128) (by omega) (a / 128) (by omega)
      omega
def lcp : List Nat → List Nat → Nat
  | x :: xs, y :: ys => if x = y then lcp xs ys + 1 else 0
  | _, _ => 0
theorem lcp_nil (xs : List Nat) : lcp xs [] = 0 := by cases xs <;> rfl
theorem lcp_le : ∀ (xs ys : List Nat), lcp xs ys ≤ xs.length ∧ lcp xs ys ≤ ys.length
  | [], ys => ⟨Nat.le_refl 0, Nat.zero_le _⟩
  | x :: xs, [] => ⟨Nat.zero_le _, Nat.zero_le _⟩
  | x :: xs, y :: ys => by
    have ih := lcp_le xs ys
    rw [lcp]
    split
    · simp; omega
    · simp
theorem lcp_take : ∀ (xs ys : List Nat) (m : Nat), m ≤ lcp xs ys → xs.take m = ys.take m
  | xs, ys, 0, _ => by simp
  | [], ys, m + 1, h => by simp [lcp] at h
  | x :: xs, [], m + 1, h => by simp [lcp] at h
  | x :: xs, y :: ys, m + 1, h => by
    rw [lcp] at h
    split at h
    · rename_i e
      rw [List.take_succ_cons, List.take_succ_cons, e, lcp_take xs ys m (by omega)]
    · omega
theorem lcp_max : ∀ (xs ys : List Nat) (m : Nat), xs.take m = ys.take m → m ≤ xs.length → m ≤ ys.length → m ≤ lcp xs ys
  | xs, ys, 0, _, _, _ => Nat.zero_le _
  | [], ys, m + 1, _, h, _ => by simp at h
  | x :: xs, [], m + 1, _, _, h => by simp at h
  | x :: xs, y :: ys, m + 1, e, h1, h2 => by
    rw [List.take_succ_cons, List.take_succ_cons] at e
    injection e with e1 e2
    rw [lcp, if_pos e1]
    have := lcp_max xs ys m e2 (by simpa using h1) (by simpa using h2)
    omega
inductive Pc where
  | cp (a n : Nat)
  | pt (o : List Nat)
def cCp (a n : Nat) : Nat := 1 + (enc a).length + (enc n).length
def cPt (n : Nat) : Nat := 1 + (enc n).length + n
def Pc.cost : Pc → Nat
  | .cp a n => cCp a n
  | .pt o => cPt o.length
def Pc.mk (base : List Nat) : Pc → List Nat
  | .cp a n => (base.drop a).take n
  | .pt o => o
def Pc.ok : Pc → Bool
  | .cp _ n => decide (0 < n)
  | .pt o => decide (0 < o.length) && o.all (fun x => decide (x < 256))
def Pc.inn (m : Nat) : Pc → Bool
  | .cp a n => decide (a + n ≤ m)
  | .pt _ => true
abbrev En := Nat × Nat × Pc
def PL (base goal : List Nat) (p : Nat) : List En :=
  ((List.range (goal.length - p)).map fun i => (cPt (i + 1), p + (i + 1), Pc.pt ((goal.drop p).take (i + 1)))) ++
  (List.range base.length).flatMap fun a => (List.range (lcp (base.drop a) (goal.drop p))).map fun i => (cCp a (i + 1), p + (i + 1), Pc.cp a (i + 1))
structure EnOk (base goal : List Nat) (p m : Nat) (x : En) : Prop where
  pos : 0 < m
  le : p + m ≤ goal.length
  at_ : x.2.1 = p + m
  cost : x.1 = x.2.2.cost
  mk_ : x.2.2.mk base = (goal.drop p).take m
  ok : x.2.2.ok = true
  inn : x.2.2.inn base.length = true
theorem PL_ok {base goal : List Nat} {p : Nat} (ho : ∀ x ∈ goal, x < 256) {x : En} (h : x ∈ PL base goal p) : ∃ m, EnOk base goal p m x := by
  unfold PL at h
  rcases List.mem_append.mp h with h | h
  · obtain ⟨i, hi, rfl⟩ := List.mem_map.mp h
    rw [List.mem_range] at hi
    have hl : ((goal.drop p).take (i + 1)).length = i + 1 := by rw [List.length_take, List.length_drop]; omega
    refine ⟨i + 1, by omega, by omega, rfl, ?_, rfl, ?_, rfl⟩
    · show cPt (i + 1) = cPt _
      rw [hl]
    · show (decide _ && _) = true
      rw [hl, Bool.and_eq_true]
      exact ⟨decide_eq_true (by omega), List.all_eq_true.mpr fun x hx => decide_eq_true (ho x (List.mem_of_mem_drop (List.mem_of_mem_take hx)))⟩
  · obtain ⟨a, ha, h⟩ := List.mem_flatMap.mp h
    obtain ⟨i, hi, rfl⟩ := List.mem_map.mp h
    rw [List.mem_range] at hi ha
    have h2 := lcp_le (base.drop a) (goal.drop p)
    rw [List.length_drop, List.length_drop] at h2
    refine ⟨i + 1, by omega, by omega, rfl, rfl, lcp_take _ _ _ (by omega), ?_, ?_⟩
    · show decide (0 < i + 1) = true
      exact decide_eq_true (by omega)
    · show decide (a + (i + 1) ≤ base.length) = true
      exact decide_eq_true (by omega)
theorem PL_pt {base goal : List Nat} {p m : Nat} (h0 : 0 < m) (h : p + m ≤ goal.length) : (cPt m, p + m, Pc.pt ((goal.drop p).take m)) ∈ PL base goal p := by
  refine List.mem_append_left _ (List.mem_map.mpr ⟨m - 1, List.mem_range.mpr (by omega), ?_⟩)
  rw [show m - 1 + 1 = m by omega]
theorem PL_cp {base goal : List Nat} {p a m : Nat} (h0 : 0 < m) (ha : a + m ≤ base.length) (h : p + m ≤ goal.length) (e : (base.drop a).take m = (goal.drop p).take m) : (cCp a m, p + m, Pc.cp a m) ∈ PL base goal p := by
  refine List.mem_append_right _ (List.mem_flatMap.mpr ⟨a, List.mem_range.mpr (by omega), List.mem_map.mpr ⟨m - 1, List.mem_range.mpr ?_, ?_⟩⟩)
  · have := lcp_max _ _ m e (by rw [List.length_drop]; omega) (by rw [List.length_drop]; omega)
    omega
  · rw [show m - 1 + 1 = m by omega]
/-! the law's own steps -/
def cps (base goal : List Nat) (p m : Nat) : List Nat := (List.range base.length).filter fun a => decide ((base.drop a).take m = (goal.drop p).take m)
def SLe (base goal : List Nat) (p m : Nat) : List (Nat × Nat) := (cPt m, p + m) :: match cps base goal p m with
  | [] => []
  | a :: _ => [(cCp a m, p + m)]
def SL (base goal : List Nat) (p : Nat) : List (Nat × Nat) := (List.range (goal.length - p)).flatMap fun i => SLe base goal p (i + 1)
theorem rel1 {base goal : List Nat} {p : Nat} {x : En} (h : x ∈ PL base goal p) : ∃ y ∈ SL base goal p, y.2 = x.2.1 ∧ y.1 ≤ x.1 := by
  unfold PL at h
  rcases List.mem_append.mp h with h | h
  · obtain ⟨i, hi, rfl⟩ := List.mem_map.mp h
    exact ⟨_, List.mem_flatMap.mpr ⟨i, hi, List.mem_cons_self⟩, rfl, Nat.le_refl _⟩
  · obtain ⟨a, ha, h⟩ := List.mem_flatMap.mp h
    obtain ⟨i, hi, rfl⟩ := List.mem_map.mp h
    rw [List.mem_range] at hi
    have h2 := lcp_le (base.drop a) (goal.drop p)
    rw [List.length_drop, List.length_drop] at h2
    have hm : a ∈ cps base goal p (i + 1) := List.mem_filter.mpr ⟨ha, decide_eq_true (lcp_take _ _ _ (by omega))⟩
    have hp : (cps base goal p (i + 1)).Pairwise (· < ·) := List.Pairwise.filter _ List.pairwise_lt_range
    cases hc : cps base goal p (i + 1) with
    | nil => rw [hc] at hm; cases hm
    | cons a0 as =>
      rw [hc] at hm hp
      have hle : a0 ≤ a := by
        rcases List.mem_cons.mp hm with rfl | hm
        · exact Nat.le_refl _
        · exact Nat.le_of_lt ((List.pairwise_cons.mp hp).1 a hm)
      refine ⟨(cCp a0 (i + 1), p + (i + 1)), List.mem_flatMap.mpr ⟨i, List.mem_range.mpr (by omega), ?_⟩, rfl, ?_⟩
      · unfold SLe
        rw [hc]
        exact List.mem_cons_of_mem _ (List.mem_singleton_self _)
      · have := enc_mono a a0 hle
        show cCp a0 (i + 1) ≤ cCp a (i + 1)
        unfold cCp
        omega
theorem rel2 {base goal : List Nat} {p : Nat} {y : Nat × Nat} (h : y ∈ SL base goal p) : ∃ x ∈ PL base goal p, x.1 = y.1 ∧ x.2.1 = y.2 := by
  obtain ⟨i, hi, h⟩ := List.mem_flatMap.mp h
  rw [List.mem_range] at hi
  unfold SLe at h
  rcases List.mem_cons.mp h with rfl | h
  · exact ⟨_, PL_pt (base := base) (m := i + 1) (by omega) (by omega), rfl, rfl⟩
  · cases hc : cps base goal p (i + 1) with
    | nil => rw [hc] at h; cases h
    | cons a0 as =>
      rw [hc] at h
      rw [List.mem_singleton.mp h]
      have hm : a0 ∈ cps base goal p (i + 1) := by rw [hc]; exact List.mem_cons_self
      obtain ⟨ha, e⟩ := List.mem_filter.mp hm
      have e := of_decide_eq_true e
      rw [List.mem_range] at ha
      have hl := congrArg List.length e
      rw [List.length_take, List.length_take, List.length_drop, List.length_drop] at hl
      exact ⟨_, PL_cp (m := i + 1) (by omega) (by omega) (by omega) e, rfl, rfl⟩
/-! the least price from a place on -/
def upE (tl : List Nat) (p : Nat) (x : En) : Nat := x.1 + tl.getD (x.2.1 - (p + 1)) 0
def bstep (tl : List Nat) (p : Nat) (cur : Option En) (x : En) : Option En := match cur with
  | none => some (upE tl p x, x.2)
  | some c => if upE tl p x < c.1 then some (upE tl p x, x.2) else some c
def bst (tl : List Nat) (p : Nat) (xs : List En) : Option En := xs.foldl (bstep tl p) none
theorem bst_some (tl : List Nat) (p : Nat) : ∀ (xs : List En) (c : En) (pre : List En), (∃ y ∈ pre, y.2 = c.2 ∧ c.1 = upE tl p y) → (∀ z ∈ pre, c.1 ≤ upE tl p z) → ∃ d, xs.foldl (bstep tl p) (some c) = some d ∧ (∃ y ∈ pre ++ xs, y.2 = d.2 ∧ d.1 = upE tl p y) ∧ ∀ z ∈ pre ++ xs, d.1 ≤ upE tl p z
  | [], c, pre, h1, h2 => ⟨c, rfl, by rw [List.append_nil]; exact h1, by rw [List.append_nil]; exact h2⟩
  | x :: xs, c, pre, h1, h2 => by
    rw [List.foldl_cons, show pre ++ x :: xs = (pre ++ [x]) ++ xs by simp]
    obtain ⟨y, hy, e1, e2⟩ := h1
    by_cases h : upE tl p x < c.1
    · have e : bstep tl p (some c) x = some (upE tl p x, x.2) := if_pos h
      rw [e]
      refine bst_some tl p xs _ (pre ++ [x]) ⟨x, by simp, rfl, rfl⟩ fun z hz => ?_
      rcases List.mem_append.mp hz with hz | hz
      · have := h2 z hz
        show upE tl p x ≤ _
        omega
      · rw [List.mem_singleton.mp hz]
        exact Nat.le_refl _
    · have e : bstep tl p (some c) x = some c := if_neg h
      rw [e]
      refine bst_some tl p xs _ (pre ++ [x]) ⟨y, List.mem_append_left _ hy, e1, e2⟩ fun z hz => ?_
      rcases List.mem_append.mp hz with hz | hz
      · exact h2 z hz
      · rw [List.mem_singleton.mp hz]
        omega
theorem bst_ok (tl : List Nat) (p : Nat) {xs : List En} (h : xs ≠ []) : ∃ d, bst tl p xs = some d ∧ (∃ y ∈ xs, y.2 = d.2 ∧ d.1 = upE tl p y) ∧ ∀ z ∈ xs, d.1 ≤ upE tl p z := by
  cases xs with
  | nil => exact absurd rfl h
  | cons x xs =>
    obtain ⟨d, e, a, b⟩ := bst_some tl p xs (upE tl p x, x.2) [x] ⟨x, List.mem_singleton_self _, rfl, rfl⟩ fun z hz => by rw [List.mem_singleton.mp hz]; exact Nat.le_refl _
    exact ⟨d, e, a, b⟩
def TT (base goal : List Nat) : Nat → List Nat × List (Nat × Pc)
  | 0 => ([0], [])
  | k + 1 => match bst (TT base goal k).1 (goal.length - (k + 1)) (PL base goal (goal.length - (k + 1))) with
    | some d => (d.1 :: (TT base goal k).1, d.2 :: (TT base goal k).2)
    | none => ([], [])
def pr (base goal : List Nat) (k : Nat) : Nat := (TT base goal k).1.getD 0 0
section
variable {base goal : List Nat}
theorem PL_ne {p : Nat} (h : p < goal.length) : PL base goal p ≠ [] := fun e => by
  have := PL_pt (base := base) (p := p) (m := 1) (by omega) (show p + 1 ≤ goal.length by omega)
  rw [e] at this
  cases this
theorem TT_len : ∀ k, k ≤ goal.length → (TT base goal k).1.length = k + 1 ∧ (TT base goal k).2.length = k
  | 0, _ => ⟨rfl, rfl⟩
  | k + 1, h => by
    obtain ⟨a, b⟩ := TT_len k (by omega)
    obtain ⟨d, e, _⟩ := bst_ok (TT base goal k).1 (goal.length - (k + 1)) (PL_ne (base := base) (goal := goal) (p := goal.length - (k + 1)) (by omega))
    rw [TT, e]
    exact ⟨by rw [List.length_cons, a], by rw [List.length_cons, b]⟩
theorem TT_succ {k : Nat} (h : k + 1 ≤ goal.length) : ∃ d, bst (TT base goal k).1 (goal.length - (k + 1)) (PL base goal (goal.length - (k + 1))) = some d ∧ TT base goal (k + 1) = (d.1 :: (TT base goal k).1, d.2 :: (TT base goal k).2) := by
  obtain ⟨d, e, _⟩ := bst_ok (TT base goal k).1 (goal.length - (k + 1)) (PL_ne (base := base) (goal := goal) (p := goal.length - (k + 1)) (by omega))
  refine ⟨d, e, ?_⟩
  rw [TT, e]
theorem TT_get : ∀ (k j : Nat), k ≤ goal.length → j ≤ k → (TT base goal k).1.getD j 0 = pr base goal (k - j)
  | k, 0, _, _ => rfl
  | 0, j + 1, _, h => by omega
  | k + 1, j + 1, h, hj => by
    obtain ⟨d, _, e⟩ := TT_succ (base := base) h
    rw [e]
    show (TT base goal k).1.getD j 0 = _
    rw [TT_get k j (by omega) (by omega)]
    congr 1
    omega
theorem upE_pr {k m : Nat} (h : k + 1 ≤ goal.length) (ho : ∀ x ∈ goal, x < 256) {x : En} (hx : EnOk base goal (goal.length - (k + 1)) m x) : upE (TT base goal k).1 (goal.length - (k + 1)) x = x.2.2.cost + pr base goal (k + 1 - m) ∧ m ≤ k + 1 := by
  have h1 := hx.pos
  have h2 := hx.le
  unfold upE
  rw [hx.cost, hx.at_, TT_get k _ (by omega) (by omega)]
  refine ⟨?_, by omega⟩
  congr 2
  omega
theorem pr_min {k : Nat} (h : k + 1 ≤ goal.length) (ho : ∀ x ∈ goal, x < 256) : ∃ x ∈ PL base goal (goal.length - (k + 1)), ∃ m, EnOk base goal (goal.length - (k + 1)) m x ∧ TT base goal (k + 1) = (pr base goal (k + 1) :: (TT base goal k).1, x.2 :: (TT base goal k).2) ∧ pr base goal (k + 1) = x.2.2.cost + pr base goal (k + 1 - m) ∧ m ≤ k + 1 ∧ ∀ z ∈ PL base goal (goal.length - (k + 1)), pr base goal (k + 1) ≤ upE (TT base goal k).1 (goal.length - (k + 1)) z := by
  obtain ⟨d, e, ⟨y, hy, e1, e2⟩, lo⟩ := bst_ok (TT base goal k).1 (goal.length - (k + 1)) (PL_ne (base := base) (goal := goal) (p := goal.length - (k + 1)) (by omega))
  have et : TT base goal (k + 1) = (d.1 :: (TT base goal k).1, d.2 :: (TT base goal k).2) := by rw [TT, e]
  have ep : pr base goal (k + 1) = d.1 := by unfold pr; rw [et]; rfl
  obtain ⟨m, hm⟩ := PL_ok ho hy
  obtain ⟨u1, u2⟩ := upE_pr (base := base) h ho hm
  refine ⟨y, hy, m, hm, ?_, ?_, u2, ?_⟩
  · rw [et, ep, e1]
  · rw [ep, e2, u1]
  · rw [ep]; exact lo
def path (base goal : List Nat) : Nat → Nat → List Pc
  | 0, _ => []
  | _ + 1, 0 => []
  | f + 1, k + 1 => match (TT base goal (k + 1)).2 with
    | [] => []
    | y :: _ => y.2 :: path base goal f (goal.length - y.1)
structure PathOk (base goal : List Nat) (k : Nat) (ps : List Pc) : Prop where
  cost : (ps.map Pc.cost).sum = pr base goal k
  mk_ : ps.flatMap (Pc.mk base) = goal.drop (goal.length - k)
  ok : ∀ p ∈ ps, p.ok = true
  inn : ∀ p ∈ ps, p.inn base.length = true
  len : ps.length ≤ k
theorem path_ok (ho : ∀ x ∈ goal, x < 256) : ∀ (f k : Nat), k ≤ f → k ≤ goal.length → PathOk base goal k (path base goal f k)
  | 0, k, h, _ => by
    have : k = 0 := by omega
    subst this
    exact ⟨rfl, (by rw [path, Nat.sub_zero, List.drop_length]; rfl), fun p hp => (nomatch hp), fun p hp => (nomatch hp), Nat.le_refl _⟩
  | f + 1, 0, h, _ => ⟨rfl, (by rw [path, Nat.sub_zero, List.drop_length]; rfl), fun p hp => (nomatch hp), fun p hp => (nomatch hp), Nat.le_refl _⟩
  | f + 1, k + 1, h, hk => by
    obtain ⟨x, hx, m, hm, et, ep, hmk, _⟩ := pr_min (base := base) hk ho
    have h1 := hm.pos
    have h2 := hm.le
    have ee : goal.length - x.2.1 = k + 1 - m := by rw [hm.at_]; omega
    have ih := path_ok ho f (k + 1 - m) (by omega) (by omega)
    rw [path, et]
    dsimp only
    rw [ee]
    refine ⟨?_, ?_, ?_, ?_, ?_⟩
    · rw [List.map_cons, List.sum_cons, ih.cost, ep]
    · rw [List.flatMap_cons, ih.mk_, hm.mk_]
      have : goal.drop (goal.length - (k + 1 - m)) = (goal.drop (goal.length - (k + 1))).drop m := by
        rw [List.drop_drop]
        congr 1
        omega
      rw [this, List.take_append_drop]
    · intro p hp
      rcases List.mem_cons.mp hp with rfl | hp
      · exact hm.ok
      · exact ih.ok p hp
    · intro p hp
      rcases List.mem_cons.mp hp with rfl | hp
      · exact hm.inn
      · exact ih.inn p hp
    · rw [List.length_cons]
      have := ih.len
      omega
theorem mk_len {p : Pc} (ok : p.ok = true) (inn : p.inn base.length = true) : 0 < (p.mk base).length ∧ ∃ m, 0 < m ∧ (p.mk base).length = m := by
  have : 0 < (p.mk base).length := by
    cases p with
    | cp a n =>
      have h1 := of_decide_eq_true ok
      have h2 := of_decide_eq_true inn
      show 0 < ((base.drop a).take n).length
      rw [List.length_take, List.length_drop]
      omega
    | pt o =>
      have h1 : (decide (0 < o.length) && o.all (fun x => decide (x < 256))) = true := ok
      rw [Bool.and_eq_true] at h1
      exact of_decide_eq_true h1.1
  exact ⟨this, _, this, rfl⟩
theorem pr_le (ho : ∀ x ∈ goal, x < 256) : ∀ (ps : List Pc) (k : Nat), k ≤ goal.length → (∀ p ∈ ps, p.ok = true) → (∀ p ∈ ps, p.inn base.length = true) → ps.flatMap (Pc.mk base) = goal.drop (goal.length - k) → pr base goal k ≤ (ps.map Pc.cost).sum
  | [], k, hk, _, _, e => by
    have := congrArg List.length e
    rw [List.flatMap_nil, List.length_nil, List.length_drop] at this
    have : k = 0 := by omega
    subst this
    exact Nat.le_refl _
  | p :: ps, k, hk, ok, inn, e => by
    obtain ⟨h0, m, hm, el⟩ := mk_len (base := base) (ok p List.mem_cons_self) (inn p List.mem_cons_self)
    rw [List.flatMap_cons] at e
    have hl := congrArg List.length e
    rw [List.length_append, List.length_drop] at hl
    cases k with
    | zero => omega
    | succ k =>
      have e1 : p.mk base = (goal.drop (goal.length - (k + 1))).take m := by
        rw [← e, ← el, List.take_left]
      have e2 : ps.flatMap (Pc.mk base) = goal.drop (goal.length - (k + 1 - m)) := by
        have : goal.drop (goal.length - (k + 1 - m)) = (goal.drop (goal.length - (k + 1))).drop m := by
          rw [List.drop_drop]
          congr 1
          omega
        rw [this, ← e, ← el, List.drop_left]
      have ih := pr_le ho ps (k + 1 - m) (by omega) (fun q hq => ok q (List.mem_cons_of_mem _ hq)) (fun q hq => inn q (List.mem_cons_of_mem _ hq)) e2
      obtain ⟨x, hx, m', hm', et, ep, hmk, lo⟩ := pr_min (base := base) hk ho
      have key : ∃ z ∈ PL base goal (goal.length - (k + 1)), z.1 = p.cost ∧ z.2.1 = goal.length - (k + 1) + m := by
        cases p with
        | cp a n =>
          have hn : n = m := by
            have h2 := of_decide_eq_true (inn _ List.mem_cons_self)
            have el : ((base.drop a).take n).length = m := el
            rw [List.length_take, List.length_drop] at el
            omega
          subst hn
          have h2 := of_decide_eq_true (inn _ List.mem_cons_self)
          exact ⟨_, PL_cp hm h2 (by omega) e1, rfl, rfl⟩
        | pt o =>
          have el : o.length = m := el
          exact ⟨_, PL_pt hm (by omega), by show cPt m = cPt o.length; rw [el], rfl⟩
      obtain ⟨z, hz, z1, z2⟩ := key
      have h := lo z hz
      obtain ⟨mz, hmz⟩ := PL_ok ho hz
      obtain ⟨u1, u2⟩ := upE_pr (base := base) hk ho hmz
      have : mz = m := by have := hmz.at_; omega
      subst this
      rw [u1, ← hmz.cost, z1] at h
      rw [List.map_cons, List.sum_cons]
      omega
end
/-! ### costs, the table of likeness, pieces -/
def pcD : Pc → D
  | .cp a n => .tup [.str "copy", dN a, dN n]
  | .pt o => .tup [.str "put", rowD o]
theorem row_len (l : List Nat) : fLen [rowD l] = .ok (.int l.length) := by rw [x_len_t, List.length_map]
theorem small_enc {n : Nat} (h : n < 10000) : n < 128 ^ (1 + 1) := by
  have : (128 : Nat) ^ (1 + 1) = 16384 := by decide
  omega
theorem enc_len2 {n : Nat} (h : n < 10000) : (enc n).length ≤ 2 := enc_len 1 n (small_enc h)
theorem wr {n : Nat} (h : n < 10000) : C_written [dN n] = .ok (rowD (enc n)) := wnum n 1 (small_enc h) (by omega)
theorem ls_loop : ∀ (k n acc : Nat) (fuel : Nat), n < 128 ^ (k + 1) → k < fuel →
    whileE (eUn asB (eOp (dCmpI iGt) (eVar 0) (eC (.int 127)))) B__law_size_1 fuel [some (dN n), some (dN acc)] = .next [some (dN (encL n)), some (dN (acc + (encI n).length))]
  | k, n, acc, 0, h, hf => by omega
  | k, n, acc, fuel + 1, h, hf => by
    by_cases hn : n < 128
    · have h2 : iGt (n : Int) 127 = false := decide_eq_false (by omega)
      rw [whileE_succ, encL_lt hn, encI_lt hn]
      simp only [sSeq_x, x_sSet, x_sIf, x_sRet, x_sRetN, x_sPar, x_sUnp, resF_ok, x_sDrop, x_sNext, x_sBreak, x_sCont, x_sRaise, x_sAug, augK_ok, x_sFor, x_sWhile, sKill_x, x_wipe0, x_wipe1, x_evL0, x_evL1, x_setL0, x_setL1, x_eVar, x_eC, x_eOp, x_eUn, x_eCall, x_eMS, x_asStr, x_aNil, x_aCons, x_eTup, x_eLst, x_eIf, x_eNot, x_eAnd, x_eOr, x_bAnd, x_bOr, x_bNot, x_bYes, x_eSl, x_oNone, x_oSome, asI_int, x_iSeq, x_iCall, x_gfName, x_gfTup, eLc, noX_is, Res.bind_ok, Res.bind_exc, flow_ok, flow_exc, seqK_next, seqK_ret, seqK_exc, seqK_brk, seqK_cont, loopK_next, loopK_cont, loopK_brk, loopK_ret, loopK_exc, must_ok, List.set_cons_succ, List.set_cons_zero, List.getD_cons_succ, List.getD_cons_zero, vD_some, if_true, if_false, Bool.false_eq_true, reduceIte, List.map_cons, List.map_nil, List.length_cons, List.length_nil, List.cons_append, List.nil_append, List.replicate, Nat.reduceSub, Nat.reduceAdd, x_add, x_sub, x_cmp, x_eq_ii, x_ne_ii, x_int_i, x_len_t, x_len_l, x_tup_l, x_tup_t, x_list_l, x_list_t, x_dSl_t, x_dSl_l, x_items_t, x_items_l, x_tru_n, x_tru_b, x_tru_i, x_tru_t, x_tru_l, x_asB, x_is_n, x_isNot_n, isNon_n, isNon_i, isNon_s, isNon_t, isNon_l, isNon_b, Bool.not_true, Bool.not_false, List.length_map, fnE, startE, h2, Nat.add_zero]
    · have h2 : iGt (n : Int) 127 = true := decide_eq_true (by omega)
      cases k with
      | zero => simp at h; omega
      | succ k =>
        have h3 : n / 128 < 128 ^ (k + 1) := by
          rw [Nat.pow_succ] at h
          exact Nat.div_lt_of_lt_mul (by rw [Nat.mul_comm]; exact h)
        have ih := ls_loop k (n / 128) (acc + 1) fuel h3 (by omega)
        have st : B__law_size_1 [some (dN n), some (dN acc)] = .next [some (dN (n / 128)), some (dN (acc + 1))] := by simp [B__law_size_1]
        rw [encL_ge hn, encI_ge hn, whileE_succ, List.length_cons, show acc + ((encI (n / 128)).length + 1) = acc + 1 + (encI (n / 128)).length by omega, ← ih]
        simp only [sSeq_x, x_sSet, x_sIf, x_sRet, x_sRetN, x_sPar, x_sUnp, resF_ok, x_sDrop, x_sNext, x_sBreak, x_sCont, x_sRaise, x_sAug, augK_ok, x_sFor, x_sWhile, sKill_x, x_wipe0, x_wipe1, x_evL0, x_evL1, x_setL0, x_setL1, x_eVar, x_eC, x_eOp, x_eUn, x_eCall, x_eMS, x_asStr, x_aNil, x_aCons, x_eTup, x_eLst, x_eIf, x_eNot, x_eAnd, x_eOr, x_bAnd, x_bOr, x_bNot, x_bYes, x_eSl, x_oNone, x_oSome, asI_int, x_iSeq, x_iCall, x_gfName, x_gfTup, eLc, noX_is, Res.bind_ok, Res.bind_exc, flow_ok, flow_exc, seqK_next, seqK_ret, seqK_exc, seqK_brk, seqK_cont, loopK_next, loopK_cont, loopK_brk, loopK_ret, loopK_exc, must_ok, List.set_cons_succ, List.set_cons_zero, List.getD_cons_succ, List.getD_cons_zero, vD_some, if_true, if_false, Bool.false_eq_true, reduceIte, List.map_cons, List.map_nil, List.length_cons, List.length_nil, List.cons_append, List.nil_append, List.replicate, Nat.reduceSub, Nat.reduceAdd, x_add, x_sub, x_cmp, x_eq_ii, x_ne_ii, x_int_i, x_len_t, x_len_l, x_tup_l, x_tup_t, x_list_l, x_list_t, x_dSl_t, x_dSl_l, x_items_t, x_items_l, x_tru_n, x_tru_b, x_tru_i, x_tru_t, x_tru_l, x_asB, x_is_n, x_isNot_n, isNon_n, isNon_i, isNon_s, isNon_t, isNon_l, isNon_b, Bool.not_true, Bool.not_false, List.length_map, fnE, startE, h2, st]
theorem lsize {n : Nat} (h : n < 10000) : C__law_size [dN n] = .ok (dN (enc n).length) := by
  have e : whileE (eUn asB (eOp (dCmpI iGt) (eVar 0) (eC (.int 127)))) B__law_size_1 100000 [some (dN n), some (.int 1)] = .next [some (dN (encL n)), some (dN (1 + (encI n).length))] := ls_loop 1 n 1 100000 (small_enc h) (by omega)
  have el : 1 + (encI n).length = (enc n).length := by rw [enc, List.length_append, List.length_singleton]; omega
  rw [el] at e
  simp only [sSeq_x, x_sSet, x_sIf, x_sRet, x_sRetN, x_sPar, x_sUnp, resF_ok, x_sDrop, x_sNext, x_sBreak, x_sCont, x_sRaise, x_sAug, augK_ok, x_sFor, x_sWhile, sKill_x, x_wipe0, x_wipe1, x_evL0, x_evL1, x_setL0, x_setL1, x_eVar, x_eC, x_eOp, x_eUn, x_eCall, x_eMS, x_asStr, x_aNil, x_aCons, x_eTup, x_eLst, x_eIf, x_eNot, x_eAnd, x_eOr, x_bAnd, x_bOr, x_bNot, x_bYes, x_eSl, x_oNone, x_oSome, asI_int, x_iSeq, x_iCall, x_gfName, x_gfTup, eLc, noX_is, Res.bind_ok, Res.bind_exc, flow_ok, flow_exc, seqK_next, seqK_ret, seqK_exc, seqK_brk, seqK_cont, loopK_next, loopK_cont, loopK_brk, loopK_ret, loopK_exc, must_ok, List.set_cons_succ, List.set_cons_zero, List.getD_cons_succ, List.getD_cons_zero, vD_some, if_true, if_false, Bool.false_eq_true, reduceIte, List.map_cons, List.map_nil, List.length_cons, List.length_nil, List.cons_append, List.nil_append, List.replicate, Nat.reduceSub, Nat.reduceAdd, x_add, x_sub, x_cmp, x_eq_ii, x_ne_ii, x_int_i, x_len_t, x_len_l, x_tup_l, x_tup_t, x_list_l, x_list_t, x_dSl_t, x_dSl_l, x_items_t, x_items_l, x_tru_n, x_tru_b, x_tru_i, x_tru_t, x_tru_l, x_asB, x_is_n, x_isNot_n, isNon_n, isNon_i, isNon_s, isNon_t, isNon_l, isNon_b, Bool.not_true, Bool.not_false, List.length_map, fnE, startE, C__law_size, F__law_size, e]
theorem cpt_i (n : Nat) : (1 : Int) + ((enc n).length : Int) + (n : Int) = ((cPt n : Nat) : Int) := by unfold cPt; omega
theorem ccp_i (a n : Nat) : (1 : Int) + ((enc a).length : Int) + ((enc n).length : Int) = ((cCp a n : Nat) : Int) := by unfold cCp; omega
theorem pcost {n : Nat} (h : n < 10000) : C__put_cost [dN n] = .ok (dN (cPt n)) := by
  have e := wr h
  have l := row_len (enc n)
  simp only [sSeq_x, x_sSet, x_sIf, x_sRet, x_sRetN, x_sPar, x_sUnp, resF_ok, x_sDrop, x_sNext, x_sBreak, x_sCont, x_sRaise, x_sAug, augK_ok, x_sFor, x_sWhile, sKill_x, x_wipe0, x_wipe1, x_evL0, x_evL1, x_setL0, x_setL1, x_eVar, x_eC, x_eOp, x_eUn, x_eCall, x_eMS, x_asStr, x_aNil, x_aCons, x_eTup, x_eLst, x_eIf, x_eNot, x_eAnd, x_eOr, x_bAnd, x_bOr, x_bNot, x_bYes, x_eSl, x_oNone, x_oSome, asI_int, x_iSeq, x_iCall, x_gfName, x_gfTup, eLc, noX_is, Res.bind_ok, Res.bind_exc, flow_ok, flow_exc, seqK_next, seqK_ret, seqK_exc, seqK_brk, seqK_cont, loopK_next, loopK_cont, loopK_brk, loopK_ret, loopK_exc, must_ok, List.set_cons_succ, List.set_cons_zero, List.getD_cons_succ, List.getD_cons_zero, vD_some, if_true, if_false, Bool.false_eq_true, reduceIte, List.map_cons, List.map_nil, List.length_cons, List.length_nil, List.cons_append, List.nil_append, List.replicate, Nat.reduceSub, Nat.reduceAdd, x_add, x_sub, x_cmp, x_eq_ii, x_ne_ii, x_int_i, x_len_t, x_len_l, x_tup_l, x_tup_t, x_list_l, x_list_t, x_dSl_t, x_dSl_l, x_items_t, x_items_l, x_tru_n, x_tru_b, x_tru_i, x_tru_t, x_tru_l, x_asB, x_is_n, x_isNot_n, isNon_n, isNon_i, isNon_s, isNon_t, isNon_l, isNon_b, Bool.not_true, Bool.not_false, List.length_map, fnE, startE, C__put_cost, F__put_cost, e, l, cpt_i]
theorem ccost {a n : Nat} (ha : a < 10000) (h : n < 10000) : C__copy_cost [dN a, dN n] = .ok (dN (cCp a n)) := by
  have e := wr h
  have l := row_len (enc n)
  have e2 := wr ha
  have l2 := row_len (enc a)
  simp only [sSeq_x, x_sSet, x_sIf, x_sRet, x_sRetN, x_sPar, x_sUnp, resF_ok, x_sDrop, x_sNext, x_sBreak, x_sCont, x_sRaise, x_sAug, augK_ok, x_sFor, x_sWhile, sKill_x, x_wipe0, x_wipe1, x_evL0, x_evL1, x_setL0, x_setL1, x_eVar, x_eC, x_eOp, x_eUn, x_eCall, x_eMS, x_asStr, x_aNil, x_aCons, x_eTup, x_eLst, x_eIf, x_eNot, x_eAnd, x_eOr, x_bAnd, x_bOr, x_bNot, x_bYes, x_eSl, x_oNone, x_oSome, asI_int, x_iSeq, x_iCall, x_gfName, x_gfTup, eLc, noX_is, Res.bind_ok, Res.bind_exc, flow_ok, flow_exc, seqK_next, seqK_ret, seqK_exc, seqK_brk, seqK_cont, loopK_next, loopK_cont, loopK_brk, loopK_ret, loopK_exc, must_ok, List.set_cons_succ, List.set_cons_zero, List.getD_cons_succ, List.getD_cons_zero, vD_some, if_true, if_false, Bool.false_eq_true, reduceIte, List.map_cons, List.map_nil, List.length_cons, List.length_nil, List.cons_append, List.nil_append, List.replicate, Nat.reduceSub, Nat.reduceAdd, x_add, x_sub, x_cmp, x_eq_ii, x_ne_ii, x_int_i, x_len_t, x_len_l, x_tup_l, x_tup_t, x_list_l, x_list_t, x_dSl_t, x_dSl_l, x_items_t, x_items_l, x_tru_n, x_tru_b, x_tru_i, x_tru_t, x_tru_l, x_asB, x_is_n, x_isNot_n, isNon_n, isNon_i, isNon_s, isNon_t, isNon_l, isNon_b, Bool.not_true, Bool.not_false, List.length_map, fnE, startE, C__copy_cost, F__copy_cost, e, l, e2, l2, ccp_i]
def Pc.sm : Pc → Prop
  | .cp a n => a < 10000 ∧ n < 10000
  | .pt o => o.length < 10000
theorem wds : dEq (.str "copy") (.str "copy") = .ok (.bl true) ∧ dEq (.str "put") (.str "copy") = .ok (.bl false) ∧ dEq (.str "put") (.str "put") = .ok (.bl true) := ⟨by kernel_rfl, by kernel_rfl, by kernel_rfl⟩
theorem ixc (a b c : D) : dIx (.tup [a, b, c]) (.int 0) = .ok a ∧ dIx (.tup [a, b, c]) (.int 1) = .ok b ∧ dIx (.tup [a, b, c]) (.int 2) = .ok c := ⟨rfl, rfl, rfl⟩
theorem ixp (a b : D) : dIx (.tup [a, b]) (.int 0) = .ok a ∧ dIx (.tup [a, b]) (.int 1) = .ok b := ⟨rfl, rfl⟩
theorem lcost {p : Pc} (h : p.sm) : C__law_cost [pcD p] = .ok (dN p.cost) := by
  cases p with
  | cp a n =>
    have e1 := lsize h.1
    have e2 := lsize h.2
    have e := ccp_i a n
    simp only [sSeq_x, x_sSet, x_sIf, x_sRet, x_sRetN, x_sPar, x_sUnp, resF_ok, x_sDrop, x_sNext, x_sBreak, x_sCont, x_sRaise, x_sAug, augK_ok, x_sFor, x_sWhile, sKill_x, x_wipe0, x_wipe1, x_evL0, x_evL1, x_setL0, x_setL1, x_eVar, x_eC, x_eOp, x_eUn, x_eCall, x_eMS, x_asStr, x_aNil, x_aCons, x_eTup, x_eLst, x_eIf, x_eNot, x_eAnd, x_eOr, x_bAnd, x_bOr, x_bNot, x_bYes, x_eSl, x_oNone, x_oSome, asI_int, x_iSeq, x_iCall, x_gfName, x_gfTup, eLc, noX_is, Res.bind_ok, Res.bind_exc, flow_ok, flow_exc, seqK_next, seqK_ret, seqK_exc, seqK_brk, seqK_cont, loopK_next, loopK_cont, loopK_brk, loopK_ret, loopK_exc, must_ok, List.set_cons_succ, List.set_cons_zero, List.getD_cons_succ, List.getD_cons_zero, vD_some, if_true, if_false, Bool.false_eq_true, reduceIte, List.map_cons, List.map_nil, List.length_cons, List.length_nil, List.cons_append, List.nil_append, List.replicate, Nat.reduceSub, Nat.reduceAdd, x_add, x_sub, x_cmp, x_eq_ii, x_ne_ii, x_int_i, x_len_t, x_len_l, x_tup_l, x_tup_t, x_list_l, x_list_t, x_dSl_t, x_dSl_l, x_items_t, x_items_l, x_tru_n, x_tru_b, x_tru_i, x_tru_t, x_tru_l, x_asB, x_is_n, x_isNot_n, isNon_n, isNon_i, isNon_s, isNon_t, isNon_l, isNon_b, Bool.not_true, Bool.not_false, List.length_map, fnE, startE, C__law_cost, F__law_cost, pcD, ixc, wds.1, e1, e2, e, Pc.cost]
  | pt o =>
    have e1 := lsize h
    have e := cpt_i o.length
    have l := row_len o
    simp only [sSeq_x, x_sSet, x_sIf, x_sRet, x_sRetN, x_sPar, x_sUnp, resF_ok, x_sDrop, x_sNext, x_sBreak, x_sCont, x_sRaise, x_sAug, augK_ok, x_sFor, x_sWhile, sKill_x, x_wipe0, x_wipe1, x_evL0, x_evL1, x_setL0, x_setL1, x_eVar, x_eC, x_eOp, x_eUn, x_eCall, x_eMS, x_asStr, x_aNil, x_aCons, x_eTup, x_eLst, x_eIf, x_eNot, x_eAnd, x_eOr, x_bAnd, x_bOr, x_bNot, x_bYes, x_eSl, x_oNone, x_oSome, asI_int, x_iSeq, x_iCall, x_gfName, x_gfTup, eLc, noX_is, Res.bind_ok, Res.bind_exc, flow_ok, flow_exc, seqK_next, seqK_ret, seqK_exc, seqK_brk, seqK_cont, loopK_next, loopK_cont, loopK_brk, loopK_ret, loopK_exc, must_ok, List.set_cons_succ, List.set_cons_zero, List.getD_cons_succ, List.getD_cons_zero, vD_some, if_true, if_false, Bool.false_eq_true, reduceIte, List.map_cons, List.map_nil, List.length_cons, List.length_nil, List.cons_append, List.nil_append, List.replicate, Nat.reduceSub, Nat.reduceAdd, x_add, x_sub, x_cmp, x_eq_ii, x_ne_ii, x_int_i, x_len_t, x_len_l, x_tup_l, x_tup_t, x_list_l, x_list_t, x_dSl_t, x_dSl_l, x_items_t, x_items_l, x_tru_n, x_tru_b, x_tru_i, x_tru_t, x_tru_l, x_asB, x_is_n, x_isNot_n, isNon_n, isNon_i, isNon_s, isNon_t, isNon_l, isNon_b, Bool.not_true, Bool.not_false, List.length_map, fnE, startE, C__law_cost, F__law_cost, pcD, ixp, wds.2.1, l, e1, e, Pc.cost]
/-! storing -/
theorem ixN_nat {n m : Nat} (h : m < n) : ixN n (m : Int) = some m := by
  unfold ixN
  rw [if_pos (by omega), if_pos (by omega)]
  simp
theorem put_ok {ρ : Px.Env} {i : Nat} {fi f : EF} {xs : List D} {d : D} {n : Nat} (h : ρ.getD i none = some (.lst xs)) (hd : f ρ = .ok d) (hn : fi ρ = .ok (dN n)) (hl : n < xs.length) : sPut i fi f ρ = .next (ρ.set i (some (.lst (xs.set n d)))) := by
  unfold sPut
  simp only [h, hd, hn, flow_ok, putN, ixN_nat hl]
theorem put2_ok {ρ : Px.Env} {i : Nat} {fi fj f : EF} {rows xs : List D} {d : D} {m n : Nat} (h : ρ.getD i none = some (.lst rows)) (hd : f ρ = .ok d) (hm : fi ρ = .ok (dN m)) (hr : rows[m]? = some (.lst xs)) (hn : fj ρ = .ok (dN n)) (hl : n < xs.length) :
    sPut2 i fi fj f ρ = .next (ρ.set i (some (.lst (rows.set m (.lst (xs.set n d)))))) := by
  have hlm : m < rows.length := (List.getElem?_eq_some_iff.mp hr).1
  unfold sPut2
  simp only [h, hd, hm, hn, flow_ok, rowAt, putN, ixN_nat hlm, ixN_nat hl, hr]
def dnD : Nat → List D
  | 0 => []
  | n + 1 => dN n :: dnD n
theorem dnD_eq : ∀ n : Nat, dnD n = (List.range n).map fun i => D.int ((n : Int) - 1 + (i : Nat) * (-1))
  | 0 => rfl
  | n + 1 => by
    rw [dnD, dnD_eq n, List.range_succ_eq_map, List.map_cons, List.map_map]
    congr 1
    · show D.int (n : Int) = D.int (((n + 1 : Nat) : Int) - 1 + ((0 : Nat) : Int) * (-1))
      congr 1
      omega
    · refine List.map_congr_left fun i _ => ?_
      show D.int _ = D.int _
      congr 1
      simp only [Nat.succ_eq_add_one]
      omega
theorem down_ok {n : Nat} (h : n ≤ 1000) : dRng3 [.int ((n : Int) - 1), .int (-1), .int (-1)] = .ok (dnD n) := by
  show (if _ then _ else _) = _
  rw [if_pos ⟨rfl, by omega, by omega, by omega, by omega, by omega⟩, dnD_eq]
  unfold rngC
  rw [show ((n : Int) - 1 - -1).toNat = n by omega]
theorem neg1 : dNeg (.int 1) = .ok (.int (-1)) := rfl
abbrev rowL (l : List Nat) : D := .lst (l.map dN)
def AR (base goal : List Nat) (a : Nat) : List Nat := (List.range (goal.length + 1)).map fun p => lcp (base.drop a) (goal.drop p)
def rowsF (base goal : List Nat) (a : Nat) : List D := (List.range' a (base.length + 1 - a)).map fun a => rowL (AR base goal a)
abbrev matD (base goal : List Nat) : D := .lst (rowsF base goal 0)
section
variable {base goal : List Nat}
theorem AR_len (a : Nat) : (AR base goal a).length = goal.length + 1 := by unfold AR; rw [List.length_map, List.length_range]
theorem AR_get {a p : Nat} (h : p ≤ goal.length) : (AR base goal a)[p]? = some (lcp (base.drop a) (goal.drop p)) := by
  unfold AR
  rw [List.getElem?_map, List.getElem?_range (by omega)]
  rfl
theorem rowsF_cons {a : Nat} (h : a ≤ base.length) : rowsF base goal a = rowL (AR base goal a) :: rowsF base goal (a + 1) := by
  unfold rowsF
  rw [show base.length + 1 - a = (base.length + 1 - (a + 1)) + 1 by omega, List.range'_succ, List.map_cons]
theorem drop_get {α : Type} {l : List α} {n : Nat} {x : α} (h : l[n]? = some x) : l.drop n = x :: l.drop (n + 1) := by
  obtain ⟨hl, e⟩ := List.getElem?_eq_some_iff.mp h
  rw [List.drop_eq_getElem_cons hl, e]
theorem set_mid {α : Type} (A : List α) (x y : α) (B : List α) : (A ++ x :: B).set A.length y = A ++ y :: B := by
  rw [List.set_append_right _ _ (Nat.le_refl _), Nat.sub_self]
  rfl
theorem set_rep {α : Type} (z y : α) (p : Nat) (B : List α) : (List.replicate (p + 1) z ++ B).set p y = List.replicate p z ++ y :: B := by
  have := set_mid (List.replicate p z) z y B
  rw [List.length_replicate] at this
  rw [← this, List.replicate_succ', List.append_assoc]
  rfl
theorem alike_step (a p : Nat) (pre post : List D) (C : List Nat) (hpre : pre.length = a) (hC : C.length = goal.length + 1) (ha : a < base.length) (hp : p < goal.length) :
    B__alike_2 [some (rowD base), some (rowD goal), some (.lst (pre ++ rowL C :: rowL (AR base goal (a + 1)) :: post)), some (dN a), some (dN p), none] =
    .next [some (rowD base), some (rowD goal), some (.lst (pre ++ rowL (if base[a]? = goal[p]? then C.set p (lcp (base.drop (a + 1)) (goal.drop (p + 1)) + 1) else C) :: rowL (AR base goal (a + 1)) :: post)), some (dN a), none, none] := by
  obtain ⟨x, hx⟩ : ∃ x, base[a]? = some x := ⟨_, List.getElem?_eq_getElem ha⟩
  obtain ⟨y, hy⟩ : ∃ y, goal[p]? = some y := ⟨_, List.getElem?_eq_getElem hp⟩
  have i1 : dIx (rowD base) (dN a) = .ok (dN x) := dIx_tm hx
  have i2 : dIx (rowD goal) (dN p) = .ok (dN y) := dIx_tm hy
  rw [hx, hy]
  by_cases e : x = y
  · have eq : dEq (dN x) (dN y) = .ok (.bl true) := by
      rw [x_eq_ii, e]
      simp
    have r1 : (pre ++ rowL C :: rowL (AR base goal (a + 1)) :: post)[a + 1]? = some (rowL (AR base goal (a + 1))) := by
      rw [List.getElem?_append_right (by omega), hpre, show a + 1 - a = 1 by omega]
      rfl
    have i3 : dIx (.lst (pre ++ rowL C :: rowL (AR base goal (a + 1)) :: post)) (.int ((a : Int) + 1)) = .ok (rowL (AR base goal (a + 1))) := dIx_lst (n := a + 1) r1
    have i4 : dIx (rowL (AR base goal (a + 1))) (.int ((p : Int) + 1)) = .ok (dN (lcp (base.drop (a + 1)) (goal.drop (p + 1)))) := dIx_lm (n := p + 1) (AR_get (by omega))
    have r0 : (pre ++ rowL C :: rowL (AR base goal (a + 1)) :: post)[a]? = some (.lst (C.map dN)) := by
      rw [List.getElem?_append_right (by omega), hpre, Nat.sub_self]
      rfl
    have hp := put2_ok (ρ := [some (rowD base), some (rowD goal), some (.lst (pre ++ rowL C :: rowL (AR base goal (a + 1)) :: post)), some (dN a), some (dN p), none]) (i := 2) (fi := eVar 3) (fj := eVar 4) (f := eOp dAdd (eOp dIx (eOp dIx (eVar 2) (eOp dAdd (eVar 3) (eC (.int 1)))) (eOp dAdd (eVar 4) (eC (.int 1)))) (eC (.int 1)))
      (d := dN (lcp (base.drop (a + 1)) (goal.drop (p + 1)) + 1)) (m := a) (n := p) rfl (by simp only [sSeq_x, x_sSet, x_sIf, x_sRet, x_sRetN, x_sPar, x_sUnp, resF_ok, x_sDrop, x_sNext, x_sBreak, x_sCont, x_sRaise, x_sAug, augK_ok, x_sFor, x_sWhile, sKill_x, x_wipe0, x_wipe1, x_evL0, x_evL1, x_setL0, x_setL1, x_eVar, x_eC, x_eOp, x_eUn, x_eCall, x_eMS, x_asStr, x_aNil, x_aCons, x_eTup, x_eLst, x_eIf, x_eNot, x_eAnd, x_eOr, x_bAnd, x_bOr, x_bNot, x_bYes, x_eSl, x_oNone, x_oSome, asI_int, x_iSeq, x_iCall, x_gfName, x_gfTup, eLc, noX_is, Res.bind_ok, Res.bind_exc, flow_ok, flow_exc, seqK_next, seqK_ret, seqK_exc, seqK_brk, seqK_cont, loopK_next, loopK_cont, loopK_brk, loopK_ret, loopK_exc, must_ok, List.set_cons_succ, List.set_cons_zero, List.getD_cons_succ, List.getD_cons_zero, vD_some, if_true, if_false, Bool.false_eq_true, reduceIte, List.map_cons, List.map_nil, List.length_cons, List.length_nil, List.cons_append, List.nil_append, List.replicate, Nat.reduceSub, Nat.reduceAdd, x_add, x_sub, x_cmp, x_eq_ii, x_ne_ii, x_int_i, x_len_t, x_len_l, x_tup_l, x_tup_t, x_list_l, x_list_t, x_dSl_t, x_dSl_l, x_items_t, x_items_l, x_tru_n, x_tru_b, x_tru_i, x_tru_t, x_tru_l, x_asB, x_is_n, x_isNot_n, isNon_n, isNon_i, isNon_s, isNon_t, isNon_l, isNon_b, Bool.not_true, Bool.not_false, List.length_map, fnE, startE, i3, i4]; rfl) rfl r0 rfl (by rw [List.length_map, hC]; omega)
    have es : (pre ++ rowL C :: rowL (AR base goal (a + 1)) :: post).set a (.lst ((C.map dN).set p (dN (lcp (base.drop (a + 1)) (goal.drop (p + 1)) + 1)))) = pre ++ rowL (C.set p (lcp (base.drop (a + 1)) (goal.drop (p + 1)) + 1)) :: rowL (AR base goal (a + 1)) :: post := by
      rw [← List.map_set]
      have := set_mid pre (rowL C) (rowL (C.set p (lcp (base.drop (a + 1)) (goal.drop (p + 1)) + 1))) (rowL (AR base goal (a + 1)) :: post)
      rw [hpre] at this
      exact this
    rw [es] at hp
    rw [if_pos (by rw [e])]
    simp only [sSeq_x, x_sSet, x_sIf, x_sRet, x_sRetN, x_sPar, x_sUnp, resF_ok, x_sDrop, x_sNext, x_sBreak, x_sCont, x_sRaise, x_sAug, augK_ok, x_sFor, x_sWhile, sKill_x, x_wipe0, x_wipe1, x_evL0, x_evL1, x_setL0, x_setL1, x_eVar, x_eC, x_eOp, x_eUn, x_eCall, x_eMS, x_asStr, x_aNil, x_aCons, x_eTup, x_eLst, x_eIf, x_eNot, x_eAnd, x_eOr, x_bAnd, x_bOr, x_bNot, x_bYes, x_eSl, x_oNone, x_oSome, asI_int, x_iSeq, x_iCall, x_gfName, x_gfTup, eLc, noX_is, Res.bind_ok, Res.bind_exc, flow_ok, flow_exc, seqK_next, seqK_ret, seqK_exc, seqK_brk, seqK_cont, loopK_next, loopK_cont, loopK_brk, loopK_ret, loopK_exc, must_ok, List.set_cons_succ, List.set_cons_zero, List.getD_cons_succ, List.getD_cons_zero, vD_some, if_true, if_false, Bool.false_eq_true, reduceIte, List.map_cons, List.map_nil, List.length_cons, List.length_nil, List.cons_append, List.nil_append, List.replicate, Nat.reduceSub, Nat.reduceAdd, x_add, x_sub, x_cmp, x_eq_ii, x_ne_ii, x_int_i, x_len_t, x_len_l, x_tup_l, x_tup_t, x_list_l, x_list_t, x_dSl_t, x_dSl_l, x_items_t, x_items_l, x_tru_n, x_tru_b, x_tru_i, x_tru_t, x_tru_l, x_asB, x_is_n, x_isNot_n, isNon_n, isNon_i, isNon_s, isNon_t, isNon_l, isNon_b, Bool.not_true, Bool.not_false, List.length_map, fnE, startE, B__alike_2, i1, i2, eq, hp]
  · have eq : dEq (dN x) (dN y) = .ok (.bl false) := by
      rw [x_eq_ii]
      congr 2
      exact beq_eq_false_iff_ne.mpr (by omega)
    rw [if_neg (fun z => e (Option.some.inj z))]
    simp only [sSeq_x, x_sSet, x_sIf, x_sRet, x_sRetN, x_sPar, x_sUnp, resF_ok, x_sDrop, x_sNext, x_sBreak, x_sCont, x_sRaise, x_sAug, augK_ok, x_sFor, x_sWhile, sKill_x, x_wipe0, x_wipe1, x_evL0, x_evL1, x_setL0, x_setL1, x_eVar, x_eC, x_eOp, x_eUn, x_eCall, x_eMS, x_asStr, x_aNil, x_aCons, x_eTup, x_eLst, x_eIf, x_eNot, x_eAnd, x_eOr, x_bAnd, x_bOr, x_bNot, x_bYes, x_eSl, x_oNone, x_oSome, asI_int, x_iSeq, x_iCall, x_gfName, x_gfTup, eLc, noX_is, Res.bind_ok, Res.bind_exc, flow_ok, flow_exc, seqK_next, seqK_ret, seqK_exc, seqK_brk, seqK_cont, loopK_next, loopK_cont, loopK_brk, loopK_ret, loopK_exc, must_ok, List.set_cons_succ, List.set_cons_zero, List.getD_cons_succ, List.getD_cons_zero, vD_some, if_true, if_false, Bool.false_eq_true, reduceIte, List.map_cons, List.map_nil, List.length_cons, List.length_nil, List.cons_append, List.nil_append, List.replicate, Nat.reduceSub, Nat.reduceAdd, x_add, x_sub, x_cmp, x_eq_ii, x_ne_ii, x_int_i, x_len_t, x_len_l, x_tup_l, x_tup_t, x_list_l, x_list_t, x_dSl_t, x_dSl_l, x_items_t, x_items_l, x_tru_n, x_tru_b, x_tru_i, x_tru_t, x_tru_l, x_asB, x_is_n, x_isNot_n, isNon_n, isNon_i, isNon_s, isNon_t, isNon_l, isNon_b, Bool.not_true, Bool.not_false, List.length_map, fnE, startE, B__alike_2, i1, i2, eq]
theorem alike_in (a : Nat) (pre post : List D) (hpre : pre.length = a) (ha : a < base.length) : ∀ (p : Nat), p ≤ goal.length →
    forE (gfName 4) B__alike_2 (dnD p) [some (rowD base), some (rowD goal), some (.lst (pre ++ rowL (List.replicate p 0 ++ (AR base goal a).drop p) :: rowL (AR base goal (a + 1)) :: post)), some (dN a), none, none] =
    .next [some (rowD base), some (rowD goal), some (.lst (pre ++ rowL (AR base goal a) :: rowL (AR base goal (a + 1)) :: post)), some (dN a), none, none]
  | 0, _ => by rw [List.replicate_zero, List.nil_append, List.drop_zero]; rfl
  | p + 1, h => by
    have ih := alike_in a pre post hpre ha p (by omega)
    obtain ⟨x, hx⟩ : ∃ x, base[a]? = some x := ⟨_, List.getElem?_eq_getElem ha⟩
    obtain ⟨y, hy⟩ : ∃ y, goal[p]? = some y := ⟨_, List.getElem?_eq_getElem (by omega)⟩
    have d1 := drop_get hx
    have d2 := drop_get hy
    have hv : (AR base goal a).drop p = (if x = y then lcp (base.drop (a + 1)) (goal.drop (p + 1)) + 1 else 0) :: (AR base goal a).drop (p + 1) := by
      rw [drop_get (AR_get (base := base) (a := a) (show p ≤ goal.length by omega)), d1, d2, lcp]
    have st := alike_step (base := base) (goal := goal) a p pre post (List.replicate (p + 1) 0 ++ (AR base goal a).drop (p + 1)) hpre (by rw [List.length_append, List.length_replicate, List.length_drop, AR_len]; omega) ha (by omega)
    have ev : (if base[a]? = goal[p]? then (List.replicate (p + 1) 0 ++ (AR base goal a).drop (p + 1)).set p (lcp (base.drop (a + 1)) (goal.drop (p + 1)) + 1) else List.replicate (p + 1) 0 ++ (AR base goal a).drop (p + 1)) = List.replicate p 0 ++ (AR base goal a).drop p := by
      rw [hx, hy, hv]
      by_cases e : x = y
      · rw [if_pos (by rw [e]), if_pos e, set_rep]
      · rw [if_neg (fun z => e (Option.some.inj z)), if_neg e, List.replicate_succ', List.append_assoc]
        rfl
    rw [ev] at st
    rw [dnD, forE_cons, ← ih]
    generalize List.replicate (p + 1) 0 ++ (AR base goal a).drop (p + 1) = C at st ⊢
    show loopK _ _ = _
    simp only [sSeq_x, x_sSet, x_sIf, x_sRet, x_sRetN, x_sPar, x_sUnp, resF_ok, x_sDrop, x_sNext, x_sBreak, x_sCont, x_sRaise, x_sAug, augK_ok, x_sFor, x_sWhile, sKill_x, x_wipe0, x_wipe1, x_evL0, x_evL1, x_setL0, x_setL1, x_eVar, x_eC, x_eOp, x_eUn, x_eCall, x_eMS, x_asStr, x_aNil, x_aCons, x_eTup, x_eLst, x_eIf, x_eNot, x_eAnd, x_eOr, x_bAnd, x_bOr, x_bNot, x_bYes, x_eSl, x_oNone, x_oSome, asI_int, x_iSeq, x_iCall, x_gfName, x_gfTup, eLc, noX_is, Res.bind_ok, Res.bind_exc, flow_ok, flow_exc, seqK_next, seqK_ret, seqK_exc, seqK_brk, seqK_cont, loopK_next, loopK_cont, loopK_brk, loopK_ret, loopK_exc, must_ok, List.set_cons_succ, List.set_cons_zero, List.getD_cons_succ, List.getD_cons_zero, vD_some, if_true, if_false, Bool.false_eq_true, reduceIte, List.map_cons, List.map_nil, List.length_cons, List.length_nil, List.cons_append, List.nil_append, List.replicate, Nat.reduceSub, Nat.reduceAdd, x_add, x_sub, x_cmp, x_eq_ii, x_ne_ii, x_int_i, x_len_t, x_len_l, x_tup_l, x_tup_t, x_list_l, x_list_t, x_dSl_t, x_dSl_l, x_items_t, x_items_l, x_tru_n, x_tru_b, x_tru_i, x_tru_t, x_tru_l, x_asB, x_is_n, x_isNot_n, isNon_n, isNon_i, isNon_s, isNon_t, isNon_l, isNon_b, Bool.not_true, Bool.not_false, List.length_map, fnE, startE, st]
theorem AR_end (a : Nat) : (AR base goal a).drop goal.length = [0] := by
  rw [drop_get (AR_get (base := base) (a := a) (Nat.le_refl _)), List.drop_length, lcp_nil]
  congr 1
  exact List.drop_of_length_le (by rw [AR_len]; exact Nat.le_refl _)
theorem lcp_nil1 (ys : List Nat) : lcp [] ys = 0 := by cases ys <;> rfl
theorem AR_last : AR base goal base.length = List.replicate (goal.length + 1) 0 := by
  unfold AR
  rw [List.drop_length]
  have : (fun p => lcp ([] : List Nat) (goal.drop p)) = fun _ => 0 := funext fun p => lcp_nil1 _
  rw [this, List.map_const', List.length_range]
theorem alike_ostep (hg : goal.length ≤ 1000) (a : Nat) (R R' : D) (hi : forE (gfName 4) B__alike_2 (dnD goal.length) [some (rowD base), some (rowD goal), some R, some (dN a), none, none] = .next [some (rowD base), some (rowD goal), some R', some (dN a), none, none]) :
    B__alike_1 [some (rowD base), some (rowD goal), some R, some (dN a), none, none] = .next [some (rowD base), some (rowD goal), some R', none, none, none] := by
  have ln := row_len goal
  have dn := down_ok (n := goal.length) hg
  simp only [sSeq_x, x_sSet, x_sIf, x_sRet, x_sRetN, x_sPar, x_sUnp, resF_ok, x_sDrop, x_sNext, x_sBreak, x_sCont, x_sRaise, x_sAug, augK_ok, x_sFor, x_sWhile, sKill_x, x_wipe0, x_wipe1, x_evL0, x_evL1, x_setL0, x_setL1, x_eVar, x_eC, x_eOp, x_eUn, x_eCall, x_eMS, x_asStr, x_aNil, x_aCons, x_eTup, x_eLst, x_eIf, x_eNot, x_eAnd, x_eOr, x_bAnd, x_bOr, x_bNot, x_bYes, x_eSl, x_oNone, x_oSome, asI_int, x_iSeq, x_iCall, x_gfName, x_gfTup, eLc, noX_is, Res.bind_ok, Res.bind_exc, flow_ok, flow_exc, seqK_next, seqK_ret, seqK_exc, seqK_brk, seqK_cont, loopK_next, loopK_cont, loopK_brk, loopK_ret, loopK_exc, must_ok, List.set_cons_succ, List.set_cons_zero, List.getD_cons_succ, List.getD_cons_zero, vD_some, if_true, if_false, Bool.false_eq_true, reduceIte, List.map_cons, List.map_nil, List.length_cons, List.length_nil, List.cons_append, List.nil_append, List.replicate, Nat.reduceSub, Nat.reduceAdd, x_add, x_sub, x_cmp, x_eq_ii, x_ne_ii, x_int_i, x_len_t, x_len_l, x_tup_l, x_tup_t, x_list_l, x_list_t, x_dSl_t, x_dSl_l, x_items_t, x_items_l, x_tru_n, x_tru_b, x_tru_i, x_tru_t, x_tru_l, x_asB, x_is_n, x_isNot_n, isNon_n, isNon_i, isNon_s, isNon_t, isNon_l, isNon_b, Bool.not_true, Bool.not_false, List.length_map, fnE, startE, B__alike_1, ln, neg1, dn, hi]
theorem alike_out (hg : goal.length ≤ 1000) : ∀ (a : Nat), a ≤ base.length → forE (gfName 3) B__alike_1 (dnD a) [some (rowD base), some (rowD goal), some (.lst (List.replicate a (rowL (List.replicate (goal.length + 1) 0)) ++ rowsF base goal a)), none, none, none] = .next [some (rowD base), some (rowD goal), some (matD base goal), none, none, none]
  | 0, _ => rfl
  | a + 1, h => by
    have ih := alike_out hg a (by omega)
    have hi := alike_in (base := base) (goal := goal) a (List.replicate a (rowL (List.replicate (goal.length + 1) 0))) (rowsF base goal (a + 2)) (List.length_replicate ..) (by omega) goal.length (Nat.le_refl _)
    rw [AR_end] at hi
    have e1 : List.replicate goal.length 0 ++ [0] = List.replicate (goal.length + 1) (0 : Nat) := by rw [← List.replicate_succ']
    rw [e1, ← rowsF_cons (base := base) (goal := goal) (a := a + 1) (by omega), ← rowsF_cons (base := base) (goal := goal) (a := a) (by omega)] at hi
    have e2 : List.replicate (a + 1) (rowL (List.replicate (goal.length + 1) 0)) ++ rowsF base goal (a + 1) = List.replicate a (rowL (List.replicate (goal.length + 1) 0)) ++ rowL (List.replicate (goal.length + 1) 0) :: rowsF base goal (a + 1) := by
      rw [List.replicate_succ', List.append_assoc]
      rfl
    have st := alike_ostep (base := base) hg a _ _ hi
    rw [dnD, forE_cons, ← ih, e2]
    show loopK _ _ = _
    generalize D.lst (List.replicate a (rowL (List.replicate (goal.length + 1) 0)) ++ rowL (List.replicate (goal.length + 1) 0) :: rowsF base goal (a + 1)) = R0 at st ⊢
    generalize D.lst (List.replicate a (rowL (List.replicate (goal.length + 1) 0)) ++ rowsF base goal a) = R1 at st ⊢
    simp only [sSeq_x, x_sSet, x_sIf, x_sRet, x_sRetN, x_sPar, x_sUnp, resF_ok, x_sDrop, x_sNext, x_sBreak, x_sCont, x_sRaise, x_sAug, augK_ok, x_sFor, x_sWhile, sKill_x, x_wipe0, x_wipe1, x_evL0, x_evL1, x_setL0, x_setL1, x_eVar, x_eC, x_eOp, x_eUn, x_eCall, x_eMS, x_asStr, x_aNil, x_aCons, x_eTup, x_eLst, x_eIf, x_eNot, x_eAnd, x_eOr, x_bAnd, x_bOr, x_bNot, x_bYes, x_eSl, x_oNone, x_oSome, asI_int, x_iSeq, x_iCall, x_gfName, x_gfTup, eLc, noX_is, Res.bind_ok, Res.bind_exc, flow_ok, flow_exc, seqK_next, seqK_ret, seqK_exc, seqK_brk, seqK_cont, loopK_next, loopK_cont, loopK_brk, loopK_ret, loopK_exc, must_ok, List.set_cons_succ, List.set_cons_zero, List.getD_cons_succ, List.getD_cons_zero, vD_some, if_true, if_false, Bool.false_eq_true, reduceIte, List.map_cons, List.map_nil, List.length_cons, List.length_nil, List.cons_append, List.nil_append, List.replicate, Nat.reduceSub, Nat.reduceAdd, x_add, x_sub, x_cmp, x_eq_ii, x_ne_ii, x_int_i, x_len_t, x_len_l, x_tup_l, x_tup_t, x_list_l, x_list_t, x_dSl_t, x_dSl_l, x_items_t, x_items_l, x_tru_n, x_tru_b, x_tru_i, x_tru_t, x_tru_l, x_asB, x_is_n, x_isNot_n, isNon_n, isNon_i, isNon_s, isNon_t, isNon_l, isNon_b, Bool.not_true, Bool.not_false, List.length_map, fnE, startE, st]
theorem rep_ok (d : D) {n : Nat} (h : n ≤ 16777216) : dRep (.lst [d]) (.int n) = .ok (.lst (List.replicate n d)) := by
  have e : (List.replicate n [d]).flatten = List.replicate n d := by
    induction n with
    | zero => rfl
    | succ n ih => rw [List.replicate_succ, List.flatten_cons, ih (by omega), List.replicate_succ]; rfl
  have hl : ([d] : List D).length * ((n : Int)).toNat ≤ sizeLine := by
    rw [List.length_singleton, Int.toNat_natCast, Nat.one_mul, sl_eq]
    exact h
  show (if [d].length * ((n : Int)).toNat ≤ sizeLine ∧ (n : Int) < 2 ^ 62 ∧ -(2 ^ 62) < (n : Int) then Res.ok (D.lst (List.replicate ((n : Int)).toNat [d]).flatten) else .err) = _
  rw [if_pos ⟨hl, by omega, by omega⟩, Int.toNat_natCast, e]
theorem alike_start : rowsF base goal base.length = [rowL (List.replicate (goal.length + 1) 0)] := by
  rw [rowsF_cons (Nat.le_refl _), AR_last]
  congr 1
  unfold rowsF
  rw [show base.length + 1 - (base.length + 1) = 0 by omega]
  rfl
theorem zrow (hg : goal.length ≤ 1000) : dRep (.lst [.int 0]) (.int ((goal.length : Int) + 1)) = .ok (rowL (List.replicate (goal.length + 1) 0)) := by
  have hz := rep_ok (.int 0) (n := goal.length + 1) (by omega)
  have c2 : ((goal.length + 1 : Nat) : Int) = (goal.length : Int) + 1 := by omega
  rw [c2] at hz
  rw [hz, rowL, List.map_replicate]
  rfl
theorem alike_lc {Z : D} (hz : dRep (.lst [.int 0]) (.int ((goal.length : Int) + 1)) = .ok Z) (n : Nat) : lcE (gfName 5) bYes (eOp dRep (eLst (aCons (eC (.int 0)) aNil)) (eOp dAdd (eCall fLen (aCons (eVar 1) aNil)) (eC (.int 1)))) [some (rowD base), some (rowD goal), none, none, none, none] ((List.range n).map fun i => D.int (i : Nat)) = .ok (List.replicate n Z) := by
  have hb2 := lc_fun (gf := gfName 5) (f := eOp dRep (eLst (aCons (eC (.int 0)) aNil)) (eOp dAdd (eCall fLen (aCons (eVar 1) aNil)) (eC (.int 1)))) (ρ := [some (rowD base), some (rowD goal), none, none, none, none]) (e := fun i : Nat => D.int (i : Nat)) (g := fun _ => Z) (xs := List.range n) fun k hk => ⟨_, rfl, by
    have ln := row_len goal
    simp only [sSeq_x, x_sSet, x_sIf, x_sRet, x_sRetN, x_sPar, x_sUnp, resF_ok, x_sDrop, x_sNext, x_sBreak, x_sCont, x_sRaise, x_sAug, augK_ok, x_sFor, x_sWhile, sKill_x, x_wipe0, x_wipe1, x_evL0, x_evL1, x_setL0, x_setL1, x_eVar, x_eC, x_eOp, x_eUn, x_eCall, x_eMS, x_asStr, x_aNil, x_aCons, x_eTup, x_eLst, x_eIf, x_eNot, x_eAnd, x_eOr, x_bAnd, x_bOr, x_bNot, x_bYes, x_eSl, x_oNone, x_oSome, asI_int, x_iSeq, x_iCall, x_gfName, x_gfTup, eLc, noX_is, Res.bind_ok, Res.bind_exc, flow_ok, flow_exc, seqK_next, seqK_ret, seqK_exc, seqK_brk, seqK_cont, loopK_next, loopK_cont, loopK_brk, loopK_ret, loopK_exc, must_ok, List.set_cons_succ, List.set_cons_zero, List.getD_cons_succ, List.getD_cons_zero, vD_some, if_true, if_false, Bool.false_eq_true, reduceIte, List.map_cons, List.map_nil, List.length_cons, List.length_nil, List.cons_append, List.nil_append, List.replicate, Nat.reduceSub, Nat.reduceAdd, x_add, x_sub, x_cmp, x_eq_ii, x_ne_ii, x_int_i, x_len_t, x_len_l, x_tup_l, x_tup_t, x_list_l, x_list_t, x_dSl_t, x_dSl_l, x_items_t, x_items_l, x_tru_n, x_tru_b, x_tru_i, x_tru_t, x_tru_l, x_asB, x_is_n, x_isNot_n, isNon_n, isNon_i, isNon_s, isNon_t, isNon_l, isNon_b, Bool.not_true, Bool.not_false, List.length_map, fnE, startE, ln, hz]⟩
  rw [List.map_const', List.length_range] at hb2
  exact hb2
def Al0 : SF := (sSet 2 (eLc (iCall dRng1 (aCons (eOp dAdd (eCall fLen (aCons (eVar 0) aNil)) (eC (.int 1))) aNil)) [5] (gfName 5) bYes (eOp dRep (eLst (aCons (eC (.int 0)) aNil)) (eOp dAdd (eCall fLen (aCons (eVar 1) aNil)) (eC (.int 1))))))
def Al1 : SF := (sFor (iCall dRng3 (aCons (eOp dSub (eCall fLen (aCons (eVar 0) aNil)) (eC (.int 1))) (aCons (eUn dNeg (eC (.int 1))) (aCons (eUn dNeg (eC (.int 1))) aNil)))) (gfName 3)
  B__alike_1)
def Al2 : SF := (sRet (eVar 2))
theorem Al_eq : F__alike = (sSeq Al0 (sSeq Al1 (sKill [3, 4] Al2))) := rfl
theorem al0 {R : List D} {I : List D} {n1 : Int} (lb : fLen [rowD base] = .ok (.int n1)) (r1 : dRng1 [.int (n1 + 1)] = .ok I) (hb2 : lcE (gfName 5) bYes (eOp dRep (eLst (aCons (eC (.int 0)) aNil)) (eOp dAdd (eCall fLen (aCons (eVar 1) aNil)) (eC (.int 1)))) [some (rowD base), some (rowD goal), none, none, none, none] I = .ok R) :
    Al0 [some (rowD base), some (rowD goal), none, none, none, none] = .next [some (rowD base), some (rowD goal), some (.lst R), none, none, none] := by
  simp only [sSeq_x, x_sSet, x_sIf, x_sRet, x_sRetN, x_sPar, x_sUnp, resF_ok, x_sDrop, x_sNext, x_sBreak, x_sCont, x_sRaise, x_sAug, augK_ok, x_sFor, x_sWhile, sKill_x, x_wipe0, x_wipe1, x_evL0, x_evL1, x_setL0, x_setL1, x_eVar, x_eC, x_eOp, x_eUn, x_eCall, x_eMS, x_asStr, x_aNil, x_aCons, x_eTup, x_eLst, x_eIf, x_eNot, x_eAnd, x_eOr, x_bAnd, x_bOr, x_bNot, x_bYes, x_eSl, x_oNone, x_oSome, asI_int, x_iSeq, x_iCall, x_gfName, x_gfTup, eLc, noX_is, Res.bind_ok, Res.bind_exc, flow_ok, flow_exc, seqK_next, seqK_ret, seqK_exc, seqK_brk, seqK_cont, loopK_next, loopK_cont, loopK_brk, loopK_ret, loopK_exc, must_ok, List.set_cons_succ, List.set_cons_zero, List.getD_cons_succ, List.getD_cons_zero, vD_some, if_true, if_false, Bool.false_eq_true, reduceIte, List.map_cons, List.map_nil, List.length_cons, List.length_nil, List.cons_append, List.nil_append, List.replicate, Nat.reduceSub, Nat.reduceAdd, x_add, x_sub, x_cmp, x_eq_ii, x_ne_ii, x_int_i, x_len_t, x_len_l, x_tup_l, x_tup_t, x_list_l, x_list_t, x_dSl_t, x_dSl_l, x_items_t, x_items_l, x_tru_n, x_tru_b, x_tru_i, x_tru_t, x_tru_l, x_asB, x_is_n, x_isNot_n, isNon_n, isNon_i, isNon_s, isNon_t, isNon_l, isNon_b, Bool.not_true, Bool.not_false, List.length_map, fnE, startE, Al0, lb, r1, hb2]
theorem al1 {R : D} {n1 : Int} (lb : fLen [rowD base] = .ok (.int n1))
    (dn : dRng3 [.int (n1 - 1), .int (-1), .int (-1)] = .ok (dnD base.length)) (o : forE (gfName 3) B__alike_1 (dnD base.length) [some (rowD base), some (rowD goal), some R, none, none, none] = .next [some (rowD base), some (rowD goal), some (matD base goal), none, none, none]) :
    Al1 [some (rowD base), some (rowD goal), some R, none, none, none] = .next [some (rowD base), some (rowD goal), some (matD base goal), none, none, none] := by
  simp only [sSeq_x, x_sSet, x_sIf, x_sRet, x_sRetN, x_sPar, x_sUnp, resF_ok, x_sDrop, x_sNext, x_sBreak, x_sCont, x_sRaise, x_sAug, augK_ok, x_sFor, x_sWhile, sKill_x, x_wipe0, x_wipe1, x_evL0, x_evL1, x_setL0, x_setL1, x_eVar, x_eC, x_eOp, x_eUn, x_eCall, x_eMS, x_asStr, x_aNil, x_aCons, x_eTup, x_eLst, x_eIf, x_eNot, x_eAnd, x_eOr, x_bAnd, x_bOr, x_bNot, x_bYes, x_eSl, x_oNone, x_oSome, asI_int, x_iSeq, x_iCall, x_gfName, x_gfTup, eLc, noX_is, Res.bind_ok, Res.bind_exc, flow_ok, flow_exc, seqK_next, seqK_ret, seqK_exc, seqK_brk, seqK_cont, loopK_next, loopK_cont, loopK_brk, loopK_ret, loopK_exc, must_ok, List.set_cons_succ, List.set_cons_zero, List.getD_cons_succ, List.getD_cons_zero, vD_some, if_true, if_false, Bool.false_eq_true, reduceIte, List.map_cons, List.map_nil, List.length_cons, List.length_nil, List.cons_append, List.nil_append, List.replicate, Nat.reduceSub, Nat.reduceAdd, x_add, x_sub, x_cmp, x_eq_ii, x_ne_ii, x_int_i, x_len_t, x_len_l, x_tup_l, x_tup_t, x_list_l, x_list_t, x_dSl_t, x_dSl_l, x_items_t, x_items_l, x_tru_n, x_tru_b, x_tru_i, x_tru_t, x_tru_l, x_asB, x_is_n, x_isNot_n, isNon_n, isNon_i, isNon_s, isNon_t, isNon_l, isNon_b, Bool.not_true, Bool.not_false, List.length_map, fnE, startE, Al1, lb, neg1, dn, o]
theorem alike_fin {a b R T : D} (h0 : Al0 [some a, some b, none, none, none, none] = .next [some a, some b, some R, none, none, none]) (h1 : Al1 [some a, some b, some R, none, none, none] = .next [some a, some b, some T, none, none, none]) : C__alike [a, b] = .ok T := by
  have e : F__alike [some a, some b, none, none, none, none] = .ret T := by
    rw [Al_eq]
    simp only [sSeq_x, x_sSet, x_sIf, x_sRet, x_sRetN, x_sPar, x_sUnp, resF_ok, x_sDrop, x_sNext, x_sBreak, x_sCont, x_sRaise, x_sAug, augK_ok, x_sFor, x_sWhile, sKill_x, x_wipe0, x_wipe1, x_evL0, x_evL1, x_setL0, x_setL1, x_eVar, x_eC, x_eOp, x_eUn, x_eCall, x_eMS, x_asStr, x_aNil, x_aCons, x_eTup, x_eLst, x_eIf, x_eNot, x_eAnd, x_eOr, x_bAnd, x_bOr, x_bNot, x_bYes, x_eSl, x_oNone, x_oSome, asI_int, x_iSeq, x_iCall, x_gfName, x_gfTup, eLc, noX_is, Res.bind_ok, Res.bind_exc, flow_ok, flow_exc, seqK_next, seqK_ret, seqK_exc, seqK_brk, seqK_cont, loopK_next, loopK_cont, loopK_brk, loopK_ret, loopK_exc, must_ok, List.set_cons_succ, List.set_cons_zero, List.getD_cons_succ, List.getD_cons_zero, vD_some, if_true, if_false, Bool.false_eq_true, reduceIte, List.map_cons, List.map_nil, List.length_cons, List.length_nil, List.cons_append, List.nil_append, List.replicate, Nat.reduceSub, Nat.reduceAdd, x_add, x_sub, x_cmp, x_eq_ii, x_ne_ii, x_int_i, x_len_t, x_len_l, x_tup_l, x_tup_t, x_list_l, x_list_t, x_dSl_t, x_dSl_l, x_items_t, x_items_l, x_tru_n, x_tru_b, x_tru_i, x_tru_t, x_tru_l, x_asB, x_is_n, x_isNot_n, isNon_n, isNon_i, isNon_s, isNon_t, isNon_l, isNon_b, Bool.not_true, Bool.not_false, List.length_map, fnE, startE, h0, h1, Al2]
  simp only [sSeq_x, x_sSet, x_sIf, x_sRet, x_sRetN, x_sPar, x_sUnp, resF_ok, x_sDrop, x_sNext, x_sBreak, x_sCont, x_sRaise, x_sAug, augK_ok, x_sFor, x_sWhile, sKill_x, x_wipe0, x_wipe1, x_evL0, x_evL1, x_setL0, x_setL1, x_eVar, x_eC, x_eOp, x_eUn, x_eCall, x_eMS, x_asStr, x_aNil, x_aCons, x_eTup, x_eLst, x_eIf, x_eNot, x_eAnd, x_eOr, x_bAnd, x_bOr, x_bNot, x_bYes, x_eSl, x_oNone, x_oSome, asI_int, x_iSeq, x_iCall, x_gfName, x_gfTup, eLc, noX_is, Res.bind_ok, Res.bind_exc, flow_ok, flow_exc, seqK_next, seqK_ret, seqK_exc, seqK_brk, seqK_cont, loopK_next, loopK_cont, loopK_brk, loopK_ret, loopK_exc, must_ok, List.set_cons_succ, List.set_cons_zero, List.getD_cons_succ, List.getD_cons_zero, vD_some, if_true, if_false, Bool.false_eq_true, reduceIte, List.map_cons, List.map_nil, List.length_cons, List.length_nil, List.cons_append, List.nil_append, List.replicate, Nat.reduceSub, Nat.reduceAdd, x_add, x_sub, x_cmp, x_eq_ii, x_ne_ii, x_int_i, x_len_t, x_len_l, x_tup_l, x_tup_t, x_list_l, x_list_t, x_dSl_t, x_dSl_l, x_items_t, x_items_l, x_tru_n, x_tru_b, x_tru_i, x_tru_t, x_tru_l, x_asB, x_is_n, x_isNot_n, isNon_n, isNon_i, isNon_s, isNon_t, isNon_l, isNon_b, Bool.not_true, Bool.not_false, List.length_map, fnE, startE, C__alike, e]
theorem alike_ok (hb : base.length ≤ 1000) (hg : goal.length ≤ 1000) : C__alike [rowD base, rowD goal] = .ok (matD base goal) := by
  have o := alike_out (base := base) hg base.length (Nat.le_refl _)
  rw [alike_start, ← List.replicate_succ'] at o
  have r1 := dRng1_nat (base.length + 1) (by omega)
  have c1 : ((base.length + 1 : Nat) : Int) = (base.length : Int) + 1 := by omega
  rw [c1] at r1
  exact alike_fin (al0 (row_len base) r1 (alike_lc (base := base) (zrow (goal := goal) hg) (base.length + 1))) (al1 (row_len base) (down_ok hb) o)
end
/-! ### pieces, the least delta -/
abbrev enD (x : En) : D := .tup [dN x.1, dN x.2.1, pcD x.2.2]
section
variable {base goal : List Nat}
theorem rng2_1 {n : Nat} (h : n ≤ 1000) : dRng2 [.int 1, .int ((n : Int) + 1)] = .ok ((List.range n).map fun i => dN (i + 1)) := by
  show (if _ then _ else _) = _
  rw [if_pos ⟨by omega, by omega, by omega, by omega, by omega⟩]
  unfold rng
  rw [show ((n : Int) + 1 - 1).toNat = n by omega]
  congr 1
  refine List.map_congr_left fun i _ => ?_
  show D.int _ = D.int _
  congr 1
  omega
theorem cut_mid {α : Type} (xs : List α) (a m : Nat) : cut xs (some (a : Int)) (some ((a : Int) + (m : Int))) = (xs.drop a).take m := by
  have := cut_lh xs a (a + m)
  rw [show a + m - a = m by omega] at this
  rw [← this]
  rfl
theorem pc_l1 (m : Option D) (p : Nat) (hg : goal.length ≤ 1000) (hp : p ≤ goal.length) : ∀ (xs : List Nat) (F : List En), (∀ i ∈ xs, i < goal.length - p) → F.length + xs.length ≤ 1000000 → forE (gfName 5) B__pieces_1 (xs.map fun i => dN (i + 1)) [some (rowD base), some (rowD goal), m, some (dN p), some (.lst (F.map enD)), none, none] =
    .next [some (rowD base), some (rowD goal), m, some (dN p), some (.lst ((F ++ xs.map fun i => (cPt (i + 1), p + (i + 1), Pc.pt ((goal.drop p).take (i + 1)))).map enD)), none, none]
  | [], F, _, _ => by rw [List.map_nil, List.map_nil, List.append_nil]; rfl
  | i :: xs, F, hx, hl => by
    rw [List.length_cons] at hl
    have hi := hx i List.mem_cons_self
    have ih := pc_l1 m p hg hp xs (F ++ [(cPt (i + 1), p + (i + 1), Pc.pt ((goal.drop p).take (i + 1)))]) (fun j hj => hx j (List.mem_cons_of_mem _ hj)) (by simp; omega)
    rw [List.append_assoc, List.singleton_append] at ih
    have c := pcost (n := i + 1) (by omega)
    have ct := cut_mid (goal.map dN) p (i + 1)
    rw [← List.map_drop, ← List.map_take] at ct
    have hl2 : F.length < 16777216 := by omega
    have st : B__pieces_1 [some (rowD base), some (rowD goal), m, some (dN p), some (.lst (F.map enD)), some (dN (i + 1)), none] = .next [some (rowD base), some (rowD goal), m, some (dN p), some (.lst ((F ++ [(cPt (i + 1), p + (i + 1), Pc.pt ((goal.drop p).take (i + 1)))]).map enD)), none, none] := by
      simp only [sSeq_x, x_sSet, x_sIf, x_sRet, x_sRetN, x_sPar, x_sUnp, resF_ok, x_sDrop, x_sNext, x_sBreak, x_sCont, x_sRaise, x_sAug, augK_ok, x_sFor, x_sWhile, sKill_x, x_wipe0, x_wipe1, x_evL0, x_evL1, x_setL0, x_setL1, x_eVar, x_eC, x_eOp, x_eUn, x_eCall, x_eMS, x_asStr, x_aNil, x_aCons, x_eTup, x_eLst, x_eIf, x_eNot, x_eAnd, x_eOr, x_bAnd, x_bOr, x_bNot, x_bYes, x_eSl, x_oNone, x_oSome, asI_int, x_iSeq, x_iCall, x_gfName, x_gfTup, eLc, noX_is, Res.bind_ok, Res.bind_exc, flow_ok, flow_exc, seqK_next, seqK_ret, seqK_exc, seqK_brk, seqK_cont, loopK_next, loopK_cont, loopK_brk, loopK_ret, loopK_exc, must_ok, List.set_cons_succ, List.set_cons_zero, List.getD_cons_succ, List.getD_cons_zero, vD_some, if_true, if_false, Bool.false_eq_true, reduceIte, List.map_cons, List.map_nil, List.length_cons, List.length_nil, List.cons_append, List.nil_append, List.replicate, Nat.reduceSub, Nat.reduceAdd, x_add, x_sub, x_cmp, x_eq_ii, x_ne_ii, x_int_i, x_len_t, x_len_l, x_tup_l, x_tup_t, x_list_l, x_list_t, x_dSl_t, x_dSl_l, x_items_t, x_items_l, x_tru_n, x_tru_b, x_tru_i, x_tru_t, x_tru_l, x_asB, x_is_n, x_isNot_n, isNon_n, isNon_i, isNon_s, isNon_t, isNon_l, isNon_b, Bool.not_true, Bool.not_false, List.length_map, fnE, startE, B__pieces_1, c, ct, sAppend, sl_eq, hl2, List.map_append, pcD]
      rfl
    rw [List.map_cons, forE_cons, List.map_cons, ← ih]
    show loopK _ _ = _
    simp only [sSeq_x, x_sSet, x_sIf, x_sRet, x_sRetN, x_sPar, x_sUnp, resF_ok, x_sDrop, x_sNext, x_sBreak, x_sCont, x_sRaise, x_sAug, augK_ok, x_sFor, x_sWhile, sKill_x, x_wipe0, x_wipe1, x_evL0, x_evL1, x_setL0, x_setL1, x_eVar, x_eC, x_eOp, x_eUn, x_eCall, x_eMS, x_asStr, x_aNil, x_aCons, x_eTup, x_eLst, x_eIf, x_eNot, x_eAnd, x_eOr, x_bAnd, x_bOr, x_bNot, x_bYes, x_eSl, x_oNone, x_oSome, asI_int, x_iSeq, x_iCall, x_gfName, x_gfTup, eLc, noX_is, Res.bind_ok, Res.bind_exc, flow_ok, flow_exc, seqK_next, seqK_ret, seqK_exc, seqK_brk, seqK_cont, loopK_next, loopK_cont, loopK_brk, loopK_ret, loopK_exc, must_ok, List.set_cons_succ, List.set_cons_zero, List.getD_cons_succ, List.getD_cons_zero, vD_some, if_true, if_false, Bool.false_eq_true, reduceIte, List.map_cons, List.map_nil, List.length_cons, List.length_nil, List.cons_append, List.nil_append, List.replicate, Nat.reduceSub, Nat.reduceAdd, x_add, x_sub, x_cmp, x_eq_ii, x_ne_ii, x_int_i, x_len_t, x_len_l, x_tup_l, x_tup_t, x_list_l, x_list_t, x_dSl_t, x_dSl_l, x_items_t, x_items_l, x_tru_n, x_tru_b, x_tru_i, x_tru_t, x_tru_l, x_asB, x_is_n, x_isNot_n, isNon_n, isNon_i, isNon_s, isNon_t, isNon_l, isNon_b, Bool.not_true, Bool.not_false, List.length_map, fnE, startE, st]
theorem pc_l3 (m : Option D) (p a : Nat) (ha : a < 10000) : ∀ (xs : List Nat) (F : List En), (∀ i ∈ xs, i < 1000) → F.length + xs.length ≤ 1000000 → forE (gfName 5) B__pieces_3 (xs.map fun i => dN (i + 1)) [some (rowD base), some (rowD goal), m, some (dN p), some (.lst (F.map enD)), none, some (dN a)] =
    .next [some (rowD base), some (rowD goal), m, some (dN p), some (.lst ((F ++ xs.map fun i => (cCp a (i + 1), p + (i + 1), Pc.cp a (i + 1))).map enD)), none, some (dN a)]
  | [], F, _, _ => by rw [List.map_nil, List.map_nil, List.append_nil]; rfl
  | i :: xs, F, hx, hl => by
    rw [List.length_cons] at hl
    have hi := hx i List.mem_cons_self
    have ih := pc_l3 m p a ha xs (F ++ [(cCp a (i + 1), p + (i + 1), Pc.cp a (i + 1))]) (fun j hj => hx j (List.mem_cons_of_mem _ hj)) (by simp; omega)
    rw [List.append_assoc, List.singleton_append] at ih
    have c := ccost (a := a) (n := i + 1) ha (by omega)
    have hl2 : F.length < 16777216 := by omega
    have st : B__pieces_3 [some (rowD base), some (rowD goal), m, some (dN p), some (.lst (F.map enD)), some (dN (i + 1)), some (dN a)] = .next [some (rowD base), some (rowD goal), m, some (dN p), some (.lst ((F ++ [(cCp a (i + 1), p + (i + 1), Pc.cp a (i + 1))]).map enD)), none, some (dN a)] := by
      simp only [sSeq_x, x_sSet, x_sIf, x_sRet, x_sRetN, x_sPar, x_sUnp, resF_ok, x_sDrop, x_sNext, x_sBreak, x_sCont, x_sRaise, x_sAug, augK_ok, x_sFor, x_sWhile, sKill_x, x_wipe0, x_wipe1, x_evL0, x_evL1, x_setL0, x_setL1, x_eVar, x_eC, x_eOp, x_eUn, x_eCall, x_eMS, x_asStr, x_aNil, x_aCons, x_eTup, x_eLst, x_eIf, x_eNot, x_eAnd, x_eOr, x_bAnd, x_bOr, x_bNot, x_bYes, x_eSl, x_oNone, x_oSome, asI_int, x_iSeq, x_iCall, x_gfName, x_gfTup, eLc, noX_is, Res.bind_ok, Res.bind_exc, flow_ok, flow_exc, seqK_next, seqK_ret, seqK_exc, seqK_brk, seqK_cont, loopK_next, loopK_cont, loopK_brk, loopK_ret, loopK_exc, must_ok, List.set_cons_succ, List.set_cons_zero, List.getD_cons_succ, List.getD_cons_zero, vD_some, if_true, if_false, Bool.false_eq_true, reduceIte, List.map_cons, List.map_nil, List.length_cons, List.length_nil, List.cons_append, List.nil_append, List.replicate, Nat.reduceSub, Nat.reduceAdd, x_add, x_sub, x_cmp, x_eq_ii, x_ne_ii, x_int_i, x_len_t, x_len_l, x_tup_l, x_tup_t, x_list_l, x_list_t, x_dSl_t, x_dSl_l, x_items_t, x_items_l, x_tru_n, x_tru_b, x_tru_i, x_tru_t, x_tru_l, x_asB, x_is_n, x_isNot_n, isNon_n, isNon_i, isNon_s, isNon_t, isNon_l, isNon_b, Bool.not_true, Bool.not_false, List.length_map, fnE, startE, B__pieces_3, c, sAppend, sl_eq, hl2, List.map_append, pcD]
      rfl
    rw [List.map_cons, forE_cons, List.map_cons, ← ih]
    show loopK _ _ = _
    simp only [sSeq_x, x_sSet, x_sIf, x_sRet, x_sRetN, x_sPar, x_sUnp, resF_ok, x_sDrop, x_sNext, x_sBreak, x_sCont, x_sRaise, x_sAug, augK_ok, x_sFor, x_sWhile, sKill_x, x_wipe0, x_wipe1, x_evL0, x_evL1, x_setL0, x_setL1, x_eVar, x_eC, x_eOp, x_eUn, x_eCall, x_eMS, x_asStr, x_aNil, x_aCons, x_eTup, x_eLst, x_eIf, x_eNot, x_eAnd, x_eOr, x_bAnd, x_bOr, x_bNot, x_bYes, x_eSl, x_oNone, x_oSome, asI_int, x_iSeq, x_iCall, x_gfName, x_gfTup, eLc, noX_is, Res.bind_ok, Res.bind_exc, flow_ok, flow_exc, seqK_next, seqK_ret, seqK_exc, seqK_brk, seqK_cont, loopK_next, loopK_cont, loopK_brk, loopK_ret, loopK_exc, must_ok, List.set_cons_succ, List.set_cons_zero, List.getD_cons_succ, List.getD_cons_zero, vD_some, if_true, if_false, Bool.false_eq_true, reduceIte, List.map_cons, List.map_nil, List.length_cons, List.length_nil, List.cons_append, List.nil_append, List.replicate, Nat.reduceSub, Nat.reduceAdd, x_add, x_sub, x_cmp, x_eq_ii, x_ne_ii, x_int_i, x_len_t, x_len_l, x_tup_l, x_tup_t, x_list_l, x_list_t, x_dSl_t, x_dSl_l, x_items_t, x_items_l, x_tru_n, x_tru_b, x_tru_i, x_tru_t, x_tru_l, x_asB, x_is_n, x_isNot_n, isNon_n, isNon_i, isNon_s, isNon_t, isNon_l, isNon_b, Bool.not_true, Bool.not_false, List.length_map, fnE, startE, st]
abbrev cpL (base goal : List Nat) (p a : Nat) : List En := (List.range (lcp (base.drop a) (goal.drop p))).map fun i => (cCp a (i + 1), p + (i + 1), Pc.cp a (i + 1))
theorem cpL_len (p a : Nat) : (cpL base goal p a).length ≤ goal.length := by
  have h := (lcp_le (base.drop a) (goal.drop p)).2
  rw [List.length_drop] at h
  rw [List.length_map, List.length_range]
  omega
theorem rowsF_get {a : Nat} (h : a ≤ base.length) : (rowsF base goal 0)[a]? = some (rowL (AR base goal a)) := by
  unfold rowsF
  rw [List.getElem?_map, List.getElem?_range' (by omega), Nat.one_mul, Nat.zero_add]
  rfl
theorem pc_l2 (p : Nat) (hb : base.length ≤ 1000) (hg : goal.length ≤ 900) (hp : p ≤ goal.length) : ∀ (xs : List Nat) (F : List En), (∀ a ∈ xs, a < base.length) → F.length + 900 * xs.length ≤ 1000000 → forE (gfName 6) B__pieces_2 (xs.map fun a => dN a) [some (rowD base), some (rowD goal), some (matD base goal), some (dN p), some (.lst (F.map enD)), none, none] =
    .next [some (rowD base), some (rowD goal), some (matD base goal), some (dN p), some (.lst ((F ++ xs.flatMap fun a => cpL base goal p a).map enD)), none, none]
  | [], F, _, _ => by rw [List.map_nil, List.flatMap_nil, List.append_nil]; rfl
  | a :: xs, F, hx, hl => by
    rw [List.length_cons] at hl
    have ha := hx a List.mem_cons_self
    have hc := cpL_len (base := base) (goal := goal) p a
    have ih := pc_l2 p hb hg hp xs (F ++ cpL base goal p a) (fun j hj => hx j (List.mem_cons_of_mem _ hj)) (by rw [List.length_append]; omega)
    rw [List.append_assoc] at ih
    have hlc := (lcp_le (base.drop a) (goal.drop p)).2
    rw [List.length_drop] at hlc
    have l3 := pc_l3 (base := base) (goal := goal) (some (matD base goal)) p a (by omega) (List.range (lcp (base.drop a) (goal.drop p))) F (fun i hi => by have := List.mem_range.mp hi; omega) (by rw [List.length_range]; omega)
    have i1 : dIx (matD base goal) (dN a) = .ok (rowL (AR base goal a)) := dIx_lst (rowsF_get (by omega))
    have i2 : dIx (rowL (AR base goal a)) (dN p) = .ok (dN (lcp (base.drop a) (goal.drop p))) := dIx_lm (AR_get hp)
    have r := rng2_1 (n := lcp (base.drop a) (goal.drop p)) (by omega)
    have st : B__pieces_2 [some (rowD base), some (rowD goal), some (matD base goal), some (dN p), some (.lst (F.map enD)), none, some (dN a)] = .next [some (rowD base), some (rowD goal), some (matD base goal), some (dN p), some (.lst ((F ++ cpL base goal p a).map enD)), none, none] := by
      generalize matD base goal = MD at i1 l3 ⊢
      generalize D.lst ((F ++ cpL base goal p a).map enD) = E1 at l3 ⊢
      simp only [sSeq_x, x_sSet, x_sIf, x_sRet, x_sRetN, x_sPar, x_sUnp, resF_ok, x_sDrop, x_sNext, x_sBreak, x_sCont, x_sRaise, x_sAug, augK_ok, x_sFor, x_sWhile, sKill_x, x_wipe0, x_wipe1, x_evL0, x_evL1, x_setL0, x_setL1, x_eVar, x_eC, x_eOp, x_eUn, x_eCall, x_eMS, x_asStr, x_aNil, x_aCons, x_eTup, x_eLst, x_eIf, x_eNot, x_eAnd, x_eOr, x_bAnd, x_bOr, x_bNot, x_bYes, x_eSl, x_oNone, x_oSome, asI_int, x_iSeq, x_iCall, x_gfName, x_gfTup, eLc, noX_is, Res.bind_ok, Res.bind_exc, flow_ok, flow_exc, seqK_next, seqK_ret, seqK_exc, seqK_brk, seqK_cont, loopK_next, loopK_cont, loopK_brk, loopK_ret, loopK_exc, must_ok, List.set_cons_succ, List.set_cons_zero, List.getD_cons_succ, List.getD_cons_zero, vD_some, if_true, if_false, Bool.false_eq_true, reduceIte, List.map_cons, List.map_nil, List.length_cons, List.length_nil, List.cons_append, List.nil_append, List.replicate, Nat.reduceSub, Nat.reduceAdd, x_add, x_sub, x_cmp, x_eq_ii, x_ne_ii, x_int_i, x_len_t, x_len_l, x_tup_l, x_tup_t, x_list_l, x_list_t, x_dSl_t, x_dSl_l, x_items_t, x_items_l, x_tru_n, x_tru_b, x_tru_i, x_tru_t, x_tru_l, x_asB, x_is_n, x_isNot_n, isNon_n, isNon_i, isNon_s, isNon_t, isNon_l, isNon_b, Bool.not_true, Bool.not_false, List.length_map, fnE, startE, B__pieces_2, i1, i2, r, l3]
    rw [List.map_cons, forE_cons, List.flatMap_cons, ← ih]
    show loopK _ _ = _
    generalize matD base goal = MD at st ⊢
    generalize D.lst ((F ++ cpL base goal p a).map enD) = E1 at st ⊢
    simp only [sSeq_x, x_sSet, x_sIf, x_sRet, x_sRetN, x_sPar, x_sUnp, resF_ok, x_sDrop, x_sNext, x_sBreak, x_sCont, x_sRaise, x_sAug, augK_ok, x_sFor, x_sWhile, sKill_x, x_wipe0, x_wipe1, x_evL0, x_evL1, x_setL0, x_setL1, x_eVar, x_eC, x_eOp, x_eUn, x_eCall, x_eMS, x_asStr, x_aNil, x_aCons, x_eTup, x_eLst, x_eIf, x_eNot, x_eAnd, x_eOr, x_bAnd, x_bOr, x_bNot, x_bYes, x_eSl, x_oNone, x_oSome, asI_int, x_iSeq, x_iCall, x_gfName, x_gfTup, eLc, noX_is, Res.bind_ok, Res.bind_exc, flow_ok, flow_exc, seqK_next, seqK_ret, seqK_exc, seqK_brk, seqK_cont, loopK_next, loopK_cont, loopK_brk, loopK_ret, loopK_exc, must_ok, List.set_cons_succ, List.set_cons_zero, List.getD_cons_succ, List.getD_cons_zero, vD_some, if_true, if_false, Bool.false_eq_true, reduceIte, List.map_cons, List.map_nil, List.length_cons, List.length_nil, List.cons_append, List.nil_append, List.replicate, Nat.reduceSub, Nat.reduceAdd, x_add, x_sub, x_cmp, x_eq_ii, x_ne_ii, x_int_i, x_len_t, x_len_l, x_tup_l, x_tup_t, x_list_l, x_list_t, x_dSl_t, x_dSl_l, x_items_t, x_items_l, x_tru_n, x_tru_b, x_tru_i, x_tru_t, x_tru_l, x_asB, x_is_n, x_isNot_n, isNon_n, isNon_i, isNon_s, isNon_t, isNon_l, isNon_b, Bool.not_true, Bool.not_false, List.length_map, fnE, startE, st]
theorem pieces_ok {p : Nat} (hb : base.length ≤ 1000) (hg : goal.length ≤ 900) (hp : p ≤ goal.length) : C__pieces [rowD base, rowD goal, matD base goal, dN p] = .ok (.lst ((PL base goal p).map enD)) := by
  have l1 := pc_l1 (base := base) (some (matD base goal)) p (by omega) hp (List.range (goal.length - p)) [] (fun i hi => List.mem_range.mp hi) (by rw [List.length_range, List.length_nil]; omega)
  have l2 := pc_l2 (base := base) p hb hg hp (List.range base.length) ((List.range (goal.length - p)).map fun i => (cPt (i + 1), p + (i + 1), Pc.pt ((goal.drop p).take (i + 1)))) (fun a ha => List.mem_range.mp ha) (by rw [List.length_map, List.length_range, List.length_range]; omega)
  rw [List.nil_append, List.map_nil] at l1
  have r1 := rng2_1 (n := goal.length - p) (by omega)
  have c1 : ((goal.length - p : Nat) : Int) = (goal.length : Int) - (p : Int) := by omega
  rw [c1] at r1
  have lb := row_len base
  have lg := row_len goal
  have r2 := dRng1_nat base.length (by omega)
  have ep : ((List.range (goal.length - p)).map fun i => (cPt (i + 1), p + (i + 1), Pc.pt ((goal.drop p).take (i + 1)))) ++ ((List.range base.length).flatMap fun a => cpL base goal p a) = PL base goal p := rfl
  rw [ep] at l2
  generalize matD base goal = MD at l1 l2 ⊢
  generalize D.lst ((PL base goal p).map enD) = E2 at l2 ⊢
  generalize D.lst (((List.range (goal.length - p)).map fun i => (cPt (i + 1), p + (i + 1), Pc.pt ((goal.drop p).take (i + 1)))).map enD) = E1 at l1 l2
  have e : F__pieces [some (rowD base), some (rowD goal), some MD, some (dN p), none, none, none] = .ret E2 := by
    simp only [sSeq_x, x_sSet, x_sIf, x_sRet, x_sRetN, x_sPar, x_sUnp, resF_ok, x_sDrop, x_sNext, x_sBreak, x_sCont, x_sRaise, x_sAug, augK_ok, x_sFor, x_sWhile, sKill_x, x_wipe0, x_wipe1, x_evL0, x_evL1, x_setL0, x_setL1, x_eVar, x_eC, x_eOp, x_eUn, x_eCall, x_eMS, x_asStr, x_aNil, x_aCons, x_eTup, x_eLst, x_eIf, x_eNot, x_eAnd, x_eOr, x_bAnd, x_bOr, x_bNot, x_bYes, x_eSl, x_oNone, x_oSome, asI_int, x_iSeq, x_iCall, x_gfName, x_gfTup, eLc, noX_is, Res.bind_ok, Res.bind_exc, flow_ok, flow_exc, seqK_next, seqK_ret, seqK_exc, seqK_brk, seqK_cont, loopK_next, loopK_cont, loopK_brk, loopK_ret, loopK_exc, must_ok, List.set_cons_succ, List.set_cons_zero, List.getD_cons_succ, List.getD_cons_zero, vD_some, if_true, if_false, Bool.false_eq_true, reduceIte, List.map_cons, List.map_nil, List.length_cons, List.length_nil, List.cons_append, List.nil_append, List.replicate, Nat.reduceSub, Nat.reduceAdd, x_add, x_sub, x_cmp, x_eq_ii, x_ne_ii, x_int_i, x_len_t, x_len_l, x_tup_l, x_tup_t, x_list_l, x_list_t, x_dSl_t, x_dSl_l, x_items_t, x_items_l, x_tru_n, x_tru_b, x_tru_i, x_tru_t, x_tru_l, x_asB, x_is_n, x_isNot_n, isNon_n, isNon_i, isNon_s, isNon_t, isNon_l, isNon_b, Bool.not_true, Bool.not_false, List.length_map, fnE, startE, F__pieces, lg, r1, l1, lb, r2, l2]
  simp only [sSeq_x, x_sSet, x_sIf, x_sRet, x_sRetN, x_sPar, x_sUnp, resF_ok, x_sDrop, x_sNext, x_sBreak, x_sCont, x_sRaise, x_sAug, augK_ok, x_sFor, x_sWhile, sKill_x, x_wipe0, x_wipe1, x_evL0, x_evL1, x_setL0, x_setL1, x_eVar, x_eC, x_eOp, x_eUn, x_eCall, x_eMS, x_asStr, x_aNil, x_aCons, x_eTup, x_eLst, x_eIf, x_eNot, x_eAnd, x_eOr, x_bAnd, x_bOr, x_bNot, x_bYes, x_eSl, x_oNone, x_oSome, asI_int, x_iSeq, x_iCall, x_gfName, x_gfTup, eLc, noX_is, Res.bind_ok, Res.bind_exc, flow_ok, flow_exc, seqK_next, seqK_ret, seqK_exc, seqK_brk, seqK_cont, loopK_next, loopK_cont, loopK_brk, loopK_ret, loopK_exc, must_ok, List.set_cons_succ, List.set_cons_zero, List.getD_cons_succ, List.getD_cons_zero, vD_some, if_true, if_false, Bool.false_eq_true, reduceIte, List.map_cons, List.map_nil, List.length_cons, List.length_nil, List.cons_append, List.nil_append, List.replicate, Nat.reduceSub, Nat.reduceAdd, x_add, x_sub, x_cmp, x_eq_ii, x_ne_ii, x_int_i, x_len_t, x_len_l, x_tup_l, x_tup_t, x_list_l, x_list_t, x_dSl_t, x_dSl_l, x_items_t, x_items_l, x_tru_n, x_tru_b, x_tru_i, x_tru_t, x_tru_l, x_asB, x_is_n, x_isNot_n, isNon_n, isNon_i, isNon_s, isNon_t, isNon_l, isNon_b, Bool.not_true, Bool.not_false, List.length_map, fnE, startE, C__pieces, e]
/-! the fill of prices and best -/
def prV (cur : Option En) : Nat := match cur with
  | none => 0
  | some c => c.1
def bsV (cur : Option En) : D := match cur with
  | none => .non
  | some c => .tup [dN c.2.1, pcD c.2.2]
theorem ld_step (m : Option D) (p : Nat) (tl : List Nat) (bl : List D) (cur : Option En) (x : En) (A : List Nat) (B : List D) (hA : A.length = p) (hB : B.length = p) (j : Nat) (hj : x.2.1 = p + 1 + j) (hjl : j < tl.length) :
    B_least_delta_2 [some (rowD base), some (rowD goal), m, some (rowL (A ++ prV cur :: tl)), some (.lst (B ++ bsV cur :: bl)), some (dN p), some (dN x.1), some (dN x.2.1), some (pcD x.2.2), none] =
    .next [some (rowD base), some (rowD goal), m, some (rowL (A ++ prV (bstep tl p cur x) :: tl)), some (.lst (B ++ bsV (bstep tl p cur x) :: bl)), some (dN p), none, none, none, none] := by
  have hub : (x.1 : Int) + ((tl.getD j 0 : Nat) : Int) = ((upE tl p x : Nat) : Int) := by
    unfold upE
    rw [hj, show p + 1 + j - (p + 1) = j by omega]
    omega
  have i1 : dIx (rowL (A ++ prV cur :: tl)) (dN x.2.1) = .ok (dN (tl.getD j 0)) := dIx_lm (by
    rw [hj, List.getElem?_append_right (by omega), hA, show p + 1 + j - p = j + 1 by omega, List.getElem?_cons_succ, List.getD_eq_getElem?_getD, List.getElem?_eq_getElem hjl]
    rfl)
  have i2 : dIx (rowL (A ++ prV cur :: tl)) (dN p) = .ok (dN (prV cur)) := dIx_lm (by
    rw [List.getElem?_append_right (by omega), hA, Nat.sub_self]
    rfl)
  have i3 : dIx (.lst (B ++ bsV cur :: bl)) (dN p) = .ok (bsV cur) := dIx_lst (by
    rw [List.getElem?_append_right (by omega), hB, Nat.sub_self]
    rfl)
  have s1 : ((A ++ prV cur :: tl).map dN).set p (dN (upE tl p x)) = (A ++ upE tl p x :: tl).map dN := by
    rw [← List.map_set]
    have := set_mid A (prV cur) (upE tl p x) tl
    rw [hA] at this
    rw [this]
  have s2 : (B ++ bsV cur :: bl).set p (.tup [dN x.2.1, pcD x.2.2]) = B ++ .tup [dN x.2.1, pcD x.2.2] :: bl := by
    have := set_mid B (bsV cur) (.tup [dN x.2.1, pcD x.2.2]) bl
    rw [hB] at this
    exact this
  have p1 := put_ok (ρ := [some (rowD base), some (rowD goal), m, some (rowL (A ++ prV cur :: tl)), some (.lst (B ++ bsV cur :: bl)), some (dN p), some (dN x.1), some (dN x.2.1), some (pcD x.2.2), none]) (i := 3) (fi := eVar 5) (f := eOp dAdd (eVar 6) (eOp dIx (eVar 3) (eVar 7))) (d := dN (upE tl p x)) (n := p) rfl
    (by simp only [x_eOp, x_eVar, List.getD_cons_succ, List.getD_cons_zero, vD_some, Res.bind_ok, i1, x_add, hub]) rfl (by rw [List.length_map, List.length_append, List.length_cons]; omega)
  rw [s1] at p1
  have p1 : sPut 3 (eVar 5) (eOp dAdd (eVar 6) (eOp dIx (eVar 3) (eVar 7))) [some (rowD base), some (rowD goal), m, some (rowL (A ++ prV cur :: tl)), some (.lst (B ++ bsV cur :: bl)), some (dN p), some (dN x.1), some (dN x.2.1), some (pcD x.2.2), none] = .next [some (rowD base), some (rowD goal), m, some (rowL (A ++ upE tl p x :: tl)), some (.lst (B ++ bsV cur :: bl)), some (dN p), some (dN x.1), some (dN x.2.1), some (pcD x.2.2), none] := p1
  have p2 := put_ok (ρ := [some (rowD base), some (rowD goal), m, some (rowL (A ++ upE tl p x :: tl)), some (.lst (B ++ bsV cur :: bl)), some (dN p), some (dN x.1), some (dN x.2.1), some (pcD x.2.2), none]) (i := 4) (fi := eVar 5) (f := eTup (aCons (eVar 7) (aCons (eVar 8) aNil))) (d := .tup [dN x.2.1, pcD x.2.2]) (n := p) rfl
    (by simp only [x_eTup, x_aCons, x_aNil, x_eVar, List.getD_cons_succ, List.getD_cons_zero, vD_some, Res.bind_ok]) rfl (by rw [List.length_append, List.length_cons]; omega)
  rw [s2] at p2
  have p2 : sPut 4 (eVar 5) (eTup (aCons (eVar 7) (aCons (eVar 8) aNil))) [some (rowD base), some (rowD goal), m, some (rowL (A ++ upE tl p x :: tl)), some (.lst (B ++ bsV cur :: bl)), some (dN p), some (dN x.1), some (dN x.2.1), some (pcD x.2.2), none] = .next [some (rowD base), some (rowD goal), m, some (rowL (A ++ upE tl p x :: tl)), some (.lst (B ++ .tup [dN x.2.1, pcD x.2.2] :: bl)), some (dN p), some (dN x.1), some (dN x.2.1), some (pcD x.2.2), none] := p2
  cases cur with
  | none =>
    have i3 : dIx (.lst (B ++ bsV none :: bl)) (dN p) = .ok .non := i3
    show _ = Px.Flow.next [some (rowD base), some (rowD goal), m, some (rowL (A ++ upE tl p x :: tl)), some (.lst (B ++ .tup [dN x.2.1, pcD x.2.2] :: bl)), some (dN p), none, none, none, none]
    generalize rowL (A ++ prV none :: tl) = W1 at *
    generalize rowL (A ++ upE tl p x :: tl) = W2 at *
    generalize D.lst (B ++ bsV none :: bl) = W3 at *
    generalize D.lst (B ++ .tup [dN x.2.1, pcD x.2.2] :: bl) = W4 at *
    simp only [sSeq_x, x_sSet, x_sIf, x_sRet, x_sRetN, x_sPar, x_sUnp, resF_ok, x_sDrop, x_sNext, x_sBreak, x_sCont, x_sRaise, x_sAug, augK_ok, x_sFor, x_sWhile, sKill_x, x_wipe0, x_wipe1, x_evL0, x_evL1, x_setL0, x_setL1, x_eVar, x_eC, x_eOp, x_eUn, x_eCall, x_eMS, x_asStr, x_aNil, x_aCons, x_eTup, x_eLst, x_eIf, x_eNot, x_eAnd, x_eOr, x_bAnd, x_bOr, x_bNot, x_bYes, x_eSl, x_oNone, x_oSome, asI_int, x_iSeq, x_iCall, x_gfName, x_gfTup, eLc, noX_is, Res.bind_ok, Res.bind_exc, flow_ok, flow_exc, seqK_next, seqK_ret, seqK_exc, seqK_brk, seqK_cont, loopK_next, loopK_cont, loopK_brk, loopK_ret, loopK_exc, must_ok, List.set_cons_succ, List.set_cons_zero, List.getD_cons_succ, List.getD_cons_zero, vD_some, if_true, if_false, Bool.false_eq_true, reduceIte, List.map_cons, List.map_nil, List.length_cons, List.length_nil, List.cons_append, List.nil_append, List.replicate, Nat.reduceSub, Nat.reduceAdd, x_add, x_sub, x_cmp, x_eq_ii, x_ne_ii, x_int_i, x_len_t, x_len_l, x_tup_l, x_tup_t, x_list_l, x_list_t, x_dSl_t, x_dSl_l, x_items_t, x_items_l, x_tru_n, x_tru_b, x_tru_i, x_tru_t, x_tru_l, x_asB, x_is_n, x_isNot_n, isNon_n, isNon_i, isNon_s, isNon_t, isNon_l, isNon_b, Bool.not_true, Bool.not_false, List.length_map, fnE, startE, B_least_delta_2, i3, p1, p2]
  | some c =>
    have i3 : dIx (.lst (B ++ bsV (some c) :: bl)) (dN p) = .ok (.tup [dN c.2.1, pcD c.2.2]) := i3
    have i2 : dIx (rowL (A ++ prV (some c) :: tl)) (dN p) = .ok (dN c.1) := i2
    by_cases h : upE tl p x < c.1
    · have g : iLt ((upE tl p x : Nat) : Int) (c.1 : Int) = true := decide_eq_true (by omega)
      have e : bstep tl p (some c) x = some (upE tl p x, x.2) := if_pos h
      rw [e]
      show _ = Px.Flow.next [some (rowD base), some (rowD goal), m, some (rowL (A ++ upE tl p x :: tl)), some (.lst (B ++ .tup [dN x.2.1, pcD x.2.2] :: bl)), some (dN p), none, none, none, none]
      generalize rowL (A ++ prV (some c) :: tl) = W1 at *
      generalize rowL (A ++ upE tl p x :: tl) = W2 at *
      generalize D.lst (B ++ bsV (some c) :: bl) = W3 at *
      generalize D.lst (B ++ .tup [dN x.2.1, pcD x.2.2] :: bl) = W4 at *
      simp only [sSeq_x, x_sSet, x_sIf, x_sRet, x_sRetN, x_sPar, x_sUnp, resF_ok, x_sDrop, x_sNext, x_sBreak, x_sCont, x_sRaise, x_sAug, augK_ok, x_sFor, x_sWhile, sKill_x, x_wipe0, x_wipe1, x_evL0, x_evL1, x_setL0, x_setL1, x_eVar, x_eC, x_eOp, x_eUn, x_eCall, x_eMS, x_asStr, x_aNil, x_aCons, x_eTup, x_eLst, x_eIf, x_eNot, x_eAnd, x_eOr, x_bAnd, x_bOr, x_bNot, x_bYes, x_eSl, x_oNone, x_oSome, asI_int, x_iSeq, x_iCall, x_gfName, x_gfTup, eLc, noX_is, Res.bind_ok, Res.bind_exc, flow_ok, flow_exc, seqK_next, seqK_ret, seqK_exc, seqK_brk, seqK_cont, loopK_next, loopK_cont, loopK_brk, loopK_ret, loopK_exc, must_ok, List.set_cons_succ, List.set_cons_zero, List.getD_cons_succ, List.getD_cons_zero, vD_some, if_true, if_false, Bool.false_eq_true, reduceIte, List.map_cons, List.map_nil, List.length_cons, List.length_nil, List.cons_append, List.nil_append, List.replicate, Nat.reduceSub, Nat.reduceAdd, x_add, x_sub, x_cmp, x_eq_ii, x_ne_ii, x_int_i, x_len_t, x_len_l, x_tup_l, x_tup_t, x_list_l, x_list_t, x_dSl_t, x_dSl_l, x_items_t, x_items_l, x_tru_n, x_tru_b, x_tru_i, x_tru_t, x_tru_l, x_asB, x_is_n, x_isNot_n, isNon_n, isNon_i, isNon_s, isNon_t, isNon_l, isNon_b, Bool.not_true, Bool.not_false, List.length_map, fnE, startE, B_least_delta_2, i3, i1, i2, hub, g, p1, p2]
    · have g : iLt ((upE tl p x : Nat) : Int) (c.1 : Int) = false := decide_eq_false (by omega)
      have e : bstep tl p (some c) x = some c := if_neg h
      rw [e]
      generalize rowL (A ++ prV (some c) :: tl) = W1 at *
      generalize D.lst (B ++ bsV (some c) :: bl) = W3 at *
      simp only [sSeq_x, x_sSet, x_sIf, x_sRet, x_sRetN, x_sPar, x_sUnp, resF_ok, x_sDrop, x_sNext, x_sBreak, x_sCont, x_sRaise, x_sAug, augK_ok, x_sFor, x_sWhile, sKill_x, x_wipe0, x_wipe1, x_evL0, x_evL1, x_setL0, x_setL1, x_eVar, x_eC, x_eOp, x_eUn, x_eCall, x_eMS, x_asStr, x_aNil, x_aCons, x_eTup, x_eLst, x_eIf, x_eNot, x_eAnd, x_eOr, x_bAnd, x_bOr, x_bNot, x_bYes, x_eSl, x_oNone, x_oSome, asI_int, x_iSeq, x_iCall, x_gfName, x_gfTup, eLc, noX_is, Res.bind_ok, Res.bind_exc, flow_ok, flow_exc, seqK_next, seqK_ret, seqK_exc, seqK_brk, seqK_cont, loopK_next, loopK_cont, loopK_brk, loopK_ret, loopK_exc, must_ok, List.set_cons_succ, List.set_cons_zero, List.getD_cons_succ, List.getD_cons_zero, vD_some, if_true, if_false, Bool.false_eq_true, reduceIte, List.map_cons, List.map_nil, List.length_cons, List.length_nil, List.cons_append, List.nil_append, List.replicate, Nat.reduceSub, Nat.reduceAdd, x_add, x_sub, x_cmp, x_eq_ii, x_ne_ii, x_int_i, x_len_t, x_len_l, x_tup_l, x_tup_t, x_list_l, x_list_t, x_dSl_t, x_dSl_l, x_items_t, x_items_l, x_tru_n, x_tru_b, x_tru_i, x_tru_t, x_tru_l, x_asB, x_is_n, x_isNot_n, isNon_n, isNon_i, isNon_s, isNon_t, isNon_l, isNon_b, Bool.not_true, Bool.not_false, List.length_map, fnE, startE, B_least_delta_2, i3, i1, i2, hub, g]
theorem ld_in (m : Option D) (p : Nat) (tl : List Nat) (bl : List D) (A : List Nat) (B : List D) (hA : A.length = p) (hB : B.length = p) : ∀ (xs : List En) (cur : Option En), (∀ x ∈ xs, ∃ j, x.2.1 = p + 1 + j ∧ j < tl.length) →
    forE (gfTup [6, 7, 8]) B_least_delta_2 (xs.map enD) [some (rowD base), some (rowD goal), m, some (rowL (A ++ prV cur :: tl)), some (.lst (B ++ bsV cur :: bl)), some (dN p), none, none, none, none] =
    .next [some (rowD base), some (rowD goal), m, some (rowL (A ++ prV (xs.foldl (bstep tl p) cur) :: tl)), some (.lst (B ++ bsV (xs.foldl (bstep tl p) cur) :: bl)), some (dN p), none, none, none, none]
  | [], cur, _ => rfl
  | x :: xs, cur, h => by
    obtain ⟨j, hj, hjl⟩ := h x List.mem_cons_self
    have st := ld_step (base := base) (goal := goal) m p tl bl cur x A B hA hB j hj hjl
    have ih := ld_in m p tl bl A B hA hB xs (bstep tl p cur x) fun y hy => h y (List.mem_cons_of_mem _ hy)
    rw [List.map_cons, forE_cons, List.foldl_cons, ← ih]
    show loopK _ _ = _
    generalize rowL (A ++ prV cur :: tl) = W1 at *
    generalize D.lst (B ++ bsV cur :: bl) = W2 at *
    generalize rowL (A ++ prV (bstep tl p cur x) :: tl) = W3 at *
    generalize D.lst (B ++ bsV (bstep tl p cur x) :: bl) = W4 at *
    simp only [sSeq_x, x_sSet, x_sIf, x_sRet, x_sRetN, x_sPar, x_sUnp, resF_ok, x_sDrop, x_sNext, x_sBreak, x_sCont, x_sRaise, x_sAug, augK_ok, x_sFor, x_sWhile, sKill_x, x_wipe0, x_wipe1, x_evL0, x_evL1, x_setL0, x_setL1, x_eVar, x_eC, x_eOp, x_eUn, x_eCall, x_eMS, x_asStr, x_aNil, x_aCons, x_eTup, x_eLst, x_eIf, x_eNot, x_eAnd, x_eOr, x_bAnd, x_bOr, x_bNot, x_bYes, x_eSl, x_oNone, x_oSome, asI_int, x_iSeq, x_iCall, x_gfName, x_gfTup, eLc, noX_is, Res.bind_ok, Res.bind_exc, flow_ok, flow_exc, seqK_next, seqK_ret, seqK_exc, seqK_brk, seqK_cont, loopK_next, loopK_cont, loopK_brk, loopK_ret, loopK_exc, must_ok, List.set_cons_succ, List.set_cons_zero, List.getD_cons_succ, List.getD_cons_zero, vD_some, if_true, if_false, Bool.false_eq_true, reduceIte, List.map_cons, List.map_nil, List.length_cons, List.length_nil, List.cons_append, List.nil_append, List.replicate, Nat.reduceSub, Nat.reduceAdd, x_add, x_sub, x_cmp, x_eq_ii, x_ne_ii, x_int_i, x_len_t, x_len_l, x_tup_l, x_tup_t, x_list_l, x_list_t, x_dSl_t, x_dSl_l, x_items_t, x_items_l, x_tru_n, x_tru_b, x_tru_i, x_tru_t, x_tru_l, x_asB, x_is_n, x_isNot_n, isNon_n, isNon_i, isNon_s, isNon_t, isNon_l, isNon_b, Bool.not_true, Bool.not_false, List.length_map, fnE, startE, st]
abbrev bsD (y : Nat × Pc) : D := .tup [dN y.1, pcD y.2]
theorem ld_out (hb : base.length ≤ 1000) (hg : goal.length ≤ 900) (ho : ∀ x ∈ goal, x < 256) : ∀ (p k : Nat), p + k = goal.length →
    forE (gfName 5) B_least_delta_1 (dnD p) [some (rowD base), some (rowD goal), some (matD base goal), some (rowL (List.replicate p 0 ++ (TT base goal k).1)), some (.lst (List.replicate p .non ++ (TT base goal k).2.map bsD)), none, none, none, none, none] =
    .next [some (rowD base), some (rowD goal), some (matD base goal), some (rowL (TT base goal goal.length).1), some (.lst ((TT base goal goal.length).2.map bsD)), none, none, none, none, none]
  | 0, k, h => by
    have : k = goal.length := by omega
    subst this
    rfl
  | p + 1, k, h => by
    have ih := ld_out hb hg ho p (k + 1) (by omega)
    have pk := pieces_ok (base := base) (goal := goal) (p := p) hb hg (by omega)
    have ep : goal.length - (k + 1) = p := by omega
    obtain ⟨d, e1, e2⟩ := TT_succ (base := base) (goal := goal) (k := k) (by omega)
    rw [ep] at e1
    have hl := (TT_len (base := base) (goal := goal) k (by omega)).1
    have li := ld_in (base := base) (goal := goal) (some (matD base goal)) p (TT base goal k).1 ((TT base goal k).2.map bsD) (List.replicate p 0) (List.replicate p .non) (List.length_replicate ..) (List.length_replicate ..) (PL base goal p) none fun x hx => by
      obtain ⟨m, hm⟩ := PL_ok ho hx
      have h1 := hm.pos
      have h2 := hm.le
      exact ⟨m - 1, by rw [hm.at_]; omega, by omega⟩
    have e1' : (PL base goal p).foldl (bstep (TT base goal k).1 p) none = some d := e1
    rw [e1'] at li
    have f1 : List.replicate p 0 ++ prV none :: (TT base goal k).1 = List.replicate (p + 1) 0 ++ (TT base goal k).1 := by
      rw [List.replicate_succ', List.append_assoc]
      rfl
    have f2 : List.replicate p D.non ++ bsV none :: (TT base goal k).2.map bsD = List.replicate (p + 1) .non ++ (TT base goal k).2.map bsD := by
      rw [List.replicate_succ', List.append_assoc]
      rfl
    have f3 : List.replicate p 0 ++ prV (some d) :: (TT base goal k).1 = List.replicate p 0 ++ (TT base goal (k + 1)).1 := by rw [e2]; rfl
    have f4 : List.replicate p D.non ++ bsV (some d) :: (TT base goal k).2.map bsD = List.replicate p .non ++ (TT base goal (k + 1)).2.map bsD := by rw [e2]; rfl
    rw [f1, f2, f3, f4] at li
    rw [dnD, forE_cons, ← ih]
    show loopK _ _ = _
    generalize rowL (List.replicate (p + 1) 0 ++ (TT base goal k).1) = W1 at *
    generalize D.lst (List.replicate (p + 1) .non ++ (TT base goal k).2.map bsD) = W2 at *
    generalize rowL (List.replicate p 0 ++ (TT base goal (k + 1)).1) = W3 at *
    generalize D.lst (List.replicate p .non ++ (TT base goal (k + 1)).2.map bsD) = W4 at *
    generalize matD base goal = MD at *
    have st : B_least_delta_1 [some (rowD base), some (rowD goal), some MD, some W1, some W2, some (dN p), none, none, none, none] = .next [some (rowD base), some (rowD goal), some MD, some W3, some W4, none, none, none, none, none] := by
      simp only [sSeq_x, x_sSet, x_sIf, x_sRet, x_sRetN, x_sPar, x_sUnp, resF_ok, x_sDrop, x_sNext, x_sBreak, x_sCont, x_sRaise, x_sAug, augK_ok, x_sFor, x_sWhile, sKill_x, x_wipe0, x_wipe1, x_evL0, x_evL1, x_setL0, x_setL1, x_eVar, x_eC, x_eOp, x_eUn, x_eCall, x_eMS, x_asStr, x_aNil, x_aCons, x_eTup, x_eLst, x_eIf, x_eNot, x_eAnd, x_eOr, x_bAnd, x_bOr, x_bNot, x_bYes, x_eSl, x_oNone, x_oSome, asI_int, x_iSeq, x_iCall, x_gfName, x_gfTup, eLc, noX_is, Res.bind_ok, Res.bind_exc, flow_ok, flow_exc, seqK_next, seqK_ret, seqK_exc, seqK_brk, seqK_cont, loopK_next, loopK_cont, loopK_brk, loopK_ret, loopK_exc, must_ok, List.set_cons_succ, List.set_cons_zero, List.getD_cons_succ, List.getD_cons_zero, vD_some, if_true, if_false, Bool.false_eq_true, reduceIte, List.map_cons, List.map_nil, List.length_cons, List.length_nil, List.cons_append, List.nil_append, List.replicate, Nat.reduceSub, Nat.reduceAdd, x_add, x_sub, x_cmp, x_eq_ii, x_ne_ii, x_int_i, x_len_t, x_len_l, x_tup_l, x_tup_t, x_list_l, x_list_t, x_dSl_t, x_dSl_l, x_items_t, x_items_l, x_tru_n, x_tru_b, x_tru_i, x_tru_t, x_tru_l, x_asB, x_is_n, x_isNot_n, isNon_n, isNon_i, isNon_s, isNon_t, isNon_l, isNon_b, Bool.not_true, Bool.not_false, List.length_map, fnE, startE, B_least_delta_1, pk, li]
    simp only [sSeq_x, x_sSet, x_sIf, x_sRet, x_sRetN, x_sPar, x_sUnp, resF_ok, x_sDrop, x_sNext, x_sBreak, x_sCont, x_sRaise, x_sAug, augK_ok, x_sFor, x_sWhile, sKill_x, x_wipe0, x_wipe1, x_evL0, x_evL1, x_setL0, x_setL1, x_eVar, x_eC, x_eOp, x_eUn, x_eCall, x_eMS, x_asStr, x_aNil, x_aCons, x_eTup, x_eLst, x_eIf, x_eNot, x_eAnd, x_eOr, x_bAnd, x_bOr, x_bNot, x_bYes, x_eSl, x_oNone, x_oSome, asI_int, x_iSeq, x_iCall, x_gfName, x_gfTup, eLc, noX_is, Res.bind_ok, Res.bind_exc, flow_ok, flow_exc, seqK_next, seqK_ret, seqK_exc, seqK_brk, seqK_cont, loopK_next, loopK_cont, loopK_brk, loopK_ret, loopK_exc, must_ok, List.set_cons_succ, List.set_cons_zero, List.getD_cons_succ, List.getD_cons_zero, vD_some, if_true, if_false, Bool.false_eq_true, reduceIte, List.map_cons, List.map_nil, List.length_cons, List.length_nil, List.cons_append, List.nil_append, List.replicate, Nat.reduceSub, Nat.reduceAdd, x_add, x_sub, x_cmp, x_eq_ii, x_ne_ii, x_int_i, x_len_t, x_len_l, x_tup_l, x_tup_t, x_list_l, x_list_t, x_dSl_t, x_dSl_l, x_items_t, x_items_l, x_tru_n, x_tru_b, x_tru_i, x_tru_t, x_tru_l, x_asB, x_is_n, x_isNot_n, isNon_n, isNon_i, isNon_s, isNon_t, isNon_l, isNon_b, Bool.not_true, Bool.not_false, List.length_map, fnE, startE, st]
end
/-! ### the least delta, whole -/
theorem whole_ok (n : Nat) : C_is_whole [dN n] = .ok (.bl true) := by
  have g : iGe (n : Int) 0 = true := decide_eq_true (by omega)
  simp only [sSeq_x, x_sSet, x_sIf, x_sRet, x_sRetN, x_sPar, x_sUnp, resF_ok, x_sDrop, x_sNext, x_sBreak, x_sCont, x_sRaise, x_sAug, augK_ok, x_sFor, x_sWhile, sKill_x, x_wipe0, x_wipe1, x_evL0, x_evL1, x_setL0, x_setL1, x_eVar, x_eC, x_eOp, x_eUn, x_eCall, x_eMS, x_asStr, x_aNil, x_aCons, x_eTup, x_eLst, x_eIf, x_eNot, x_eAnd, x_eOr, x_bAnd, x_bOr, x_bNot, x_bYes, x_eSl, x_oNone, x_oSome, asI_int, x_iSeq, x_iCall, x_gfName, x_gfTup, eLc, noX_is, Res.bind_ok, Res.bind_exc, flow_ok, flow_exc, seqK_next, seqK_ret, seqK_exc, seqK_brk, seqK_cont, loopK_next, loopK_cont, loopK_brk, loopK_ret, loopK_exc, must_ok, List.set_cons_succ, List.set_cons_zero, List.getD_cons_succ, List.getD_cons_zero, vD_some, if_true, if_false, Bool.false_eq_true, reduceIte, List.map_cons, List.map_nil, List.length_cons, List.length_nil, List.cons_append, List.nil_append, List.replicate, Nat.reduceSub, Nat.reduceAdd, x_add, x_sub, x_cmp, x_eq_ii, x_ne_ii, x_int_i, x_len_t, x_len_l, x_tup_l, x_tup_t, x_list_l, x_list_t, x_dSl_t, x_dSl_l, x_items_t, x_items_l, x_tru_n, x_tru_b, x_tru_i, x_tru_t, x_tru_l, x_asB, x_is_n, x_isNot_n, isNon_n, isNon_i, isNon_s, isNon_t, isNon_l, isNon_b, Bool.not_true, Bool.not_false, List.length_map, fnE, startE, C_is_whole, F_is_whole, isi_i, k_ii, k_bi, g]
theorem isrow_g (r : List Nat) : C_is_row [rowD r] = .ok (.bl (r.all fun x => decide (x < 256))) := by
  have hb := lc_fun (gf := gfName 1) (f := eAnd (eCall C_is_whole (aCons (eVar 1) aNil)) (eOp (dCmpI iLt) (eVar 1) (eC (.int 256)))) (ρ := [some (rowD r), none]) (e := dN) (g := fun x => .bl (decide (x < 256))) (xs := r) fun x hx => ⟨_, rfl, by
    have w := whole_ok x
    have g : iLt (x : Int) 256 = decide (x < 256) := by
      show decide _ = decide _
      by_cases h : x < 256
      · rw [decide_eq_true h, decide_eq_true (by omega)]
      · rw [decide_eq_false h, decide_eq_false (by omega)]
    simp only [sSeq_x, x_sSet, x_sIf, x_sRet, x_sRetN, x_sPar, x_sUnp, resF_ok, x_sDrop, x_sNext, x_sBreak, x_sCont, x_sRaise, x_sAug, augK_ok, x_sFor, x_sWhile, sKill_x, x_wipe0, x_wipe1, x_evL0, x_evL1, x_setL0, x_setL1, x_eVar, x_eC, x_eOp, x_eUn, x_eCall, x_eMS, x_asStr, x_aNil, x_aCons, x_eTup, x_eLst, x_eIf, x_eNot, x_eAnd, x_eOr, x_bAnd, x_bOr, x_bNot, x_bYes, x_eSl, x_oNone, x_oSome, asI_int, x_iSeq, x_iCall, x_gfName, x_gfTup, eLc, noX_is, Res.bind_ok, Res.bind_exc, flow_ok, flow_exc, seqK_next, seqK_ret, seqK_exc, seqK_brk, seqK_cont, loopK_next, loopK_cont, loopK_brk, loopK_ret, loopK_exc, must_ok, List.set_cons_succ, List.set_cons_zero, List.getD_cons_succ, List.getD_cons_zero, vD_some, if_true, if_false, Bool.false_eq_true, reduceIte, List.map_cons, List.map_nil, List.length_cons, List.length_nil, List.cons_append, List.nil_append, List.replicate, Nat.reduceSub, Nat.reduceAdd, x_add, x_sub, x_cmp, x_eq_ii, x_ne_ii, x_int_i, x_len_t, x_len_l, x_tup_l, x_tup_t, x_list_l, x_list_t, x_dSl_t, x_dSl_l, x_items_t, x_items_l, x_tru_n, x_tru_b, x_tru_i, x_tru_t, x_tru_l, x_asB, x_is_n, x_isNot_n, isNon_n, isNon_i, isNon_s, isNon_t, isNon_l, isNon_b, Bool.not_true, Bool.not_false, List.length_map, fnE, startE, w, g]⟩
  have ea := x_all_f (fun x => decide (x < 256)) r
  simp only [sSeq_x, x_sSet, x_sIf, x_sRet, x_sRetN, x_sPar, x_sUnp, resF_ok, x_sDrop, x_sNext, x_sBreak, x_sCont, x_sRaise, x_sAug, augK_ok, x_sFor, x_sWhile, sKill_x, x_wipe0, x_wipe1, x_evL0, x_evL1, x_setL0, x_setL1, x_eVar, x_eC, x_eOp, x_eUn, x_eCall, x_eMS, x_asStr, x_aNil, x_aCons, x_eTup, x_eLst, x_eIf, x_eNot, x_eAnd, x_eOr, x_bAnd, x_bOr, x_bNot, x_bYes, x_eSl, x_oNone, x_oSome, asI_int, x_iSeq, x_iCall, x_gfName, x_gfTup, eLc, noX_is, Res.bind_ok, Res.bind_exc, flow_ok, flow_exc, seqK_next, seqK_ret, seqK_exc, seqK_brk, seqK_cont, loopK_next, loopK_cont, loopK_brk, loopK_ret, loopK_exc, must_ok, List.set_cons_succ, List.set_cons_zero, List.getD_cons_succ, List.getD_cons_zero, vD_some, if_true, if_false, Bool.false_eq_true, reduceIte, List.map_cons, List.map_nil, List.length_cons, List.length_nil, List.cons_append, List.nil_append, List.replicate, Nat.reduceSub, Nat.reduceAdd, x_add, x_sub, x_cmp, x_eq_ii, x_ne_ii, x_int_i, x_len_t, x_len_l, x_tup_l, x_tup_t, x_list_l, x_list_t, x_dSl_t, x_dSl_l, x_items_t, x_items_l, x_tru_n, x_tru_b, x_tru_i, x_tru_t, x_tru_l, x_asB, x_is_n, x_isNot_n, isNon_n, isNon_i, isNon_s, isNon_t, isNon_l, isNon_b, Bool.not_true, Bool.not_false, List.length_map, fnE, startE, C_is_row, F_is_row, isi_t, k_tt, hb, ea]
theorem isrow_ok {r : List Nat} (h : ∀ x ∈ r, x < 256) : C_is_row [rowD r] = .ok (.bl true) := by
  rw [isrow_g, List.all_eq_true.mpr fun x hx => decide_eq_true (h x hx)]
theorem chrows1 {r : List Nat} (h : ∀ x ∈ r, x < 256) : C_check_rows [.lst [rowD r]] = .ok .non := by
  have hb : lcE (gfName 1) bYes (eCall C_is_row (aCons (eVar 1) aNil)) [some (.lst [rowD r]), none] [rowD r] = .ok [.bl true] := lc_fun (e := fun _ : Unit => rowD r) (g := fun _ => .bl true) (xs := [()]) fun b hb => ⟨_, rfl, by simp only [sSeq_x, x_sSet, x_sIf, x_sRet, x_sRetN, x_sPar, x_sUnp, resF_ok, x_sDrop, x_sNext, x_sBreak, x_sCont, x_sRaise, x_sAug, augK_ok, x_sFor, x_sWhile, sKill_x, x_wipe0, x_wipe1, x_evL0, x_evL1, x_setL0, x_setL1, x_eVar, x_eC, x_eOp, x_eUn, x_eCall, x_eMS, x_asStr, x_aNil, x_aCons, x_eTup, x_eLst, x_eIf, x_eNot, x_eAnd, x_eOr, x_bAnd, x_bOr, x_bNot, x_bYes, x_eSl, x_oNone, x_oSome, asI_int, x_iSeq, x_iCall, x_gfName, x_gfTup, eLc, noX_is, Res.bind_ok, Res.bind_exc, flow_ok, flow_exc, seqK_next, seqK_ret, seqK_exc, seqK_brk, seqK_cont, loopK_next, loopK_cont, loopK_brk, loopK_ret, loopK_exc, must_ok, List.set_cons_succ, List.set_cons_zero, List.getD_cons_succ, List.getD_cons_zero, vD_some, if_true, if_false, Bool.false_eq_true, reduceIte, List.map_cons, List.map_nil, List.length_cons, List.length_nil, List.cons_append, List.nil_append, List.replicate, Nat.reduceSub, Nat.reduceAdd, x_add, x_sub, x_cmp, x_eq_ii, x_ne_ii, x_int_i, x_len_t, x_len_l, x_tup_l, x_tup_t, x_list_l, x_list_t, x_dSl_t, x_dSl_l, x_items_t, x_items_l, x_tru_n, x_tru_b, x_tru_i, x_tru_t, x_tru_l, x_asB, x_is_n, x_isNot_n, isNon_n, isNon_i, isNon_s, isNon_t, isNon_l, isNon_b, Bool.not_true, Bool.not_false, List.length_map, fnE, startE, isrow_ok h]⟩
  have e : fAll [.lst [.bl true]] = .ok (.bl true) := rfl
  generalize rowD r = R at hb ⊢
  simp only [sSeq_x, x_sSet, x_sIf, x_sRet, x_sRetN, x_sPar, x_sUnp, resF_ok, x_sDrop, x_sNext, x_sBreak, x_sCont, x_sRaise, x_sAug, augK_ok, x_sFor, x_sWhile, sKill_x, x_wipe0, x_wipe1, x_evL0, x_evL1, x_setL0, x_setL1, x_eVar, x_eC, x_eOp, x_eUn, x_eCall, x_eMS, x_asStr, x_aNil, x_aCons, x_eTup, x_eLst, x_eIf, x_eNot, x_eAnd, x_eOr, x_bAnd, x_bOr, x_bNot, x_bYes, x_eSl, x_oNone, x_oSome, asI_int, x_iSeq, x_iCall, x_gfName, x_gfTup, eLc, noX_is, Res.bind_ok, Res.bind_exc, flow_ok, flow_exc, seqK_next, seqK_ret, seqK_exc, seqK_brk, seqK_cont, loopK_next, loopK_cont, loopK_brk, loopK_ret, loopK_exc, must_ok, List.set_cons_succ, List.set_cons_zero, List.getD_cons_succ, List.getD_cons_zero, vD_some, if_true, if_false, Bool.false_eq_true, reduceIte, List.map_cons, List.map_nil, List.length_cons, List.length_nil, List.cons_append, List.nil_append, List.replicate, Nat.reduceSub, Nat.reduceAdd, x_add, x_sub, x_cmp, x_eq_ii, x_ne_ii, x_int_i, x_len_t, x_len_l, x_tup_l, x_tup_t, x_list_l, x_list_t, x_dSl_t, x_dSl_l, x_items_t, x_items_l, x_tru_n, x_tru_b, x_tru_i, x_tru_t, x_tru_l, x_asB, x_is_n, x_isNot_n, isNon_n, isNon_i, isNon_s, isNon_t, isNon_l, isNon_b, Bool.not_true, Bool.not_false, List.length_map, fnE, startE, C_check_rows, F_check_rows, hb, e]
theorem chrows2 {r s : List Nat} (h : ∀ x ∈ r, x < 256) (h2 : ∀ x ∈ s, x < 256) : C_check_rows [.lst [rowD r, rowD s]] = .ok .non := by
  have hb : lcE (gfName 1) bYes (eCall C_is_row (aCons (eVar 1) aNil)) [some (.lst [rowD r, rowD s]), none] [rowD r, rowD s] = .ok [.bl true, .bl true] := lc_fun (e := fun b => cond b (rowD r) (rowD s)) (g := fun _ => .bl true) (xs := [true, false]) fun b hb => ⟨_, rfl, by
    cases b
    · simp [isrow_ok h2]
    · simp [isrow_ok h]⟩
  have e : fAll [.lst [.bl true, .bl true]] = .ok (.bl true) := rfl
  generalize rowD r = R at hb ⊢
  generalize rowD s = S at hb ⊢
  simp only [sSeq_x, x_sSet, x_sIf, x_sRet, x_sRetN, x_sPar, x_sUnp, resF_ok, x_sDrop, x_sNext, x_sBreak, x_sCont, x_sRaise, x_sAug, augK_ok, x_sFor, x_sWhile, sKill_x, x_wipe0, x_wipe1, x_evL0, x_evL1, x_setL0, x_setL1, x_eVar, x_eC, x_eOp, x_eUn, x_eCall, x_eMS, x_asStr, x_aNil, x_aCons, x_eTup, x_eLst, x_eIf, x_eNot, x_eAnd, x_eOr, x_bAnd, x_bOr, x_bNot, x_bYes, x_eSl, x_oNone, x_oSome, asI_int, x_iSeq, x_iCall, x_gfName, x_gfTup, eLc, noX_is, Res.bind_ok, Res.bind_exc, flow_ok, flow_exc, seqK_next, seqK_ret, seqK_exc, seqK_brk, seqK_cont, loopK_next, loopK_cont, loopK_brk, loopK_ret, loopK_exc, must_ok, List.set_cons_succ, List.set_cons_zero, List.getD_cons_succ, List.getD_cons_zero, vD_some, if_true, if_false, Bool.false_eq_true, reduceIte, List.map_cons, List.map_nil, List.length_cons, List.length_nil, List.cons_append, List.nil_append, List.replicate, Nat.reduceSub, Nat.reduceAdd, x_add, x_sub, x_cmp, x_eq_ii, x_ne_ii, x_int_i, x_len_t, x_len_l, x_tup_l, x_tup_t, x_list_l, x_list_t, x_dSl_t, x_dSl_l, x_items_t, x_items_l, x_tru_n, x_tru_b, x_tru_i, x_tru_t, x_tru_l, x_asB, x_is_n, x_isNot_n, isNon_n, isNon_i, isNon_s, isNon_t, isNon_l, isNon_b, Bool.not_true, Bool.not_false, List.length_map, fnE, startE, C_check_rows, F_check_rows, hb, e]
theorem max_nat (a b : Nat) : fMax [.int (a : Nat), .int (b : Nat)] = .ok (.int ((max a b : Nat) : Int)) := by
  show Res.ok (D.int (if (b : Int) > a then (b : Int) else a)) = _
  congr 2
  split <;> omega
section
variable {base goal : List Nat}
theorem chk_ok (hb : base.length ≤ 60) (hg : goal.length ≤ 60) (ob : ∀ x ∈ base, x < 256) (og : ∀ x ∈ goal, x < 256) : C__check [rowD base, rowD goal] = .ok .non := by
  have c := chrows2 ob og
  have l1 := row_len base
  have l2 := row_len goal
  have m := max_nat base.length goal.length
  have g : iGt ((max base.length goal.length : Nat) : Int) 60 = false := decide_eq_false (by omega)
  simp only [sSeq_x, x_sSet, x_sIf, x_sRet, x_sRetN, x_sPar, x_sUnp, resF_ok, x_sDrop, x_sNext, x_sBreak, x_sCont, x_sRaise, x_sAug, augK_ok, x_sFor, x_sWhile, sKill_x, x_wipe0, x_wipe1, x_evL0, x_evL1, x_setL0, x_setL1, x_eVar, x_eC, x_eOp, x_eUn, x_eCall, x_eMS, x_asStr, x_aNil, x_aCons, x_eTup, x_eLst, x_eIf, x_eNot, x_eAnd, x_eOr, x_bAnd, x_bOr, x_bNot, x_bYes, x_eSl, x_oNone, x_oSome, asI_int, x_iSeq, x_iCall, x_gfName, x_gfTup, eLc, noX_is, Res.bind_ok, Res.bind_exc, flow_ok, flow_exc, seqK_next, seqK_ret, seqK_exc, seqK_brk, seqK_cont, loopK_next, loopK_cont, loopK_brk, loopK_ret, loopK_exc, must_ok, List.set_cons_succ, List.set_cons_zero, List.getD_cons_succ, List.getD_cons_zero, vD_some, if_true, if_false, Bool.false_eq_true, reduceIte, List.map_cons, List.map_nil, List.length_cons, List.length_nil, List.cons_append, List.nil_append, List.replicate, Nat.reduceSub, Nat.reduceAdd, x_add, x_sub, x_cmp, x_eq_ii, x_ne_ii, x_int_i, x_len_t, x_len_l, x_tup_l, x_tup_t, x_list_l, x_list_t, x_dSl_t, x_dSl_l, x_items_t, x_items_l, x_tru_n, x_tru_b, x_tru_i, x_tru_t, x_tru_l, x_asB, x_is_n, x_isNot_n, isNon_n, isNon_i, isNon_s, isNon_t, isNon_l, isNon_b, Bool.not_true, Bool.not_false, List.length_map, fnE, startE, C__check, F__check, c, l1, l2, m, g]
theorem TT2_get : ∀ (k j : Nat), k ≤ goal.length → j < k → (TT base goal k).2[j]? = (TT base goal (k - j)).2[0]?
  | 0, j, _, h => by omega
  | k + 1, 0, _, _ => rfl
  | k + 1, j + 1, h, hj => by
    obtain ⟨d, _, e⟩ := TT_succ (base := base) h
    rw [e]
    show (TT base goal k).2[j]? = _
    rw [TT2_get k j (by omega) (by omega), show k + 1 - (j + 1) = k - j by omega]
theorem wl_loop (MD PD : D) (ho : ∀ x ∈ goal, x < 256) : ∀ (f k fuel : Nat) (F : List Pc), k ≤ f → k ≤ goal.length → f < fuel → F.length + f ≤ 1000000 →
    whileE (eUn asB (eOp (dCmpI iLt) (eVar 5) (eCall fLen (aCons (eVar 1) aNil)))) B_least_delta_3 fuel [some (rowD base), some (rowD goal), some MD, some PD, some (.lst ((TT base goal goal.length).2.map bsD)), some (dN (goal.length - k)), none, none, none, some (.lst (F.map pcD))] =
    .next [some (rowD base), some (rowD goal), some MD, some PD, some (.lst ((TT base goal goal.length).2.map bsD)), some (dN goal.length), none, none, none, some (.lst ((F ++ path base goal f k).map pcD))]
  | f, k, 0, F, _, _, h, _ => by omega
  | f, 0, fuel + 1, F, _, _, _, _ => by
    have g : iLt ((goal.length : Nat) : Int) ((goal.length : Nat) : Int) = false := decide_eq_false (by omega)
    have l := row_len goal
    have ep : path base goal f 0 = [] := by cases f <;> rfl
    rw [Nat.sub_zero, ep, List.append_nil, whileE_succ]
    simp only [sSeq_x, x_sSet, x_sIf, x_sRet, x_sRetN, x_sPar, x_sUnp, resF_ok, x_sDrop, x_sNext, x_sBreak, x_sCont, x_sRaise, x_sAug, augK_ok, x_sFor, x_sWhile, sKill_x, x_wipe0, x_wipe1, x_evL0, x_evL1, x_setL0, x_setL1, x_eVar, x_eC, x_eOp, x_eUn, x_eCall, x_eMS, x_asStr, x_aNil, x_aCons, x_eTup, x_eLst, x_eIf, x_eNot, x_eAnd, x_eOr, x_bAnd, x_bOr, x_bNot, x_bYes, x_eSl, x_oNone, x_oSome, asI_int, x_iSeq, x_iCall, x_gfName, x_gfTup, eLc, noX_is, Res.bind_ok, Res.bind_exc, flow_ok, flow_exc, seqK_next, seqK_ret, seqK_exc, seqK_brk, seqK_cont, loopK_next, loopK_cont, loopK_brk, loopK_ret, loopK_exc, must_ok, List.set_cons_succ, List.set_cons_zero, List.getD_cons_succ, List.getD_cons_zero, vD_some, if_true, if_false, Bool.false_eq_true, reduceIte, List.map_cons, List.map_nil, List.length_cons, List.length_nil, List.cons_append, List.nil_append, List.replicate, Nat.reduceSub, Nat.reduceAdd, x_add, x_sub, x_cmp, x_eq_ii, x_ne_ii, x_int_i, x_len_t, x_len_l, x_tup_l, x_tup_t, x_list_l, x_list_t, x_dSl_t, x_dSl_l, x_items_t, x_items_l, x_tru_n, x_tru_b, x_tru_i, x_tru_t, x_tru_l, x_asB, x_is_n, x_isNot_n, isNon_n, isNon_i, isNon_s, isNon_t, isNon_l, isNon_b, Bool.not_true, Bool.not_false, List.length_map, fnE, startE, l, g]
  | 0, k + 1, fuel + 1, F, h, _, _, _ => by omega
  | f + 1, k + 1, fuel + 1, F, hf, hk, hu, hs => by
    obtain ⟨x, hx, m, hm, et, ep, hmk, _⟩ := pr_min (base := base) hk ho
    have h1 := hm.pos
    have h2 := hm.le
    have ee : goal.length - x.2.1 = k + 1 - m := by rw [hm.at_]; omega
    have e3 : x.2.1 = goal.length - (k + 1 - m) := by rw [hm.at_]; omega
    have ih := wl_loop MD PD ho f (k + 1 - m) fuel (F ++ [x.2.2]) (by omega) (by omega) (by omega) (by simp; omega)
    have hy : (TT base goal goal.length).2[goal.length - (k + 1)]? = some x.2 := by
      rw [TT2_get _ _ (Nat.le_refl _) (by omega), show goal.length - (goal.length - (k + 1)) = k + 1 by omega, et]
      rfl
    have i1 : dIx (.lst ((TT base goal goal.length).2.map bsD)) (dN (goal.length - (k + 1))) = .ok (.tup [dN x.2.1, pcD x.2.2]) := dIx_lm hy
    have g : iLt ((goal.length - (k + 1) : Nat) : Int) ((goal.length : Nat) : Int) = true := decide_eq_true (by omega)
    have l := row_len goal
    have pe : path base goal (f + 1) (k + 1) = x.2.2 :: path base goal f (k + 1 - m) := by
      rw [path, et]
      dsimp only
      rw [ee]
    have hl2 : F.length < 16777216 := by omega
    rw [pe, whileE_succ, show F ++ x.2.2 :: path base goal f (k + 1 - m) = F ++ [x.2.2] ++ path base goal f (k + 1 - m) by simp, ← ih, ← e3]
    generalize D.lst ((TT base goal goal.length).2.map bsD) = BD at i1 ⊢
    have st : B_least_delta_3 [some (rowD base), some (rowD goal), some MD, some PD, some BD, some (dN (goal.length - (k + 1))), none, none, none, some (.lst (F.map pcD))] = .next [some (rowD base), some (rowD goal), some MD, some PD, some BD, some (dN x.2.1), none, none, none, some (.lst ((F ++ [x.2.2]).map pcD))] := by
      simp only [sSeq_x, x_sSet, x_sIf, x_sRet, x_sRetN, x_sPar, x_sUnp, resF_ok, x_sDrop, x_sNext, x_sBreak, x_sCont, x_sRaise, x_sAug, augK_ok, x_sFor, x_sWhile, sKill_x, x_wipe0, x_wipe1, x_evL0, x_evL1, x_setL0, x_setL1, x_eVar, x_eC, x_eOp, x_eUn, x_eCall, x_eMS, x_asStr, x_aNil, x_aCons, x_eTup, x_eLst, x_eIf, x_eNot, x_eAnd, x_eOr, x_bAnd, x_bOr, x_bNot, x_bYes, x_eSl, x_oNone, x_oSome, asI_int, x_iSeq, x_iCall, x_gfName, x_gfTup, eLc, noX_is, Res.bind_ok, Res.bind_exc, flow_ok, flow_exc, seqK_next, seqK_ret, seqK_exc, seqK_brk, seqK_cont, loopK_next, loopK_cont, loopK_brk, loopK_ret, loopK_exc, must_ok, List.set_cons_succ, List.set_cons_zero, List.getD_cons_succ, List.getD_cons_zero, vD_some, if_true, if_false, Bool.false_eq_true, reduceIte, List.map_cons, List.map_nil, List.length_cons, List.length_nil, List.cons_append, List.nil_append, List.replicate, Nat.reduceSub, Nat.reduceAdd, x_add, x_sub, x_cmp, x_eq_ii, x_ne_ii, x_int_i, x_len_t, x_len_l, x_tup_l, x_tup_t, x_list_l, x_list_t, x_dSl_t, x_dSl_l, x_items_t, x_items_l, x_tru_n, x_tru_b, x_tru_i, x_tru_t, x_tru_l, x_asB, x_is_n, x_isNot_n, isNon_n, isNon_i, isNon_s, isNon_t, isNon_l, isNon_b, Bool.not_true, Bool.not_false, List.length_map, fnE, startE, B_least_delta_3, i1, sAppend, sl_eq, hl2, List.map_append]
    simp only [sSeq_x, x_sSet, x_sIf, x_sRet, x_sRetN, x_sPar, x_sUnp, resF_ok, x_sDrop, x_sNext, x_sBreak, x_sCont, x_sRaise, x_sAug, augK_ok, x_sFor, x_sWhile, sKill_x, x_wipe0, x_wipe1, x_evL0, x_evL1, x_setL0, x_setL1, x_eVar, x_eC, x_eOp, x_eUn, x_eCall, x_eMS, x_asStr, x_aNil, x_aCons, x_eTup, x_eLst, x_eIf, x_eNot, x_eAnd, x_eOr, x_bAnd, x_bOr, x_bNot, x_bYes, x_eSl, x_oNone, x_oSome, asI_int, x_iSeq, x_iCall, x_gfName, x_gfTup, eLc, noX_is, Res.bind_ok, Res.bind_exc, flow_ok, flow_exc, seqK_next, seqK_ret, seqK_exc, seqK_brk, seqK_cont, loopK_next, loopK_cont, loopK_brk, loopK_ret, loopK_exc, must_ok, List.set_cons_succ, List.set_cons_zero, List.getD_cons_succ, List.getD_cons_zero, vD_some, if_true, if_false, Bool.false_eq_true, reduceIte, List.map_cons, List.map_nil, List.length_cons, List.length_nil, List.cons_append, List.nil_append, List.replicate, Nat.reduceSub, Nat.reduceAdd, x_add, x_sub, x_cmp, x_eq_ii, x_ne_ii, x_int_i, x_len_t, x_len_l, x_tup_l, x_tup_t, x_list_l, x_list_t, x_dSl_t, x_dSl_l, x_items_t, x_items_l, x_tru_n, x_tru_b, x_tru_i, x_tru_t, x_tru_l, x_asB, x_is_n, x_isNot_n, isNon_n, isNon_i, isNon_s, isNon_t, isNon_l, isNon_b, Bool.not_true, Bool.not_false, List.length_map, fnE, startE, l, g, st]
abbrev dl (base goal : List Nat) : List Pc := path base goal goal.length goal.length
theorem nrow (hg : goal.length ≤ 1000) : dRep (.lst [.non]) (.int (goal.length : Nat)) = .ok (.lst (List.replicate goal.length .non)) := rep_ok .non (by omega)
theorem least_ok (hb : base.length ≤ 60) (hg : goal.length ≤ 60) (ob : ∀ x ∈ base, x < 256) (og : ∀ x ∈ goal, x < 256) :
    C_least_delta [rowD base, rowD goal] = .ok (.tup [dN (pr base goal goal.length), .tup ((dl base goal).map pcD), rowD (TT base goal goal.length).1]) := by
  have c := chk_ok hb hg ob og
  have a := alike_ok (base := base) (goal := goal) (by omega) (by omega)
  have z := zrow (goal := goal) (by omega)
  have n := nrow (goal := goal) (by omega)
  have dn := down_ok (n := goal.length) (by omega)
  have lo := ld_out (base := base) (goal := goal) (by omega) (by omega) og goal.length 0 (by omega)
  have f1 : List.replicate goal.length 0 ++ (TT base goal 0).1 = List.replicate (goal.length + 1) 0 := by rw [List.replicate_succ']; rfl
  have f2 : List.replicate goal.length D.non ++ (TT base goal 0).2.map bsD = List.replicate goal.length .non := List.append_nil _
  rw [f1, f2] at lo
  have w := wl_loop (base := base) (goal := goal) (matD base goal) (rowL (TT base goal goal.length).1) og goal.length goal.length 100000 [] (Nat.le_refl _) (Nat.le_refl _) (by omega) (by simp; omega)
  rw [Nat.sub_self, List.nil_append, List.map_nil] at w
  have w : whileE (eUn asB (eOp (dCmpI iLt) (eVar 5) (eCall fLen (aCons (eVar 1) aNil)))) B_least_delta_3 100000 [some (rowD base), some (rowD goal), some (matD base goal), some (rowL (TT base goal goal.length).1), some (.lst ((TT base goal goal.length).2.map bsD)), some (.int 0), none, none, none, some (.lst [])] = _ := w
  have i0 : dIx (rowL (TT base goal goal.length).1) (.int 0) = .ok (dN (pr base goal goal.length)) := dIx_lm (n := 0) (by
    have hl := (TT_len (base := base) (goal := goal) goal.length (Nat.le_refl _)).1
    unfold pr
    rw [List.getD_eq_getElem?_getD, List.getElem?_eq_getElem (by omega)]
    rfl)
  have tp : fTuple [rowL (TT base goal goal.length).1] = .ok (rowD (TT base goal goal.length).1) := rfl
  have lg := row_len goal
  generalize matD base goal = MD at *
  generalize rowL (List.replicate (goal.length + 1) 0) = W1 at *
  generalize D.lst (List.replicate goal.length .non) = W2 at *
  generalize rowL (TT base goal goal.length).1 = W3 at *
  generalize D.lst ((TT base goal goal.length).2.map bsD) = W4 at *
  have e : F_least_delta [some (rowD base), some (rowD goal), none, none, none, none, none, none, none, none] = .ret (.tup [dN (pr base goal goal.length), .tup ((dl base goal).map pcD), rowD (TT base goal goal.length).1]) := by
    simp only [sSeq_x, x_sSet, x_sIf, x_sRet, x_sRetN, x_sPar, x_sUnp, resF_ok, x_sDrop, x_sNext, x_sBreak, x_sCont, x_sRaise, x_sAug, augK_ok, x_sFor, x_sWhile, sKill_x, x_wipe0, x_wipe1, x_evL0, x_evL1, x_setL0, x_setL1, x_eVar, x_eC, x_eOp, x_eUn, x_eCall, x_eMS, x_asStr, x_aNil, x_aCons, x_eTup, x_eLst, x_eIf, x_eNot, x_eAnd, x_eOr, x_bAnd, x_bOr, x_bNot, x_bYes, x_eSl, x_oNone, x_oSome, asI_int, x_iSeq, x_iCall, x_gfName, x_gfTup, eLc, noX_is, Res.bind_ok, Res.bind_exc, flow_ok, flow_exc, seqK_next, seqK_ret, seqK_exc, seqK_brk, seqK_cont, loopK_next, loopK_cont, loopK_brk, loopK_ret, loopK_exc, must_ok, List.set_cons_succ, List.set_cons_zero, List.getD_cons_succ, List.getD_cons_zero, vD_some, if_true, if_false, Bool.false_eq_true, reduceIte, List.map_cons, List.map_nil, List.length_cons, List.length_nil, List.cons_append, List.nil_append, List.replicate, Nat.reduceSub, Nat.reduceAdd, x_add, x_sub, x_cmp, x_eq_ii, x_ne_ii, x_int_i, x_len_t, x_len_l, x_tup_l, x_tup_t, x_list_l, x_list_t, x_dSl_t, x_dSl_l, x_items_t, x_items_l, x_tru_n, x_tru_b, x_tru_i, x_tru_t, x_tru_l, x_asB, x_is_n, x_isNot_n, isNon_n, isNon_i, isNon_s, isNon_t, isNon_l, isNon_b, Bool.not_true, Bool.not_false, List.length_map, fnE, startE, F_least_delta, c, a, lg, z, n, neg1, dn, lo, w, i0, tp]
  simp only [sSeq_x, x_sSet, x_sIf, x_sRet, x_sRetN, x_sPar, x_sUnp, resF_ok, x_sDrop, x_sNext, x_sBreak, x_sCont, x_sRaise, x_sAug, augK_ok, x_sFor, x_sWhile, sKill_x, x_wipe0, x_wipe1, x_evL0, x_evL1, x_setL0, x_setL1, x_eVar, x_eC, x_eOp, x_eUn, x_eCall, x_eMS, x_asStr, x_aNil, x_aCons, x_eTup, x_eLst, x_eIf, x_eNot, x_eAnd, x_eOr, x_bAnd, x_bOr, x_bNot, x_bYes, x_eSl, x_oNone, x_oSome, asI_int, x_iSeq, x_iCall, x_gfName, x_gfTup, eLc, noX_is, Res.bind_ok, Res.bind_exc, flow_ok, flow_exc, seqK_next, seqK_ret, seqK_exc, seqK_brk, seqK_cont, loopK_next, loopK_cont, loopK_brk, loopK_ret, loopK_exc, must_ok, List.set_cons_succ, List.set_cons_zero, List.getD_cons_succ, List.getD_cons_zero, vD_some, if_true, if_false, Bool.false_eq_true, reduceIte, List.map_cons, List.map_nil, List.length_cons, List.length_nil, List.cons_append, List.nil_append, List.replicate, Nat.reduceSub, Nat.reduceAdd, x_add, x_sub, x_cmp, x_eq_ii, x_ne_ii, x_int_i, x_len_t, x_len_l, x_tup_l, x_tup_t, x_list_l, x_list_t, x_dSl_t, x_dSl_l, x_items_t, x_items_l, x_tru_n, x_tru_b, x_tru_i, x_tru_t, x_tru_l, x_asB, x_is_n, x_isNot_n, isNon_n, isNon_i, isNon_s, isNon_t, isNon_l, isNon_b, Bool.not_true, Bool.not_false, List.length_map, fnE, startE, C_least_delta, e]
end
/-! ### pieces as they come: faults, what is made, costs -/
structure BadD (d : D) : Prop where
  ip : C__is_piece [d] = .ok (.bl false)
  lf : ∀ a b : Option D, B__law_fault_1 [a, b, some d, none, none, none] = .ret (.str "form")
inductive It where
  | pc (p : Pc)
  | bad (d : D)
def itD : It → D
  | .pc p => pcD p
  | .bad d => d
def itOk : It → Bool
  | .pc p => p.ok
  | .bad _ => false
def itG : It → Prop
  | .pc p => p.sm
  | .bad d => BadD d
theorem z23 : (((3 : Nat) : Int) == 0) = false ∧ (((3 : Nat) : Int) == 3) = true ∧ (((2 : Nat) : Int) == 0) = false ∧ (((2 : Nat) : Int) == 2) = true ∧ (((3 : Nat) : Int) == 2) = false ∧ (((2 : Nat) : Int) == 3) = false := ⟨rfl, rfl, rfl, rfl, rfl, rfl⟩
theorem dec_gt (n : Nat) : iGt (n : Int) 0 = decide (0 < n) := by
  show decide _ = decide _
  by_cases h : 0 < n
  · rw [decide_eq_true h, decide_eq_true (by omega)]
  · rw [decide_eq_false h, decide_eq_false (by omega)]
theorem isp_ok (p : Pc) : C__is_piece [pcD p] = .ok (.bl p.ok) := by
  cases p with
  | cp a n =>
    have w1 := whole_ok a
    have w2 := whole_ok n
    have g := dec_gt n
    have e : F__is_piece [some (.tup [.str "copy", dN a, dN n])] = .ret (.bl (decide (0 < n))) := by
      simp only [sSeq_x, x_sSet, x_sIf, x_sRet, x_sRetN, x_sPar, x_sUnp, resF_ok, x_sDrop, x_sNext, x_sBreak, x_sCont, x_sRaise, x_sAug, augK_ok, x_sFor, x_sWhile, sKill_x, x_wipe0, x_wipe1, x_evL0, x_evL1, x_setL0, x_setL1, x_eVar, x_eC, x_eOp, x_eUn, x_eCall, x_eMS, x_asStr, x_aNil, x_aCons, x_eTup, x_eLst, x_eIf, x_eNot, x_eAnd, x_eOr, x_bAnd, x_bOr, x_bNot, x_bYes, x_eSl, x_oNone, x_oSome, asI_int, x_iSeq, x_iCall, x_gfName, x_gfTup, eLc, noX_is, Res.bind_ok, Res.bind_exc, flow_ok, flow_exc, seqK_next, seqK_ret, seqK_exc, seqK_brk, seqK_cont, loopK_next, loopK_cont, loopK_brk, loopK_ret, loopK_exc, must_ok, List.set_cons_succ, List.set_cons_zero, List.getD_cons_succ, List.getD_cons_zero, vD_some, if_true, if_false, Bool.false_eq_true, reduceIte, List.map_cons, List.map_nil, List.length_cons, List.length_nil, List.cons_append, List.nil_append, List.replicate, Nat.reduceSub, Nat.reduceAdd, x_add, x_sub, x_cmp, x_eq_ii, x_ne_ii, x_int_i, x_len_t, x_len_l, x_tup_l, x_tup_t, x_list_l, x_list_t, x_dSl_t, x_dSl_l, x_items_t, x_items_l, x_tru_n, x_tru_b, x_tru_i, x_tru_t, x_tru_l, x_asB, x_is_n, x_isNot_n, isNon_n, isNon_i, isNon_s, isNon_t, isNon_l, isNon_b, Bool.not_true, Bool.not_false, List.length_map, fnE, startE, F__is_piece, isi_t, k_tt, z23.1, z23.2.1, ixc, isi_s, k_ss, wds.1, w1, w2, g]
    show C__is_piece [.tup [.str "copy", dN a, dN n]] = .ok (.bl (decide (0 < n)))
    simp only [sSeq_x, x_sSet, x_sIf, x_sRet, x_sRetN, x_sPar, x_sUnp, resF_ok, x_sDrop, x_sNext, x_sBreak, x_sCont, x_sRaise, x_sAug, augK_ok, x_sFor, x_sWhile, sKill_x, x_wipe0, x_wipe1, x_evL0, x_evL1, x_setL0, x_setL1, x_eVar, x_eC, x_eOp, x_eUn, x_eCall, x_eMS, x_asStr, x_aNil, x_aCons, x_eTup, x_eLst, x_eIf, x_eNot, x_eAnd, x_eOr, x_bAnd, x_bOr, x_bNot, x_bYes, x_eSl, x_oNone, x_oSome, asI_int, x_iSeq, x_iCall, x_gfName, x_gfTup, eLc, noX_is, Res.bind_ok, Res.bind_exc, flow_ok, flow_exc, seqK_next, seqK_ret, seqK_exc, seqK_brk, seqK_cont, loopK_next, loopK_cont, loopK_brk, loopK_ret, loopK_exc, must_ok, List.set_cons_succ, List.set_cons_zero, List.getD_cons_succ, List.getD_cons_zero, vD_some, if_true, if_false, Bool.false_eq_true, reduceIte, List.map_cons, List.map_nil, List.length_cons, List.length_nil, List.cons_append, List.nil_append, List.replicate, Nat.reduceSub, Nat.reduceAdd, x_add, x_sub, x_cmp, x_eq_ii, x_ne_ii, x_int_i, x_len_t, x_len_l, x_tup_l, x_tup_t, x_list_l, x_list_t, x_dSl_t, x_dSl_l, x_items_t, x_items_l, x_tru_n, x_tru_b, x_tru_i, x_tru_t, x_tru_l, x_asB, x_is_n, x_isNot_n, isNon_n, isNon_i, isNon_s, isNon_t, isNon_l, isNon_b, Bool.not_true, Bool.not_false, List.length_map, fnE, startE, C__is_piece, e]
  | pt o =>
    have r := isrow_g o
    have l := row_len o
    have g := dec_gt o.length
    have e : F__is_piece [some (.tup [.str "put", rowD o])] = .ret (.bl (decide (0 < o.length) && o.all fun x => decide (x < 256))) := by
      generalize o.all (fun x => decide (x < 256)) = b at r ⊢
      cases b with
      | true =>
        rw [Bool.and_true]
        simp only [sSeq_x, x_sSet, x_sIf, x_sRet, x_sRetN, x_sPar, x_sUnp, resF_ok, x_sDrop, x_sNext, x_sBreak, x_sCont, x_sRaise, x_sAug, augK_ok, x_sFor, x_sWhile, sKill_x, x_wipe0, x_wipe1, x_evL0, x_evL1, x_setL0, x_setL1, x_eVar, x_eC, x_eOp, x_eUn, x_eCall, x_eMS, x_asStr, x_aNil, x_aCons, x_eTup, x_eLst, x_eIf, x_eNot, x_eAnd, x_eOr, x_bAnd, x_bOr, x_bNot, x_bYes, x_eSl, x_oNone, x_oSome, asI_int, x_iSeq, x_iCall, x_gfName, x_gfTup, eLc, noX_is, Res.bind_ok, Res.bind_exc, flow_ok, flow_exc, seqK_next, seqK_ret, seqK_exc, seqK_brk, seqK_cont, loopK_next, loopK_cont, loopK_brk, loopK_ret, loopK_exc, must_ok, List.set_cons_succ, List.set_cons_zero, List.getD_cons_succ, List.getD_cons_zero, vD_some, if_true, if_false, Bool.false_eq_true, reduceIte, List.map_cons, List.map_nil, List.length_cons, List.length_nil, List.cons_append, List.nil_append, List.replicate, Nat.reduceSub, Nat.reduceAdd, x_add, x_sub, x_cmp, x_eq_ii, x_ne_ii, x_int_i, x_len_t, x_len_l, x_tup_l, x_tup_t, x_list_l, x_list_t, x_dSl_t, x_dSl_l, x_items_t, x_items_l, x_tru_n, x_tru_b, x_tru_i, x_tru_t, x_tru_l, x_asB, x_is_n, x_isNot_n, isNon_n, isNon_i, isNon_s, isNon_t, isNon_l, isNon_b, Bool.not_true, Bool.not_false, List.length_map, fnE, startE, F__is_piece, isi_t, k_tt, z23, ixp, isi_s, k_ss, wds.2.1, wds.2.2, r, l, g]
      | false =>
        rw [Bool.and_false]
        simp only [sSeq_x, x_sSet, x_sIf, x_sRet, x_sRetN, x_sPar, x_sUnp, resF_ok, x_sDrop, x_sNext, x_sBreak, x_sCont, x_sRaise, x_sAug, augK_ok, x_sFor, x_sWhile, sKill_x, x_wipe0, x_wipe1, x_evL0, x_evL1, x_setL0, x_setL1, x_eVar, x_eC, x_eOp, x_eUn, x_eCall, x_eMS, x_asStr, x_aNil, x_aCons, x_eTup, x_eLst, x_eIf, x_eNot, x_eAnd, x_eOr, x_bAnd, x_bOr, x_bNot, x_bYes, x_eSl, x_oNone, x_oSome, asI_int, x_iSeq, x_iCall, x_gfName, x_gfTup, eLc, noX_is, Res.bind_ok, Res.bind_exc, flow_ok, flow_exc, seqK_next, seqK_ret, seqK_exc, seqK_brk, seqK_cont, loopK_next, loopK_cont, loopK_brk, loopK_ret, loopK_exc, must_ok, List.set_cons_succ, List.set_cons_zero, List.getD_cons_succ, List.getD_cons_zero, vD_some, if_true, if_false, Bool.false_eq_true, reduceIte, List.map_cons, List.map_nil, List.length_cons, List.length_nil, List.cons_append, List.nil_append, List.replicate, Nat.reduceSub, Nat.reduceAdd, x_add, x_sub, x_cmp, x_eq_ii, x_ne_ii, x_int_i, x_len_t, x_len_l, x_tup_l, x_tup_t, x_list_l, x_list_t, x_dSl_t, x_dSl_l, x_items_t, x_items_l, x_tru_n, x_tru_b, x_tru_i, x_tru_t, x_tru_l, x_asB, x_is_n, x_isNot_n, isNon_n, isNon_i, isNon_s, isNon_t, isNon_l, isNon_b, Bool.not_true, Bool.not_false, List.length_map, fnE, startE, F__is_piece, isi_t, k_tt, z23, ixp, isi_s, k_ss, wds.2.1, wds.2.2, r]
    show C__is_piece [.tup [.str "put", rowD o]] = .ok (.bl (decide (0 < o.length) && o.all fun x => decide (x < 256)))
    simp only [sSeq_x, x_sSet, x_sIf, x_sRet, x_sRetN, x_sPar, x_sUnp, resF_ok, x_sDrop, x_sNext, x_sBreak, x_sCont, x_sRaise, x_sAug, augK_ok, x_sFor, x_sWhile, sKill_x, x_wipe0, x_wipe1, x_evL0, x_evL1, x_setL0, x_setL1, x_eVar, x_eC, x_eOp, x_eUn, x_eCall, x_eMS, x_asStr, x_aNil, x_aCons, x_eTup, x_eLst, x_eIf, x_eNot, x_eAnd, x_eOr, x_bAnd, x_bOr, x_bNot, x_bYes, x_eSl, x_oNone, x_oSome, asI_int, x_iSeq, x_iCall, x_gfName, x_gfTup, eLc, noX_is, Res.bind_ok, Res.bind_exc, flow_ok, flow_exc, seqK_next, seqK_ret, seqK_exc, seqK_brk, seqK_cont, loopK_next, loopK_cont, loopK_brk, loopK_ret, loopK_exc, must_ok, List.set_cons_succ, List.set_cons_zero, List.getD_cons_succ, List.getD_cons_zero, vD_some, if_true, if_false, Bool.false_eq_true, reduceIte, List.map_cons, List.map_nil, List.length_cons, List.length_nil, List.cons_append, List.nil_append, List.replicate, Nat.reduceSub, Nat.reduceAdd, x_add, x_sub, x_cmp, x_eq_ii, x_ne_ii, x_int_i, x_len_t, x_len_l, x_tup_l, x_tup_t, x_list_l, x_list_t, x_dSl_t, x_dSl_l, x_items_t, x_items_l, x_tru_n, x_tru_b, x_tru_i, x_tru_t, x_tru_l, x_asB, x_is_n, x_isNot_n, isNon_n, isNon_i, isNon_s, isNon_t, isNon_l, isNon_b, Bool.not_true, Bool.not_false, List.length_map, fnE, startE, C__is_piece, e]
theorem isp_it {i : It} (h : itG i) : C__is_piece [itD i] = .ok (.bl (itOk i)) := by
  cases i with
  | pc p => exact isp_ok p
  | bad d => exact BadD.ip h
theorem isd_ok {xs : List It} (h : ∀ i ∈ xs, itG i) : C__is_delta [.tup (xs.map itD)] = .ok (.bl (xs.all itOk)) := by
  have hb := lc_fun (gf := gfName 1) (f := eCall C__is_piece (aCons (eVar 1) aNil)) (ρ := [some (.tup (xs.map itD)), none]) (e := itD) (g := fun i => .bl (itOk i)) (xs := xs) fun i hi => ⟨_, rfl, by
    have := isp_it (h i hi)
    simp only [sSeq_x, x_sSet, x_sIf, x_sRet, x_sRetN, x_sPar, x_sUnp, resF_ok, x_sDrop, x_sNext, x_sBreak, x_sCont, x_sRaise, x_sAug, augK_ok, x_sFor, x_sWhile, sKill_x, x_wipe0, x_wipe1, x_evL0, x_evL1, x_setL0, x_setL1, x_eVar, x_eC, x_eOp, x_eUn, x_eCall, x_eMS, x_asStr, x_aNil, x_aCons, x_eTup, x_eLst, x_eIf, x_eNot, x_eAnd, x_eOr, x_bAnd, x_bOr, x_bNot, x_bYes, x_eSl, x_oNone, x_oSome, asI_int, x_iSeq, x_iCall, x_gfName, x_gfTup, eLc, noX_is, Res.bind_ok, Res.bind_exc, flow_ok, flow_exc, seqK_next, seqK_ret, seqK_exc, seqK_brk, seqK_cont, loopK_next, loopK_cont, loopK_brk, loopK_ret, loopK_exc, must_ok, List.set_cons_succ, List.set_cons_zero, List.getD_cons_succ, List.getD_cons_zero, vD_some, if_true, if_false, Bool.false_eq_true, reduceIte, List.map_cons, List.map_nil, List.length_cons, List.length_nil, List.cons_append, List.nil_append, List.replicate, Nat.reduceSub, Nat.reduceAdd, x_add, x_sub, x_cmp, x_eq_ii, x_ne_ii, x_int_i, x_len_t, x_len_l, x_tup_l, x_tup_t, x_list_l, x_list_t, x_dSl_t, x_dSl_l, x_items_t, x_items_l, x_tru_n, x_tru_b, x_tru_i, x_tru_t, x_tru_l, x_asB, x_is_n, x_isNot_n, isNon_n, isNon_i, isNon_s, isNon_t, isNon_l, isNon_b, Bool.not_true, Bool.not_false, List.length_map, fnE, startE, this]⟩
  have ea := x_all_f itOk xs
  have e : F__is_delta [some (.tup (xs.map itD)), none] = .ret (.bl (xs.all itOk)) := by
    simp only [sSeq_x, x_sSet, x_sIf, x_sRet, x_sRetN, x_sPar, x_sUnp, resF_ok, x_sDrop, x_sNext, x_sBreak, x_sCont, x_sRaise, x_sAug, augK_ok, x_sFor, x_sWhile, sKill_x, x_wipe0, x_wipe1, x_evL0, x_evL1, x_setL0, x_setL1, x_eVar, x_eC, x_eOp, x_eUn, x_eCall, x_eMS, x_asStr, x_aNil, x_aCons, x_eTup, x_eLst, x_eIf, x_eNot, x_eAnd, x_eOr, x_bAnd, x_bOr, x_bNot, x_bYes, x_eSl, x_oNone, x_oSome, asI_int, x_iSeq, x_iCall, x_gfName, x_gfTup, eLc, noX_is, Res.bind_ok, Res.bind_exc, flow_ok, flow_exc, seqK_next, seqK_ret, seqK_exc, seqK_brk, seqK_cont, loopK_next, loopK_cont, loopK_brk, loopK_ret, loopK_exc, must_ok, List.set_cons_succ, List.set_cons_zero, List.getD_cons_succ, List.getD_cons_zero, vD_some, if_true, if_false, Bool.false_eq_true, reduceIte, List.map_cons, List.map_nil, List.length_cons, List.length_nil, List.cons_append, List.nil_append, List.replicate, Nat.reduceSub, Nat.reduceAdd, x_add, x_sub, x_cmp, x_eq_ii, x_ne_ii, x_int_i, x_len_t, x_len_l, x_tup_l, x_tup_t, x_list_l, x_list_t, x_dSl_t, x_dSl_l, x_items_t, x_items_l, x_tru_n, x_tru_b, x_tru_i, x_tru_t, x_tru_l, x_asB, x_is_n, x_isNot_n, isNon_n, isNon_i, isNon_s, isNon_t, isNon_l, isNon_b, Bool.not_true, Bool.not_false, List.length_map, fnE, startE, F__is_delta, isi_t, k_tt, hb, ea]
  simp only [sSeq_x, x_sSet, x_sIf, x_sRet, x_sRetN, x_sPar, x_sUnp, resF_ok, x_sDrop, x_sNext, x_sBreak, x_sCont, x_sRaise, x_sAug, augK_ok, x_sFor, x_sWhile, sKill_x, x_wipe0, x_wipe1, x_evL0, x_evL1, x_setL0, x_setL1, x_eVar, x_eC, x_eOp, x_eUn, x_eCall, x_eMS, x_asStr, x_aNil, x_aCons, x_eTup, x_eLst, x_eIf, x_eNot, x_eAnd, x_eOr, x_bAnd, x_bOr, x_bNot, x_bYes, x_eSl, x_oNone, x_oSome, asI_int, x_iSeq, x_iCall, x_gfName, x_gfTup, eLc, noX_is, Res.bind_ok, Res.bind_exc, flow_ok, flow_exc, seqK_next, seqK_ret, seqK_exc, seqK_brk, seqK_cont, loopK_next, loopK_cont, loopK_brk, loopK_ret, loopK_exc, must_ok, List.set_cons_succ, List.set_cons_zero, List.getD_cons_succ, List.getD_cons_zero, vD_some, if_true, if_false, Bool.false_eq_true, reduceIte, List.map_cons, List.map_nil, List.length_cons, List.length_nil, List.cons_append, List.nil_append, List.replicate, Nat.reduceSub, Nat.reduceAdd, x_add, x_sub, x_cmp, x_eq_ii, x_ne_ii, x_int_i, x_len_t, x_len_l, x_tup_l, x_tup_t, x_list_l, x_list_t, x_dSl_t, x_dSl_l, x_items_t, x_items_l, x_tru_n, x_tru_b, x_tru_i, x_tru_t, x_tru_l, x_asB, x_is_n, x_isNot_n, isNon_n, isNon_i, isNon_s, isNon_t, isNon_l, isNon_b, Bool.not_true, Bool.not_false, List.length_map, fnE, startE, C__is_delta, e]
theorem isd_l (xs : List D) : C__is_delta [.lst xs] = .ok (.bl false) := by
  simp only [sSeq_x, x_sSet, x_sIf, x_sRet, x_sRetN, x_sPar, x_sUnp, resF_ok, x_sDrop, x_sNext, x_sBreak, x_sCont, x_sRaise, x_sAug, augK_ok, x_sFor, x_sWhile, sKill_x, x_wipe0, x_wipe1, x_evL0, x_evL1, x_setL0, x_setL1, x_eVar, x_eC, x_eOp, x_eUn, x_eCall, x_eMS, x_asStr, x_aNil, x_aCons, x_eTup, x_eLst, x_eIf, x_eNot, x_eAnd, x_eOr, x_bAnd, x_bOr, x_bNot, x_bYes, x_eSl, x_oNone, x_oSome, asI_int, x_iSeq, x_iCall, x_gfName, x_gfTup, eLc, noX_is, Res.bind_ok, Res.bind_exc, flow_ok, flow_exc, seqK_next, seqK_ret, seqK_exc, seqK_brk, seqK_cont, loopK_next, loopK_cont, loopK_brk, loopK_ret, loopK_exc, must_ok, List.set_cons_succ, List.set_cons_zero, List.getD_cons_succ, List.getD_cons_zero, vD_some, if_true, if_false, Bool.false_eq_true, reduceIte, List.map_cons, List.map_nil, List.length_cons, List.length_nil, List.cons_append, List.nil_append, List.replicate, Nat.reduceSub, Nat.reduceAdd, x_add, x_sub, x_cmp, x_eq_ii, x_ne_ii, x_int_i, x_len_t, x_len_l, x_tup_l, x_tup_t, x_list_l, x_list_t, x_dSl_t, x_dSl_l, x_items_t, x_items_l, x_tru_n, x_tru_b, x_tru_i, x_tru_t, x_tru_l, x_asB, x_is_n, x_isNot_n, isNon_n, isNon_i, isNon_s, isNon_t, isNon_l, isNon_b, Bool.not_true, Bool.not_false, List.length_map, fnE, startE, C__is_delta, F__is_delta, isi_l, k_tl]
/-! the law's look at a piece -/
theorem lisrow (r : List Nat) : C__law_is_row [rowD r] = .ok (.bl (r.all fun x => decide (x < 256))) := by
  have hb := lc_fun (gf := gfName 1) (f := eAnd (eUn (dIsi isInt) (eVar 1)) (eAnd (eNot (eUn (dIsi isBool) (eVar 1))) (eChain (dCmpI iLe) (dCmpI iLt) (eC (.int 0)) (eVar 1) (eC (.int 256))))) (ρ := [some (rowD r), none]) (e := dN) (g := fun x => .bl (decide (x < 256))) (xs := r) fun x hx => ⟨_, rfl, by
    have g0 : iLe 0 (x : Int) = true := decide_eq_true (by omega)
    have g : iLt (x : Int) 256 = decide (x < 256) := by
      show decide _ = decide _
      by_cases h : x < 256
      · rw [decide_eq_true h, decide_eq_true (by omega)]
      · rw [decide_eq_false h, decide_eq_false (by omega)]
    simp only [sSeq_x, x_sSet, x_sIf, x_sRet, x_sRetN, x_sPar, x_sUnp, resF_ok, x_sDrop, x_sNext, x_sBreak, x_sCont, x_sRaise, x_sAug, augK_ok, x_sFor, x_sWhile, sKill_x, x_wipe0, x_wipe1, x_evL0, x_evL1, x_setL0, x_setL1, x_eVar, x_eC, x_eOp, x_eUn, x_eCall, x_eMS, x_asStr, x_aNil, x_aCons, x_eTup, x_eLst, x_eIf, x_eNot, x_eAnd, x_eOr, x_bAnd, x_bOr, x_bNot, x_bYes, x_eSl, x_oNone, x_oSome, asI_int, x_iSeq, x_iCall, x_gfName, x_gfTup, eLc, noX_is, Res.bind_ok, Res.bind_exc, flow_ok, flow_exc, seqK_next, seqK_ret, seqK_exc, seqK_brk, seqK_cont, loopK_next, loopK_cont, loopK_brk, loopK_ret, loopK_exc, must_ok, List.set_cons_succ, List.set_cons_zero, List.getD_cons_succ, List.getD_cons_zero, vD_some, if_true, if_false, Bool.false_eq_true, reduceIte, List.map_cons, List.map_nil, List.length_cons, List.length_nil, List.cons_append, List.nil_append, List.replicate, Nat.reduceSub, Nat.reduceAdd, x_add, x_sub, x_cmp, x_eq_ii, x_ne_ii, x_int_i, x_len_t, x_len_l, x_tup_l, x_tup_t, x_list_l, x_list_t, x_dSl_t, x_dSl_l, x_items_t, x_items_l, x_tru_n, x_tru_b, x_tru_i, x_tru_t, x_tru_l, x_asB, x_is_n, x_isNot_n, isNon_n, isNon_i, isNon_s, isNon_t, isNon_l, isNon_b, Bool.not_true, Bool.not_false, List.length_map, fnE, startE, isi_i, k_ii, k_bi, eChain, g0, g]⟩
  have ea := x_all_f (fun x => decide (x < 256)) r
  have e : F__law_is_row [some (rowD r), none] = .ret (.bl (r.all fun x => decide (x < 256))) := by
    simp only [sSeq_x, x_sSet, x_sIf, x_sRet, x_sRetN, x_sPar, x_sUnp, resF_ok, x_sDrop, x_sNext, x_sBreak, x_sCont, x_sRaise, x_sAug, augK_ok, x_sFor, x_sWhile, sKill_x, x_wipe0, x_wipe1, x_evL0, x_evL1, x_setL0, x_setL1, x_eVar, x_eC, x_eOp, x_eUn, x_eCall, x_eMS, x_asStr, x_aNil, x_aCons, x_eTup, x_eLst, x_eIf, x_eNot, x_eAnd, x_eOr, x_bAnd, x_bOr, x_bNot, x_bYes, x_eSl, x_oNone, x_oSome, asI_int, x_iSeq, x_iCall, x_gfName, x_gfTup, eLc, noX_is, Res.bind_ok, Res.bind_exc, flow_ok, flow_exc, seqK_next, seqK_ret, seqK_exc, seqK_brk, seqK_cont, loopK_next, loopK_cont, loopK_brk, loopK_ret, loopK_exc, must_ok, List.set_cons_succ, List.set_cons_zero, List.getD_cons_succ, List.getD_cons_zero, vD_some, if_true, if_false, Bool.false_eq_true, reduceIte, List.map_cons, List.map_nil, List.length_cons, List.length_nil, List.cons_append, List.nil_append, List.replicate, Nat.reduceSub, Nat.reduceAdd, x_add, x_sub, x_cmp, x_eq_ii, x_ne_ii, x_int_i, x_len_t, x_len_l, x_tup_l, x_tup_t, x_list_l, x_list_t, x_dSl_t, x_dSl_l, x_items_t, x_items_l, x_tru_n, x_tru_b, x_tru_i, x_tru_t, x_tru_l, x_asB, x_is_n, x_isNot_n, isNon_n, isNon_i, isNon_s, isNon_t, isNon_l, isNon_b, Bool.not_true, Bool.not_false, List.length_map, fnE, startE, F__law_is_row, isi_t, k_tt, hb, ea]
  simp only [sSeq_x, x_sSet, x_sIf, x_sRet, x_sRetN, x_sPar, x_sUnp, resF_ok, x_sDrop, x_sNext, x_sBreak, x_sCont, x_sRaise, x_sAug, augK_ok, x_sFor, x_sWhile, sKill_x, x_wipe0, x_wipe1, x_evL0, x_evL1, x_setL0, x_setL1, x_eVar, x_eC, x_eOp, x_eUn, x_eCall, x_eMS, x_asStr, x_aNil, x_aCons, x_eTup, x_eLst, x_eIf, x_eNot, x_eAnd, x_eOr, x_bAnd, x_bOr, x_bNot, x_bYes, x_eSl, x_oNone, x_oSome, asI_int, x_iSeq, x_iCall, x_gfName, x_gfTup, eLc, noX_is, Res.bind_ok, Res.bind_exc, flow_ok, flow_exc, seqK_next, seqK_ret, seqK_exc, seqK_brk, seqK_cont, loopK_next, loopK_cont, loopK_brk, loopK_ret, loopK_exc, must_ok, List.set_cons_succ, List.set_cons_zero, List.getD_cons_succ, List.getD_cons_zero, vD_some, if_true, if_false, Bool.false_eq_true, reduceIte, List.map_cons, List.map_nil, List.length_cons, List.length_nil, List.cons_append, List.nil_append, List.replicate, Nat.reduceSub, Nat.reduceAdd, x_add, x_sub, x_cmp, x_eq_ii, x_ne_ii, x_int_i, x_len_t, x_len_l, x_tup_l, x_tup_t, x_list_l, x_list_t, x_dSl_t, x_dSl_l, x_items_t, x_items_l, x_tru_n, x_tru_b, x_tru_i, x_tru_t, x_tru_l, x_asB, x_is_n, x_isNot_n, isNon_n, isNon_i, isNon_s, isNon_t, isNon_l, isNon_b, Bool.not_true, Bool.not_false, List.length_map, fnE, startE, C__law_is_row, e]
theorem row_ne (o : List Nat) : dEq (rowD o) (.tup []) = .ok (.bl (!decide (0 < o.length))) := by
  have k1 : okN 60 (rowD o) = true := ok_ints 59 o
  have k2 : okN 60 (.tup []) = true := okN_tup fun x hx => nomatch hx
  unfold dEq
  rw [k1, k2, Bool.and_self, if_pos rfl]
  congr 2
  cases o with
  | nil => rfl
  | cons a o => rfl
theorem consts : dNotIn (.int ((3 : Nat) : Int)) (.tup [.int 2, .int 3]) = .ok (.bl false) ∧ dNotIn (.int ((2 : Nat) : Int)) (.tup [.int 2, .int 3]) = .ok (.bl false) := ⟨by kernel_rfl, by kernel_rfl⟩
abbrev DL : EF := eDLit (((eC (.int 2)), (eC (.str "put"))) :: (((eC (.int 3)), (eC (.str "copy"))) :: [])) (eCall fLen (aCons (eVar 2) aNil))
theorem dl_3 (a b : Option D) (x y z : D) : DL [a, b, some (.tup [x, y, z]), none, none, none] = .ok (.str "copy") := rfl
theorem dl_2 (a b : Option D) (x y : D) : DL [a, b, some (.tup [x, y]), none, none, none] = .ok (.str "put") := rfl
theorem wne : dNe (.str "copy") (.str "copy") = .ok (.bl false) ∧ dNe (.str "put") (.str "put") = .ok (.bl false) := ⟨by kernel_rfl, by kernel_rfl⟩
theorem lf_pc (p : Pc) (a b : Option D) : B__law_fault_1 [a, b, some (pcD p), none, none, none] = if p.ok = true then .next [a, b, none, none, none, none] else .ret (.str "form") := by
  cases p with
  | cp x n =>
    have d3 := dl_3 a b (.str "copy") (dN x) (dN n)
    have hb : lcE (gfName 5) bYes (eAnd (eUn (dIsi isInt) (eVar 5)) (eAnd (eNot (eUn (dIsi isBool) (eVar 5))) (eOp (dCmpI iGe) (eVar 5) (eC (.int 0))))) [a, b, some (.tup [.str "copy", dN x, dN n]), none, none, none] [dN x, dN n] = .ok [.bl true, .bl true] := lc_fun (e := fun i : Nat => dN i) (g := fun _ => .bl true) (xs := [x, n]) fun i hi => ⟨_, rfl, by
      have g : iGe (i : Int) 0 = true := decide_eq_true (by omega)
      simp only [sSeq_x, x_sSet, x_sIf, x_sRet, x_sRetN, x_sPar, x_sUnp, resF_ok, x_sDrop, x_sNext, x_sBreak, x_sCont, x_sRaise, x_sAug, augK_ok, x_sFor, x_sWhile, sKill_x, x_wipe0, x_wipe1, x_evL0, x_evL1, x_setL0, x_setL1, x_eVar, x_eC, x_eOp, x_eUn, x_eCall, x_eMS, x_asStr, x_aNil, x_aCons, x_eTup, x_eLst, x_eIf, x_eNot, x_eAnd, x_eOr, x_bAnd, x_bOr, x_bNot, x_bYes, x_eSl, x_oNone, x_oSome, asI_int, x_iSeq, x_iCall, x_gfName, x_gfTup, eLc, noX_is, Res.bind_ok, Res.bind_exc, flow_ok, flow_exc, seqK_next, seqK_ret, seqK_exc, seqK_brk, seqK_cont, loopK_next, loopK_cont, loopK_brk, loopK_ret, loopK_exc, must_ok, List.set_cons_succ, List.set_cons_zero, List.getD_cons_succ, List.getD_cons_zero, vD_some, if_true, if_false, Bool.false_eq_true, reduceIte, List.map_cons, List.map_nil, List.length_cons, List.length_nil, List.cons_append, List.nil_append, List.replicate, Nat.reduceSub, Nat.reduceAdd, x_add, x_sub, x_cmp, x_eq_ii, x_ne_ii, x_int_i, x_len_t, x_len_l, x_tup_l, x_tup_t, x_list_l, x_list_t, x_dSl_t, x_dSl_l, x_items_t, x_items_l, x_tru_n, x_tru_b, x_tru_i, x_tru_t, x_tru_l, x_asB, x_is_n, x_isNot_n, isNon_n, isNon_i, isNon_s, isNon_t, isNon_l, isNon_b, Bool.not_true, Bool.not_false, List.length_map, fnE, startE, isi_i, k_ii, k_bi, g]⟩
    have c : cut [D.str "copy", dN x, dN n] (some 1) none = [dN x, dN n] := rfl
    have ea : fAll [.lst [.bl true, .bl true]] = .ok (.bl true) := rfl
    have en : dEq (dN n) (.int 0) = .ok (.bl (!decide (0 < n))) := by
      rw [x_eq_ii]
      congr 2
      by_cases h : 0 < n
      · rw [decide_eq_true h]
        exact beq_eq_false_iff_ne.mpr (by omega)
      · have : n = 0 := by omega
        subst this
        rfl
    show B__law_fault_1 [a, b, some (.tup [.str "copy", dN x, dN n]), none, none, none] = if decide (0 < n) = true then _ else _
    cases h : decide (0 < n) with
    | true =>
      rw [h] at en
      rw [if_pos rfl]
      simp only [sSeq_x, x_sSet, x_sIf, x_sRet, x_sRetN, x_sPar, x_sUnp, resF_ok, x_sDrop, x_sNext, x_sBreak, x_sCont, x_sRaise, x_sAug, augK_ok, x_sFor, x_sWhile, sKill_x, x_wipe0, x_wipe1, x_evL0, x_evL1, x_setL0, x_setL1, x_eVar, x_eC, x_eOp, x_eUn, x_eCall, x_eMS, x_asStr, x_aNil, x_aCons, x_eTup, x_eLst, x_eIf, x_eNot, x_eAnd, x_eOr, x_bAnd, x_bOr, x_bNot, x_bYes, x_eSl, x_oNone, x_oSome, asI_int, x_iSeq, x_iCall, x_gfName, x_gfTup, eLc, noX_is, Res.bind_ok, Res.bind_exc, flow_ok, flow_exc, seqK_next, seqK_ret, seqK_exc, seqK_brk, seqK_cont, loopK_next, loopK_cont, loopK_brk, loopK_ret, loopK_exc, must_ok, List.set_cons_succ, List.set_cons_zero, List.getD_cons_succ, List.getD_cons_zero, vD_some, if_true, if_false, Bool.false_eq_true, reduceIte, List.map_cons, List.map_nil, List.length_cons, List.length_nil, List.cons_append, List.nil_append, List.replicate, Nat.reduceSub, Nat.reduceAdd, x_add, x_sub, x_cmp, x_eq_ii, x_ne_ii, x_int_i, x_len_t, x_len_l, x_tup_l, x_tup_t, x_list_l, x_list_t, x_dSl_t, x_dSl_l, x_items_t, x_items_l, x_tru_n, x_tru_b, x_tru_i, x_tru_t, x_tru_l, x_asB, x_is_n, x_isNot_n, isNon_n, isNon_i, isNon_s, isNon_t, isNon_l, isNon_b, Bool.not_true, Bool.not_false, List.length_map, fnE, startE, B__law_fault_1, isi_t, k_tt, consts.1, ixc, isi_s, k_ss, d3, wne.1, z23, c, hb, ea, en]
    | false =>
      rw [h] at en
      rw [if_neg Bool.false_ne_true]
      simp only [sSeq_x, x_sSet, x_sIf, x_sRet, x_sRetN, x_sPar, x_sUnp, resF_ok, x_sDrop, x_sNext, x_sBreak, x_sCont, x_sRaise, x_sAug, augK_ok, x_sFor, x_sWhile, sKill_x, x_wipe0, x_wipe1, x_evL0, x_evL1, x_setL0, x_setL1, x_eVar, x_eC, x_eOp, x_eUn, x_eCall, x_eMS, x_asStr, x_aNil, x_aCons, x_eTup, x_eLst, x_eIf, x_eNot, x_eAnd, x_eOr, x_bAnd, x_bOr, x_bNot, x_bYes, x_eSl, x_oNone, x_oSome, asI_int, x_iSeq, x_iCall, x_gfName, x_gfTup, eLc, noX_is, Res.bind_ok, Res.bind_exc, flow_ok, flow_exc, seqK_next, seqK_ret, seqK_exc, seqK_brk, seqK_cont, loopK_next, loopK_cont, loopK_brk, loopK_ret, loopK_exc, must_ok, List.set_cons_succ, List.set_cons_zero, List.getD_cons_succ, List.getD_cons_zero, vD_some, if_true, if_false, Bool.false_eq_true, reduceIte, List.map_cons, List.map_nil, List.length_cons, List.length_nil, List.cons_append, List.nil_append, List.replicate, Nat.reduceSub, Nat.reduceAdd, x_add, x_sub, x_cmp, x_eq_ii, x_ne_ii, x_int_i, x_len_t, x_len_l, x_tup_l, x_tup_t, x_list_l, x_list_t, x_dSl_t, x_dSl_l, x_items_t, x_items_l, x_tru_n, x_tru_b, x_tru_i, x_tru_t, x_tru_l, x_asB, x_is_n, x_isNot_n, isNon_n, isNon_i, isNon_s, isNon_t, isNon_l, isNon_b, Bool.not_true, Bool.not_false, List.length_map, fnE, startE, B__law_fault_1, isi_t, k_tt, consts.1, ixc, isi_s, k_ss, d3, wne.1, z23, c, hb, ea, en]
  | pt o =>
    have d2 := dl_2 a b (.str "put") (rowD o)
    have r := lisrow o
    have e := row_ne o
    show B__law_fault_1 [a, b, some (.tup [.str "put", rowD o]), none, none, none] = if (decide (0 < o.length) && o.all fun x => decide (x < 256)) = true then _ else _
    generalize rowD o = RO at *
    cases h : o.all (fun x => decide (x < 256)) with
    | false =>
      rw [h] at r
      rw [Bool.and_false, if_neg Bool.false_ne_true]
      simp only [sSeq_x, x_sSet, x_sIf, x_sRet, x_sRetN, x_sPar, x_sUnp, resF_ok, x_sDrop, x_sNext, x_sBreak, x_sCont, x_sRaise, x_sAug, augK_ok, x_sFor, x_sWhile, sKill_x, x_wipe0, x_wipe1, x_evL0, x_evL1, x_setL0, x_setL1, x_eVar, x_eC, x_eOp, x_eUn, x_eCall, x_eMS, x_asStr, x_aNil, x_aCons, x_eTup, x_eLst, x_eIf, x_eNot, x_eAnd, x_eOr, x_bAnd, x_bOr, x_bNot, x_bYes, x_eSl, x_oNone, x_oSome, asI_int, x_iSeq, x_iCall, x_gfName, x_gfTup, eLc, noX_is, Res.bind_ok, Res.bind_exc, flow_ok, flow_exc, seqK_next, seqK_ret, seqK_exc, seqK_brk, seqK_cont, loopK_next, loopK_cont, loopK_brk, loopK_ret, loopK_exc, must_ok, List.set_cons_succ, List.set_cons_zero, List.getD_cons_succ, List.getD_cons_zero, vD_some, if_true, if_false, Bool.false_eq_true, reduceIte, List.map_cons, List.map_nil, List.length_cons, List.length_nil, List.cons_append, List.nil_append, List.replicate, Nat.reduceSub, Nat.reduceAdd, x_add, x_sub, x_cmp, x_eq_ii, x_ne_ii, x_int_i, x_len_t, x_len_l, x_tup_l, x_tup_t, x_list_l, x_list_t, x_dSl_t, x_dSl_l, x_items_t, x_items_l, x_tru_n, x_tru_b, x_tru_i, x_tru_t, x_tru_l, x_asB, x_is_n, x_isNot_n, isNon_n, isNon_i, isNon_s, isNon_t, isNon_l, isNon_b, Bool.not_true, Bool.not_false, List.length_map, fnE, startE, B__law_fault_1, isi_t, k_tt, consts.2, ixp, isi_s, k_ss, d2, wne.2, z23, r]
    | true =>
      rw [h] at r
      cases h2 : decide (0 < o.length) with
      | true =>
        rw [h2] at e
        rw [Bool.and_true, if_pos rfl]
        simp only [sSeq_x, x_sSet, x_sIf, x_sRet, x_sRetN, x_sPar, x_sUnp, resF_ok, x_sDrop, x_sNext, x_sBreak, x_sCont, x_sRaise, x_sAug, augK_ok, x_sFor, x_sWhile, sKill_x, x_wipe0, x_wipe1, x_evL0, x_evL1, x_setL0, x_setL1, x_eVar, x_eC, x_eOp, x_eUn, x_eCall, x_eMS, x_asStr, x_aNil, x_aCons, x_eTup, x_eLst, x_eIf, x_eNot, x_eAnd, x_eOr, x_bAnd, x_bOr, x_bNot, x_bYes, x_eSl, x_oNone, x_oSome, asI_int, x_iSeq, x_iCall, x_gfName, x_gfTup, eLc, noX_is, Res.bind_ok, Res.bind_exc, flow_ok, flow_exc, seqK_next, seqK_ret, seqK_exc, seqK_brk, seqK_cont, loopK_next, loopK_cont, loopK_brk, loopK_ret, loopK_exc, must_ok, List.set_cons_succ, List.set_cons_zero, List.getD_cons_succ, List.getD_cons_zero, vD_some, if_true, if_false, Bool.false_eq_true, reduceIte, List.map_cons, List.map_nil, List.length_cons, List.length_nil, List.cons_append, List.nil_append, List.replicate, Nat.reduceSub, Nat.reduceAdd, x_add, x_sub, x_cmp, x_eq_ii, x_ne_ii, x_int_i, x_len_t, x_len_l, x_tup_l, x_tup_t, x_list_l, x_list_t, x_dSl_t, x_dSl_l, x_items_t, x_items_l, x_tru_n, x_tru_b, x_tru_i, x_tru_t, x_tru_l, x_asB, x_is_n, x_isNot_n, isNon_n, isNon_i, isNon_s, isNon_t, isNon_l, isNon_b, Bool.not_true, Bool.not_false, List.length_map, fnE, startE, B__law_fault_1, isi_t, k_tt, consts.2, ixp, isi_s, k_ss, d2, wne.2, z23, r, e]
      | false =>
        rw [h2] at e
        rw [Bool.and_true, if_neg Bool.false_ne_true]
        simp only [sSeq_x, x_sSet, x_sIf, x_sRet, x_sRetN, x_sPar, x_sUnp, resF_ok, x_sDrop, x_sNext, x_sBreak, x_sCont, x_sRaise, x_sAug, augK_ok, x_sFor, x_sWhile, sKill_x, x_wipe0, x_wipe1, x_evL0, x_evL1, x_setL0, x_setL1, x_eVar, x_eC, x_eOp, x_eUn, x_eCall, x_eMS, x_asStr, x_aNil, x_aCons, x_eTup, x_eLst, x_eIf, x_eNot, x_eAnd, x_eOr, x_bAnd, x_bOr, x_bNot, x_bYes, x_eSl, x_oNone, x_oSome, asI_int, x_iSeq, x_iCall, x_gfName, x_gfTup, eLc, noX_is, Res.bind_ok, Res.bind_exc, flow_ok, flow_exc, seqK_next, seqK_ret, seqK_exc, seqK_brk, seqK_cont, loopK_next, loopK_cont, loopK_brk, loopK_ret, loopK_exc, must_ok, List.set_cons_succ, List.set_cons_zero, List.getD_cons_succ, List.getD_cons_zero, vD_some, if_true, if_false, Bool.false_eq_true, reduceIte, List.map_cons, List.map_nil, List.length_cons, List.length_nil, List.cons_append, List.nil_append, List.replicate, Nat.reduceSub, Nat.reduceAdd, x_add, x_sub, x_cmp, x_eq_ii, x_ne_ii, x_int_i, x_len_t, x_len_l, x_tup_l, x_tup_t, x_list_l, x_list_t, x_dSl_t, x_dSl_l, x_items_t, x_items_l, x_tru_n, x_tru_b, x_tru_i, x_tru_t, x_tru_l, x_asB, x_is_n, x_isNot_n, isNon_n, isNon_i, isNon_s, isNon_t, isNon_l, isNon_b, Bool.not_true, Bool.not_false, List.length_map, fnE, startE, B__law_fault_1, isi_t, k_tt, consts.2, ixp, isi_s, k_ss, d2, wne.2, z23, r, e]
theorem lf_it {i : It} (h : itG i) (a b : Option D) : B__law_fault_1 [a, b, some (itD i), none, none, none] = if itOk i = true then .next [a, b, none, none, none, none] else .ret (.str "form") := by
  cases i with
  | pc p => exact lf_pc p a b
  | bad d => rw [if_neg (show ¬ itOk (.bad d) = true from Bool.false_ne_true)]; exact BadD.lf h a b
theorem lf_loop (a b : Option D) : ∀ (xs : List It), (∀ i ∈ xs, itG i) → forE (gfName 2) B__law_fault_1 (xs.map itD) [a, b, none, none, none, none] = if xs.all itOk = true then .next [a, b, none, none, none, none] else .ret (.str "form")
  | [], _ => rfl
  | i :: xs, h => by
    have ih := lf_loop a b xs fun j hj => h j (List.mem_cons_of_mem _ hj)
    have st := lf_it (h i List.mem_cons_self) a b
    rw [List.map_cons, forE_cons, List.all_cons]
    cases hi : itOk i with
    | true =>
      rw [hi, if_pos rfl] at st
      rw [Bool.true_and, ← ih]
      show loopK _ _ = _
      simp only [sSeq_x, x_sSet, x_sIf, x_sRet, x_sRetN, x_sPar, x_sUnp, resF_ok, x_sDrop, x_sNext, x_sBreak, x_sCont, x_sRaise, x_sAug, augK_ok, x_sFor, x_sWhile, sKill_x, x_wipe0, x_wipe1, x_evL0, x_evL1, x_setL0, x_setL1, x_eVar, x_eC, x_eOp, x_eUn, x_eCall, x_eMS, x_asStr, x_aNil, x_aCons, x_eTup, x_eLst, x_eIf, x_eNot, x_eAnd, x_eOr, x_bAnd, x_bOr, x_bNot, x_bYes, x_eSl, x_oNone, x_oSome, asI_int, x_iSeq, x_iCall, x_gfName, x_gfTup, eLc, noX_is, Res.bind_ok, Res.bind_exc, flow_ok, flow_exc, seqK_next, seqK_ret, seqK_exc, seqK_brk, seqK_cont, loopK_next, loopK_cont, loopK_brk, loopK_ret, loopK_exc, must_ok, List.set_cons_succ, List.set_cons_zero, List.getD_cons_succ, List.getD_cons_zero, vD_some, if_true, if_false, Bool.false_eq_true, reduceIte, List.map_cons, List.map_nil, List.length_cons, List.length_nil, List.cons_append, List.nil_append, List.replicate, Nat.reduceSub, Nat.reduceAdd, x_add, x_sub, x_cmp, x_eq_ii, x_ne_ii, x_int_i, x_len_t, x_len_l, x_tup_l, x_tup_t, x_list_l, x_list_t, x_dSl_t, x_dSl_l, x_items_t, x_items_l, x_tru_n, x_tru_b, x_tru_i, x_tru_t, x_tru_l, x_asB, x_is_n, x_isNot_n, isNon_n, isNon_i, isNon_s, isNon_t, isNon_l, isNon_b, Bool.not_true, Bool.not_false, List.length_map, fnE, startE, st]
    | false =>
      rw [hi, if_neg Bool.false_ne_true] at st
      rw [Bool.false_and, if_neg Bool.false_ne_true]
      show loopK _ _ = _
      simp only [sSeq_x, x_sSet, x_sIf, x_sRet, x_sRetN, x_sPar, x_sUnp, resF_ok, x_sDrop, x_sNext, x_sBreak, x_sCont, x_sRaise, x_sAug, augK_ok, x_sFor, x_sWhile, sKill_x, x_wipe0, x_wipe1, x_evL0, x_evL1, x_setL0, x_setL1, x_eVar, x_eC, x_eOp, x_eUn, x_eCall, x_eMS, x_asStr, x_aNil, x_aCons, x_eTup, x_eLst, x_eIf, x_eNot, x_eAnd, x_eOr, x_bAnd, x_bOr, x_bNot, x_bYes, x_eSl, x_oNone, x_oSome, asI_int, x_iSeq, x_iCall, x_gfName, x_gfTup, eLc, noX_is, Res.bind_ok, Res.bind_exc, flow_ok, flow_exc, seqK_next, seqK_ret, seqK_exc, seqK_brk, seqK_cont, loopK_next, loopK_cont, loopK_brk, loopK_ret, loopK_exc, must_ok, List.set_cons_succ, List.set_cons_zero, List.getD_cons_succ, List.getD_cons_zero, vD_some, if_true, if_false, Bool.false_eq_true, reduceIte, List.map_cons, List.map_nil, List.length_cons, List.length_nil, List.cons_append, List.nil_append, List.replicate, Nat.reduceSub, Nat.reduceAdd, x_add, x_sub, x_cmp, x_eq_ii, x_ne_ii, x_int_i, x_len_t, x_len_l, x_tup_l, x_tup_t, x_list_l, x_list_t, x_dSl_t, x_dSl_l, x_items_t, x_items_l, x_tru_n, x_tru_b, x_tru_i, x_tru_t, x_tru_l, x_asB, x_is_n, x_isNot_n, isNon_n, isNon_i, isNon_s, isNon_t, isNon_l, isNon_b, Bool.not_true, Bool.not_false, List.length_map, fnE, startE, st]
/-! the first piece out of range -/
def outI (m : Nat) (ps : List Pc) : List Nat := (List.range ps.length).filter fun k => !(ps.getD k (.pt [])).inn m
def fltN (m : Nat) (ps : List Pc) : Option Nat := (outI m ps).head?
def fltD (m : Nat) (ps : List Pc) : D := match outI m ps with
  | [] => .non
  | k :: _ => dN k
theorem lc_filter {α : Type} {gf : Px.Env → D → Res Px.Env} {tt : Px.Env → Res Bool} {f : EF} {ρ : Px.Env} {e : α → D} {p : α → Bool} {g : α → D} : ∀ {xs : List α}, (∀ x ∈ xs, ∃ ρ1, gf ρ (e x) = .ok ρ1 ∧ tt ρ1 = .ok (p x) ∧ f ρ1 = .ok (g x)) → lcE gf tt f ρ (xs.map e) = .ok ((xs.filter p).map g)
  | [], _ => rfl
  | x :: xs, h => by
    obtain ⟨ρ1, e1, e2, e3⟩ := h x List.mem_cons_self
    have ih := lc_filter (xs := xs) fun y hy => h y (List.mem_cons_of_mem _ hy)
    rw [List.map_cons, List.filter_cons]
    cases hp : p x with
    | true =>
      rw [hp] at e2
      simp only [lcE, e1, e2, e3, ih, noX_is, Res.bind_ok, if_true, List.map_cons]
    | false =>
      rw [hp] at e2
      simp [lcE, e1, e2, e3, ih]
theorem pcs_of : ∀ {xs : List It}, xs.all itOk = true → ∃ ps : List Pc, xs = ps.map It.pc
  | [], _ => ⟨[], rfl⟩
  | i :: xs, h => by
    rw [List.all_cons, Bool.and_eq_true] at h
    obtain ⟨ps, e⟩ := pcs_of h.2
    cases i with
    | pc p => exact ⟨p :: ps, by rw [e]; rfl⟩
    | bad d => exact absurd h.1 Bool.false_ne_true
def fi (m : Nat) : List Pc → Nat → Option Nat
  | [], _ => none
  | p :: ps, j => if p.inn m = true then fi m ps (j + 1) else some j
def onN : Option Nat → D
  | none => .non
  | some k => dN k
theorem fi_none {m : Nat} : ∀ {ps : List Pc} {j : Nat}, fi m ps j = none ↔ ∀ p ∈ ps, p.inn m = true
  | [], _ => ⟨fun _ p h => (nomatch h), fun _ => rfl⟩
  | p :: ps, j => by
    rw [fi]
    by_cases h : p.inn m = true
    · rw [if_pos h, fi_none]
      exact ⟨fun z q hq => (List.mem_cons.mp hq).elim (fun e => e ▸ h) (z q), fun z q hq => z q (List.mem_cons_of_mem _ hq)⟩
    · rw [if_neg h]
      exact ⟨fun z => (nomatch z), fun z => absurd (z p List.mem_cons_self) h⟩
theorem fi_head {m : Nat} (ps0 : List Pc) : ∀ (ps : List Pc) (j : Nat), ps0.drop j = ps → ((List.range' j ps.length).filter fun k => !(ps0.getD k (.pt [])).inn m).head? = fi m ps j
  | [], _, _ => rfl
  | p :: ps, j, h => by
    have hj : j < ps0.length := by
      have := congrArg List.length h
      simp at this
      omega
    have h2 := List.drop_eq_getElem_cons hj
    rw [h] at h2
    injection h2 with e1 e2
    have eg : ps0.getD j (.pt []) = p := by rw [List.getD_eq_getElem?_getD, List.getElem?_eq_getElem hj, e1]; rfl
    have ih := fi_head (m := m) ps0 ps (j + 1) e2.symm
    rw [List.length_cons, List.range'_succ, List.filter_cons, eg, fi]
    by_cases hp : p.inn m = true
    · rw [hp, if_pos rfl, ← ih]
      rfl
    · rw [Bool.eq_false_iff.mpr hp, if_neg Bool.false_ne_true]
      rfl
section
variable {base : List Nat}
theorem pc_ix {ps : List Pc} {k : Nat} (h : k < ps.length) : dIx (.tup (ps.map pcD)) (dN k) = .ok (pcD (ps.getD k (.pt []))) := dIx_tm (by rw [List.getElem?_eq_getElem h, List.getD_eq_getElem?_getD, List.getElem?_eq_getElem h]; rfl)
theorem out_test (p : Pc) (m : Nat) : ∀ (P : Px.Env → Res Bool) (ρ : Px.Env) (fd : EF) (fb : EF), fd ρ = .ok (pcD p) → fb ρ = .ok (.int m) → bAnd (eUn asB (eOp (dEq) (eOp dIx fd (eC (.int 0))) (eC (.str "copy")))) (eUn asB (eOp (dCmpI iGt) (eOp dAdd (eOp dIx fd (eC (.int 1))) (eOp dIx fd (eC (.int 2)))) fb)) ρ = .ok (!p.inn m) := fun _ ρ fd fb h1 h2 => by
  cases p with
  | cp a n =>
    have h1 : fd ρ = .ok (.tup [.str "copy", dN a, dN n]) := h1
    have g : iGt ((a : Int) + (n : Int)) (m : Int) = !decide (a + n ≤ m) := by
      show decide _ = _
      by_cases h : a + n ≤ m
      · rw [decide_eq_true h, decide_eq_false (by omega)]; rfl
      · rw [decide_eq_false h, decide_eq_true (by omega)]; rfl
    show _ = Res.ok (!decide (a + n ≤ m))
    simp only [sSeq_x, x_sSet, x_sIf, x_sRet, x_sRetN, x_sPar, x_sUnp, resF_ok, x_sDrop, x_sNext, x_sBreak, x_sCont, x_sRaise, x_sAug, augK_ok, x_sFor, x_sWhile, sKill_x, x_wipe0, x_wipe1, x_evL0, x_evL1, x_setL0, x_setL1, x_eVar, x_eC, x_eOp, x_eUn, x_eCall, x_eMS, x_asStr, x_aNil, x_aCons, x_eTup, x_eLst, x_eIf, x_eNot, x_eAnd, x_eOr, x_bAnd, x_bOr, x_bNot, x_bYes, x_eSl, x_oNone, x_oSome, asI_int, x_iSeq, x_iCall, x_gfName, x_gfTup, eLc, noX_is, Res.bind_ok, Res.bind_exc, flow_ok, flow_exc, seqK_next, seqK_ret, seqK_exc, seqK_brk, seqK_cont, loopK_next, loopK_cont, loopK_brk, loopK_ret, loopK_exc, must_ok, List.set_cons_succ, List.set_cons_zero, List.getD_cons_succ, List.getD_cons_zero, vD_some, if_true, if_false, Bool.false_eq_true, reduceIte, List.map_cons, List.map_nil, List.length_cons, List.length_nil, List.cons_append, List.nil_append, List.replicate, Nat.reduceSub, Nat.reduceAdd, x_add, x_sub, x_cmp, x_eq_ii, x_ne_ii, x_int_i, x_len_t, x_len_l, x_tup_l, x_tup_t, x_list_l, x_list_t, x_dSl_t, x_dSl_l, x_items_t, x_items_l, x_tru_n, x_tru_b, x_tru_i, x_tru_t, x_tru_l, x_asB, x_is_n, x_isNot_n, isNon_n, isNon_i, isNon_s, isNon_t, isNon_l, isNon_b, Bool.not_true, Bool.not_false, List.length_map, fnE, startE, h1, h2, ixc, wds.1, g]
  | pt o =>
    have h1 : fd ρ = .ok (.tup [.str "put", rowD o]) := h1
    show _ = Res.ok false
    simp only [sSeq_x, x_sSet, x_sIf, x_sRet, x_sRetN, x_sPar, x_sUnp, resF_ok, x_sDrop, x_sNext, x_sBreak, x_sCont, x_sRaise, x_sAug, augK_ok, x_sFor, x_sWhile, sKill_x, x_wipe0, x_wipe1, x_evL0, x_evL1, x_setL0, x_setL1, x_eVar, x_eC, x_eOp, x_eUn, x_eCall, x_eMS, x_asStr, x_aNil, x_aCons, x_eTup, x_eLst, x_eIf, x_eNot, x_eAnd, x_eOr, x_bAnd, x_bOr, x_bNot, x_bYes, x_eSl, x_oNone, x_oSome, asI_int, x_iSeq, x_iCall, x_gfName, x_gfTup, eLc, noX_is, Res.bind_ok, Res.bind_exc, flow_ok, flow_exc, seqK_next, seqK_ret, seqK_exc, seqK_brk, seqK_cont, loopK_next, loopK_cont, loopK_brk, loopK_ret, loopK_exc, must_ok, List.set_cons_succ, List.set_cons_zero, List.getD_cons_succ, List.getD_cons_zero, vD_some, if_true, if_false, Bool.false_eq_true, reduceIte, List.map_cons, List.map_nil, List.length_cons, List.length_nil, List.cons_append, List.nil_append, List.replicate, Nat.reduceSub, Nat.reduceAdd, x_add, x_sub, x_cmp, x_eq_ii, x_ne_ii, x_int_i, x_len_t, x_len_l, x_tup_l, x_tup_t, x_list_l, x_list_t, x_dSl_t, x_dSl_l, x_items_t, x_items_l, x_tru_n, x_tru_b, x_tru_i, x_tru_t, x_tru_l, x_asB, x_is_n, x_isNot_n, isNon_n, isNon_i, isNon_s, isNon_t, isNon_l, isNon_b, Bool.not_true, Bool.not_false, List.length_map, fnE, startE, h1, h2, ixp, wds.2.1]
theorem lfault_pc (ps : List Pc) (hl : ps.length ≤ 1000) (h : ∀ p ∈ ps, p.ok = true) : C__law_fault [rowD base, .tup (ps.map pcD)] = .ok (onN (fi base.length ps 0)) := by
  have hg : ∀ i ∈ ps.map It.pc, itOk i = true := fun i hi => by
    obtain ⟨p, hp, rfl⟩ := List.mem_map.mp hi
    exact h p hp
  have lo : forE (gfName 2) B__law_fault_1 (ps.map pcD) [some (rowD base), some (.tup (ps.map pcD)), none, none, none, none] = .next [some (rowD base), some (.tup (ps.map pcD)), none, none, none, none] := by
    clear hg
    have : ∀ qs : List Pc, (∀ p ∈ qs, p.ok = true) → forE (gfName 2) B__law_fault_1 (qs.map pcD) [some (rowD base), some (.tup (ps.map pcD)), none, none, none, none] = .next [some (rowD base), some (.tup (ps.map pcD)), none, none, none, none] := fun qs => by
      induction qs with
      | nil => exact fun _ => rfl
      | cons p qs ih =>
        intro hq
        have st := lf_pc p (some (rowD base)) (some (.tup (ps.map pcD)))
        rw [if_pos (hq p List.mem_cons_self)] at st
        rw [List.map_cons, forE_cons, ← ih fun q hq' => hq q (List.mem_cons_of_mem _ hq')]
        show loopK _ _ = _
        simp only [sSeq_x, x_sSet, x_sIf, x_sRet, x_sRetN, x_sPar, x_sUnp, resF_ok, x_sDrop, x_sNext, x_sBreak, x_sCont, x_sRaise, x_sAug, augK_ok, x_sFor, x_sWhile, sKill_x, x_wipe0, x_wipe1, x_evL0, x_evL1, x_setL0, x_setL1, x_eVar, x_eC, x_eOp, x_eUn, x_eCall, x_eMS, x_asStr, x_aNil, x_aCons, x_eTup, x_eLst, x_eIf, x_eNot, x_eAnd, x_eOr, x_bAnd, x_bOr, x_bNot, x_bYes, x_eSl, x_oNone, x_oSome, asI_int, x_iSeq, x_iCall, x_gfName, x_gfTup, eLc, noX_is, Res.bind_ok, Res.bind_exc, flow_ok, flow_exc, seqK_next, seqK_ret, seqK_exc, seqK_brk, seqK_cont, loopK_next, loopK_cont, loopK_brk, loopK_ret, loopK_exc, must_ok, List.set_cons_succ, List.set_cons_zero, List.getD_cons_succ, List.getD_cons_zero, vD_some, if_true, if_false, Bool.false_eq_true, reduceIte, List.map_cons, List.map_nil, List.length_cons, List.length_nil, List.cons_append, List.nil_append, List.replicate, Nat.reduceSub, Nat.reduceAdd, x_add, x_sub, x_cmp, x_eq_ii, x_ne_ii, x_int_i, x_len_t, x_len_l, x_tup_l, x_tup_t, x_list_l, x_list_t, x_dSl_t, x_dSl_l, x_items_t, x_items_l, x_tru_n, x_tru_b, x_tru_i, x_tru_t, x_tru_l, x_asB, x_is_n, x_isNot_n, isNon_n, isNon_i, isNon_s, isNon_t, isNon_l, isNon_b, Bool.not_true, Bool.not_false, List.length_map, fnE, startE, st]
    exact this ps h
  have r := dRng1_nat ps.length (by omega)
  have ln : fLen [.tup (ps.map pcD)] = .ok (.int ps.length) := by rw [x_len_t, List.length_map]
  have lb := row_len base
  have hb := lc_filter (gf := gfName 4) (tt := bAnd (eUn asB (eOp (dEq) (eOp dIx (eOp dIx (eVar 1) (eVar 4)) (eC (.int 0))) (eC (.str "copy")))) (eUn asB (eOp (dCmpI iGt) (eOp dAdd (eOp dIx (eOp dIx (eVar 1) (eVar 4)) (eC (.int 1))) (eOp dIx (eOp dIx (eVar 1) (eVar 4)) (eC (.int 2)))) (eCall fLen (aCons (eVar 0) aNil))))) (f := eVar 4) (ρ := [some (rowD base), some (.tup (ps.map pcD)), none, none, none, none]) (e := fun k : Nat => D.int (k : Nat)) (p := fun k => !(ps.getD k (.pt [])).inn base.length) (g := fun k => D.int (k : Nat)) (xs := List.range ps.length) fun k hk => ⟨_, rfl, by
    have i := pc_ix (List.mem_range.mp hk)
    exact out_test (ps.getD k (.pt [])) base.length (fun _ => .err) _ _ _ (by simp only [sSeq_x, x_sSet, x_sIf, x_sRet, x_sRetN, x_sPar, x_sUnp, resF_ok, x_sDrop, x_sNext, x_sBreak, x_sCont, x_sRaise, x_sAug, augK_ok, x_sFor, x_sWhile, sKill_x, x_wipe0, x_wipe1, x_evL0, x_evL1, x_setL0, x_setL1, x_eVar, x_eC, x_eOp, x_eUn, x_eCall, x_eMS, x_asStr, x_aNil, x_aCons, x_eTup, x_eLst, x_eIf, x_eNot, x_eAnd, x_eOr, x_bAnd, x_bOr, x_bNot, x_bYes, x_eSl, x_oNone, x_oSome, asI_int, x_iSeq, x_iCall, x_gfName, x_gfTup, eLc, noX_is, Res.bind_ok, Res.bind_exc, flow_ok, flow_exc, seqK_next, seqK_ret, seqK_exc, seqK_brk, seqK_cont, loopK_next, loopK_cont, loopK_brk, loopK_ret, loopK_exc, must_ok, List.set_cons_succ, List.set_cons_zero, List.getD_cons_succ, List.getD_cons_zero, vD_some, if_true, if_false, Bool.false_eq_true, reduceIte, List.map_cons, List.map_nil, List.length_cons, List.length_nil, List.cons_append, List.nil_append, List.replicate, Nat.reduceSub, Nat.reduceAdd, x_add, x_sub, x_cmp, x_eq_ii, x_ne_ii, x_int_i, x_len_t, x_len_l, x_tup_l, x_tup_t, x_list_l, x_list_t, x_dSl_t, x_dSl_l, x_items_t, x_items_l, x_tru_n, x_tru_b, x_tru_i, x_tru_t, x_tru_l, x_asB, x_is_n, x_isNot_n, isNon_n, isNon_i, isNon_s, isNon_t, isNon_l, isNon_b, Bool.not_true, Bool.not_false, List.length_map, fnE, startE, i]) (by simp only [sSeq_x, x_sSet, x_sIf, x_sRet, x_sRetN, x_sPar, x_sUnp, resF_ok, x_sDrop, x_sNext, x_sBreak, x_sCont, x_sRaise, x_sAug, augK_ok, x_sFor, x_sWhile, sKill_x, x_wipe0, x_wipe1, x_evL0, x_evL1, x_setL0, x_setL1, x_eVar, x_eC, x_eOp, x_eUn, x_eCall, x_eMS, x_asStr, x_aNil, x_aCons, x_eTup, x_eLst, x_eIf, x_eNot, x_eAnd, x_eOr, x_bAnd, x_bOr, x_bNot, x_bYes, x_eSl, x_oNone, x_oSome, asI_int, x_iSeq, x_iCall, x_gfName, x_gfTup, eLc, noX_is, Res.bind_ok, Res.bind_exc, flow_ok, flow_exc, seqK_next, seqK_ret, seqK_exc, seqK_brk, seqK_cont, loopK_next, loopK_cont, loopK_brk, loopK_ret, loopK_exc, must_ok, List.set_cons_succ, List.set_cons_zero, List.getD_cons_succ, List.getD_cons_zero, vD_some, if_true, if_false, Bool.false_eq_true, reduceIte, List.map_cons, List.map_nil, List.length_cons, List.length_nil, List.cons_append, List.nil_append, List.replicate, Nat.reduceSub, Nat.reduceAdd, x_add, x_sub, x_cmp, x_eq_ii, x_ne_ii, x_int_i, x_len_t, x_len_l, x_tup_l, x_tup_t, x_list_l, x_list_t, x_dSl_t, x_dSl_l, x_items_t, x_items_l, x_tru_n, x_tru_b, x_tru_i, x_tru_t, x_tru_l, x_asB, x_is_n, x_isNot_n, isNon_n, isNon_i, isNon_s, isNon_t, isNon_l, isNon_b, Bool.not_true, Bool.not_false, List.length_map, fnE, startE, lb]), rfl⟩
  have hh := fi_head (m := base.length) ps ps 0 rfl
  rw [← List.range_eq_range'] at hh
  rw [← hh]
  generalize (List.range ps.length).filter (fun k => !(ps.getD k (.pt [])).inn base.length) = W at hb ⊢
  generalize hPT : D.tup (ps.map pcD) = PT at *
  have lw : fLen [.lst (W.map fun k => D.int (k : Nat))] = .ok (.int W.length) := by rw [x_len_l, List.length_map]
  cases W with
  | nil =>
    have e : F__law_fault [some (rowD base), some PT, none, none, none, none] = .ret .non := by
      have hi : dItems PT = .ok (ps.map pcD) := by rw [← hPT]; rfl
      have ht : dIsi isTup PT = .ok (.bl true) := by rw [← hPT]; rfl
      have g : iGt 0 0 = false := rfl
      have lw : fLen [.lst []] = .ok (.int 0) := rfl
      rw [List.map_nil] at hb
      simp only [sSeq_x, x_sSet, x_sIf, x_sRet, x_sRetN, x_sPar, x_sUnp, resF_ok, x_sDrop, x_sNext, x_sBreak, x_sCont, x_sRaise, x_sAug, augK_ok, x_sFor, x_sWhile, sKill_x, x_wipe0, x_wipe1, x_evL0, x_evL1, x_setL0, x_setL1, x_eVar, x_eC, x_eOp, x_eUn, x_eCall, x_eMS, x_asStr, x_aNil, x_aCons, x_eTup, x_eLst, x_eIf, x_eNot, x_eAnd, x_eOr, x_bAnd, x_bOr, x_bNot, x_bYes, x_eSl, x_oNone, x_oSome, asI_int, x_iSeq, x_iCall, x_gfName, x_gfTup, eLc, noX_is, Res.bind_ok, Res.bind_exc, flow_ok, flow_exc, seqK_next, seqK_ret, seqK_exc, seqK_brk, seqK_cont, loopK_next, loopK_cont, loopK_brk, loopK_ret, loopK_exc, must_ok, List.set_cons_succ, List.set_cons_zero, List.getD_cons_succ, List.getD_cons_zero, vD_some, if_true, if_false, Bool.false_eq_true, reduceIte, List.map_cons, List.map_nil, List.length_cons, List.length_nil, List.cons_append, List.nil_append, List.replicate, Nat.reduceSub, Nat.reduceAdd, x_add, x_sub, x_cmp, x_eq_ii, x_ne_ii, x_int_i, x_len_t, x_len_l, x_tup_l, x_tup_t, x_list_l, x_list_t, x_dSl_t, x_dSl_l, x_items_t, x_items_l, x_tru_n, x_tru_b, x_tru_i, x_tru_t, x_tru_l, x_asB, x_is_n, x_isNot_n, isNon_n, isNon_i, isNon_s, isNon_t, isNon_l, isNon_b, Bool.not_true, Bool.not_false, List.length_map, fnE, startE, F__law_fault, ht, hi, lo, ln, r, hb, lw, g]
    show C__law_fault [rowD base, PT] = .ok .non
    simp only [sSeq_x, x_sSet, x_sIf, x_sRet, x_sRetN, x_sPar, x_sUnp, resF_ok, x_sDrop, x_sNext, x_sBreak, x_sCont, x_sRaise, x_sAug, augK_ok, x_sFor, x_sWhile, sKill_x, x_wipe0, x_wipe1, x_evL0, x_evL1, x_setL0, x_setL1, x_eVar, x_eC, x_eOp, x_eUn, x_eCall, x_eMS, x_asStr, x_aNil, x_aCons, x_eTup, x_eLst, x_eIf, x_eNot, x_eAnd, x_eOr, x_bAnd, x_bOr, x_bNot, x_bYes, x_eSl, x_oNone, x_oSome, asI_int, x_iSeq, x_iCall, x_gfName, x_gfTup, eLc, noX_is, Res.bind_ok, Res.bind_exc, flow_ok, flow_exc, seqK_next, seqK_ret, seqK_exc, seqK_brk, seqK_cont, loopK_next, loopK_cont, loopK_brk, loopK_ret, loopK_exc, must_ok, List.set_cons_succ, List.set_cons_zero, List.getD_cons_succ, List.getD_cons_zero, vD_some, if_true, if_false, Bool.false_eq_true, reduceIte, List.map_cons, List.map_nil, List.length_cons, List.length_nil, List.cons_append, List.nil_append, List.replicate, Nat.reduceSub, Nat.reduceAdd, x_add, x_sub, x_cmp, x_eq_ii, x_ne_ii, x_int_i, x_len_t, x_len_l, x_tup_l, x_tup_t, x_list_l, x_list_t, x_dSl_t, x_dSl_l, x_items_t, x_items_l, x_tru_n, x_tru_b, x_tru_i, x_tru_t, x_tru_l, x_asB, x_is_n, x_isNot_n, isNon_n, isNon_i, isNon_s, isNon_t, isNon_l, isNon_b, Bool.not_true, Bool.not_false, List.length_map, fnE, startE, C__law_fault, e]
  | cons k W =>
    have e : F__law_fault [some (rowD base), some PT, none, none, none, none] = .ret (dN k) := by
      have hi : dItems PT = .ok (ps.map pcD) := by rw [← hPT]; rfl
      have ht : dIsi isTup PT = .ok (.bl true) := by rw [← hPT]; rfl
      have g : iGt (((k :: W).length : Nat) : Int) 0 = true := decide_eq_true (by rw [List.length_cons]; omega)
      have i0 : dIx (.lst ((k :: W).map fun k => D.int (k : Nat))) (.int 0) = .ok (dN k) := dIx_lst (n := 0) rfl
      generalize (k :: W).map (fun k => D.int (k : Nat)) = WD at *
      generalize (((k :: W).length : Nat) : Int) = wl at *
      simp only [sSeq_x, x_sSet, x_sIf, x_sRet, x_sRetN, x_sPar, x_sUnp, resF_ok, x_sDrop, x_sNext, x_sBreak, x_sCont, x_sRaise, x_sAug, augK_ok, x_sFor, x_sWhile, sKill_x, x_wipe0, x_wipe1, x_evL0, x_evL1, x_setL0, x_setL1, x_eVar, x_eC, x_eOp, x_eUn, x_eCall, x_eMS, x_asStr, x_aNil, x_aCons, x_eTup, x_eLst, x_eIf, x_eNot, x_eAnd, x_eOr, x_bAnd, x_bOr, x_bNot, x_bYes, x_eSl, x_oNone, x_oSome, asI_int, x_iSeq, x_iCall, x_gfName, x_gfTup, eLc, noX_is, Res.bind_ok, Res.bind_exc, flow_ok, flow_exc, seqK_next, seqK_ret, seqK_exc, seqK_brk, seqK_cont, loopK_next, loopK_cont, loopK_brk, loopK_ret, loopK_exc, must_ok, List.set_cons_succ, List.set_cons_zero, List.getD_cons_succ, List.getD_cons_zero, vD_some, if_true, if_false, Bool.false_eq_true, reduceIte, List.map_cons, List.map_nil, List.length_cons, List.length_nil, List.cons_append, List.nil_append, List.replicate, Nat.reduceSub, Nat.reduceAdd, x_add, x_sub, x_cmp, x_eq_ii, x_ne_ii, x_int_i, x_len_t, x_len_l, x_tup_l, x_tup_t, x_list_l, x_list_t, x_dSl_t, x_dSl_l, x_items_t, x_items_l, x_tru_n, x_tru_b, x_tru_i, x_tru_t, x_tru_l, x_asB, x_is_n, x_isNot_n, isNon_n, isNon_i, isNon_s, isNon_t, isNon_l, isNon_b, Bool.not_true, Bool.not_false, List.length_map, fnE, startE, F__law_fault, ht, hi, lo, ln, r, hb, lw, g, i0]
    show C__law_fault [rowD base, PT] = .ok (dN k)
    simp only [sSeq_x, x_sSet, x_sIf, x_sRet, x_sRetN, x_sPar, x_sUnp, resF_ok, x_sDrop, x_sNext, x_sBreak, x_sCont, x_sRaise, x_sAug, augK_ok, x_sFor, x_sWhile, sKill_x, x_wipe0, x_wipe1, x_evL0, x_evL1, x_setL0, x_setL1, x_eVar, x_eC, x_eOp, x_eUn, x_eCall, x_eMS, x_asStr, x_aNil, x_aCons, x_eTup, x_eLst, x_eIf, x_eNot, x_eAnd, x_eOr, x_bAnd, x_bOr, x_bNot, x_bYes, x_eSl, x_oNone, x_oSome, asI_int, x_iSeq, x_iCall, x_gfName, x_gfTup, eLc, noX_is, Res.bind_ok, Res.bind_exc, flow_ok, flow_exc, seqK_next, seqK_ret, seqK_exc, seqK_brk, seqK_cont, loopK_next, loopK_cont, loopK_brk, loopK_ret, loopK_exc, must_ok, List.set_cons_succ, List.set_cons_zero, List.getD_cons_succ, List.getD_cons_zero, vD_some, if_true, if_false, Bool.false_eq_true, reduceIte, List.map_cons, List.map_nil, List.length_cons, List.length_nil, List.cons_append, List.nil_append, List.replicate, Nat.reduceSub, Nat.reduceAdd, x_add, x_sub, x_cmp, x_eq_ii, x_ne_ii, x_int_i, x_len_t, x_len_l, x_tup_l, x_tup_t, x_list_l, x_list_t, x_dSl_t, x_dSl_l, x_items_t, x_items_l, x_tru_n, x_tru_b, x_tru_i, x_tru_t, x_tru_l, x_asB, x_is_n, x_isNot_n, isNon_n, isNon_i, isNon_s, isNon_t, isNon_l, isNon_b, Bool.not_true, Bool.not_false, List.length_map, fnE, startE, C__law_fault, e]
theorem lfault_form {xs : List It} (h : ∀ i ∈ xs, itG i) (ho : xs.all itOk = false) (b : D) : C__law_fault [b, .tup (xs.map itD)] = .ok (.str "form") := by
  have l := lf_loop (some b) (some (.tup (xs.map itD))) xs h
  rw [ho, if_neg Bool.false_ne_true] at l
  have e : F__law_fault [some b, some (.tup (xs.map itD)), none, none, none, none] = .ret (.str "form") := by
    simp only [sSeq_x, x_sSet, x_sIf, x_sRet, x_sRetN, x_sPar, x_sUnp, resF_ok, x_sDrop, x_sNext, x_sBreak, x_sCont, x_sRaise, x_sAug, augK_ok, x_sFor, x_sWhile, sKill_x, x_wipe0, x_wipe1, x_evL0, x_evL1, x_setL0, x_setL1, x_eVar, x_eC, x_eOp, x_eUn, x_eCall, x_eMS, x_asStr, x_aNil, x_aCons, x_eTup, x_eLst, x_eIf, x_eNot, x_eAnd, x_eOr, x_bAnd, x_bOr, x_bNot, x_bYes, x_eSl, x_oNone, x_oSome, asI_int, x_iSeq, x_iCall, x_gfName, x_gfTup, eLc, noX_is, Res.bind_ok, Res.bind_exc, flow_ok, flow_exc, seqK_next, seqK_ret, seqK_exc, seqK_brk, seqK_cont, loopK_next, loopK_cont, loopK_brk, loopK_ret, loopK_exc, must_ok, List.set_cons_succ, List.set_cons_zero, List.getD_cons_succ, List.getD_cons_zero, vD_some, if_true, if_false, Bool.false_eq_true, reduceIte, List.map_cons, List.map_nil, List.length_cons, List.length_nil, List.cons_append, List.nil_append, List.replicate, Nat.reduceSub, Nat.reduceAdd, x_add, x_sub, x_cmp, x_eq_ii, x_ne_ii, x_int_i, x_len_t, x_len_l, x_tup_l, x_tup_t, x_list_l, x_list_t, x_dSl_t, x_dSl_l, x_items_t, x_items_l, x_tru_n, x_tru_b, x_tru_i, x_tru_t, x_tru_l, x_asB, x_is_n, x_isNot_n, isNon_n, isNon_i, isNon_s, isNon_t, isNon_l, isNon_b, Bool.not_true, Bool.not_false, List.length_map, fnE, startE, F__law_fault, isi_t, k_tt, l]
  simp only [sSeq_x, x_sSet, x_sIf, x_sRet, x_sRetN, x_sPar, x_sUnp, resF_ok, x_sDrop, x_sNext, x_sBreak, x_sCont, x_sRaise, x_sAug, augK_ok, x_sFor, x_sWhile, sKill_x, x_wipe0, x_wipe1, x_evL0, x_evL1, x_setL0, x_setL1, x_eVar, x_eC, x_eOp, x_eUn, x_eCall, x_eMS, x_asStr, x_aNil, x_aCons, x_eTup, x_eLst, x_eIf, x_eNot, x_eAnd, x_eOr, x_bAnd, x_bOr, x_bNot, x_bYes, x_eSl, x_oNone, x_oSome, asI_int, x_iSeq, x_iCall, x_gfName, x_gfTup, eLc, noX_is, Res.bind_ok, Res.bind_exc, flow_ok, flow_exc, seqK_next, seqK_ret, seqK_exc, seqK_brk, seqK_cont, loopK_next, loopK_cont, loopK_brk, loopK_ret, loopK_exc, must_ok, List.set_cons_succ, List.set_cons_zero, List.getD_cons_succ, List.getD_cons_zero, vD_some, if_true, if_false, Bool.false_eq_true, reduceIte, List.map_cons, List.map_nil, List.length_cons, List.length_nil, List.cons_append, List.nil_append, List.replicate, Nat.reduceSub, Nat.reduceAdd, x_add, x_sub, x_cmp, x_eq_ii, x_ne_ii, x_int_i, x_len_t, x_len_l, x_tup_l, x_tup_t, x_list_l, x_list_t, x_dSl_t, x_dSl_l, x_items_t, x_items_l, x_tru_n, x_tru_b, x_tru_i, x_tru_t, x_tru_l, x_asB, x_is_n, x_isNot_n, isNon_n, isNon_i, isNon_s, isNon_t, isNon_l, isNon_b, Bool.not_true, Bool.not_false, List.length_map, fnE, startE, C__law_fault, e]
theorem lfault_l (xs : List D) (b : D) : C__law_fault [b, .lst xs] = .ok (.str "form") := by
  simp only [sSeq_x, x_sSet, x_sIf, x_sRet, x_sRetN, x_sPar, x_sUnp, resF_ok, x_sDrop, x_sNext, x_sBreak, x_sCont, x_sRaise, x_sAug, augK_ok, x_sFor, x_sWhile, sKill_x, x_wipe0, x_wipe1, x_evL0, x_evL1, x_setL0, x_setL1, x_eVar, x_eC, x_eOp, x_eUn, x_eCall, x_eMS, x_asStr, x_aNil, x_aCons, x_eTup, x_eLst, x_eIf, x_eNot, x_eAnd, x_eOr, x_bAnd, x_bOr, x_bNot, x_bYes, x_eSl, x_oNone, x_oSome, asI_int, x_iSeq, x_iCall, x_gfName, x_gfTup, eLc, noX_is, Res.bind_ok, Res.bind_exc, flow_ok, flow_exc, seqK_next, seqK_ret, seqK_exc, seqK_brk, seqK_cont, loopK_next, loopK_cont, loopK_brk, loopK_ret, loopK_exc, must_ok, List.set_cons_succ, List.set_cons_zero, List.getD_cons_succ, List.getD_cons_zero, vD_some, if_true, if_false, Bool.false_eq_true, reduceIte, List.map_cons, List.map_nil, List.length_cons, List.length_nil, List.cons_append, List.nil_append, List.replicate, Nat.reduceSub, Nat.reduceAdd, x_add, x_sub, x_cmp, x_eq_ii, x_ne_ii, x_int_i, x_len_t, x_len_l, x_tup_l, x_tup_t, x_list_l, x_list_t, x_dSl_t, x_dSl_l, x_items_t, x_items_l, x_tru_n, x_tru_b, x_tru_i, x_tru_t, x_tru_l, x_asB, x_is_n, x_isNot_n, isNon_n, isNon_i, isNon_s, isNon_t, isNon_l, isNon_b, Bool.not_true, Bool.not_false, List.length_map, fnE, startE, C__law_fault, F__law_fault, isi_l, k_tl]
def enK (xs : List D) (i : Nat) : List D := (xs.zipIdx i).map fun p => .tup [.int (p.2 : Nat), p.1]
theorem enK_cons (x : D) (xs : List D) (i : Nat) : enK (x :: xs) i = .tup [dN i, x] :: enK xs (i + 1) := rfl
theorem df_loop (a : Option D) : ∀ (ps : List Pc) (j : Nat), forE (gfTup [2, 3]) B_delta_fault_1 (enK (ps.map pcD) j) [some (rowD base), a, none, none] = match fi base.length ps j with
    | some k => .ret (dN k)
    | none => .next [some (rowD base), a, none, none]
  | [], j => rfl
  | p :: ps, j => by
    have ih := df_loop a ps (j + 1)
    have lb := row_len base
    have t := out_test p base.length (fun _ => .err) [some (rowD base), a, some (dN j), some (pcD p)] (eVar 3) (eCall fLen (aCons (eVar 0) aNil)) rfl (by simp only [sSeq_x, x_sSet, x_sIf, x_sRet, x_sRetN, x_sPar, x_sUnp, resF_ok, x_sDrop, x_sNext, x_sBreak, x_sCont, x_sRaise, x_sAug, augK_ok, x_sFor, x_sWhile, sKill_x, x_wipe0, x_wipe1, x_evL0, x_evL1, x_setL0, x_setL1, x_eVar, x_eC, x_eOp, x_eUn, x_eCall, x_eMS, x_asStr, x_aNil, x_aCons, x_eTup, x_eLst, x_eIf, x_eNot, x_eAnd, x_eOr, x_bAnd, x_bOr, x_bNot, x_bYes, x_eSl, x_oNone, x_oSome, asI_int, x_iSeq, x_iCall, x_gfName, x_gfTup, eLc, noX_is, Res.bind_ok, Res.bind_exc, flow_ok, flow_exc, seqK_next, seqK_ret, seqK_exc, seqK_brk, seqK_cont, loopK_next, loopK_cont, loopK_brk, loopK_ret, loopK_exc, must_ok, List.set_cons_succ, List.set_cons_zero, List.getD_cons_succ, List.getD_cons_zero, vD_some, if_true, if_false, Bool.false_eq_true, reduceIte, List.map_cons, List.map_nil, List.length_cons, List.length_nil, List.cons_append, List.nil_append, List.replicate, Nat.reduceSub, Nat.reduceAdd, x_add, x_sub, x_cmp, x_eq_ii, x_ne_ii, x_int_i, x_len_t, x_len_l, x_tup_l, x_tup_t, x_list_l, x_list_t, x_dSl_t, x_dSl_l, x_items_t, x_items_l, x_tru_n, x_tru_b, x_tru_i, x_tru_t, x_tru_l, x_asB, x_is_n, x_isNot_n, isNon_n, isNon_i, isNon_s, isNon_t, isNon_l, isNon_b, Bool.not_true, Bool.not_false, List.length_map, fnE, startE, lb])
    rw [List.map_cons, enK_cons, forE_cons, fi]
    have st : B_delta_fault_1 [some (rowD base), a, some (dN j), some (pcD p)] = if p.inn base.length = true then .next [some (rowD base), a, none, none] else .ret (dN j) := by
      by_cases h : p.inn base.length = true
      · rw [h] at t
        rw [if_pos h]
        simp only [B_delta_fault_1, sSeq_x, x_sIf, t, flow_ok, Bool.not_true, Bool.false_eq_true, if_false, x_sNext, seqK_next, sKill_x, x_wipe0, x_wipe1, List.set_cons_succ, List.set_cons_zero]
      · rw [Bool.eq_false_iff.mpr h] at t
        rw [if_neg h]
        simp only [B_delta_fault_1, sSeq_x, x_sIf, t, flow_ok, Bool.not_false, if_true, x_sRet, x_eVar, List.getD_cons_succ, List.getD_cons_zero, vD_some, seqK_ret]
    by_cases h : p.inn base.length = true
    · rw [if_pos h] at st ⊢
      rw [← ih]
      simp only [sSeq_x, x_sSet, x_sIf, x_sRet, x_sRetN, x_sPar, x_sUnp, resF_ok, x_sDrop, x_sNext, x_sBreak, x_sCont, x_sRaise, x_sAug, augK_ok, x_sFor, x_sWhile, sKill_x, x_wipe0, x_wipe1, x_evL0, x_evL1, x_setL0, x_setL1, x_eVar, x_eC, x_eOp, x_eUn, x_eCall, x_eMS, x_asStr, x_aNil, x_aCons, x_eTup, x_eLst, x_eIf, x_eNot, x_eAnd, x_eOr, x_bAnd, x_bOr, x_bNot, x_bYes, x_eSl, x_oNone, x_oSome, asI_int, x_iSeq, x_iCall, x_gfName, x_gfTup, eLc, noX_is, Res.bind_ok, Res.bind_exc, flow_ok, flow_exc, seqK_next, seqK_ret, seqK_exc, seqK_brk, seqK_cont, loopK_next, loopK_cont, loopK_brk, loopK_ret, loopK_exc, must_ok, List.set_cons_succ, List.set_cons_zero, List.getD_cons_succ, List.getD_cons_zero, vD_some, if_true, if_false, Bool.false_eq_true, reduceIte, List.map_cons, List.map_nil, List.length_cons, List.length_nil, List.cons_append, List.nil_append, List.replicate, Nat.reduceSub, Nat.reduceAdd, x_add, x_sub, x_cmp, x_eq_ii, x_ne_ii, x_int_i, x_len_t, x_len_l, x_tup_l, x_tup_t, x_list_l, x_list_t, x_dSl_t, x_dSl_l, x_items_t, x_items_l, x_tru_n, x_tru_b, x_tru_i, x_tru_t, x_tru_l, x_asB, x_is_n, x_isNot_n, isNon_n, isNon_i, isNon_s, isNon_t, isNon_l, isNon_b, Bool.not_true, Bool.not_false, List.length_map, fnE, startE, st]
    · rw [if_neg h] at st ⊢
      simp only [sSeq_x, x_sSet, x_sIf, x_sRet, x_sRetN, x_sPar, x_sUnp, resF_ok, x_sDrop, x_sNext, x_sBreak, x_sCont, x_sRaise, x_sAug, augK_ok, x_sFor, x_sWhile, sKill_x, x_wipe0, x_wipe1, x_evL0, x_evL1, x_setL0, x_setL1, x_eVar, x_eC, x_eOp, x_eUn, x_eCall, x_eMS, x_asStr, x_aNil, x_aCons, x_eTup, x_eLst, x_eIf, x_eNot, x_eAnd, x_eOr, x_bAnd, x_bOr, x_bNot, x_bYes, x_eSl, x_oNone, x_oSome, asI_int, x_iSeq, x_iCall, x_gfName, x_gfTup, eLc, noX_is, Res.bind_ok, Res.bind_exc, flow_ok, flow_exc, seqK_next, seqK_ret, seqK_exc, seqK_brk, seqK_cont, loopK_next, loopK_cont, loopK_brk, loopK_ret, loopK_exc, must_ok, List.set_cons_succ, List.set_cons_zero, List.getD_cons_succ, List.getD_cons_zero, vD_some, if_true, if_false, Bool.false_eq_true, reduceIte, List.map_cons, List.map_nil, List.length_cons, List.length_nil, List.cons_append, List.nil_append, List.replicate, Nat.reduceSub, Nat.reduceAdd, x_add, x_sub, x_cmp, x_eq_ii, x_ne_ii, x_int_i, x_len_t, x_len_l, x_tup_l, x_tup_t, x_list_l, x_list_t, x_dSl_t, x_dSl_l, x_items_t, x_items_l, x_tru_n, x_tru_b, x_tru_i, x_tru_t, x_tru_l, x_asB, x_is_n, x_isNot_n, isNon_n, isNon_i, isNon_s, isNon_t, isNon_l, isNon_b, Bool.not_true, Bool.not_false, List.length_map, fnE, startE, st]
theorem dfault_pc (ob : ∀ x ∈ base, x < 256) (ps : List Pc) (h : ∀ p ∈ ps, p.ok = true) : C_delta_fault [rowD base, .tup (ps.map pcD)] = .ok (onN (fi base.length ps 0)) := by
  have c := chrows1 ob
  have d : C__is_delta [.tup (ps.map pcD)] = .ok (.bl true) := by
    have := isd_l
    have hb := lc_fun (gf := gfName 1) (f := eCall C__is_piece (aCons (eVar 1) aNil)) (ρ := [some (.tup (ps.map pcD)), none]) (e := pcD) (g := fun _ => .bl true) (xs := ps) fun p hp => ⟨_, rfl, by
      have := isp_ok p
      rw [h p hp] at this
      simp only [sSeq_x, x_sSet, x_sIf, x_sRet, x_sRetN, x_sPar, x_sUnp, resF_ok, x_sDrop, x_sNext, x_sBreak, x_sCont, x_sRaise, x_sAug, augK_ok, x_sFor, x_sWhile, sKill_x, x_wipe0, x_wipe1, x_evL0, x_evL1, x_setL0, x_setL1, x_eVar, x_eC, x_eOp, x_eUn, x_eCall, x_eMS, x_asStr, x_aNil, x_aCons, x_eTup, x_eLst, x_eIf, x_eNot, x_eAnd, x_eOr, x_bAnd, x_bOr, x_bNot, x_bYes, x_eSl, x_oNone, x_oSome, asI_int, x_iSeq, x_iCall, x_gfName, x_gfTup, eLc, noX_is, Res.bind_ok, Res.bind_exc, flow_ok, flow_exc, seqK_next, seqK_ret, seqK_exc, seqK_brk, seqK_cont, loopK_next, loopK_cont, loopK_brk, loopK_ret, loopK_exc, must_ok, List.set_cons_succ, List.set_cons_zero, List.getD_cons_succ, List.getD_cons_zero, vD_some, if_true, if_false, Bool.false_eq_true, reduceIte, List.map_cons, List.map_nil, List.length_cons, List.length_nil, List.cons_append, List.nil_append, List.replicate, Nat.reduceSub, Nat.reduceAdd, x_add, x_sub, x_cmp, x_eq_ii, x_ne_ii, x_int_i, x_len_t, x_len_l, x_tup_l, x_tup_t, x_list_l, x_list_t, x_dSl_t, x_dSl_l, x_items_t, x_items_l, x_tru_n, x_tru_b, x_tru_i, x_tru_t, x_tru_l, x_asB, x_is_n, x_isNot_n, isNon_n, isNon_i, isNon_s, isNon_t, isNon_l, isNon_b, Bool.not_true, Bool.not_false, List.length_map, fnE, startE, this]⟩
    have ea := x_all_f (fun _ : Pc => true) ps
    have ez : ps.all (fun _ => true) = true := List.all_eq_true.mpr fun _ _ => rfl
    rw [ez] at ea
    have e : F__is_delta [some (.tup (ps.map pcD)), none] = .ret (.bl true) := by
      simp only [sSeq_x, x_sSet, x_sIf, x_sRet, x_sRetN, x_sPar, x_sUnp, resF_ok, x_sDrop, x_sNext, x_sBreak, x_sCont, x_sRaise, x_sAug, augK_ok, x_sFor, x_sWhile, sKill_x, x_wipe0, x_wipe1, x_evL0, x_evL1, x_setL0, x_setL1, x_eVar, x_eC, x_eOp, x_eUn, x_eCall, x_eMS, x_asStr, x_aNil, x_aCons, x_eTup, x_eLst, x_eIf, x_eNot, x_eAnd, x_eOr, x_bAnd, x_bOr, x_bNot, x_bYes, x_eSl, x_oNone, x_oSome, asI_int, x_iSeq, x_iCall, x_gfName, x_gfTup, eLc, noX_is, Res.bind_ok, Res.bind_exc, flow_ok, flow_exc, seqK_next, seqK_ret, seqK_exc, seqK_brk, seqK_cont, loopK_next, loopK_cont, loopK_brk, loopK_ret, loopK_exc, must_ok, List.set_cons_succ, List.set_cons_zero, List.getD_cons_succ, List.getD_cons_zero, vD_some, if_true, if_false, Bool.false_eq_true, reduceIte, List.map_cons, List.map_nil, List.length_cons, List.length_nil, List.cons_append, List.nil_append, List.replicate, Nat.reduceSub, Nat.reduceAdd, x_add, x_sub, x_cmp, x_eq_ii, x_ne_ii, x_int_i, x_len_t, x_len_l, x_tup_l, x_tup_t, x_list_l, x_list_t, x_dSl_t, x_dSl_l, x_items_t, x_items_l, x_tru_n, x_tru_b, x_tru_i, x_tru_t, x_tru_l, x_asB, x_is_n, x_isNot_n, isNon_n, isNon_i, isNon_s, isNon_t, isNon_l, isNon_b, Bool.not_true, Bool.not_false, List.length_map, fnE, startE, F__is_delta, isi_t, k_tt, hb, ea]
    simp only [sSeq_x, x_sSet, x_sIf, x_sRet, x_sRetN, x_sPar, x_sUnp, resF_ok, x_sDrop, x_sNext, x_sBreak, x_sCont, x_sRaise, x_sAug, augK_ok, x_sFor, x_sWhile, sKill_x, x_wipe0, x_wipe1, x_evL0, x_evL1, x_setL0, x_setL1, x_eVar, x_eC, x_eOp, x_eUn, x_eCall, x_eMS, x_asStr, x_aNil, x_aCons, x_eTup, x_eLst, x_eIf, x_eNot, x_eAnd, x_eOr, x_bAnd, x_bOr, x_bNot, x_bYes, x_eSl, x_oNone, x_oSome, asI_int, x_iSeq, x_iCall, x_gfName, x_gfTup, eLc, noX_is, Res.bind_ok, Res.bind_exc, flow_ok, flow_exc, seqK_next, seqK_ret, seqK_exc, seqK_brk, seqK_cont, loopK_next, loopK_cont, loopK_brk, loopK_ret, loopK_exc, must_ok, List.set_cons_succ, List.set_cons_zero, List.getD_cons_succ, List.getD_cons_zero, vD_some, if_true, if_false, Bool.false_eq_true, reduceIte, List.map_cons, List.map_nil, List.length_cons, List.length_nil, List.cons_append, List.nil_append, List.replicate, Nat.reduceSub, Nat.reduceAdd, x_add, x_sub, x_cmp, x_eq_ii, x_ne_ii, x_int_i, x_len_t, x_len_l, x_tup_l, x_tup_t, x_list_l, x_list_t, x_dSl_t, x_dSl_l, x_items_t, x_items_l, x_tru_n, x_tru_b, x_tru_i, x_tru_t, x_tru_l, x_asB, x_is_n, x_isNot_n, isNon_n, isNon_i, isNon_s, isNon_t, isNon_l, isNon_b, Bool.not_true, Bool.not_false, List.length_map, fnE, startE, C__is_delta, e]
  have l := df_loop (base := base) (some (.tup (ps.map pcD))) ps 0
  have en : dEnum [.tup (ps.map pcD)] = .ok (enK (ps.map pcD) 0) := rfl
  generalize D.tup (ps.map pcD) = PT at *
  cases q : fi base.length ps 0 with
  | none =>
    rw [q] at l
    have e : F_delta_fault [some (rowD base), some PT, none, none] = .ret .non := by
      simp only [sSeq_x, x_sSet, x_sIf, x_sRet, x_sRetN, x_sPar, x_sUnp, resF_ok, x_sDrop, x_sNext, x_sBreak, x_sCont, x_sRaise, x_sAug, augK_ok, x_sFor, x_sWhile, sKill_x, x_wipe0, x_wipe1, x_evL0, x_evL1, x_setL0, x_setL1, x_eVar, x_eC, x_eOp, x_eUn, x_eCall, x_eMS, x_asStr, x_aNil, x_aCons, x_eTup, x_eLst, x_eIf, x_eNot, x_eAnd, x_eOr, x_bAnd, x_bOr, x_bNot, x_bYes, x_eSl, x_oNone, x_oSome, asI_int, x_iSeq, x_iCall, x_gfName, x_gfTup, eLc, noX_is, Res.bind_ok, Res.bind_exc, flow_ok, flow_exc, seqK_next, seqK_ret, seqK_exc, seqK_brk, seqK_cont, loopK_next, loopK_cont, loopK_brk, loopK_ret, loopK_exc, must_ok, List.set_cons_succ, List.set_cons_zero, List.getD_cons_succ, List.getD_cons_zero, vD_some, if_true, if_false, Bool.false_eq_true, reduceIte, List.map_cons, List.map_nil, List.length_cons, List.length_nil, List.cons_append, List.nil_append, List.replicate, Nat.reduceSub, Nat.reduceAdd, x_add, x_sub, x_cmp, x_eq_ii, x_ne_ii, x_int_i, x_len_t, x_len_l, x_tup_l, x_tup_t, x_list_l, x_list_t, x_dSl_t, x_dSl_l, x_items_t, x_items_l, x_tru_n, x_tru_b, x_tru_i, x_tru_t, x_tru_l, x_asB, x_is_n, x_isNot_n, isNon_n, isNon_i, isNon_s, isNon_t, isNon_l, isNon_b, Bool.not_true, Bool.not_false, List.length_map, fnE, startE, F_delta_fault, c, d, en, l]
    show _ = Res.ok D.non
    simp only [sSeq_x, x_sSet, x_sIf, x_sRet, x_sRetN, x_sPar, x_sUnp, resF_ok, x_sDrop, x_sNext, x_sBreak, x_sCont, x_sRaise, x_sAug, augK_ok, x_sFor, x_sWhile, sKill_x, x_wipe0, x_wipe1, x_evL0, x_evL1, x_setL0, x_setL1, x_eVar, x_eC, x_eOp, x_eUn, x_eCall, x_eMS, x_asStr, x_aNil, x_aCons, x_eTup, x_eLst, x_eIf, x_eNot, x_eAnd, x_eOr, x_bAnd, x_bOr, x_bNot, x_bYes, x_eSl, x_oNone, x_oSome, asI_int, x_iSeq, x_iCall, x_gfName, x_gfTup, eLc, noX_is, Res.bind_ok, Res.bind_exc, flow_ok, flow_exc, seqK_next, seqK_ret, seqK_exc, seqK_brk, seqK_cont, loopK_next, loopK_cont, loopK_brk, loopK_ret, loopK_exc, must_ok, List.set_cons_succ, List.set_cons_zero, List.getD_cons_succ, List.getD_cons_zero, vD_some, if_true, if_false, Bool.false_eq_true, reduceIte, List.map_cons, List.map_nil, List.length_cons, List.length_nil, List.cons_append, List.nil_append, List.replicate, Nat.reduceSub, Nat.reduceAdd, x_add, x_sub, x_cmp, x_eq_ii, x_ne_ii, x_int_i, x_len_t, x_len_l, x_tup_l, x_tup_t, x_list_l, x_list_t, x_dSl_t, x_dSl_l, x_items_t, x_items_l, x_tru_n, x_tru_b, x_tru_i, x_tru_t, x_tru_l, x_asB, x_is_n, x_isNot_n, isNon_n, isNon_i, isNon_s, isNon_t, isNon_l, isNon_b, Bool.not_true, Bool.not_false, List.length_map, fnE, startE, C_delta_fault, e]
  | some k =>
    rw [q] at l
    have e : F_delta_fault [some (rowD base), some PT, none, none] = .ret (dN k) := by
      simp only [sSeq_x, x_sSet, x_sIf, x_sRet, x_sRetN, x_sPar, x_sUnp, resF_ok, x_sDrop, x_sNext, x_sBreak, x_sCont, x_sRaise, x_sAug, augK_ok, x_sFor, x_sWhile, sKill_x, x_wipe0, x_wipe1, x_evL0, x_evL1, x_setL0, x_setL1, x_eVar, x_eC, x_eOp, x_eUn, x_eCall, x_eMS, x_asStr, x_aNil, x_aCons, x_eTup, x_eLst, x_eIf, x_eNot, x_eAnd, x_eOr, x_bAnd, x_bOr, x_bNot, x_bYes, x_eSl, x_oNone, x_oSome, asI_int, x_iSeq, x_iCall, x_gfName, x_gfTup, eLc, noX_is, Res.bind_ok, Res.bind_exc, flow_ok, flow_exc, seqK_next, seqK_ret, seqK_exc, seqK_brk, seqK_cont, loopK_next, loopK_cont, loopK_brk, loopK_ret, loopK_exc, must_ok, List.set_cons_succ, List.set_cons_zero, List.getD_cons_succ, List.getD_cons_zero, vD_some, if_true, if_false, Bool.false_eq_true, reduceIte, List.map_cons, List.map_nil, List.length_cons, List.length_nil, List.cons_append, List.nil_append, List.replicate, Nat.reduceSub, Nat.reduceAdd, x_add, x_sub, x_cmp, x_eq_ii, x_ne_ii, x_int_i, x_len_t, x_len_l, x_tup_l, x_tup_t, x_list_l, x_list_t, x_dSl_t, x_dSl_l, x_items_t, x_items_l, x_tru_n, x_tru_b, x_tru_i, x_tru_t, x_tru_l, x_asB, x_is_n, x_isNot_n, isNon_n, isNon_i, isNon_s, isNon_t, isNon_l, isNon_b, Bool.not_true, Bool.not_false, List.length_map, fnE, startE, F_delta_fault, c, d, en, l]
    show _ = Res.ok (dN k)
    simp only [sSeq_x, x_sSet, x_sIf, x_sRet, x_sRetN, x_sPar, x_sUnp, resF_ok, x_sDrop, x_sNext, x_sBreak, x_sCont, x_sRaise, x_sAug, augK_ok, x_sFor, x_sWhile, sKill_x, x_wipe0, x_wipe1, x_evL0, x_evL1, x_setL0, x_setL1, x_eVar, x_eC, x_eOp, x_eUn, x_eCall, x_eMS, x_asStr, x_aNil, x_aCons, x_eTup, x_eLst, x_eIf, x_eNot, x_eAnd, x_eOr, x_bAnd, x_bOr, x_bNot, x_bYes, x_eSl, x_oNone, x_oSome, asI_int, x_iSeq, x_iCall, x_gfName, x_gfTup, eLc, noX_is, Res.bind_ok, Res.bind_exc, flow_ok, flow_exc, seqK_next, seqK_ret, seqK_exc, seqK_brk, seqK_cont, loopK_next, loopK_cont, loopK_brk, loopK_ret, loopK_exc, must_ok, List.set_cons_succ, List.set_cons_zero, List.getD_cons_succ, List.getD_cons_zero, vD_some, if_true, if_false, Bool.false_eq_true, reduceIte, List.map_cons, List.map_nil, List.length_cons, List.length_nil, List.cons_append, List.nil_append, List.replicate, Nat.reduceSub, Nat.reduceAdd, x_add, x_sub, x_cmp, x_eq_ii, x_ne_ii, x_int_i, x_len_t, x_len_l, x_tup_l, x_tup_t, x_list_l, x_list_t, x_dSl_t, x_dSl_l, x_items_t, x_items_l, x_tru_n, x_tru_b, x_tru_i, x_tru_t, x_tru_l, x_asB, x_is_n, x_isNot_n, isNon_n, isNon_i, isNon_s, isNon_t, isNon_l, isNon_b, Bool.not_true, Bool.not_false, List.length_map, fnE, startE, C_delta_fault, e]
theorem dfault_no (ob : ∀ x ∈ base, x < 256) {d : D} (h : C__is_delta [d] = .ok (.bl false)) : C_delta_fault [rowD base, d] = .ok (.str "form") := by
  have c := chrows1 ob
  have e : F_delta_fault [some (rowD base), some d, none, none] = .ret (.str "form") := by
    simp only [sSeq_x, x_sSet, x_sIf, x_sRet, x_sRetN, x_sPar, x_sUnp, resF_ok, x_sDrop, x_sNext, x_sBreak, x_sCont, x_sRaise, x_sAug, augK_ok, x_sFor, x_sWhile, sKill_x, x_wipe0, x_wipe1, x_evL0, x_evL1, x_setL0, x_setL1, x_eVar, x_eC, x_eOp, x_eUn, x_eCall, x_eMS, x_asStr, x_aNil, x_aCons, x_eTup, x_eLst, x_eIf, x_eNot, x_eAnd, x_eOr, x_bAnd, x_bOr, x_bNot, x_bYes, x_eSl, x_oNone, x_oSome, asI_int, x_iSeq, x_iCall, x_gfName, x_gfTup, eLc, noX_is, Res.bind_ok, Res.bind_exc, flow_ok, flow_exc, seqK_next, seqK_ret, seqK_exc, seqK_brk, seqK_cont, loopK_next, loopK_cont, loopK_brk, loopK_ret, loopK_exc, must_ok, List.set_cons_succ, List.set_cons_zero, List.getD_cons_succ, List.getD_cons_zero, vD_some, if_true, if_false, Bool.false_eq_true, reduceIte, List.map_cons, List.map_nil, List.length_cons, List.length_nil, List.cons_append, List.nil_append, List.replicate, Nat.reduceSub, Nat.reduceAdd, x_add, x_sub, x_cmp, x_eq_ii, x_ne_ii, x_int_i, x_len_t, x_len_l, x_tup_l, x_tup_t, x_list_l, x_list_t, x_dSl_t, x_dSl_l, x_items_t, x_items_l, x_tru_n, x_tru_b, x_tru_i, x_tru_t, x_tru_l, x_asB, x_is_n, x_isNot_n, isNon_n, isNon_i, isNon_s, isNon_t, isNon_l, isNon_b, Bool.not_true, Bool.not_false, List.length_map, fnE, startE, F_delta_fault, c, h]
  simp only [sSeq_x, x_sSet, x_sIf, x_sRet, x_sRetN, x_sPar, x_sUnp, resF_ok, x_sDrop, x_sNext, x_sBreak, x_sCont, x_sRaise, x_sAug, augK_ok, x_sFor, x_sWhile, sKill_x, x_wipe0, x_wipe1, x_evL0, x_evL1, x_setL0, x_setL1, x_eVar, x_eC, x_eOp, x_eUn, x_eCall, x_eMS, x_asStr, x_aNil, x_aCons, x_eTup, x_eLst, x_eIf, x_eNot, x_eAnd, x_eOr, x_bAnd, x_bOr, x_bNot, x_bYes, x_eSl, x_oNone, x_oSome, asI_int, x_iSeq, x_iCall, x_gfName, x_gfTup, eLc, noX_is, Res.bind_ok, Res.bind_exc, flow_ok, flow_exc, seqK_next, seqK_ret, seqK_exc, seqK_brk, seqK_cont, loopK_next, loopK_cont, loopK_brk, loopK_ret, loopK_exc, must_ok, List.set_cons_succ, List.set_cons_zero, List.getD_cons_succ, List.getD_cons_zero, vD_some, if_true, if_false, Bool.false_eq_true, reduceIte, List.map_cons, List.map_nil, List.length_cons, List.length_nil, List.cons_append, List.nil_append, List.replicate, Nat.reduceSub, Nat.reduceAdd, x_add, x_sub, x_cmp, x_eq_ii, x_ne_ii, x_int_i, x_len_t, x_len_l, x_tup_l, x_tup_t, x_list_l, x_list_t, x_dSl_t, x_dSl_l, x_items_t, x_items_l, x_tru_n, x_tru_b, x_tru_i, x_tru_t, x_tru_l, x_asB, x_is_n, x_isNot_n, isNon_n, isNon_i, isNon_s, isNon_t, isNon_l, isNon_b, Bool.not_true, Bool.not_false, List.length_map, fnE, startE, C_delta_fault, e]
/-! what is made -/
theorem mk_cut (a n : Nat) : cut (base.map dN) (some (a : Int)) (some ((a : Int) + (n : Int))) = ((base.drop a).take n).map dN := by
  rw [cut_mid, ← List.map_drop, ← List.map_take]
theorem made_step (d : Option D) (F : List Nat) (p : Pc) (hl : F.length + (p.mk base).length ≤ 16777216) : B_made_1 [some (rowD base), d, some (rowD F), some (pcD p)] = .next [some (rowD base), d, some (rowD (F ++ p.mk base)), none] := by
  cases p with
  | cp a n =>
    have c := mk_cut (base := base) a n
    have hl : F.length + ((base.drop a).take n).length ≤ 16777216 := hl
    show B_made_1 [some (rowD base), d, some (rowD F), some (.tup [.str "copy", dN a, dN n])] = .next [some (rowD base), d, some (rowD (F ++ (base.drop a).take n)), none]
    generalize (base.drop a).take n = G at *
    simp only [sSeq_x, x_sSet, x_sIf, x_sRet, x_sRetN, x_sPar, x_sUnp, resF_ok, x_sDrop, x_sNext, x_sBreak, x_sCont, x_sRaise, x_sAug, augK_ok, x_sFor, x_sWhile, sKill_x, x_wipe0, x_wipe1, x_evL0, x_evL1, x_setL0, x_setL1, x_eVar, x_eC, x_eOp, x_eUn, x_eCall, x_eMS, x_asStr, x_aNil, x_aCons, x_eTup, x_eLst, x_eIf, x_eNot, x_eAnd, x_eOr, x_bAnd, x_bOr, x_bNot, x_bYes, x_eSl, x_oNone, x_oSome, asI_int, x_iSeq, x_iCall, x_gfName, x_gfTup, eLc, noX_is, Res.bind_ok, Res.bind_exc, flow_ok, flow_exc, seqK_next, seqK_ret, seqK_exc, seqK_brk, seqK_cont, loopK_next, loopK_cont, loopK_brk, loopK_ret, loopK_exc, must_ok, List.set_cons_succ, List.set_cons_zero, List.getD_cons_succ, List.getD_cons_zero, vD_some, if_true, if_false, Bool.false_eq_true, reduceIte, List.map_cons, List.map_nil, List.length_cons, List.length_nil, List.cons_append, List.nil_append, List.replicate, Nat.reduceSub, Nat.reduceAdd, x_add, x_sub, x_cmp, x_eq_ii, x_ne_ii, x_int_i, x_len_t, x_len_l, x_tup_l, x_tup_t, x_list_l, x_list_t, x_dSl_t, x_dSl_l, x_items_t, x_items_l, x_tru_n, x_tru_b, x_tru_i, x_tru_t, x_tru_l, x_asB, x_is_n, x_isNot_n, isNon_n, isNon_i, isNon_s, isNon_t, isNon_l, isNon_b, Bool.not_true, Bool.not_false, List.length_map, fnE, startE, rowD, B_made_1, ixc, wds.1, c, x_addT_t, sl_eq, hl, List.map_append]
  | pt o =>
    have hl : F.length + o.length ≤ 16777216 := hl
    show B_made_1 [some (rowD base), d, some (rowD F), some (.tup [.str "put", rowD o])] = .next [some (rowD base), d, some (rowD (F ++ o)), none]
    simp only [sSeq_x, x_sSet, x_sIf, x_sRet, x_sRetN, x_sPar, x_sUnp, resF_ok, x_sDrop, x_sNext, x_sBreak, x_sCont, x_sRaise, x_sAug, augK_ok, x_sFor, x_sWhile, sKill_x, x_wipe0, x_wipe1, x_evL0, x_evL1, x_setL0, x_setL1, x_eVar, x_eC, x_eOp, x_eUn, x_eCall, x_eMS, x_asStr, x_aNil, x_aCons, x_eTup, x_eLst, x_eIf, x_eNot, x_eAnd, x_eOr, x_bAnd, x_bOr, x_bNot, x_bYes, x_eSl, x_oNone, x_oSome, asI_int, x_iSeq, x_iCall, x_gfName, x_gfTup, eLc, noX_is, Res.bind_ok, Res.bind_exc, flow_ok, flow_exc, seqK_next, seqK_ret, seqK_exc, seqK_brk, seqK_cont, loopK_next, loopK_cont, loopK_brk, loopK_ret, loopK_exc, must_ok, List.set_cons_succ, List.set_cons_zero, List.getD_cons_succ, List.getD_cons_zero, vD_some, if_true, if_false, Bool.false_eq_true, reduceIte, List.map_cons, List.map_nil, List.length_cons, List.length_nil, List.cons_append, List.nil_append, List.replicate, Nat.reduceSub, Nat.reduceAdd, x_add, x_sub, x_cmp, x_eq_ii, x_ne_ii, x_int_i, x_len_t, x_len_l, x_tup_l, x_tup_t, x_list_l, x_list_t, x_dSl_t, x_dSl_l, x_items_t, x_items_l, x_tru_n, x_tru_b, x_tru_i, x_tru_t, x_tru_l, x_asB, x_is_n, x_isNot_n, isNon_n, isNon_i, isNon_s, isNon_t, isNon_l, isNon_b, Bool.not_true, Bool.not_false, List.length_map, fnE, startE, rowD, B_made_1, ixp, wds.2.1, x_addT_t, sl_eq, hl, List.map_append]
theorem lmade_step (d : Option D) (F : List Nat) (p : Pc) (hl : F.length + (p.mk base).length ≤ 16777216) : B__law_made_1 [some (rowD base), d, some (rowD F), some (pcD p)] = .next [some (rowD base), d, some (rowD (F ++ p.mk base)), none] := by
  cases p with
  | cp a n =>
    have c := mk_cut (base := base) a n
    have hl : F.length + ((base.drop a).take n).length ≤ 16777216 := hl
    show B__law_made_1 [some (rowD base), d, some (rowD F), some (.tup [.str "copy", dN a, dN n])] = .next [some (rowD base), d, some (rowD (F ++ (base.drop a).take n)), none]
    generalize (base.drop a).take n = G at *
    simp only [sSeq_x, x_sSet, x_sIf, x_sRet, x_sRetN, x_sPar, x_sUnp, resF_ok, x_sDrop, x_sNext, x_sBreak, x_sCont, x_sRaise, x_sAug, augK_ok, x_sFor, x_sWhile, sKill_x, x_wipe0, x_wipe1, x_evL0, x_evL1, x_setL0, x_setL1, x_eVar, x_eC, x_eOp, x_eUn, x_eCall, x_eMS, x_asStr, x_aNil, x_aCons, x_eTup, x_eLst, x_eIf, x_eNot, x_eAnd, x_eOr, x_bAnd, x_bOr, x_bNot, x_bYes, x_eSl, x_oNone, x_oSome, asI_int, x_iSeq, x_iCall, x_gfName, x_gfTup, eLc, noX_is, Res.bind_ok, Res.bind_exc, flow_ok, flow_exc, seqK_next, seqK_ret, seqK_exc, seqK_brk, seqK_cont, loopK_next, loopK_cont, loopK_brk, loopK_ret, loopK_exc, must_ok, List.set_cons_succ, List.set_cons_zero, List.getD_cons_succ, List.getD_cons_zero, vD_some, if_true, if_false, Bool.false_eq_true, reduceIte, List.map_cons, List.map_nil, List.length_cons, List.length_nil, List.cons_append, List.nil_append, List.replicate, Nat.reduceSub, Nat.reduceAdd, x_add, x_sub, x_cmp, x_eq_ii, x_ne_ii, x_int_i, x_len_t, x_len_l, x_tup_l, x_tup_t, x_list_l, x_list_t, x_dSl_t, x_dSl_l, x_items_t, x_items_l, x_tru_n, x_tru_b, x_tru_i, x_tru_t, x_tru_l, x_asB, x_is_n, x_isNot_n, isNon_n, isNon_i, isNon_s, isNon_t, isNon_l, isNon_b, Bool.not_true, Bool.not_false, List.length_map, fnE, startE, rowD, B__law_made_1, ixc, wds.1, c, x_add_t, sl_eq, hl, List.map_append]
  | pt o =>
    have hl : F.length + o.length ≤ 16777216 := hl
    show B__law_made_1 [some (rowD base), d, some (rowD F), some (.tup [.str "put", rowD o])] = .next [some (rowD base), d, some (rowD (F ++ o)), none]
    simp only [sSeq_x, x_sSet, x_sIf, x_sRet, x_sRetN, x_sPar, x_sUnp, resF_ok, x_sDrop, x_sNext, x_sBreak, x_sCont, x_sRaise, x_sAug, augK_ok, x_sFor, x_sWhile, sKill_x, x_wipe0, x_wipe1, x_evL0, x_evL1, x_setL0, x_setL1, x_eVar, x_eC, x_eOp, x_eUn, x_eCall, x_eMS, x_asStr, x_aNil, x_aCons, x_eTup, x_eLst, x_eIf, x_eNot, x_eAnd, x_eOr, x_bAnd, x_bOr, x_bNot, x_bYes, x_eSl, x_oNone, x_oSome, asI_int, x_iSeq, x_iCall, x_gfName, x_gfTup, eLc, noX_is, Res.bind_ok, Res.bind_exc, flow_ok, flow_exc, seqK_next, seqK_ret, seqK_exc, seqK_brk, seqK_cont, loopK_next, loopK_cont, loopK_brk, loopK_ret, loopK_exc, must_ok, List.set_cons_succ, List.set_cons_zero, List.getD_cons_succ, List.getD_cons_zero, vD_some, if_true, if_false, Bool.false_eq_true, reduceIte, List.map_cons, List.map_nil, List.length_cons, List.length_nil, List.cons_append, List.nil_append, List.replicate, Nat.reduceSub, Nat.reduceAdd, x_add, x_sub, x_cmp, x_eq_ii, x_ne_ii, x_int_i, x_len_t, x_len_l, x_tup_l, x_tup_t, x_list_l, x_list_t, x_dSl_t, x_dSl_l, x_items_t, x_items_l, x_tru_n, x_tru_b, x_tru_i, x_tru_t, x_tru_l, x_asB, x_is_n, x_isNot_n, isNon_n, isNon_i, isNon_s, isNon_t, isNon_l, isNon_b, Bool.not_true, Bool.not_false, List.length_map, fnE, startE, rowD, B__law_made_1, ixp, wds.2.1, x_add_t, sl_eq, hl, List.map_append]
theorem made_loops (d : Option D) : ∀ (ps : List Pc) (F : List Nat), F.length + (ps.flatMap (Pc.mk base)).length ≤ 16777216 →
    forE (gfName 3) B_made_1 (ps.map pcD) [some (rowD base), d, some (rowD F), none] = .next [some (rowD base), d, some (rowD (F ++ ps.flatMap (Pc.mk base))), none] ∧
    forE (gfName 3) B__law_made_1 (ps.map pcD) [some (rowD base), d, some (rowD F), none] = .next [some (rowD base), d, some (rowD (F ++ ps.flatMap (Pc.mk base))), none]
  | [], F, _ => ⟨by rw [List.flatMap_nil, List.append_nil]; rfl, by rw [List.flatMap_nil, List.append_nil]; rfl⟩
  | p :: ps, F, hl => by
    rw [List.flatMap_cons, List.length_append] at hl
    obtain ⟨i1, i2⟩ := made_loops d ps (F ++ p.mk base) (by rw [List.length_append]; omega)
    have s1 := made_step (base := base) d F p (by omega)
    have s2 := lmade_step (base := base) d F p (by omega)
    rw [List.append_assoc, ← List.flatMap_cons] at i1 i2
    refine ⟨?_, ?_⟩
    · rw [List.map_cons, forE_cons, ← i1]
      simp only [sSeq_x, x_sSet, x_sIf, x_sRet, x_sRetN, x_sPar, x_sUnp, resF_ok, x_sDrop, x_sNext, x_sBreak, x_sCont, x_sRaise, x_sAug, augK_ok, x_sFor, x_sWhile, sKill_x, x_wipe0, x_wipe1, x_evL0, x_evL1, x_setL0, x_setL1, x_eVar, x_eC, x_eOp, x_eUn, x_eCall, x_eMS, x_asStr, x_aNil, x_aCons, x_eTup, x_eLst, x_eIf, x_eNot, x_eAnd, x_eOr, x_bAnd, x_bOr, x_bNot, x_bYes, x_eSl, x_oNone, x_oSome, asI_int, x_iSeq, x_iCall, x_gfName, x_gfTup, eLc, noX_is, Res.bind_ok, Res.bind_exc, flow_ok, flow_exc, seqK_next, seqK_ret, seqK_exc, seqK_brk, seqK_cont, loopK_next, loopK_cont, loopK_brk, loopK_ret, loopK_exc, must_ok, List.set_cons_succ, List.set_cons_zero, List.getD_cons_succ, List.getD_cons_zero, vD_some, if_true, if_false, Bool.false_eq_true, reduceIte, List.map_cons, List.map_nil, List.length_cons, List.length_nil, List.cons_append, List.nil_append, List.replicate, Nat.reduceSub, Nat.reduceAdd, x_add, x_sub, x_cmp, x_eq_ii, x_ne_ii, x_int_i, x_len_t, x_len_l, x_tup_l, x_tup_t, x_list_l, x_list_t, x_dSl_t, x_dSl_l, x_items_t, x_items_l, x_tru_n, x_tru_b, x_tru_i, x_tru_t, x_tru_l, x_asB, x_is_n, x_isNot_n, isNon_n, isNon_i, isNon_s, isNon_t, isNon_l, isNon_b, Bool.not_true, Bool.not_false, List.length_map, fnE, startE, s1]
    · rw [List.map_cons, forE_cons, ← i2]
      simp only [sSeq_x, x_sSet, x_sIf, x_sRet, x_sRetN, x_sPar, x_sUnp, resF_ok, x_sDrop, x_sNext, x_sBreak, x_sCont, x_sRaise, x_sAug, augK_ok, x_sFor, x_sWhile, sKill_x, x_wipe0, x_wipe1, x_evL0, x_evL1, x_setL0, x_setL1, x_eVar, x_eC, x_eOp, x_eUn, x_eCall, x_eMS, x_asStr, x_aNil, x_aCons, x_eTup, x_eLst, x_eIf, x_eNot, x_eAnd, x_eOr, x_bAnd, x_bOr, x_bNot, x_bYes, x_eSl, x_oNone, x_oSome, asI_int, x_iSeq, x_iCall, x_gfName, x_gfTup, eLc, noX_is, Res.bind_ok, Res.bind_exc, flow_ok, flow_exc, seqK_next, seqK_ret, seqK_exc, seqK_brk, seqK_cont, loopK_next, loopK_cont, loopK_brk, loopK_ret, loopK_exc, must_ok, List.set_cons_succ, List.set_cons_zero, List.getD_cons_succ, List.getD_cons_zero, vD_some, if_true, if_false, Bool.false_eq_true, reduceIte, List.map_cons, List.map_nil, List.length_cons, List.length_nil, List.cons_append, List.nil_append, List.replicate, Nat.reduceSub, Nat.reduceAdd, x_add, x_sub, x_cmp, x_eq_ii, x_ne_ii, x_int_i, x_len_t, x_len_l, x_tup_l, x_tup_t, x_list_l, x_list_t, x_dSl_t, x_dSl_l, x_items_t, x_items_l, x_tru_n, x_tru_b, x_tru_i, x_tru_t, x_tru_l, x_asB, x_is_n, x_isNot_n, isNon_n, isNon_i, isNon_s, isNon_t, isNon_l, isNon_b, Bool.not_true, Bool.not_false, List.length_map, fnE, startE, s2]
theorem lmade_ok (ps : List Pc) (hl : (ps.flatMap (Pc.mk base)).length ≤ 16777216) : C__law_made [rowD base, .tup (ps.map pcD)] = .ok (rowD (ps.flatMap (Pc.mk base))) := by
  have l := (made_loops (base := base) (some (.tup (ps.map pcD))) ps [] (by rw [List.length_nil]; omega)).2
  rw [List.nil_append] at l
  have l : forE (gfName 3) B__law_made_1 (ps.map pcD) [some (rowD base), some (.tup (ps.map pcD)), some (.tup []), none] = _ := l
  have e : F__law_made [some (rowD base), some (.tup (ps.map pcD)), none, none] = .ret (rowD (ps.flatMap (Pc.mk base))) := by
    simp only [sSeq_x, x_sSet, x_sIf, x_sRet, x_sRetN, x_sPar, x_sUnp, resF_ok, x_sDrop, x_sNext, x_sBreak, x_sCont, x_sRaise, x_sAug, augK_ok, x_sFor, x_sWhile, sKill_x, x_wipe0, x_wipe1, x_evL0, x_evL1, x_setL0, x_setL1, x_eVar, x_eC, x_eOp, x_eUn, x_eCall, x_eMS, x_asStr, x_aNil, x_aCons, x_eTup, x_eLst, x_eIf, x_eNot, x_eAnd, x_eOr, x_bAnd, x_bOr, x_bNot, x_bYes, x_eSl, x_oNone, x_oSome, asI_int, x_iSeq, x_iCall, x_gfName, x_gfTup, eLc, noX_is, Res.bind_ok, Res.bind_exc, flow_ok, flow_exc, seqK_next, seqK_ret, seqK_exc, seqK_brk, seqK_cont, loopK_next, loopK_cont, loopK_brk, loopK_ret, loopK_exc, must_ok, List.set_cons_succ, List.set_cons_zero, List.getD_cons_succ, List.getD_cons_zero, vD_some, if_true, if_false, Bool.false_eq_true, reduceIte, List.map_cons, List.map_nil, List.length_cons, List.length_nil, List.cons_append, List.nil_append, List.replicate, Nat.reduceSub, Nat.reduceAdd, x_add, x_sub, x_cmp, x_eq_ii, x_ne_ii, x_int_i, x_len_t, x_len_l, x_tup_l, x_tup_t, x_list_l, x_list_t, x_dSl_t, x_dSl_l, x_items_t, x_items_l, x_tru_n, x_tru_b, x_tru_i, x_tru_t, x_tru_l, x_asB, x_is_n, x_isNot_n, isNon_n, isNon_i, isNon_s, isNon_t, isNon_l, isNon_b, Bool.not_true, Bool.not_false, List.length_map, fnE, startE, F__law_made, l]
  simp only [sSeq_x, x_sSet, x_sIf, x_sRet, x_sRetN, x_sPar, x_sUnp, resF_ok, x_sDrop, x_sNext, x_sBreak, x_sCont, x_sRaise, x_sAug, augK_ok, x_sFor, x_sWhile, sKill_x, x_wipe0, x_wipe1, x_evL0, x_evL1, x_setL0, x_setL1, x_eVar, x_eC, x_eOp, x_eUn, x_eCall, x_eMS, x_asStr, x_aNil, x_aCons, x_eTup, x_eLst, x_eIf, x_eNot, x_eAnd, x_eOr, x_bAnd, x_bOr, x_bNot, x_bYes, x_eSl, x_oNone, x_oSome, asI_int, x_iSeq, x_iCall, x_gfName, x_gfTup, eLc, noX_is, Res.bind_ok, Res.bind_exc, flow_ok, flow_exc, seqK_next, seqK_ret, seqK_exc, seqK_brk, seqK_cont, loopK_next, loopK_cont, loopK_brk, loopK_ret, loopK_exc, must_ok, List.set_cons_succ, List.set_cons_zero, List.getD_cons_succ, List.getD_cons_zero, vD_some, if_true, if_false, Bool.false_eq_true, reduceIte, List.map_cons, List.map_nil, List.length_cons, List.length_nil, List.cons_append, List.nil_append, List.replicate, Nat.reduceSub, Nat.reduceAdd, x_add, x_sub, x_cmp, x_eq_ii, x_ne_ii, x_int_i, x_len_t, x_len_l, x_tup_l, x_tup_t, x_list_l, x_list_t, x_dSl_t, x_dSl_l, x_items_t, x_items_l, x_tru_n, x_tru_b, x_tru_i, x_tru_t, x_tru_l, x_asB, x_is_n, x_isNot_n, isNon_n, isNon_i, isNon_s, isNon_t, isNon_l, isNon_b, Bool.not_true, Bool.not_false, List.length_map, fnE, startE, C__law_made, e]
theorem made_ok (ob : ∀ x ∈ base, x < 256) (ps : List Pc) (h : ∀ p ∈ ps, p.ok = true) (hi : ∀ p ∈ ps, p.inn base.length = true) (hl : (ps.flatMap (Pc.mk base)).length ≤ 16777216) : C_made [rowD base, .tup (ps.map pcD)] = .ok (rowD (ps.flatMap (Pc.mk base))) := by
  have l := (made_loops (base := base) (some (.tup (ps.map pcD))) ps [] (by rw [List.length_nil]; omega)).1
  rw [List.nil_append] at l
  have l : forE (gfName 3) B_made_1 (ps.map pcD) [some (rowD base), some (.tup (ps.map pcD)), some (.tup []), none] = _ := l
  have d := dfault_pc ob ps h
  rw [fi_none.mpr hi] at d
  have d : C_delta_fault [rowD base, .tup (ps.map pcD)] = .ok .non := d
  have e : F_made [some (rowD base), some (.tup (ps.map pcD)), none, none] = .ret (rowD (ps.flatMap (Pc.mk base))) := by
    simp only [sSeq_x, x_sSet, x_sIf, x_sRet, x_sRetN, x_sPar, x_sUnp, resF_ok, x_sDrop, x_sNext, x_sBreak, x_sCont, x_sRaise, x_sAug, augK_ok, x_sFor, x_sWhile, sKill_x, x_wipe0, x_wipe1, x_evL0, x_evL1, x_setL0, x_setL1, x_eVar, x_eC, x_eOp, x_eUn, x_eCall, x_eMS, x_asStr, x_aNil, x_aCons, x_eTup, x_eLst, x_eIf, x_eNot, x_eAnd, x_eOr, x_bAnd, x_bOr, x_bNot, x_bYes, x_eSl, x_oNone, x_oSome, asI_int, x_iSeq, x_iCall, x_gfName, x_gfTup, eLc, noX_is, Res.bind_ok, Res.bind_exc, flow_ok, flow_exc, seqK_next, seqK_ret, seqK_exc, seqK_brk, seqK_cont, loopK_next, loopK_cont, loopK_brk, loopK_ret, loopK_exc, must_ok, List.set_cons_succ, List.set_cons_zero, List.getD_cons_succ, List.getD_cons_zero, vD_some, if_true, if_false, Bool.false_eq_true, reduceIte, List.map_cons, List.map_nil, List.length_cons, List.length_nil, List.cons_append, List.nil_append, List.replicate, Nat.reduceSub, Nat.reduceAdd, x_add, x_sub, x_cmp, x_eq_ii, x_ne_ii, x_int_i, x_len_t, x_len_l, x_tup_l, x_tup_t, x_list_l, x_list_t, x_dSl_t, x_dSl_l, x_items_t, x_items_l, x_tru_n, x_tru_b, x_tru_i, x_tru_t, x_tru_l, x_asB, x_is_n, x_isNot_n, isNon_n, isNon_i, isNon_s, isNon_t, isNon_l, isNon_b, Bool.not_true, Bool.not_false, List.length_map, fnE, startE, F_made, d, l]
  simp only [sSeq_x, x_sSet, x_sIf, x_sRet, x_sRetN, x_sPar, x_sUnp, resF_ok, x_sDrop, x_sNext, x_sBreak, x_sCont, x_sRaise, x_sAug, augK_ok, x_sFor, x_sWhile, sKill_x, x_wipe0, x_wipe1, x_evL0, x_evL1, x_setL0, x_setL1, x_eVar, x_eC, x_eOp, x_eUn, x_eCall, x_eMS, x_asStr, x_aNil, x_aCons, x_eTup, x_eLst, x_eIf, x_eNot, x_eAnd, x_eOr, x_bAnd, x_bOr, x_bNot, x_bYes, x_eSl, x_oNone, x_oSome, asI_int, x_iSeq, x_iCall, x_gfName, x_gfTup, eLc, noX_is, Res.bind_ok, Res.bind_exc, flow_ok, flow_exc, seqK_next, seqK_ret, seqK_exc, seqK_brk, seqK_cont, loopK_next, loopK_cont, loopK_brk, loopK_ret, loopK_exc, must_ok, List.set_cons_succ, List.set_cons_zero, List.getD_cons_succ, List.getD_cons_zero, vD_some, if_true, if_false, Bool.false_eq_true, reduceIte, List.map_cons, List.map_nil, List.length_cons, List.length_nil, List.cons_append, List.nil_append, List.replicate, Nat.reduceSub, Nat.reduceAdd, x_add, x_sub, x_cmp, x_eq_ii, x_ne_ii, x_int_i, x_len_t, x_len_l, x_tup_l, x_tup_t, x_list_l, x_list_t, x_dSl_t, x_dSl_l, x_items_t, x_items_l, x_tru_n, x_tru_b, x_tru_i, x_tru_t, x_tru_l, x_asB, x_is_n, x_isNot_n, isNon_n, isNon_i, isNon_s, isNon_t, isNon_l, isNon_b, Bool.not_true, Bool.not_false, List.length_map, fnE, startE, C_made, e]
theorem made_bad {b d f : D} (h : C_delta_fault [b, d] = .ok f) (hf : isNon f = false) : C_made [b, d] = .exc "BadDelta" := by
  simp only [sSeq_x, x_sSet, x_sIf, x_sRet, x_sRetN, x_sPar, x_sUnp, resF_ok, x_sDrop, x_sNext, x_sBreak, x_sCont, x_sRaise, x_sAug, augK_ok, x_sFor, x_sWhile, sKill_x, x_wipe0, x_wipe1, x_evL0, x_evL1, x_setL0, x_setL1, x_eVar, x_eC, x_eOp, x_eUn, x_eCall, x_eMS, x_asStr, x_aNil, x_aCons, x_eTup, x_eLst, x_eIf, x_eNot, x_eAnd, x_eOr, x_bAnd, x_bOr, x_bNot, x_bYes, x_eSl, x_oNone, x_oSome, asI_int, x_iSeq, x_iCall, x_gfName, x_gfTup, eLc, noX_is, Res.bind_ok, Res.bind_exc, flow_ok, flow_exc, seqK_next, seqK_ret, seqK_exc, seqK_brk, seqK_cont, loopK_next, loopK_cont, loopK_brk, loopK_ret, loopK_exc, must_ok, List.set_cons_succ, List.set_cons_zero, List.getD_cons_succ, List.getD_cons_zero, vD_some, if_true, if_false, Bool.false_eq_true, reduceIte, List.map_cons, List.map_nil, List.length_cons, List.length_nil, List.cons_append, List.nil_append, List.replicate, Nat.reduceSub, Nat.reduceAdd, x_add, x_sub, x_cmp, x_eq_ii, x_ne_ii, x_int_i, x_len_t, x_len_l, x_tup_l, x_tup_t, x_list_l, x_list_t, x_dSl_t, x_dSl_l, x_items_t, x_items_l, x_tru_n, x_tru_b, x_tru_i, x_tru_t, x_tru_l, x_asB, x_is_n, x_isNot_n, isNon_n, isNon_i, isNon_s, isNon_t, isNon_l, isNon_b, Bool.not_true, Bool.not_false, List.length_map, fnE, startE, C_made, F_made, h, hf]
/-! what it costs -/
theorem sum_ints (l : List Int) : fSum [.lst (l.map .int)] = .ok (.int l.sum) := by
  show (match nums (l.map .int) with | some bs => Res.ok (D.int bs.sum) | none => .err) = _
  rw [nums_map]
theorem sum_cast : ∀ ps : List Pc, ((ps.map fun p => ((p.cost : Nat) : Int))).sum = (((ps.map Pc.cost).sum : Nat) : Int)
  | [] => rfl
  | p :: ps => by rw [List.map_cons, List.map_cons, List.sum_cons, List.sum_cons, sum_cast ps]; omega
theorem sum_cost (ps : List Pc) : fSum [.lst (ps.map fun p => dN p.cost)] = .ok (dN (ps.map Pc.cost).sum) := by
  have := sum_ints (ps.map fun p => ((p.cost : Nat) : Int))
  rw [List.map_map, sum_cast] at this
  exact this
theorem cost_ok (ps : List Pc) (hs : ∀ p ∈ ps, p.sm) (h : ∀ p ∈ ps, p.ok = true) : C_cost_of [.tup (ps.map pcD)] = .ok (dN (ps.map Pc.cost).sum) := by
  have d := isd_ok (xs := ps.map It.pc) fun i hi => by
    obtain ⟨p, hp, rfl⟩ := List.mem_map.mp hi
    exact hs p hp
  have ho : (ps.map It.pc).all itOk = true := List.all_eq_true.mpr fun i hi => by
    obtain ⟨p, hp, rfl⟩ := List.mem_map.mp hi
    exact h p hp
  have em : (ps.map It.pc).map itD = ps.map pcD := by rw [List.map_map]; rfl
  rw [ho, em] at d
  have hb := lc_fun (gf := gfName 1) (f := eIf (eUn asB (eOp (dEq) (eOp dIx (eVar 1) (eC (.int 0))) (eC (.str "copy")))) (eCall C__copy_cost (aCons (eOp dIx (eVar 1) (eC (.int 1))) (aCons (eOp dIx (eVar 1) (eC (.int 2))) aNil))) (eCall C__put_cost (aCons (eCall fLen (aCons (eOp dIx (eVar 1) (eC (.int 1))) aNil)) aNil))) (ρ := [some (.tup (ps.map pcD)), none]) (e := pcD) (g := fun p => dN p.cost) (xs := ps) fun p hp => ⟨_, rfl, by
    have s := hs p hp
    cases p with
    | cp a n =>
      have c := ccost s.1 s.2
      show eIf _ _ _ [some (.tup (ps.map pcD)), some (.tup [.str "copy", dN a, dN n])] = .ok (dN (cCp a n))
      simp only [sSeq_x, x_sSet, x_sIf, x_sRet, x_sRetN, x_sPar, x_sUnp, resF_ok, x_sDrop, x_sNext, x_sBreak, x_sCont, x_sRaise, x_sAug, augK_ok, x_sFor, x_sWhile, sKill_x, x_wipe0, x_wipe1, x_evL0, x_evL1, x_setL0, x_setL1, x_eVar, x_eC, x_eOp, x_eUn, x_eCall, x_eMS, x_asStr, x_aNil, x_aCons, x_eTup, x_eLst, x_eIf, x_eNot, x_eAnd, x_eOr, x_bAnd, x_bOr, x_bNot, x_bYes, x_eSl, x_oNone, x_oSome, asI_int, x_iSeq, x_iCall, x_gfName, x_gfTup, eLc, noX_is, Res.bind_ok, Res.bind_exc, flow_ok, flow_exc, seqK_next, seqK_ret, seqK_exc, seqK_brk, seqK_cont, loopK_next, loopK_cont, loopK_brk, loopK_ret, loopK_exc, must_ok, List.set_cons_succ, List.set_cons_zero, List.getD_cons_succ, List.getD_cons_zero, vD_some, if_true, if_false, Bool.false_eq_true, reduceIte, List.map_cons, List.map_nil, List.length_cons, List.length_nil, List.cons_append, List.nil_append, List.replicate, Nat.reduceSub, Nat.reduceAdd, x_add, x_sub, x_cmp, x_eq_ii, x_ne_ii, x_int_i, x_len_t, x_len_l, x_tup_l, x_tup_t, x_list_l, x_list_t, x_dSl_t, x_dSl_l, x_items_t, x_items_l, x_tru_n, x_tru_b, x_tru_i, x_tru_t, x_tru_l, x_asB, x_is_n, x_isNot_n, isNon_n, isNon_i, isNon_s, isNon_t, isNon_l, isNon_b, Bool.not_true, Bool.not_false, List.length_map, fnE, startE, ixc, wds.1, c]
    | pt o =>
      have c := pcost s
      have l := row_len o
      show eIf _ _ _ [some (.tup (ps.map pcD)), some (.tup [.str "put", rowD o])] = .ok (dN (cPt o.length))
      simp only [sSeq_x, x_sSet, x_sIf, x_sRet, x_sRetN, x_sPar, x_sUnp, resF_ok, x_sDrop, x_sNext, x_sBreak, x_sCont, x_sRaise, x_sAug, augK_ok, x_sFor, x_sWhile, sKill_x, x_wipe0, x_wipe1, x_evL0, x_evL1, x_setL0, x_setL1, x_eVar, x_eC, x_eOp, x_eUn, x_eCall, x_eMS, x_asStr, x_aNil, x_aCons, x_eTup, x_eLst, x_eIf, x_eNot, x_eAnd, x_eOr, x_bAnd, x_bOr, x_bNot, x_bYes, x_eSl, x_oNone, x_oSome, asI_int, x_iSeq, x_iCall, x_gfName, x_gfTup, eLc, noX_is, Res.bind_ok, Res.bind_exc, flow_ok, flow_exc, seqK_next, seqK_ret, seqK_exc, seqK_brk, seqK_cont, loopK_next, loopK_cont, loopK_brk, loopK_ret, loopK_exc, must_ok, List.set_cons_succ, List.set_cons_zero, List.getD_cons_succ, List.getD_cons_zero, vD_some, if_true, if_false, Bool.false_eq_true, reduceIte, List.map_cons, List.map_nil, List.length_cons, List.length_nil, List.cons_append, List.nil_append, List.replicate, Nat.reduceSub, Nat.reduceAdd, x_add, x_sub, x_cmp, x_eq_ii, x_ne_ii, x_int_i, x_len_t, x_len_l, x_tup_l, x_tup_t, x_list_l, x_list_t, x_dSl_t, x_dSl_l, x_items_t, x_items_l, x_tru_n, x_tru_b, x_tru_i, x_tru_t, x_tru_l, x_asB, x_is_n, x_isNot_n, isNon_n, isNon_i, isNon_s, isNon_t, isNon_l, isNon_b, Bool.not_true, Bool.not_false, List.length_map, fnE, startE, ixp, wds.2.1, l, c]⟩
  have su := sum_cost ps
  have e : F_cost_of [some (.tup (ps.map pcD)), none] = .ret (dN (ps.map Pc.cost).sum) := by
    simp only [sSeq_x, x_sSet, x_sIf, x_sRet, x_sRetN, x_sPar, x_sUnp, resF_ok, x_sDrop, x_sNext, x_sBreak, x_sCont, x_sRaise, x_sAug, augK_ok, x_sFor, x_sWhile, sKill_x, x_wipe0, x_wipe1, x_evL0, x_evL1, x_setL0, x_setL1, x_eVar, x_eC, x_eOp, x_eUn, x_eCall, x_eMS, x_asStr, x_aNil, x_aCons, x_eTup, x_eLst, x_eIf, x_eNot, x_eAnd, x_eOr, x_bAnd, x_bOr, x_bNot, x_bYes, x_eSl, x_oNone, x_oSome, asI_int, x_iSeq, x_iCall, x_gfName, x_gfTup, eLc, noX_is, Res.bind_ok, Res.bind_exc, flow_ok, flow_exc, seqK_next, seqK_ret, seqK_exc, seqK_brk, seqK_cont, loopK_next, loopK_cont, loopK_brk, loopK_ret, loopK_exc, must_ok, List.set_cons_succ, List.set_cons_zero, List.getD_cons_succ, List.getD_cons_zero, vD_some, if_true, if_false, Bool.false_eq_true, reduceIte, List.map_cons, List.map_nil, List.length_cons, List.length_nil, List.cons_append, List.nil_append, List.replicate, Nat.reduceSub, Nat.reduceAdd, x_add, x_sub, x_cmp, x_eq_ii, x_ne_ii, x_int_i, x_len_t, x_len_l, x_tup_l, x_tup_t, x_list_l, x_list_t, x_dSl_t, x_dSl_l, x_items_t, x_items_l, x_tru_n, x_tru_b, x_tru_i, x_tru_t, x_tru_l, x_asB, x_is_n, x_isNot_n, isNon_n, isNon_i, isNon_s, isNon_t, isNon_l, isNon_b, Bool.not_true, Bool.not_false, List.length_map, fnE, startE, F_cost_of, d, hb, su]
  simp only [sSeq_x, x_sSet, x_sIf, x_sRet, x_sRetN, x_sPar, x_sUnp, resF_ok, x_sDrop, x_sNext, x_sBreak, x_sCont, x_sRaise, x_sAug, augK_ok, x_sFor, x_sWhile, sKill_x, x_wipe0, x_wipe1, x_evL0, x_evL1, x_setL0, x_setL1, x_eVar, x_eC, x_eOp, x_eUn, x_eCall, x_eMS, x_asStr, x_aNil, x_aCons, x_eTup, x_eLst, x_eIf, x_eNot, x_eAnd, x_eOr, x_bAnd, x_bOr, x_bNot, x_bYes, x_eSl, x_oNone, x_oSome, asI_int, x_iSeq, x_iCall, x_gfName, x_gfTup, eLc, noX_is, Res.bind_ok, Res.bind_exc, flow_ok, flow_exc, seqK_next, seqK_ret, seqK_exc, seqK_brk, seqK_cont, loopK_next, loopK_cont, loopK_brk, loopK_ret, loopK_exc, must_ok, List.set_cons_succ, List.set_cons_zero, List.getD_cons_succ, List.getD_cons_zero, vD_some, if_true, if_false, Bool.false_eq_true, reduceIte, List.map_cons, List.map_nil, List.length_cons, List.length_nil, List.cons_append, List.nil_append, List.replicate, Nat.reduceSub, Nat.reduceAdd, x_add, x_sub, x_cmp, x_eq_ii, x_ne_ii, x_int_i, x_len_t, x_len_l, x_tup_l, x_tup_t, x_list_l, x_list_t, x_dSl_t, x_dSl_l, x_items_t, x_items_l, x_tru_n, x_tru_b, x_tru_i, x_tru_t, x_tru_l, x_asB, x_is_n, x_isNot_n, isNon_n, isNon_i, isNon_s, isNon_t, isNon_l, isNon_b, Bool.not_true, Bool.not_false, List.length_map, fnE, startE, C_cost_of, e]
theorem cost_bad {d : D} (h : C__is_delta [d] = .ok (.bl false)) : C_cost_of [d] = .exc "BadDelta" := by
  simp only [sSeq_x, x_sSet, x_sIf, x_sRet, x_sRetN, x_sPar, x_sUnp, resF_ok, x_sDrop, x_sNext, x_sBreak, x_sCont, x_sRaise, x_sAug, augK_ok, x_sFor, x_sWhile, sKill_x, x_wipe0, x_wipe1, x_evL0, x_evL1, x_setL0, x_setL1, x_eVar, x_eC, x_eOp, x_eUn, x_eCall, x_eMS, x_asStr, x_aNil, x_aCons, x_eTup, x_eLst, x_eIf, x_eNot, x_eAnd, x_eOr, x_bAnd, x_bOr, x_bNot, x_bYes, x_eSl, x_oNone, x_oSome, asI_int, x_iSeq, x_iCall, x_gfName, x_gfTup, eLc, noX_is, Res.bind_ok, Res.bind_exc, flow_ok, flow_exc, seqK_next, seqK_ret, seqK_exc, seqK_brk, seqK_cont, loopK_next, loopK_cont, loopK_brk, loopK_ret, loopK_exc, must_ok, List.set_cons_succ, List.set_cons_zero, List.getD_cons_succ, List.getD_cons_zero, vD_some, if_true, if_false, Bool.false_eq_true, reduceIte, List.map_cons, List.map_nil, List.length_cons, List.length_nil, List.cons_append, List.nil_append, List.replicate, Nat.reduceSub, Nat.reduceAdd, x_add, x_sub, x_cmp, x_eq_ii, x_ne_ii, x_int_i, x_len_t, x_len_l, x_tup_l, x_tup_t, x_list_l, x_list_t, x_dSl_t, x_dSl_l, x_items_t, x_items_l, x_tru_n, x_tru_b, x_tru_i, x_tru_t, x_tru_l, x_asB, x_is_n, x_isNot_n, isNon_n, isNon_i, isNon_s, isNon_t, isNon_l, isNon_b, Bool.not_true, Bool.not_false, List.length_map, fnE, startE, C_cost_of, F_cost_of, h]
end
/-! ### the law's steps and prices -/
abbrev syD (y : Nat × Nat) : D := .tup [dN y.1, dN y.2]
theorem row_eq (a b : List Nat) : dEq (rowD a) (rowD b) = .ok (.bl (decide (a = b))) := by
  unfold dEq
  rw [ok_ints 59 a, ok_ints 59 b, Bool.and_self, if_pos rfl]
  congr 2
  have := eqDL_map (f := dN) eqD_N a b
  show eqDL (a.map dN) (b.map dN) = _
  rw [this]
section
variable {base goal : List Nat}
theorem st_step (R : Option D) (p i : Nat) (F : List (Nat × Nat)) (hp : p + (i + 1) ≤ goal.length) (hb : base.length ≤ 1000) (hg : goal.length ≤ 1000) (hF : F.length ≤ 100000) :
    B__law_steps_2 [some (rowD base), some (rowD goal), R, some (dN p), some (.lst (F.map syD)), some (dN (p + (i + 1))), none, none] = .next [some (rowD base), some (rowD goal), R, some (dN p), some (.lst ((F ++ SLe base goal p (i + 1)).map syD)), none, none, none] := by
  have ct := cut_mid (goal.map dN) p (i + 1)
  rw [← List.map_drop, ← List.map_take] at ct
  have ct : cut (goal.map dN) (some (p : Int)) (some ((p + (i + 1) : Nat) : Int)) = ((goal.drop p).take (i + 1)).map dN := ct
  have hlt : ((goal.drop p).take (i + 1)).length = i + 1 := by rw [List.length_take, List.length_drop]; omega
  have c1 := lcost (p := .pt ((goal.drop p).take (i + 1))) (by show _ < 10000; omega)
  have c1 : C__law_cost [.tup [.str "put", rowD ((goal.drop p).take (i + 1))]] = .ok (dN (cPt (i + 1))) := by
    rw [← hlt]
    rw [hlt]
    have e : (Pc.pt ((goal.drop p).take (i + 1))).cost = cPt (i + 1) := by show cPt _ = _; rw [hlt]
    rw [e] at c1
    exact c1
  have r := dRng1_nat base.length (by omega)
  have lb := row_len base
  have hl1 : F.length < 16777216 := by omega
  have hl2 : F.length + 1 < 16777216 := by omega
  have ed : ((p + (i + 1) : Nat) : Int) - (p : Int) = ((i + 1 : Nat) : Int) := by omega
  generalize hG : (goal.drop p).take (i + 1) = G at *
  have hb2 := lc_filter (gf := gfName 7) (tt := eUn asB (eOp (dEq) (eSl (eVar 0) (oSome (eVar 7)) (oSome (eOp dSub (eOp dAdd (eVar 7) (eVar 5)) (eVar 3)))) (eSl (eVar 1) (oSome (eVar 3)) (oSome (eVar 5))))) (f := eVar 7) (ρ := [some (rowD base), some (rowD goal), R, some (dN p), some (.lst ((F ++ [(cPt (i + 1), p + (i + 1))]).map syD)), some (dN (p + (i + 1))), none, none]) (e := fun a : Nat => D.int (a : Nat)) (p := fun a => decide ((base.drop a).take (i + 1) = G)) (g := fun a => D.int (a : Nat)) (xs := List.range base.length) fun a ha => ⟨_, rfl, by
    have cb := cut_mid (base.map dN) a (i + 1)
    rw [← List.map_drop, ← List.map_take] at cb
    have ei : (a : Int) + ((p + (i + 1) : Nat) : Int) - (p : Int) = (a : Int) + ((i + 1 : Nat) : Int) := by omega
    have q := row_eq ((base.drop a).take (i + 1)) G
    simp only [sSeq_x, x_sSet, x_sIf, x_sRet, x_sRetN, x_sPar, x_sUnp, resF_ok, x_sDrop, x_sNext, x_sBreak, x_sCont, x_sRaise, x_sAug, augK_ok, x_sFor, x_sWhile, sKill_x, x_wipe0, x_wipe1, x_evL0, x_evL1, x_setL0, x_setL1, x_eVar, x_eC, x_eOp, x_eUn, x_eCall, x_eMS, x_asStr, x_aNil, x_aCons, x_eTup, x_eLst, x_eIf, x_eNot, x_eAnd, x_eOr, x_bAnd, x_bOr, x_bNot, x_bYes, x_eSl, x_oNone, x_oSome, asI_int, x_iSeq, x_iCall, x_gfName, x_gfTup, eLc, noX_is, Res.bind_ok, Res.bind_exc, flow_ok, flow_exc, seqK_next, seqK_ret, seqK_exc, seqK_brk, seqK_cont, loopK_next, loopK_cont, loopK_brk, loopK_ret, loopK_exc, must_ok, List.set_cons_succ, List.set_cons_zero, List.getD_cons_succ, List.getD_cons_zero, vD_some, if_true, if_false, Bool.false_eq_true, reduceIte, List.map_cons, List.map_nil, List.length_cons, List.length_nil, List.cons_append, List.nil_append, List.replicate, Nat.reduceSub, Nat.reduceAdd, x_add, x_sub, x_cmp, x_eq_ii, x_ne_ii, x_int_i, x_len_t, x_len_l, x_tup_l, x_tup_t, x_list_l, x_list_t, x_dSl_t, x_dSl_l, x_items_t, x_items_l, x_tru_n, x_tru_b, x_tru_i, x_tru_t, x_tru_l, x_asB, x_is_n, x_isNot_n, isNon_n, isNon_i, isNon_s, isNon_t, isNon_l, isNon_b, Bool.not_true, Bool.not_false, List.length_map, fnE, startE, ei, cb, ct, q], rfl⟩
  have hc : cps base goal p (i + 1) = (List.range base.length).filter fun a => decide ((base.drop a).take (i + 1) = G) := by unfold cps; rw [hG]
  unfold SLe
  rw [hc]
  generalize (List.range base.length).filter (fun a => decide ((base.drop a).take (i + 1) = G)) = W at hb2 hc ⊢
  have wmem : ∀ a ∈ W, a < 10000 := fun a ha => by
    rw [← hc] at ha
    have := List.mem_range.mp (List.mem_filter.mp ha).1
    omega
  rw [List.map_append] at hb2
  have hb2 : lcE _ _ _ [some (rowD base), some (rowD goal), R, some (dN p), some (.lst (F.map syD ++ [.tup [dN (cPt (i + 1)), dN (p + (i + 1))]])), some (dN (p + (i + 1))), none, none] _ = _ := hb2
  cases W with
  | nil =>
    have lw : fLen [.lst []] = .ok (.int 0) := rfl
    have g : iGt 0 0 = false := rfl
    rw [List.map_nil] at hb2
    rw [List.map_append]
    show _ = Px.Flow.next [some (rowD base), some (rowD goal), R, some (dN p), some (.lst (F.map syD ++ [.tup [dN (cPt (i + 1)), dN (p + (i + 1))]])), none, none, none]
    simp only [sSeq_x, x_sSet, x_sIf, x_sRet, x_sRetN, x_sPar, x_sUnp, resF_ok, x_sDrop, x_sNext, x_sBreak, x_sCont, x_sRaise, x_sAug, augK_ok, x_sFor, x_sWhile, sKill_x, x_wipe0, x_wipe1, x_evL0, x_evL1, x_setL0, x_setL1, x_eVar, x_eC, x_eOp, x_eUn, x_eCall, x_eMS, x_asStr, x_aNil, x_aCons, x_eTup, x_eLst, x_eIf, x_eNot, x_eAnd, x_eOr, x_bAnd, x_bOr, x_bNot, x_bYes, x_eSl, x_oNone, x_oSome, asI_int, x_iSeq, x_iCall, x_gfName, x_gfTup, eLc, noX_is, Res.bind_ok, Res.bind_exc, flow_ok, flow_exc, seqK_next, seqK_ret, seqK_exc, seqK_brk, seqK_cont, loopK_next, loopK_cont, loopK_brk, loopK_ret, loopK_exc, must_ok, List.set_cons_succ, List.set_cons_zero, List.getD_cons_succ, List.getD_cons_zero, vD_some, if_true, if_false, Bool.false_eq_true, reduceIte, List.map_cons, List.map_nil, List.length_cons, List.length_nil, List.cons_append, List.nil_append, List.replicate, Nat.reduceSub, Nat.reduceAdd, x_add, x_sub, x_cmp, x_eq_ii, x_ne_ii, x_int_i, x_len_t, x_len_l, x_tup_l, x_tup_t, x_list_l, x_list_t, x_dSl_t, x_dSl_l, x_items_t, x_items_l, x_tru_n, x_tru_b, x_tru_i, x_tru_t, x_tru_l, x_asB, x_is_n, x_isNot_n, isNon_n, isNon_i, isNon_s, isNon_t, isNon_l, isNon_b, Bool.not_true, Bool.not_false, List.length_map, fnE, startE, B__law_steps_2, ct, c1, sAppend, sl_eq, hl1, lb, r, hb2, lw, g]
  | cons a W =>
    have ha := wmem a List.mem_cons_self
    have c2 := lcost (p := .cp a (i + 1)) ⟨ha, by omega⟩
    have c2 : C__law_cost [.tup [.str "copy", dN a, dN (i + 1)]] = .ok (dN (cCp a (i + 1))) := c2
    have lw : fLen [.lst ((a :: W).map fun a => D.int (a : Nat))] = .ok (.int ((W.length + 1 : Nat) : Int)) := by rw [x_len_l, List.length_map, List.length_cons]
    have g : iGt ((W.length + 1 : Nat) : Int) 0 = true := decide_eq_true (by omega)
    have i0 : dIx (.lst ((a :: W).map fun a => D.int (a : Nat))) (.int 0) = .ok (dN a) := dIx_lst (n := 0) rfl
    rw [show F ++ (cPt (i + 1), p + (i + 1)) :: [(cCp a (i + 1), p + (i + 1))] = F ++ [(cPt (i + 1), p + (i + 1))] ++ [(cCp a (i + 1), p + (i + 1))] by simp, List.map_append, List.map_append]
    show _ = Px.Flow.next [some (rowD base), some (rowD goal), R, some (dN p), some (.lst (F.map syD ++ [.tup [dN (cPt (i + 1)), dN (p + (i + 1))]] ++ [.tup [dN (cCp a (i + 1)), dN (p + (i + 1))]])), none, none, none]
    generalize (a :: W).map (fun a => D.int (a : Nat)) = WD at *
    simp only [sSeq_x, x_sSet, x_sIf, x_sRet, x_sRetN, x_sPar, x_sUnp, resF_ok, x_sDrop, x_sNext, x_sBreak, x_sCont, x_sRaise, x_sAug, augK_ok, x_sFor, x_sWhile, sKill_x, x_wipe0, x_wipe1, x_evL0, x_evL1, x_setL0, x_setL1, x_eVar, x_eC, x_eOp, x_eUn, x_eCall, x_eMS, x_asStr, x_aNil, x_aCons, x_eTup, x_eLst, x_eIf, x_eNot, x_eAnd, x_eOr, x_bAnd, x_bOr, x_bNot, x_bYes, x_eSl, x_oNone, x_oSome, asI_int, x_iSeq, x_iCall, x_gfName, x_gfTup, eLc, noX_is, Res.bind_ok, Res.bind_exc, flow_ok, flow_exc, seqK_next, seqK_ret, seqK_exc, seqK_brk, seqK_cont, loopK_next, loopK_cont, loopK_brk, loopK_ret, loopK_exc, must_ok, List.set_cons_succ, List.set_cons_zero, List.getD_cons_succ, List.getD_cons_zero, vD_some, if_true, if_false, Bool.false_eq_true, reduceIte, List.map_cons, List.map_nil, List.length_cons, List.length_nil, List.cons_append, List.nil_append, List.replicate, Nat.reduceSub, Nat.reduceAdd, x_add, x_sub, x_cmp, x_eq_ii, x_ne_ii, x_int_i, x_len_t, x_len_l, x_tup_l, x_tup_t, x_list_l, x_list_t, x_dSl_t, x_dSl_l, x_items_t, x_items_l, x_tru_n, x_tru_b, x_tru_i, x_tru_t, x_tru_l, x_asB, x_is_n, x_isNot_n, isNon_n, isNon_i, isNon_s, isNon_t, isNon_l, isNon_b, Bool.not_true, Bool.not_false, List.length_map, fnE, startE, B__law_steps_2, ct, c1, sAppend, sl_eq, hl1, lb, r, hb2, lw, g, i0, ed, c2, List.length_append, hl2]
theorem SLe_len (p m : Nat) : (SLe base goal p m).length ≤ 2 := by
  unfold SLe
  cases cps base goal p m with
  | nil => simp
  | cons a as => simp
theorem st_in (R : Option D) (p : Nat) (hb : base.length ≤ 1000) (hg : goal.length ≤ 1000) : ∀ (xs : List Nat) (F : List (Nat × Nat)), (∀ i ∈ xs, p + (i + 1) ≤ goal.length) → F.length + 2 * xs.length ≤ 100000 →
    forE (gfName 5) B__law_steps_2 (xs.map fun i => dN (p + (i + 1))) [some (rowD base), some (rowD goal), R, some (dN p), some (.lst (F.map syD)), none, none, none] = .next [some (rowD base), some (rowD goal), R, some (dN p), some (.lst ((F ++ xs.flatMap fun i => SLe base goal p (i + 1)).map syD)), none, none, none]
  | [], F, _, _ => by rw [List.map_nil, List.flatMap_nil, List.append_nil]; rfl
  | i :: xs, F, hx, hl => by
    rw [List.length_cons] at hl
    have h2 := SLe_len (base := base) (goal := goal) p (i + 1)
    have ih := st_in R p hb hg xs (F ++ SLe base goal p (i + 1)) (fun j hj => hx j (List.mem_cons_of_mem _ hj)) (by rw [List.length_append]; omega)
    have st := st_step (base := base) R p i F (hx i List.mem_cons_self) hb hg (by omega)
    rw [List.append_assoc] at ih
    rw [List.map_cons, forE_cons, List.flatMap_cons, ← ih]
    show loopK _ _ = _
    simp only [sSeq_x, x_sSet, x_sIf, x_sRet, x_sRetN, x_sPar, x_sUnp, resF_ok, x_sDrop, x_sNext, x_sBreak, x_sCont, x_sRaise, x_sAug, augK_ok, x_sFor, x_sWhile, sKill_x, x_wipe0, x_wipe1, x_evL0, x_evL1, x_setL0, x_setL1, x_eVar, x_eC, x_eOp, x_eUn, x_eCall, x_eMS, x_asStr, x_aNil, x_aCons, x_eTup, x_eLst, x_eIf, x_eNot, x_eAnd, x_eOr, x_bAnd, x_bOr, x_bNot, x_bYes, x_eSl, x_oNone, x_oSome, asI_int, x_iSeq, x_iCall, x_gfName, x_gfTup, eLc, noX_is, Res.bind_ok, Res.bind_exc, flow_ok, flow_exc, seqK_next, seqK_ret, seqK_exc, seqK_brk, seqK_cont, loopK_next, loopK_cont, loopK_brk, loopK_ret, loopK_exc, must_ok, List.set_cons_succ, List.set_cons_zero, List.getD_cons_succ, List.getD_cons_zero, vD_some, if_true, if_false, Bool.false_eq_true, reduceIte, List.map_cons, List.map_nil, List.length_cons, List.length_nil, List.cons_append, List.nil_append, List.replicate, Nat.reduceSub, Nat.reduceAdd, x_add, x_sub, x_cmp, x_eq_ii, x_ne_ii, x_int_i, x_len_t, x_len_l, x_tup_l, x_tup_t, x_list_l, x_list_t, x_dSl_t, x_dSl_l, x_items_t, x_items_l, x_tru_n, x_tru_b, x_tru_i, x_tru_t, x_tru_l, x_asB, x_is_n, x_isNot_n, isNon_n, isNon_i, isNon_s, isNon_t, isNon_l, isNon_b, Bool.not_true, Bool.not_false, List.length_map, fnE, startE, st]
theorem rng2_p {p n : Nat} (hp : p < n) (h : n ≤ 1000) : dRng2 [.int ((p : Int) + 1), .int ((n : Int) + 1)] = .ok ((List.range (n - p)).map fun i => dN (p + (i + 1))) := by
  show (if _ then _ else _) = _
  rw [if_pos ⟨by omega, by omega, by omega, by omega, by omega⟩]
  unfold rng
  rw [show ((n : Int) + 1 - ((p : Int) + 1)).toNat = n - p by omega]
  congr 1
  refine List.map_congr_left fun i _ => ?_
  show D.int _ = D.int _
  congr 1
  omega
abbrev slD (base goal : List Nat) (p : Nat) : D := .lst ((SL base goal p).map syD)
theorem st_out (hb : base.length ≤ 1000) (hg : goal.length ≤ 1000) : ∀ (xs : List Nat) (F : List D), (∀ p ∈ xs, p < goal.length) → F.length + xs.length ≤ 100000 →
    forE (gfName 3) B__law_steps_1 (xs.map fun p => dN p) [some (rowD base), some (rowD goal), some (.lst F), none, none, none, none, none] = .next [some (rowD base), some (rowD goal), some (.lst (F ++ xs.map (slD base goal))), none, none, none, none, none]
  | [], F, _, _ => by rw [List.map_nil, List.map_nil, List.append_nil]; rfl
  | p :: xs, F, hx, hl => by
    rw [List.length_cons] at hl
    have hp := hx p List.mem_cons_self
    have ih := st_out hb hg xs (F ++ [slD base goal p]) (fun j hj => hx j (List.mem_cons_of_mem _ hj)) (by simp; omega)
    rw [List.append_assoc, List.singleton_append] at ih
    have li := st_in (base := base) (goal := goal) (some (.lst F)) p hb hg (List.range (goal.length - p)) [] (fun i hi => by have := List.mem_range.mp hi; omega) (by rw [List.length_range, List.length_nil]; omega)
    rw [List.nil_append, List.map_nil] at li
    have li : forE _ _ _ _ = .next [some (rowD base), some (rowD goal), some (.lst F), some (dN p), some (slD base goal p), none, none, none] := li
    have r := rng2_p hp hg
    have lg := row_len goal
    have hl2 : F.length < 16777216 := by omega
    have st : B__law_steps_1 [some (rowD base), some (rowD goal), some (.lst F), some (dN p), none, none, none, none] = .next [some (rowD base), some (rowD goal), some (.lst (F ++ [slD base goal p])), none, none, none, none, none] := by
      generalize slD base goal p = SD at li ⊢
      simp only [sSeq_x, x_sSet, x_sIf, x_sRet, x_sRetN, x_sPar, x_sUnp, resF_ok, x_sDrop, x_sNext, x_sBreak, x_sCont, x_sRaise, x_sAug, augK_ok, x_sFor, x_sWhile, sKill_x, x_wipe0, x_wipe1, x_evL0, x_evL1, x_setL0, x_setL1, x_eVar, x_eC, x_eOp, x_eUn, x_eCall, x_eMS, x_asStr, x_aNil, x_aCons, x_eTup, x_eLst, x_eIf, x_eNot, x_eAnd, x_eOr, x_bAnd, x_bOr, x_bNot, x_bYes, x_eSl, x_oNone, x_oSome, asI_int, x_iSeq, x_iCall, x_gfName, x_gfTup, eLc, noX_is, Res.bind_ok, Res.bind_exc, flow_ok, flow_exc, seqK_next, seqK_ret, seqK_exc, seqK_brk, seqK_cont, loopK_next, loopK_cont, loopK_brk, loopK_ret, loopK_exc, must_ok, List.set_cons_succ, List.set_cons_zero, List.getD_cons_succ, List.getD_cons_zero, vD_some, if_true, if_false, Bool.false_eq_true, reduceIte, List.map_cons, List.map_nil, List.length_cons, List.length_nil, List.cons_append, List.nil_append, List.replicate, Nat.reduceSub, Nat.reduceAdd, x_add, x_sub, x_cmp, x_eq_ii, x_ne_ii, x_int_i, x_len_t, x_len_l, x_tup_l, x_tup_t, x_list_l, x_list_t, x_dSl_t, x_dSl_l, x_items_t, x_items_l, x_tru_n, x_tru_b, x_tru_i, x_tru_t, x_tru_l, x_asB, x_is_n, x_isNot_n, isNon_n, isNon_i, isNon_s, isNon_t, isNon_l, isNon_b, Bool.not_true, Bool.not_false, List.length_map, fnE, startE, B__law_steps_1, lg, r, li, sAppend, sl_eq, hl2]
    rw [List.map_cons, forE_cons, List.map_cons, ← ih]
    show loopK _ _ = _
    simp only [sSeq_x, x_sSet, x_sIf, x_sRet, x_sRetN, x_sPar, x_sUnp, resF_ok, x_sDrop, x_sNext, x_sBreak, x_sCont, x_sRaise, x_sAug, augK_ok, x_sFor, x_sWhile, sKill_x, x_wipe0, x_wipe1, x_evL0, x_evL1, x_setL0, x_setL1, x_eVar, x_eC, x_eOp, x_eUn, x_eCall, x_eMS, x_asStr, x_aNil, x_aCons, x_eTup, x_eLst, x_eIf, x_eNot, x_eAnd, x_eOr, x_bAnd, x_bOr, x_bNot, x_bYes, x_eSl, x_oNone, x_oSome, asI_int, x_iSeq, x_iCall, x_gfName, x_gfTup, eLc, noX_is, Res.bind_ok, Res.bind_exc, flow_ok, flow_exc, seqK_next, seqK_ret, seqK_exc, seqK_brk, seqK_cont, loopK_next, loopK_cont, loopK_brk, loopK_ret, loopK_exc, must_ok, List.set_cons_succ, List.set_cons_zero, List.getD_cons_succ, List.getD_cons_zero, vD_some, if_true, if_false, Bool.false_eq_true, reduceIte, List.map_cons, List.map_nil, List.length_cons, List.length_nil, List.cons_append, List.nil_append, List.replicate, Nat.reduceSub, Nat.reduceAdd, x_add, x_sub, x_cmp, x_eq_ii, x_ne_ii, x_int_i, x_len_t, x_len_l, x_tup_l, x_tup_t, x_list_l, x_list_t, x_dSl_t, x_dSl_l, x_items_t, x_items_l, x_tru_n, x_tru_b, x_tru_i, x_tru_t, x_tru_l, x_asB, x_is_n, x_isNot_n, isNon_n, isNon_i, isNon_s, isNon_t, isNon_l, isNon_b, Bool.not_true, Bool.not_false, List.length_map, fnE, startE, st]
abbrev stD (base goal : List Nat) : D := .lst ((List.range goal.length).map (slD base goal))
theorem steps_ok (hb : base.length ≤ 1000) (hg : goal.length ≤ 1000) : C__law_steps [rowD base, rowD goal] = .ok (stD base goal) := by
  have o := st_out (base := base) (goal := goal) hb hg (List.range goal.length) [] (fun p hp => List.mem_range.mp hp) (by rw [List.length_range, List.length_nil]; omega)
  rw [List.nil_append] at o
  have r := dRng1_nat goal.length (by omega)
  have lg := row_len goal
  have o : forE _ _ ((List.range goal.length).map fun i => D.int (i : Nat)) _ = .next [some (rowD base), some (rowD goal), some (stD base goal), none, none, none, none, none] := o
  generalize stD base goal = SD at *
  have e : F__law_steps [some (rowD base), some (rowD goal), none, none, none, none, none, none] = .ret SD := by
    simp only [sSeq_x, x_sSet, x_sIf, x_sRet, x_sRetN, x_sPar, x_sUnp, resF_ok, x_sDrop, x_sNext, x_sBreak, x_sCont, x_sRaise, x_sAug, augK_ok, x_sFor, x_sWhile, sKill_x, x_wipe0, x_wipe1, x_evL0, x_evL1, x_setL0, x_setL1, x_eVar, x_eC, x_eOp, x_eUn, x_eCall, x_eMS, x_asStr, x_aNil, x_aCons, x_eTup, x_eLst, x_eIf, x_eNot, x_eAnd, x_eOr, x_bAnd, x_bOr, x_bNot, x_bYes, x_eSl, x_oNone, x_oSome, asI_int, x_iSeq, x_iCall, x_gfName, x_gfTup, eLc, noX_is, Res.bind_ok, Res.bind_exc, flow_ok, flow_exc, seqK_next, seqK_ret, seqK_exc, seqK_brk, seqK_cont, loopK_next, loopK_cont, loopK_brk, loopK_ret, loopK_exc, must_ok, List.set_cons_succ, List.set_cons_zero, List.getD_cons_succ, List.getD_cons_zero, vD_some, if_true, if_false, Bool.false_eq_true, reduceIte, List.map_cons, List.map_nil, List.length_cons, List.length_nil, List.cons_append, List.nil_append, List.replicate, Nat.reduceSub, Nat.reduceAdd, x_add, x_sub, x_cmp, x_eq_ii, x_ne_ii, x_int_i, x_len_t, x_len_l, x_tup_l, x_tup_t, x_list_l, x_list_t, x_dSl_t, x_dSl_l, x_items_t, x_items_l, x_tru_n, x_tru_b, x_tru_i, x_tru_t, x_tru_l, x_asB, x_is_n, x_isNot_n, isNon_n, isNon_i, isNon_s, isNon_t, isNon_l, isNon_b, Bool.not_true, Bool.not_false, List.length_map, fnE, startE, F__law_steps, lg, r, o]
  simp only [sSeq_x, x_sSet, x_sIf, x_sRet, x_sRetN, x_sPar, x_sUnp, resF_ok, x_sDrop, x_sNext, x_sBreak, x_sCont, x_sRaise, x_sAug, augK_ok, x_sFor, x_sWhile, sKill_x, x_wipe0, x_wipe1, x_evL0, x_evL1, x_setL0, x_setL1, x_eVar, x_eC, x_eOp, x_eUn, x_eCall, x_eMS, x_asStr, x_aNil, x_aCons, x_eTup, x_eLst, x_eIf, x_eNot, x_eAnd, x_eOr, x_bAnd, x_bOr, x_bNot, x_bYes, x_eSl, x_oNone, x_oSome, asI_int, x_iSeq, x_iCall, x_gfName, x_gfTup, eLc, noX_is, Res.bind_ok, Res.bind_exc, flow_ok, flow_exc, seqK_next, seqK_ret, seqK_exc, seqK_brk, seqK_cont, loopK_next, loopK_cont, loopK_brk, loopK_ret, loopK_exc, must_ok, List.set_cons_succ, List.set_cons_zero, List.getD_cons_succ, List.getD_cons_zero, vD_some, if_true, if_false, Bool.false_eq_true, reduceIte, List.map_cons, List.map_nil, List.length_cons, List.length_nil, List.cons_append, List.nil_append, List.replicate, Nat.reduceSub, Nat.reduceAdd, x_add, x_sub, x_cmp, x_eq_ii, x_ne_ii, x_int_i, x_len_t, x_len_l, x_tup_l, x_tup_t, x_list_l, x_list_t, x_dSl_t, x_dSl_l, x_items_t, x_items_l, x_tru_n, x_tru_b, x_tru_i, x_tru_t, x_tru_l, x_asB, x_is_n, x_isNot_n, isNon_n, isNon_i, isNon_s, isNon_t, isNon_l, isNon_b, Bool.not_true, Bool.not_false, List.length_map, fnE, startE, C__law_steps, e]
/-! the least of a row -/
theorem foldl_min : ∀ (l : List Int) (a : Int), (∀ x ∈ a :: l, l.foldl min a ≤ x) ∧ l.foldl min a ∈ a :: l
  | [], a => ⟨fun x hx => by rw [List.mem_singleton.mp hx]; exact Int.le_refl _, List.mem_singleton_self _⟩
  | b :: l, a => by
    obtain ⟨h1, h2⟩ := foldl_min l (min a b)
    rw [List.foldl_cons]
    have h0 := h1 (min a b) List.mem_cons_self
    refine ⟨fun x hx => ?_, ?_⟩
    · rcases List.mem_cons.mp hx with rfl | hx
      · exact Int.le_trans h0 (Int.min_le_left _ _)
      · rcases List.mem_cons.mp hx with rfl | hx
        · exact Int.le_trans h0 (Int.min_le_right _ _)
        · exact h1 x (List.mem_cons_of_mem _ hx)
    · rcases List.mem_cons.mp h2 with h | h
      · rw [h]
        rcases Int.le_total a b with h | h
        · rw [Int.min_eq_left h]; exact List.mem_cons_self
        · rw [Int.min_eq_right h]; exact List.mem_cons_of_mem _ List.mem_cons_self
      · exact List.mem_cons_of_mem _ (List.mem_cons_of_mem _ h)
def upY (tl : List Nat) (p : Nat) (y : Nat × Nat) : Nat := y.1 + tl.getD (y.2 - (p + 1)) 0
theorem min_SL {k : Nat} (h : k + 1 ≤ goal.length) (og : ∀ x ∈ goal, x < 256) : fMin [.lst ((SL base goal (goal.length - (k + 1))).map fun y => dN (upY (TT base goal k).1 (goal.length - (k + 1)) y))] = .ok (dN (pr base goal (k + 1))) := by
  obtain ⟨x, hx, m, hm, et, ep, hmk, lo⟩ := pr_min (base := base) h og
  obtain ⟨y, hy, y1, y2⟩ := rel1 hx
  cases hS : SL base goal (goal.length - (k + 1)) with
  | nil => rw [hS] at hy; cases hy
  | cons y0 ys =>
    have e := x_min_l ((upY (TT base goal k).1 (goal.length - (k + 1)) y0 : Nat) : Int) (ys.map fun y => ((upY (TT base goal k).1 (goal.length - (k + 1)) y : Nat) : Int))
    rw [List.map_cons, List.map_map] at e
    rw [List.map_cons]
    refine Eq.trans e ?_
    obtain ⟨f1, f2⟩ := foldl_min (ys.map fun y => ((upY (TT base goal k).1 (goal.length - (k + 1)) y : Nat) : Int)) ((upY (TT base goal k).1 (goal.length - (k + 1)) y0 : Nat) : Int)
    have back : ∀ z, z ∈ SL base goal (goal.length - (k + 1)) → ((upY (TT base goal k).1 (goal.length - (k + 1)) z : Nat) : Int) ∈ ((upY (TT base goal k).1 (goal.length - (k + 1)) y0 : Nat) : Int) :: (ys.map fun y => ((upY (TT base goal k).1 (goal.length - (k + 1)) y : Nat) : Int)) := fun z hz => by
      rw [hS] at hz
      rcases List.mem_cons.mp hz with rfl | hz
      · exact List.mem_cons_self
      · exact List.mem_cons_of_mem _ (List.mem_map.mpr ⟨z, hz, rfl⟩)
    have low : ∀ z ∈ SL base goal (goal.length - (k + 1)), pr base goal (k + 1) ≤ upY (TT base goal k).1 (goal.length - (k + 1)) z := fun z hz => by
      obtain ⟨w, hw, w1, w2⟩ := rel2 hz
      have := lo w hw
      unfold upE at this
      unfold upY
      rw [w1, w2] at this
      exact this
    congr 2
    have a1 := f1 _ (back y hy)
    have hu : upY (TT base goal k).1 (goal.length - (k + 1)) y ≤ pr base goal (k + 1) := by
      obtain ⟨u1, u2⟩ := upE_pr (base := base) h og hm
      rw [ep, ← u1]
      unfold upY upE
      rw [y1]
      omega
    have a2 : (pr base goal (k + 1) : Int) ≤ (ys.map fun y => ((upY (TT base goal k).1 (goal.length - (k + 1)) y : Nat) : Int)).foldl min ((upY (TT base goal k).1 (goal.length - (k + 1)) y0 : Nat) : Int) := by
      rcases List.mem_cons.mp f2 with h | h
      · rw [h]
        have := low y0 (by rw [hS]; exact List.mem_cons_self)
        omega
      · obtain ⟨z, hz, e⟩ := List.mem_map.mp h
        rw [← e]
        have := low z (by rw [hS]; exact List.mem_cons_of_mem _ hz)
        omega
    omega
theorem SL_at {p : Nat} {y : Nat × Nat} (h : y ∈ SL base goal p) : ∃ m, y.2 = p + (m + 1) ∧ p + (m + 1) ≤ goal.length := by
  obtain ⟨i, hi, h⟩ := List.mem_flatMap.mp h
  rw [List.mem_range] at hi
  unfold SLe at h
  rcases List.mem_cons.mp h with rfl | h
  · exact ⟨i, rfl, by omega⟩
  · cases hc : cps base goal p (i + 1) with
    | nil => rw [hc] at h; cases h
    | cons a as =>
      rw [hc] at h
      rw [List.mem_singleton.mp h]
      exact ⟨i, rfl, by omega⟩
theorem lp_loop (og : ∀ x ∈ goal, x < 256) (hg : goal.length ≤ 1000) : ∀ (p k : Nat), p + k = goal.length →
    forE (gfName 2) B__law_prices_1 (dnD p) [some (stD base goal), some (rowL (TT base goal k).1), none, none, none] = .next [some (stD base goal), some (rowL (TT base goal goal.length).1), none, none, none]
  | 0, k, h => by
    have : k = goal.length := by omega
    subst this
    rfl
  | p + 1, k, h => by
    have ih := lp_loop og hg p (k + 1) (by omega)
    have ep : goal.length - (k + 1) = p := by omega
    have hm := min_SL (base := base) (goal := goal) (k := k) (by omega) og
    rw [ep] at hm
    obtain ⟨x, hx, m, hm', et, _⟩ := pr_min (base := base) (goal := goal) (k := k) (by omega) og
    have hl := (TT_len (base := base) (goal := goal) k (by omega)).1
    have i1 : dIx (stD base goal) (dN p) = .ok (slD base goal p) := dIx_lst (by rw [List.getElem?_map, List.getElem?_range (by omega)]; rfl)
    have hb := lc_fun (gf := gfTup [3, 4]) (f := eOp dAdd (eVar 3) (eOp dIx (eVar 1) (eOp dSub (eOp dSub (eVar 4) (eVar 2)) (eC (.int 1))))) (ρ := [some (stD base goal), some (rowL (TT base goal k).1), some (dN p), none, none]) (e := syD) (g := fun y => dN (upY (TT base goal k).1 p y)) (xs := SL base goal p) fun y hy => ⟨_, rfl, by
      obtain ⟨m, e1, e2⟩ := SL_at hy
      have ei : ((y.2 : Nat) : Int) - (p : Int) - 1 = ((m : Nat) : Int) := by omega
      have i2 : dIx (rowL (TT base goal k).1) (dN m) = .ok (dN ((TT base goal k).1.getD m 0)) := dIx_lm (by rw [List.getD_eq_getElem?_getD, List.getElem?_eq_getElem (by omega)]; rfl)
      have eu : (y.1 : Int) + (((TT base goal k).1.getD m 0 : Nat) : Int) = ((upY (TT base goal k).1 p y : Nat) : Int) := by
        unfold upY
        rw [e1, show p + (m + 1) - (p + 1) = m by omega]
        omega
      generalize rowL (TT base goal k).1 = W at i2 ⊢
      simp only [sSeq_x, x_sSet, x_sIf, x_sRet, x_sRetN, x_sPar, x_sUnp, resF_ok, x_sDrop, x_sNext, x_sBreak, x_sCont, x_sRaise, x_sAug, augK_ok, x_sFor, x_sWhile, sKill_x, x_wipe0, x_wipe1, x_evL0, x_evL1, x_setL0, x_setL1, x_eVar, x_eC, x_eOp, x_eUn, x_eCall, x_eMS, x_asStr, x_aNil, x_aCons, x_eTup, x_eLst, x_eIf, x_eNot, x_eAnd, x_eOr, x_bAnd, x_bOr, x_bNot, x_bYes, x_eSl, x_oNone, x_oSome, asI_int, x_iSeq, x_iCall, x_gfName, x_gfTup, eLc, noX_is, Res.bind_ok, Res.bind_exc, flow_ok, flow_exc, seqK_next, seqK_ret, seqK_exc, seqK_brk, seqK_cont, loopK_next, loopK_cont, loopK_brk, loopK_ret, loopK_exc, must_ok, List.set_cons_succ, List.set_cons_zero, List.getD_cons_succ, List.getD_cons_zero, vD_some, if_true, if_false, Bool.false_eq_true, reduceIte, List.map_cons, List.map_nil, List.length_cons, List.length_nil, List.cons_append, List.nil_append, List.replicate, Nat.reduceSub, Nat.reduceAdd, x_add, x_sub, x_cmp, x_eq_ii, x_ne_ii, x_int_i, x_len_t, x_len_l, x_tup_l, x_tup_t, x_list_l, x_list_t, x_dSl_t, x_dSl_l, x_items_t, x_items_l, x_tru_n, x_tru_b, x_tru_i, x_tru_t, x_tru_l, x_asB, x_is_n, x_isNot_n, isNon_n, isNon_i, isNon_s, isNon_t, isNon_l, isNon_b, Bool.not_true, Bool.not_false, List.length_map, fnE, startE, ei, i2, eu]⟩
    have hz : 1 + (TT base goal k).1.length ≤ 16777216 := by omega
    have et2 : rowL (TT base goal (k + 1)).1 = .lst (dN (pr base goal (k + 1)) :: (TT base goal k).1.map dN) := by rw [et]; rfl
    rw [dnD, forE_cons, ← ih, et2]
    show loopK _ _ = _
    have hi : dItems (slD base goal p) = .ok ((SL base goal p).map syD) := rfl
    generalize slD base goal p = SD at *
    generalize stD base goal = ST at *
    have st : B__law_prices_1 [some ST, some (.lst ((TT base goal k).1.map dN)), some (dN p), none, none] = .next [some ST, some (.lst (dN (pr base goal (k + 1)) :: (TT base goal k).1.map dN)), none, none, none] := by
      simp only [sSeq_x, x_sSet, x_sIf, x_sRet, x_sRetN, x_sPar, x_sUnp, resF_ok, x_sDrop, x_sNext, x_sBreak, x_sCont, x_sRaise, x_sAug, augK_ok, x_sFor, x_sWhile, sKill_x, x_wipe0, x_wipe1, x_evL0, x_evL1, x_setL0, x_setL1, x_eVar, x_eC, x_eOp, x_eUn, x_eCall, x_eMS, x_asStr, x_aNil, x_aCons, x_eTup, x_eLst, x_eIf, x_eNot, x_eAnd, x_eOr, x_bAnd, x_bOr, x_bNot, x_bYes, x_eSl, x_oNone, x_oSome, asI_int, x_iSeq, x_iCall, x_gfName, x_gfTup, eLc, noX_is, Res.bind_ok, Res.bind_exc, flow_ok, flow_exc, seqK_next, seqK_ret, seqK_exc, seqK_brk, seqK_cont, loopK_next, loopK_cont, loopK_brk, loopK_ret, loopK_exc, must_ok, List.set_cons_succ, List.set_cons_zero, List.getD_cons_succ, List.getD_cons_zero, vD_some, if_true, if_false, Bool.false_eq_true, reduceIte, List.map_cons, List.map_nil, List.length_cons, List.length_nil, List.cons_append, List.nil_append, List.replicate, Nat.reduceSub, Nat.reduceAdd, x_add, x_sub, x_cmp, x_eq_ii, x_ne_ii, x_int_i, x_len_t, x_len_l, x_tup_l, x_tup_t, x_list_l, x_list_t, x_dSl_t, x_dSl_l, x_items_t, x_items_l, x_tru_n, x_tru_b, x_tru_i, x_tru_t, x_tru_l, x_asB, x_is_n, x_isNot_n, isNon_n, isNon_i, isNon_s, isNon_t, isNon_l, isNon_b, Bool.not_true, Bool.not_false, List.length_map, fnE, startE, B__law_prices_1, i1, hi, hb, hm, x_add_l, sl_eq, hz]
    simp only [sSeq_x, x_sSet, x_sIf, x_sRet, x_sRetN, x_sPar, x_sUnp, resF_ok, x_sDrop, x_sNext, x_sBreak, x_sCont, x_sRaise, x_sAug, augK_ok, x_sFor, x_sWhile, sKill_x, x_wipe0, x_wipe1, x_evL0, x_evL1, x_setL0, x_setL1, x_eVar, x_eC, x_eOp, x_eUn, x_eCall, x_eMS, x_asStr, x_aNil, x_aCons, x_eTup, x_eLst, x_eIf, x_eNot, x_eAnd, x_eOr, x_bAnd, x_bOr, x_bNot, x_bYes, x_eSl, x_oNone, x_oSome, asI_int, x_iSeq, x_iCall, x_gfName, x_gfTup, eLc, noX_is, Res.bind_ok, Res.bind_exc, flow_ok, flow_exc, seqK_next, seqK_ret, seqK_exc, seqK_brk, seqK_cont, loopK_next, loopK_cont, loopK_brk, loopK_ret, loopK_exc, must_ok, List.set_cons_succ, List.set_cons_zero, List.getD_cons_succ, List.getD_cons_zero, vD_some, if_true, if_false, Bool.false_eq_true, reduceIte, List.map_cons, List.map_nil, List.length_cons, List.length_nil, List.cons_append, List.nil_append, List.replicate, Nat.reduceSub, Nat.reduceAdd, x_add, x_sub, x_cmp, x_eq_ii, x_ne_ii, x_int_i, x_len_t, x_len_l, x_tup_l, x_tup_t, x_list_l, x_list_t, x_dSl_t, x_dSl_l, x_items_t, x_items_l, x_tru_n, x_tru_b, x_tru_i, x_tru_t, x_tru_l, x_asB, x_is_n, x_isNot_n, isNon_n, isNon_i, isNon_s, isNon_t, isNon_l, isNon_b, Bool.not_true, Bool.not_false, List.length_map, fnE, startE, st]
theorem lprices_ok (og : ∀ x ∈ goal, x < 256) (hg : goal.length ≤ 1000) : C__law_prices [stD base goal] = .ok (rowD (TT base goal goal.length).1) := by
  have l := lp_loop (base := base) og hg goal.length 0 (by omega)
  have l : forE (gfName 2) B__law_prices_1 (dnD goal.length) [some (stD base goal), some (.lst [.int 0]), none, none, none] = _ := l
  have d := down_ok (n := goal.length) hg
  have ln : fLen [stD base goal] = .ok (.int goal.length) := by rw [x_len_l, List.length_map, List.length_range]
  have tp : fTuple [rowL (TT base goal goal.length).1] = .ok (rowD (TT base goal goal.length).1) := rfl
  generalize stD base goal = ST at *
  generalize rowL (TT base goal goal.length).1 = W at *
  have e : F__law_prices [some ST, none, none, none, none] = .ret (rowD (TT base goal goal.length).1) := by
    simp only [sSeq_x, x_sSet, x_sIf, x_sRet, x_sRetN, x_sPar, x_sUnp, resF_ok, x_sDrop, x_sNext, x_sBreak, x_sCont, x_sRaise, x_sAug, augK_ok, x_sFor, x_sWhile, sKill_x, x_wipe0, x_wipe1, x_evL0, x_evL1, x_setL0, x_setL1, x_eVar, x_eC, x_eOp, x_eUn, x_eCall, x_eMS, x_asStr, x_aNil, x_aCons, x_eTup, x_eLst, x_eIf, x_eNot, x_eAnd, x_eOr, x_bAnd, x_bOr, x_bNot, x_bYes, x_eSl, x_oNone, x_oSome, asI_int, x_iSeq, x_iCall, x_gfName, x_gfTup, eLc, noX_is, Res.bind_ok, Res.bind_exc, flow_ok, flow_exc, seqK_next, seqK_ret, seqK_exc, seqK_brk, seqK_cont, loopK_next, loopK_cont, loopK_brk, loopK_ret, loopK_exc, must_ok, List.set_cons_succ, List.set_cons_zero, List.getD_cons_succ, List.getD_cons_zero, vD_some, if_true, if_false, Bool.false_eq_true, reduceIte, List.map_cons, List.map_nil, List.length_cons, List.length_nil, List.cons_append, List.nil_append, List.replicate, Nat.reduceSub, Nat.reduceAdd, x_add, x_sub, x_cmp, x_eq_ii, x_ne_ii, x_int_i, x_len_t, x_len_l, x_tup_l, x_tup_t, x_list_l, x_list_t, x_dSl_t, x_dSl_l, x_items_t, x_items_l, x_tru_n, x_tru_b, x_tru_i, x_tru_t, x_tru_l, x_asB, x_is_n, x_isNot_n, isNon_n, isNon_i, isNon_s, isNon_t, isNon_l, isNon_b, Bool.not_true, Bool.not_false, List.length_map, fnE, startE, F__law_prices, ln, neg1, d, l, tp]
  simp only [sSeq_x, x_sSet, x_sIf, x_sRet, x_sRetN, x_sPar, x_sUnp, resF_ok, x_sDrop, x_sNext, x_sBreak, x_sCont, x_sRaise, x_sAug, augK_ok, x_sFor, x_sWhile, sKill_x, x_wipe0, x_wipe1, x_evL0, x_evL1, x_setL0, x_setL1, x_eVar, x_eC, x_eOp, x_eUn, x_eCall, x_eMS, x_asStr, x_aNil, x_aCons, x_eTup, x_eLst, x_eIf, x_eNot, x_eAnd, x_eOr, x_bAnd, x_bOr, x_bNot, x_bYes, x_eSl, x_oNone, x_oSome, asI_int, x_iSeq, x_iCall, x_gfName, x_gfTup, eLc, noX_is, Res.bind_ok, Res.bind_exc, flow_ok, flow_exc, seqK_next, seqK_ret, seqK_exc, seqK_brk, seqK_cont, loopK_next, loopK_cont, loopK_brk, loopK_ret, loopK_exc, must_ok, List.set_cons_succ, List.set_cons_zero, List.getD_cons_succ, List.getD_cons_zero, vD_some, if_true, if_false, Bool.false_eq_true, reduceIte, List.map_cons, List.map_nil, List.length_cons, List.length_nil, List.cons_append, List.nil_append, List.replicate, Nat.reduceSub, Nat.reduceAdd, x_add, x_sub, x_cmp, x_eq_ii, x_ne_ii, x_int_i, x_len_t, x_len_l, x_tup_l, x_tup_t, x_list_l, x_list_t, x_dSl_t, x_dSl_l, x_items_t, x_items_l, x_tru_n, x_tru_b, x_tru_i, x_tru_t, x_tru_l, x_asB, x_is_n, x_isNot_n, isNon_n, isNon_i, isNon_s, isNon_t, isNon_l, isNon_b, Bool.not_true, Bool.not_false, List.length_map, fnE, startE, C__law_prices, e]
end
/-! ### prices told: where they fail -/
def badE (q : List Nat) (p : Nat) (x : En) : Bool := decide (x.1 + q.getD x.2.1 0 < q.getD p 0)
def badY (q : List Nat) (p : Nat) (y : Nat × Nat) : Bool := decide (y.1 + q.getD y.2 0 < q.getD p 0)
def bp (base goal q : List Nat) (p : Nat) : Bool := (PL base goal p).any (badE q p)
section
variable {base goal q : List Nat}
theorem bp_SL (p : Nat) : (SL base goal p).any (badY q p) = bp base goal q p := by
  unfold bp
  cases h : (PL base goal p).any (badE q p) with
  | true =>
    obtain ⟨x, hx, hb⟩ := List.any_eq_true.mp h
    obtain ⟨y, hy, y1, y2⟩ := rel1 hx
    refine List.any_eq_true.mpr ⟨y, hy, ?_⟩
    have hb := of_decide_eq_true hb
    unfold badY
    rw [y1]
    exact decide_eq_true (by omega)
  | false =>
    rw [List.any_eq_false] at h ⊢
    intro y hy hb
    obtain ⟨x, hx, x1, x2⟩ := rel2 hy
    refine h x hx ?_
    unfold badY at hb
    unfold badE
    rw [x1, x2]
    exact hb
theorem q_ix (h : q.length = goal.length + 1) {j : Nat} (hj : j ≤ goal.length) : dIx (rowD q) (dN j) = .ok (dN (q.getD j 0)) := dIx_tm (by rw [List.getD_eq_getElem?_getD, List.getElem?_eq_getElem (by omega)]; rfl)
theorem q_last (h : q.length = goal.length + 1) : dIx (rowD q) (.int (-1)) = .ok (dN (q.getD goal.length 0)) := by
  have hl : (q.map dN).length = goal.length + 1 := by rw [List.length_map, h]
  have e : atI (q.map dN) (-1) = some (dN (q.getD goal.length 0)) := by
    unfold atI ixN
    rw [hl, if_neg (by omega), if_pos (by omega)]
    show (q.map dN)[((-1 : Int) + ((goal.length + 1 : Nat) : Int)).toNat]? = _
    rw [show ((-1 : Int) + ((goal.length + 1 : Nat) : Int)).toNat = goal.length by omega, List.getElem?_map, List.getD_eq_getElem?_getD, List.getElem?_eq_getElem (by omega)]
    rfl
  show (match atI (q.map dN) (-1) with | some d => Res.ok d | none => .err) = _
  rw [e]
theorem dec_bad (a b c : Nat) : iGt (c : Int) ((a : Int) + (b : Int)) = decide (a + b < c) := by
  show decide _ = decide _
  by_cases h : a + b < c
  · rw [decide_eq_true h, decide_eq_true (by omega)]
  · rw [decide_eq_false h, decide_eq_false (by omega)]
theorem pf_step (hb : base.length ≤ 60) (hg : goal.length ≤ 60) (og : ∀ x ∈ goal, x < 256) (h : q.length = goal.length + 1) (p : Nat) (hp : p < goal.length) :
    B_delta_prices_fault_1 [some (rowD base), some (rowD goal), some (rowD q), some (matD base goal), some (dN p), none, none, none, none] = if bp base goal q p = true then .ret (dN p) else .next [some (rowD base), some (rowD goal), some (rowD q), some (matD base goal), none, none, none, none, none] := by
  have pk := pieces_ok (base := base) (goal := goal) (p := p) (by omega) (by omega) (by omega)
  have hb := lc_fun (gf := gfTup [5, 6, 7]) (f := eOp (dCmpI iGt) (eOp dIx (eVar 2) (eVar 4)) (eOp dAdd (eVar 5) (eOp dIx (eVar 2) (eVar 6)))) (ρ := [some (rowD base), some (rowD goal), some (rowD q), some (matD base goal), some (dN p), none, none, none, none]) (e := enD) (g := fun x => .bl (badE q p x)) (xs := PL base goal p) fun x hx => ⟨_, rfl, by
    obtain ⟨m, hm⟩ := PL_ok og hx
    have h2 := hm.le
    have i1 := q_ix (goal := goal) h (j := p) (by omega)
    have i2 := q_ix (goal := goal) h (j := x.2.1) (by rw [hm.at_]; exact h2)
    have g := dec_bad x.1 (q.getD x.2.1 0) (q.getD p 0)
    generalize matD base goal = MD
    simp only [sSeq_x, x_sSet, x_sIf, x_sRet, x_sRetN, x_sPar, x_sUnp, resF_ok, x_sDrop, x_sNext, x_sBreak, x_sCont, x_sRaise, x_sAug, augK_ok, x_sFor, x_sWhile, sKill_x, x_wipe0, x_wipe1, x_evL0, x_evL1, x_setL0, x_setL1, x_eVar, x_eC, x_eOp, x_eUn, x_eCall, x_eMS, x_asStr, x_aNil, x_aCons, x_eTup, x_eLst, x_eIf, x_eNot, x_eAnd, x_eOr, x_bAnd, x_bOr, x_bNot, x_bYes, x_eSl, x_oNone, x_oSome, asI_int, x_iSeq, x_iCall, x_gfName, x_gfTup, eLc, noX_is, Res.bind_ok, Res.bind_exc, flow_ok, flow_exc, seqK_next, seqK_ret, seqK_exc, seqK_brk, seqK_cont, loopK_next, loopK_cont, loopK_brk, loopK_ret, loopK_exc, must_ok, List.set_cons_succ, List.set_cons_zero, List.getD_cons_succ, List.getD_cons_zero, vD_some, if_true, if_false, Bool.false_eq_true, reduceIte, List.map_cons, List.map_nil, List.length_cons, List.length_nil, List.cons_append, List.nil_append, List.replicate, Nat.reduceSub, Nat.reduceAdd, x_add, x_sub, x_cmp, x_eq_ii, x_ne_ii, x_int_i, x_len_t, x_len_l, x_tup_l, x_tup_t, x_list_l, x_list_t, x_dSl_t, x_dSl_l, x_items_t, x_items_l, x_tru_n, x_tru_b, x_tru_i, x_tru_t, x_tru_l, x_asB, x_is_n, x_isNot_n, isNon_n, isNon_i, isNon_s, isNon_t, isNon_l, isNon_b, Bool.not_true, Bool.not_false, List.length_map, fnE, startE, i1, i2, g]
    rfl⟩
  have ea := x_any_f (badE q p) (PL base goal p)
  have ea : fAny [.lst ((PL base goal p).map fun x => .bl (badE q p x))] = .ok (.bl (bp base goal q p)) := ea
  have hi : dItems (.lst ((PL base goal p).map enD)) = .ok ((PL base goal p).map enD) := rfl
  generalize D.lst ((PL base goal p).map enD) = PD at pk hi
  generalize matD base goal = MD at *
  cases hq : bp base goal q p with
  | true =>
    rw [hq] at ea
    rw [if_pos rfl]
    simp only [sSeq_x, x_sSet, x_sIf, x_sRet, x_sRetN, x_sPar, x_sUnp, resF_ok, x_sDrop, x_sNext, x_sBreak, x_sCont, x_sRaise, x_sAug, augK_ok, x_sFor, x_sWhile, sKill_x, x_wipe0, x_wipe1, x_evL0, x_evL1, x_setL0, x_setL1, x_eVar, x_eC, x_eOp, x_eUn, x_eCall, x_eMS, x_asStr, x_aNil, x_aCons, x_eTup, x_eLst, x_eIf, x_eNot, x_eAnd, x_eOr, x_bAnd, x_bOr, x_bNot, x_bYes, x_eSl, x_oNone, x_oSome, asI_int, x_iSeq, x_iCall, x_gfName, x_gfTup, eLc, noX_is, Res.bind_ok, Res.bind_exc, flow_ok, flow_exc, seqK_next, seqK_ret, seqK_exc, seqK_brk, seqK_cont, loopK_next, loopK_cont, loopK_brk, loopK_ret, loopK_exc, must_ok, List.set_cons_succ, List.set_cons_zero, List.getD_cons_succ, List.getD_cons_zero, vD_some, if_true, if_false, Bool.false_eq_true, reduceIte, List.map_cons, List.map_nil, List.length_cons, List.length_nil, List.cons_append, List.nil_append, List.replicate, Nat.reduceSub, Nat.reduceAdd, x_add, x_sub, x_cmp, x_eq_ii, x_ne_ii, x_int_i, x_len_t, x_len_l, x_tup_l, x_tup_t, x_list_l, x_list_t, x_dSl_t, x_dSl_l, x_items_t, x_items_l, x_tru_n, x_tru_b, x_tru_i, x_tru_t, x_tru_l, x_asB, x_is_n, x_isNot_n, isNon_n, isNon_i, isNon_s, isNon_t, isNon_l, isNon_b, Bool.not_true, Bool.not_false, List.length_map, fnE, startE, B_delta_prices_fault_1, pk, hi, hb, ea]
  | false =>
    rw [hq] at ea
    rw [if_neg Bool.false_ne_true]
    simp only [sSeq_x, x_sSet, x_sIf, x_sRet, x_sRetN, x_sPar, x_sUnp, resF_ok, x_sDrop, x_sNext, x_sBreak, x_sCont, x_sRaise, x_sAug, augK_ok, x_sFor, x_sWhile, sKill_x, x_wipe0, x_wipe1, x_evL0, x_evL1, x_setL0, x_setL1, x_eVar, x_eC, x_eOp, x_eUn, x_eCall, x_eMS, x_asStr, x_aNil, x_aCons, x_eTup, x_eLst, x_eIf, x_eNot, x_eAnd, x_eOr, x_bAnd, x_bOr, x_bNot, x_bYes, x_eSl, x_oNone, x_oSome, asI_int, x_iSeq, x_iCall, x_gfName, x_gfTup, eLc, noX_is, Res.bind_ok, Res.bind_exc, flow_ok, flow_exc, seqK_next, seqK_ret, seqK_exc, seqK_brk, seqK_cont, loopK_next, loopK_cont, loopK_brk, loopK_ret, loopK_exc, must_ok, List.set_cons_succ, List.set_cons_zero, List.getD_cons_succ, List.getD_cons_zero, vD_some, if_true, if_false, Bool.false_eq_true, reduceIte, List.map_cons, List.map_nil, List.length_cons, List.length_nil, List.cons_append, List.nil_append, List.replicate, Nat.reduceSub, Nat.reduceAdd, x_add, x_sub, x_cmp, x_eq_ii, x_ne_ii, x_int_i, x_len_t, x_len_l, x_tup_l, x_tup_t, x_list_l, x_list_t, x_dSl_t, x_dSl_l, x_items_t, x_items_l, x_tru_n, x_tru_b, x_tru_i, x_tru_t, x_tru_l, x_asB, x_is_n, x_isNot_n, isNon_n, isNon_i, isNon_s, isNon_t, isNon_l, isNon_b, Bool.not_true, Bool.not_false, List.length_map, fnE, startE, B_delta_prices_fault_1, pk, hi, hb, ea]
def bads (base goal q : List Nat) : List Nat := (List.range goal.length).filter (bp base goal q)
def pfD (base goal q : List Nat) : D := if q.getD goal.length 0 = 0 then (match bads base goal q with | [] => .non | k :: _ => dN k) else .str "end"
theorem pf_loop (hb : base.length ≤ 60) (hg : goal.length ≤ 60) (og : ∀ x ∈ goal, x < 256) (h : q.length = goal.length + 1) : ∀ xs : List Nat, (∀ p ∈ xs, p < goal.length) →
    forE (gfName 4) B_delta_prices_fault_1 (xs.map fun p => dN p) [some (rowD base), some (rowD goal), some (rowD q), some (matD base goal), none, none, none, none, none] = match xs.filter (bp base goal q) with
    | [] => .next [some (rowD base), some (rowD goal), some (rowD q), some (matD base goal), none, none, none, none, none]
    | k :: _ => .ret (dN k)
  | [], _ => rfl
  | p :: xs, hx => by
    have st := pf_step hb hg og h p (hx p List.mem_cons_self)
    have ih := pf_loop hb hg og h xs fun r hr => hx r (List.mem_cons_of_mem _ hr)
    rw [List.map_cons, forE_cons, List.filter_cons]
    cases hq : bp base goal q p with
    | true =>
      rw [hq, if_pos rfl] at st
      rw [if_pos rfl]
      show loopK _ _ = _
      simp only [sSeq_x, x_sSet, x_sIf, x_sRet, x_sRetN, x_sPar, x_sUnp, resF_ok, x_sDrop, x_sNext, x_sBreak, x_sCont, x_sRaise, x_sAug, augK_ok, x_sFor, x_sWhile, sKill_x, x_wipe0, x_wipe1, x_evL0, x_evL1, x_setL0, x_setL1, x_eVar, x_eC, x_eOp, x_eUn, x_eCall, x_eMS, x_asStr, x_aNil, x_aCons, x_eTup, x_eLst, x_eIf, x_eNot, x_eAnd, x_eOr, x_bAnd, x_bOr, x_bNot, x_bYes, x_eSl, x_oNone, x_oSome, asI_int, x_iSeq, x_iCall, x_gfName, x_gfTup, eLc, noX_is, Res.bind_ok, Res.bind_exc, flow_ok, flow_exc, seqK_next, seqK_ret, seqK_exc, seqK_brk, seqK_cont, loopK_next, loopK_cont, loopK_brk, loopK_ret, loopK_exc, must_ok, List.set_cons_succ, List.set_cons_zero, List.getD_cons_succ, List.getD_cons_zero, vD_some, if_true, if_false, Bool.false_eq_true, reduceIte, List.map_cons, List.map_nil, List.length_cons, List.length_nil, List.cons_append, List.nil_append, List.replicate, Nat.reduceSub, Nat.reduceAdd, x_add, x_sub, x_cmp, x_eq_ii, x_ne_ii, x_int_i, x_len_t, x_len_l, x_tup_l, x_tup_t, x_list_l, x_list_t, x_dSl_t, x_dSl_l, x_items_t, x_items_l, x_tru_n, x_tru_b, x_tru_i, x_tru_t, x_tru_l, x_asB, x_is_n, x_isNot_n, isNon_n, isNon_i, isNon_s, isNon_t, isNon_l, isNon_b, Bool.not_true, Bool.not_false, List.length_map, fnE, startE, st]
    | false =>
      rw [hq, if_neg Bool.false_ne_true] at st
      rw [if_neg Bool.false_ne_true, ← ih]
      show loopK _ _ = _
      simp only [sSeq_x, x_sSet, x_sIf, x_sRet, x_sRetN, x_sPar, x_sUnp, resF_ok, x_sDrop, x_sNext, x_sBreak, x_sCont, x_sRaise, x_sAug, augK_ok, x_sFor, x_sWhile, sKill_x, x_wipe0, x_wipe1, x_evL0, x_evL1, x_setL0, x_setL1, x_eVar, x_eC, x_eOp, x_eUn, x_eCall, x_eMS, x_asStr, x_aNil, x_aCons, x_eTup, x_eLst, x_eIf, x_eNot, x_eAnd, x_eOr, x_bAnd, x_bOr, x_bNot, x_bYes, x_eSl, x_oNone, x_oSome, asI_int, x_iSeq, x_iCall, x_gfName, x_gfTup, eLc, noX_is, Res.bind_ok, Res.bind_exc, flow_ok, flow_exc, seqK_next, seqK_ret, seqK_exc, seqK_brk, seqK_cont, loopK_next, loopK_cont, loopK_brk, loopK_ret, loopK_exc, must_ok, List.set_cons_succ, List.set_cons_zero, List.getD_cons_succ, List.getD_cons_zero, vD_some, if_true, if_false, Bool.false_eq_true, reduceIte, List.map_cons, List.map_nil, List.length_cons, List.length_nil, List.cons_append, List.nil_append, List.replicate, Nat.reduceSub, Nat.reduceAdd, x_add, x_sub, x_cmp, x_eq_ii, x_ne_ii, x_int_i, x_len_t, x_len_l, x_tup_l, x_tup_t, x_list_l, x_list_t, x_dSl_t, x_dSl_l, x_items_t, x_items_l, x_tru_n, x_tru_b, x_tru_i, x_tru_t, x_tru_l, x_asB, x_is_n, x_isNot_n, isNon_n, isNon_i, isNon_s, isNon_t, isNon_l, isNon_b, Bool.not_true, Bool.not_false, List.length_map, fnE, startE, st]
theorem all_whole (q : List Nat) (ρ : Px.Env) (h8 : ∀ x : D, (ρ.set 8 (some x)).getD 8 none = some x) : lcE (gfName 8) bYes (eCall C_is_whole (aCons (eVar 8) aNil)) ρ (q.map dN) = .ok (q.map fun _ => .bl true) := lc_fun fun x hx => ⟨_, rfl, by
  have w := whole_ok x
  simp only [x_eCall, x_aCons, x_aNil, x_eVar, h8, vD_some, Res.bind_ok, w]⟩
theorem all_true (q : List Nat) : fAll [.lst (q.map fun _ => D.bl true)] = .ok (.bl true) := by
  rw [x_all_f (fun _ => true) q]
  simp
theorem end_ne (x : Nat) : dNe (dN x) (.int 0) = .ok (.bl (!decide (x = 0))) := by
  rw [x_ne_ii]
  congr 2
  by_cases h : x = 0
  · subst h; rfl
  · rw [decide_eq_false h]
    have : ((x : Int) == 0) = false := beq_eq_false_iff_ne.mpr (by omega)
    rw [this]
theorem dpf_ok (hb : base.length ≤ 60) (hg : goal.length ≤ 60) (ob : ∀ x ∈ base, x < 256) (og : ∀ x ∈ goal, x < 256) (h : q.length = goal.length + 1) : C_delta_prices_fault [rowD base, rowD goal, rowD q] = .ok (pfD base goal q) := by
  have c := chk_ok hb hg ob og
  have a := alike_ok (base := base) (goal := goal) (by omega) (by omega)
  have aw := all_whole q [some (rowD base), some (rowD goal), some (rowD q), none, none, none, none, none, none] fun _ => rfl
  have at_ := all_true q
  have lq : fLen [rowD q] = .ok (.int ((goal.length : Int) + 1)) := by rw [row_len, h]; rfl
  have lg := row_len goal
  have ne : dNe (.int ((goal.length : Int) + 1)) (.int ((goal.length : Int) + 1)) = .ok (.bl false) := by rw [x_ne_ii]; simp
  have l := q_last h
  have en := end_ne (q.getD goal.length 0)
  have r := dRng1_nat goal.length (by omega)
  have lo := pf_loop hb hg og h (List.range goal.length) fun p hp => List.mem_range.mp hp
  have lo : forE _ _ ((List.range goal.length).map fun i => D.int (i : Nat)) _ = _ := lo
  have hw : (List.range goal.length).filter (bp base goal q) = bads base goal q := rfl
  rw [hw] at lo
  unfold pfD
  generalize matD base goal = MD at *
  by_cases hz : q.getD goal.length 0 = 0
  · rw [decide_eq_true hz] at en
    rw [if_pos hz]
    cases hB : bads base goal q with
    | nil =>
      rw [hB] at lo
      have e : F_delta_prices_fault [some (rowD base), some (rowD goal), some (rowD q), none, none, none, none, none, none] = .ret .non := by
        simp only [sSeq_x, x_sSet, x_sIf, x_sRet, x_sRetN, x_sPar, x_sUnp, resF_ok, x_sDrop, x_sNext, x_sBreak, x_sCont, x_sRaise, x_sAug, augK_ok, x_sFor, x_sWhile, sKill_x, x_wipe0, x_wipe1, x_evL0, x_evL1, x_setL0, x_setL1, x_eVar, x_eC, x_eOp, x_eUn, x_eCall, x_eMS, x_asStr, x_aNil, x_aCons, x_eTup, x_eLst, x_eIf, x_eNot, x_eAnd, x_eOr, x_bAnd, x_bOr, x_bNot, x_bYes, x_eSl, x_oNone, x_oSome, asI_int, x_iSeq, x_iCall, x_gfName, x_gfTup, eLc, noX_is, Res.bind_ok, Res.bind_exc, flow_ok, flow_exc, seqK_next, seqK_ret, seqK_exc, seqK_brk, seqK_cont, loopK_next, loopK_cont, loopK_brk, loopK_ret, loopK_exc, must_ok, List.set_cons_succ, List.set_cons_zero, List.getD_cons_succ, List.getD_cons_zero, vD_some, if_true, if_false, Bool.false_eq_true, reduceIte, List.map_cons, List.map_nil, List.length_cons, List.length_nil, List.cons_append, List.nil_append, List.replicate, Nat.reduceSub, Nat.reduceAdd, x_add, x_sub, x_cmp, x_eq_ii, x_ne_ii, x_int_i, x_len_t, x_len_l, x_tup_l, x_tup_t, x_list_l, x_list_t, x_dSl_t, x_dSl_l, x_items_t, x_items_l, x_tru_n, x_tru_b, x_tru_i, x_tru_t, x_tru_l, x_asB, x_is_n, x_isNot_n, isNon_n, isNon_i, isNon_s, isNon_t, isNon_l, isNon_b, Bool.not_true, Bool.not_false, List.length_map, fnE, startE, F_delta_prices_fault, c, isi_t, k_tt, lq, lg, ne, aw, at_, neg1, l, en, a, r, lo]
      show _ = Res.ok D.non
      simp only [sSeq_x, x_sSet, x_sIf, x_sRet, x_sRetN, x_sPar, x_sUnp, resF_ok, x_sDrop, x_sNext, x_sBreak, x_sCont, x_sRaise, x_sAug, augK_ok, x_sFor, x_sWhile, sKill_x, x_wipe0, x_wipe1, x_evL0, x_evL1, x_setL0, x_setL1, x_eVar, x_eC, x_eOp, x_eUn, x_eCall, x_eMS, x_asStr, x_aNil, x_aCons, x_eTup, x_eLst, x_eIf, x_eNot, x_eAnd, x_eOr, x_bAnd, x_bOr, x_bNot, x_bYes, x_eSl, x_oNone, x_oSome, asI_int, x_iSeq, x_iCall, x_gfName, x_gfTup, eLc, noX_is, Res.bind_ok, Res.bind_exc, flow_ok, flow_exc, seqK_next, seqK_ret, seqK_exc, seqK_brk, seqK_cont, loopK_next, loopK_cont, loopK_brk, loopK_ret, loopK_exc, must_ok, List.set_cons_succ, List.set_cons_zero, List.getD_cons_succ, List.getD_cons_zero, vD_some, if_true, if_false, Bool.false_eq_true, reduceIte, List.map_cons, List.map_nil, List.length_cons, List.length_nil, List.cons_append, List.nil_append, List.replicate, Nat.reduceSub, Nat.reduceAdd, x_add, x_sub, x_cmp, x_eq_ii, x_ne_ii, x_int_i, x_len_t, x_len_l, x_tup_l, x_tup_t, x_list_l, x_list_t, x_dSl_t, x_dSl_l, x_items_t, x_items_l, x_tru_n, x_tru_b, x_tru_i, x_tru_t, x_tru_l, x_asB, x_is_n, x_isNot_n, isNon_n, isNon_i, isNon_s, isNon_t, isNon_l, isNon_b, Bool.not_true, Bool.not_false, List.length_map, fnE, startE, C_delta_prices_fault, e]
    | cons k W =>
      rw [hB] at lo
      have e : F_delta_prices_fault [some (rowD base), some (rowD goal), some (rowD q), none, none, none, none, none, none] = .ret (dN k) := by
        simp only [sSeq_x, x_sSet, x_sIf, x_sRet, x_sRetN, x_sPar, x_sUnp, resF_ok, x_sDrop, x_sNext, x_sBreak, x_sCont, x_sRaise, x_sAug, augK_ok, x_sFor, x_sWhile, sKill_x, x_wipe0, x_wipe1, x_evL0, x_evL1, x_setL0, x_setL1, x_eVar, x_eC, x_eOp, x_eUn, x_eCall, x_eMS, x_asStr, x_aNil, x_aCons, x_eTup, x_eLst, x_eIf, x_eNot, x_eAnd, x_eOr, x_bAnd, x_bOr, x_bNot, x_bYes, x_eSl, x_oNone, x_oSome, asI_int, x_iSeq, x_iCall, x_gfName, x_gfTup, eLc, noX_is, Res.bind_ok, Res.bind_exc, flow_ok, flow_exc, seqK_next, seqK_ret, seqK_exc, seqK_brk, seqK_cont, loopK_next, loopK_cont, loopK_brk, loopK_ret, loopK_exc, must_ok, List.set_cons_succ, List.set_cons_zero, List.getD_cons_succ, List.getD_cons_zero, vD_some, if_true, if_false, Bool.false_eq_true, reduceIte, List.map_cons, List.map_nil, List.length_cons, List.length_nil, List.cons_append, List.nil_append, List.replicate, Nat.reduceSub, Nat.reduceAdd, x_add, x_sub, x_cmp, x_eq_ii, x_ne_ii, x_int_i, x_len_t, x_len_l, x_tup_l, x_tup_t, x_list_l, x_list_t, x_dSl_t, x_dSl_l, x_items_t, x_items_l, x_tru_n, x_tru_b, x_tru_i, x_tru_t, x_tru_l, x_asB, x_is_n, x_isNot_n, isNon_n, isNon_i, isNon_s, isNon_t, isNon_l, isNon_b, Bool.not_true, Bool.not_false, List.length_map, fnE, startE, F_delta_prices_fault, c, isi_t, k_tt, lq, lg, ne, aw, at_, neg1, l, en, a, r, lo]
      show _ = Res.ok (dN k)
      simp only [sSeq_x, x_sSet, x_sIf, x_sRet, x_sRetN, x_sPar, x_sUnp, resF_ok, x_sDrop, x_sNext, x_sBreak, x_sCont, x_sRaise, x_sAug, augK_ok, x_sFor, x_sWhile, sKill_x, x_wipe0, x_wipe1, x_evL0, x_evL1, x_setL0, x_setL1, x_eVar, x_eC, x_eOp, x_eUn, x_eCall, x_eMS, x_asStr, x_aNil, x_aCons, x_eTup, x_eLst, x_eIf, x_eNot, x_eAnd, x_eOr, x_bAnd, x_bOr, x_bNot, x_bYes, x_eSl, x_oNone, x_oSome, asI_int, x_iSeq, x_iCall, x_gfName, x_gfTup, eLc, noX_is, Res.bind_ok, Res.bind_exc, flow_ok, flow_exc, seqK_next, seqK_ret, seqK_exc, seqK_brk, seqK_cont, loopK_next, loopK_cont, loopK_brk, loopK_ret, loopK_exc, must_ok, List.set_cons_succ, List.set_cons_zero, List.getD_cons_succ, List.getD_cons_zero, vD_some, if_true, if_false, Bool.false_eq_true, reduceIte, List.map_cons, List.map_nil, List.length_cons, List.length_nil, List.cons_append, List.nil_append, List.replicate, Nat.reduceSub, Nat.reduceAdd, x_add, x_sub, x_cmp, x_eq_ii, x_ne_ii, x_int_i, x_len_t, x_len_l, x_tup_l, x_tup_t, x_list_l, x_list_t, x_dSl_t, x_dSl_l, x_items_t, x_items_l, x_tru_n, x_tru_b, x_tru_i, x_tru_t, x_tru_l, x_asB, x_is_n, x_isNot_n, isNon_n, isNon_i, isNon_s, isNon_t, isNon_l, isNon_b, Bool.not_true, Bool.not_false, List.length_map, fnE, startE, C_delta_prices_fault, e]
  · rw [decide_eq_false hz] at en
    rw [if_neg hz]
    have e : F_delta_prices_fault [some (rowD base), some (rowD goal), some (rowD q), none, none, none, none, none, none] = .ret (.str "end") := by
      simp only [sSeq_x, x_sSet, x_sIf, x_sRet, x_sRetN, x_sPar, x_sUnp, resF_ok, x_sDrop, x_sNext, x_sBreak, x_sCont, x_sRaise, x_sAug, augK_ok, x_sFor, x_sWhile, sKill_x, x_wipe0, x_wipe1, x_evL0, x_evL1, x_setL0, x_setL1, x_eVar, x_eC, x_eOp, x_eUn, x_eCall, x_eMS, x_asStr, x_aNil, x_aCons, x_eTup, x_eLst, x_eIf, x_eNot, x_eAnd, x_eOr, x_bAnd, x_bOr, x_bNot, x_bYes, x_eSl, x_oNone, x_oSome, asI_int, x_iSeq, x_iCall, x_gfName, x_gfTup, eLc, noX_is, Res.bind_ok, Res.bind_exc, flow_ok, flow_exc, seqK_next, seqK_ret, seqK_exc, seqK_brk, seqK_cont, loopK_next, loopK_cont, loopK_brk, loopK_ret, loopK_exc, must_ok, List.set_cons_succ, List.set_cons_zero, List.getD_cons_succ, List.getD_cons_zero, vD_some, if_true, if_false, Bool.false_eq_true, reduceIte, List.map_cons, List.map_nil, List.length_cons, List.length_nil, List.cons_append, List.nil_append, List.replicate, Nat.reduceSub, Nat.reduceAdd, x_add, x_sub, x_cmp, x_eq_ii, x_ne_ii, x_int_i, x_len_t, x_len_l, x_tup_l, x_tup_t, x_list_l, x_list_t, x_dSl_t, x_dSl_l, x_items_t, x_items_l, x_tru_n, x_tru_b, x_tru_i, x_tru_t, x_tru_l, x_asB, x_is_n, x_isNot_n, isNon_n, isNon_i, isNon_s, isNon_t, isNon_l, isNon_b, Bool.not_true, Bool.not_false, List.length_map, fnE, startE, F_delta_prices_fault, c, isi_t, k_tt, lq, lg, ne, aw, at_, neg1, l, en]
    simp only [sSeq_x, x_sSet, x_sIf, x_sRet, x_sRetN, x_sPar, x_sUnp, resF_ok, x_sDrop, x_sNext, x_sBreak, x_sCont, x_sRaise, x_sAug, augK_ok, x_sFor, x_sWhile, sKill_x, x_wipe0, x_wipe1, x_evL0, x_evL1, x_setL0, x_setL1, x_eVar, x_eC, x_eOp, x_eUn, x_eCall, x_eMS, x_asStr, x_aNil, x_aCons, x_eTup, x_eLst, x_eIf, x_eNot, x_eAnd, x_eOr, x_bAnd, x_bOr, x_bNot, x_bYes, x_eSl, x_oNone, x_oSome, asI_int, x_iSeq, x_iCall, x_gfName, x_gfTup, eLc, noX_is, Res.bind_ok, Res.bind_exc, flow_ok, flow_exc, seqK_next, seqK_ret, seqK_exc, seqK_brk, seqK_cont, loopK_next, loopK_cont, loopK_brk, loopK_ret, loopK_exc, must_ok, List.set_cons_succ, List.set_cons_zero, List.getD_cons_succ, List.getD_cons_zero, vD_some, if_true, if_false, Bool.false_eq_true, reduceIte, List.map_cons, List.map_nil, List.length_cons, List.length_nil, List.cons_append, List.nil_append, List.replicate, Nat.reduceSub, Nat.reduceAdd, x_add, x_sub, x_cmp, x_eq_ii, x_ne_ii, x_int_i, x_len_t, x_len_l, x_tup_l, x_tup_t, x_list_l, x_list_t, x_dSl_t, x_dSl_l, x_items_t, x_items_l, x_tru_n, x_tru_b, x_tru_i, x_tru_t, x_tru_l, x_asB, x_is_n, x_isNot_n, isNon_n, isNon_i, isNon_s, isNon_t, isNon_l, isNon_b, Bool.not_true, Bool.not_false, List.length_map, fnE, startE, C_delta_prices_fault, e]
/-! the law's -/
abbrev lwT : EF := eAnd (eUn (dIsi isInt) (eVar 4)) (eAnd (eNot (eUn (dIsi isBool) (eVar 4))) (eOp (dCmpI iGe) (eVar 4) (eC (.int 0))))
theorem lall_whole (q : List Nat) (S : D) : lcE (gfName 4) bYes lwT [some S, some (rowD q), none, none, none, none, none] (q.map dN) = .ok (q.map fun _ => .bl true) := lc_fun fun x hx => ⟨_, rfl, by
  have g : iGe (x : Int) 0 = true := decide_eq_true (by omega)
  simp only [sSeq_x, x_sSet, x_sIf, x_sRet, x_sRetN, x_sPar, x_sUnp, resF_ok, x_sDrop, x_sNext, x_sBreak, x_sCont, x_sRaise, x_sAug, augK_ok, x_sFor, x_sWhile, sKill_x, x_wipe0, x_wipe1, x_evL0, x_evL1, x_setL0, x_setL1, x_eVar, x_eC, x_eOp, x_eUn, x_eCall, x_eMS, x_asStr, x_aNil, x_aCons, x_eTup, x_eLst, x_eIf, x_eNot, x_eAnd, x_eOr, x_bAnd, x_bOr, x_bNot, x_bYes, x_eSl, x_oNone, x_oSome, asI_int, x_iSeq, x_iCall, x_gfName, x_gfTup, eLc, noX_is, Res.bind_ok, Res.bind_exc, flow_ok, flow_exc, seqK_next, seqK_ret, seqK_exc, seqK_brk, seqK_cont, loopK_next, loopK_cont, loopK_brk, loopK_ret, loopK_exc, must_ok, List.set_cons_succ, List.set_cons_zero, List.getD_cons_succ, List.getD_cons_zero, vD_some, if_true, if_false, Bool.false_eq_true, reduceIte, List.map_cons, List.map_nil, List.length_cons, List.length_nil, List.cons_append, List.nil_append, List.replicate, Nat.reduceSub, Nat.reduceAdd, x_add, x_sub, x_cmp, x_eq_ii, x_ne_ii, x_int_i, x_len_t, x_len_l, x_tup_l, x_tup_t, x_list_l, x_list_t, x_dSl_t, x_dSl_l, x_items_t, x_items_l, x_tru_n, x_tru_b, x_tru_i, x_tru_t, x_tru_l, x_asB, x_is_n, x_isNot_n, isNon_n, isNon_i, isNon_s, isNon_t, isNon_l, isNon_b, Bool.not_true, Bool.not_false, List.length_map, fnE, startE, isi_i, k_ii, k_bi, g]⟩
theorem lpf_ok (hg : goal.length ≤ 60) (h : q.length = goal.length + 1) : C__law_price_fault [stD base goal, rowD q] = .ok (pfD base goal q) := by
  have aw := lall_whole q (stD base goal)
  have at_ := all_true q
  have lq : fLen [rowD q] = .ok (.int ((goal.length : Int) + 1)) := by rw [row_len, h]; rfl
  have ls : fLen [stD base goal] = .ok (.int goal.length) := by rw [x_len_l, List.length_map, List.length_range]
  have ne : dNe (.int ((goal.length : Int) + 1)) (.int ((goal.length : Int) + 1)) = .ok (.bl false) := by rw [x_ne_ii]; simp
  have l := q_last h
  have en := end_ne (q.getD goal.length 0)
  have r := dRng1_nat goal.length (by omega)
  have hb := lc_filter (gf := gfName 3) (tt := eUn dTru (eCall fAny (aCons (eLc (iSeq (eOp dIx (eVar 0) (eVar 3))) [5, 6] (gfTup [5, 6]) bYes (eOp (dCmpI iGt) (eOp dIx (eVar 1) (eVar 3)) (eOp dAdd (eVar 5) (eOp dIx (eVar 1) (eVar 6))))) aNil))) (f := eVar 3) (ρ := [some (stD base goal), some (rowD q), none, none, none, none, none]) (e := fun p : Nat => D.int (p : Nat)) (p := bp base goal q) (g := fun p => D.int (p : Nat)) (xs := List.range goal.length) fun p hp => ⟨_, rfl, by
    have hp := List.mem_range.mp hp
    have i1 : dIx (stD base goal) (dN p) = .ok (slD base goal p) := dIx_lst (by rw [List.getElem?_map, List.getElem?_range (by omega)]; rfl)
    have hi : dItems (slD base goal p) = .ok ((SL base goal p).map syD) := rfl
    have hb := lc_fun (gf := gfTup [5, 6]) (f := eOp (dCmpI iGt) (eOp dIx (eVar 1) (eVar 3)) (eOp dAdd (eVar 5) (eOp dIx (eVar 1) (eVar 6)))) (ρ := [some (stD base goal), some (rowD q), none, some (dN p), none, none, none]) (e := syD) (g := fun y => .bl (badY q p y)) (xs := SL base goal p) fun y hy => ⟨_, rfl, by
      obtain ⟨m, e1, e2⟩ := SL_at hy
      have i1 := q_ix (goal := goal) h (j := p) (by omega)
      have i2 := q_ix (goal := goal) h (j := y.2) (by omega)
      have g := dec_bad y.1 (q.getD y.2 0) (q.getD p 0)
      generalize stD base goal = ST
      simp only [sSeq_x, x_sSet, x_sIf, x_sRet, x_sRetN, x_sPar, x_sUnp, resF_ok, x_sDrop, x_sNext, x_sBreak, x_sCont, x_sRaise, x_sAug, augK_ok, x_sFor, x_sWhile, sKill_x, x_wipe0, x_wipe1, x_evL0, x_evL1, x_setL0, x_setL1, x_eVar, x_eC, x_eOp, x_eUn, x_eCall, x_eMS, x_asStr, x_aNil, x_aCons, x_eTup, x_eLst, x_eIf, x_eNot, x_eAnd, x_eOr, x_bAnd, x_bOr, x_bNot, x_bYes, x_eSl, x_oNone, x_oSome, asI_int, x_iSeq, x_iCall, x_gfName, x_gfTup, eLc, noX_is, Res.bind_ok, Res.bind_exc, flow_ok, flow_exc, seqK_next, seqK_ret, seqK_exc, seqK_brk, seqK_cont, loopK_next, loopK_cont, loopK_brk, loopK_ret, loopK_exc, must_ok, List.set_cons_succ, List.set_cons_zero, List.getD_cons_succ, List.getD_cons_zero, vD_some, if_true, if_false, Bool.false_eq_true, reduceIte, List.map_cons, List.map_nil, List.length_cons, List.length_nil, List.cons_append, List.nil_append, List.replicate, Nat.reduceSub, Nat.reduceAdd, x_add, x_sub, x_cmp, x_eq_ii, x_ne_ii, x_int_i, x_len_t, x_len_l, x_tup_l, x_tup_t, x_list_l, x_list_t, x_dSl_t, x_dSl_l, x_items_t, x_items_l, x_tru_n, x_tru_b, x_tru_i, x_tru_t, x_tru_l, x_asB, x_is_n, x_isNot_n, isNon_n, isNon_i, isNon_s, isNon_t, isNon_l, isNon_b, Bool.not_true, Bool.not_false, List.length_map, fnE, startE, i1, i2, g]
      rfl⟩
    have ea := x_any_f (badY q p) (SL base goal p)
    rw [bp_SL] at ea
    generalize slD base goal p = SD at i1 hi
    generalize stD base goal = ST at *
    simp only [sSeq_x, x_sSet, x_sIf, x_sRet, x_sRetN, x_sPar, x_sUnp, resF_ok, x_sDrop, x_sNext, x_sBreak, x_sCont, x_sRaise, x_sAug, augK_ok, x_sFor, x_sWhile, sKill_x, x_wipe0, x_wipe1, x_evL0, x_evL1, x_setL0, x_setL1, x_eVar, x_eC, x_eOp, x_eUn, x_eCall, x_eMS, x_asStr, x_aNil, x_aCons, x_eTup, x_eLst, x_eIf, x_eNot, x_eAnd, x_eOr, x_bAnd, x_bOr, x_bNot, x_bYes, x_eSl, x_oNone, x_oSome, asI_int, x_iSeq, x_iCall, x_gfName, x_gfTup, eLc, noX_is, Res.bind_ok, Res.bind_exc, flow_ok, flow_exc, seqK_next, seqK_ret, seqK_exc, seqK_brk, seqK_cont, loopK_next, loopK_cont, loopK_brk, loopK_ret, loopK_exc, must_ok, List.set_cons_succ, List.set_cons_zero, List.getD_cons_succ, List.getD_cons_zero, vD_some, if_true, if_false, Bool.false_eq_true, reduceIte, List.map_cons, List.map_nil, List.length_cons, List.length_nil, List.cons_append, List.nil_append, List.replicate, Nat.reduceSub, Nat.reduceAdd, x_add, x_sub, x_cmp, x_eq_ii, x_ne_ii, x_int_i, x_len_t, x_len_l, x_tup_l, x_tup_t, x_list_l, x_list_t, x_dSl_t, x_dSl_l, x_items_t, x_items_l, x_tru_n, x_tru_b, x_tru_i, x_tru_t, x_tru_l, x_asB, x_is_n, x_isNot_n, isNon_n, isNon_i, isNon_s, isNon_t, isNon_l, isNon_b, Bool.not_true, Bool.not_false, List.length_map, fnE, startE, i1, hi, hb, ea], rfl⟩
  have hw : (List.range goal.length).filter (bp base goal q) = bads base goal q := rfl
  rw [hw] at hb
  unfold pfD
  have lw : fLen [.lst ((bads base goal q).map fun p => D.int (p : Nat))] = .ok (.int (bads base goal q).length) := by rw [x_len_l, List.length_map]
  generalize stD base goal = ST at *
  by_cases hz : q.getD goal.length 0 = 0
  · rw [decide_eq_true hz] at en
    rw [if_pos hz]
    cases hB : bads base goal q with
    | nil =>
      rw [hB, List.map_nil] at hb lw
      have g : iGt 0 0 = false := rfl
      have e : F__law_price_fault [some ST, some (rowD q), none, none, none, none, none] = .ret .non := by
        simp only [sSeq_x, x_sSet, x_sIf, x_sRet, x_sRetN, x_sPar, x_sUnp, resF_ok, x_sDrop, x_sNext, x_sBreak, x_sCont, x_sRaise, x_sAug, augK_ok, x_sFor, x_sWhile, sKill_x, x_wipe0, x_wipe1, x_evL0, x_evL1, x_setL0, x_setL1, x_eVar, x_eC, x_eOp, x_eUn, x_eCall, x_eMS, x_asStr, x_aNil, x_aCons, x_eTup, x_eLst, x_eIf, x_eNot, x_eAnd, x_eOr, x_bAnd, x_bOr, x_bNot, x_bYes, x_eSl, x_oNone, x_oSome, asI_int, x_iSeq, x_iCall, x_gfName, x_gfTup, eLc, noX_is, Res.bind_ok, Res.bind_exc, flow_ok, flow_exc, seqK_next, seqK_ret, seqK_exc, seqK_brk, seqK_cont, loopK_next, loopK_cont, loopK_brk, loopK_ret, loopK_exc, must_ok, List.set_cons_succ, List.set_cons_zero, List.getD_cons_succ, List.getD_cons_zero, vD_some, if_true, if_false, Bool.false_eq_true, reduceIte, List.map_cons, List.map_nil, List.length_cons, List.length_nil, List.cons_append, List.nil_append, List.replicate, Nat.reduceSub, Nat.reduceAdd, x_add, x_sub, x_cmp, x_eq_ii, x_ne_ii, x_int_i, x_len_t, x_len_l, x_tup_l, x_tup_t, x_list_l, x_list_t, x_dSl_t, x_dSl_l, x_items_t, x_items_l, x_tru_n, x_tru_b, x_tru_i, x_tru_t, x_tru_l, x_asB, x_is_n, x_isNot_n, isNon_n, isNon_i, isNon_s, isNon_t, isNon_l, isNon_b, Bool.not_true, Bool.not_false, List.length_map, fnE, startE, F__law_price_fault, isi_t, k_tt, lq, ls, ne, aw, at_, neg1, l, en, r, hb, lw, Int.ofNat_zero, g]
      show _ = Res.ok D.non
      simp only [sSeq_x, x_sSet, x_sIf, x_sRet, x_sRetN, x_sPar, x_sUnp, resF_ok, x_sDrop, x_sNext, x_sBreak, x_sCont, x_sRaise, x_sAug, augK_ok, x_sFor, x_sWhile, sKill_x, x_wipe0, x_wipe1, x_evL0, x_evL1, x_setL0, x_setL1, x_eVar, x_eC, x_eOp, x_eUn, x_eCall, x_eMS, x_asStr, x_aNil, x_aCons, x_eTup, x_eLst, x_eIf, x_eNot, x_eAnd, x_eOr, x_bAnd, x_bOr, x_bNot, x_bYes, x_eSl, x_oNone, x_oSome, asI_int, x_iSeq, x_iCall, x_gfName, x_gfTup, eLc, noX_is, Res.bind_ok, Res.bind_exc, flow_ok, flow_exc, seqK_next, seqK_ret, seqK_exc, seqK_brk, seqK_cont, loopK_next, loopK_cont, loopK_brk, loopK_ret, loopK_exc, must_ok, List.set_cons_succ, List.set_cons_zero, List.getD_cons_succ, List.getD_cons_zero, vD_some, if_true, if_false, Bool.false_eq_true, reduceIte, List.map_cons, List.map_nil, List.length_cons, List.length_nil, List.cons_append, List.nil_append, List.replicate, Nat.reduceSub, Nat.reduceAdd, x_add, x_sub, x_cmp, x_eq_ii, x_ne_ii, x_int_i, x_len_t, x_len_l, x_tup_l, x_tup_t, x_list_l, x_list_t, x_dSl_t, x_dSl_l, x_items_t, x_items_l, x_tru_n, x_tru_b, x_tru_i, x_tru_t, x_tru_l, x_asB, x_is_n, x_isNot_n, isNon_n, isNon_i, isNon_s, isNon_t, isNon_l, isNon_b, Bool.not_true, Bool.not_false, List.length_map, fnE, startE, C__law_price_fault, e]
    | cons k W =>
      rw [hB] at hb lw
      have g : iGt (((k :: W).length : Nat) : Int) 0 = true := decide_eq_true (by rw [List.length_cons]; omega)
      have i0 : dIx (.lst ((k :: W).map fun p => D.int (p : Nat))) (.int 0) = .ok (dN k) := dIx_lst (n := 0) rfl
      generalize (k :: W).map (fun p => D.int (p : Nat)) = WD at *
      generalize (((k :: W).length : Nat) : Int) = wl at *
      have e : F__law_price_fault [some ST, some (rowD q), none, none, none, none, none] = .ret (dN k) := by
        simp only [sSeq_x, x_sSet, x_sIf, x_sRet, x_sRetN, x_sPar, x_sUnp, resF_ok, x_sDrop, x_sNext, x_sBreak, x_sCont, x_sRaise, x_sAug, augK_ok, x_sFor, x_sWhile, sKill_x, x_wipe0, x_wipe1, x_evL0, x_evL1, x_setL0, x_setL1, x_eVar, x_eC, x_eOp, x_eUn, x_eCall, x_eMS, x_asStr, x_aNil, x_aCons, x_eTup, x_eLst, x_eIf, x_eNot, x_eAnd, x_eOr, x_bAnd, x_bOr, x_bNot, x_bYes, x_eSl, x_oNone, x_oSome, asI_int, x_iSeq, x_iCall, x_gfName, x_gfTup, eLc, noX_is, Res.bind_ok, Res.bind_exc, flow_ok, flow_exc, seqK_next, seqK_ret, seqK_exc, seqK_brk, seqK_cont, loopK_next, loopK_cont, loopK_brk, loopK_ret, loopK_exc, must_ok, List.set_cons_succ, List.set_cons_zero, List.getD_cons_succ, List.getD_cons_zero, vD_some, if_true, if_false, Bool.false_eq_true, reduceIte, List.map_cons, List.map_nil, List.length_cons, List.length_nil, List.cons_append, List.nil_append, List.replicate, Nat.reduceSub, Nat.reduceAdd, x_add, x_sub, x_cmp, x_eq_ii, x_ne_ii, x_int_i, x_len_t, x_len_l, x_tup_l, x_tup_t, x_list_l, x_list_t, x_dSl_t, x_dSl_l, x_items_t, x_items_l, x_tru_n, x_tru_b, x_tru_i, x_tru_t, x_tru_l, x_asB, x_is_n, x_isNot_n, isNon_n, isNon_i, isNon_s, isNon_t, isNon_l, isNon_b, Bool.not_true, Bool.not_false, List.length_map, fnE, startE, F__law_price_fault, isi_t, k_tt, lq, ls, ne, aw, at_, neg1, l, en, r, hb, lw, g, i0]
      show _ = Res.ok (dN k)
      simp only [sSeq_x, x_sSet, x_sIf, x_sRet, x_sRetN, x_sPar, x_sUnp, resF_ok, x_sDrop, x_sNext, x_sBreak, x_sCont, x_sRaise, x_sAug, augK_ok, x_sFor, x_sWhile, sKill_x, x_wipe0, x_wipe1, x_evL0, x_evL1, x_setL0, x_setL1, x_eVar, x_eC, x_eOp, x_eUn, x_eCall, x_eMS, x_asStr, x_aNil, x_aCons, x_eTup, x_eLst, x_eIf, x_eNot, x_eAnd, x_eOr, x_bAnd, x_bOr, x_bNot, x_bYes, x_eSl, x_oNone, x_oSome, asI_int, x_iSeq, x_iCall, x_gfName, x_gfTup, eLc, noX_is, Res.bind_ok, Res.bind_exc, flow_ok, flow_exc, seqK_next, seqK_ret, seqK_exc, seqK_brk, seqK_cont, loopK_next, loopK_cont, loopK_brk, loopK_ret, loopK_exc, must_ok, List.set_cons_succ, List.set_cons_zero, List.getD_cons_succ, List.getD_cons_zero, vD_some, if_true, if_false, Bool.false_eq_true, reduceIte, List.map_cons, List.map_nil, List.length_cons, List.length_nil, List.cons_append, List.nil_append, List.replicate, Nat.reduceSub, Nat.reduceAdd, x_add, x_sub, x_cmp, x_eq_ii, x_ne_ii, x_int_i, x_len_t, x_len_l, x_tup_l, x_tup_t, x_list_l, x_list_t, x_dSl_t, x_dSl_l, x_items_t, x_items_l, x_tru_n, x_tru_b, x_tru_i, x_tru_t, x_tru_l, x_asB, x_is_n, x_isNot_n, isNon_n, isNon_i, isNon_s, isNon_t, isNon_l, isNon_b, Bool.not_true, Bool.not_false, List.length_map, fnE, startE, C__law_price_fault, e]
  · rw [decide_eq_false hz] at en
    rw [if_neg hz]
    have e : F__law_price_fault [some ST, some (rowD q), none, none, none, none, none] = .ret (.str "end") := by
      simp only [sSeq_x, x_sSet, x_sIf, x_sRet, x_sRetN, x_sPar, x_sUnp, resF_ok, x_sDrop, x_sNext, x_sBreak, x_sCont, x_sRaise, x_sAug, augK_ok, x_sFor, x_sWhile, sKill_x, x_wipe0, x_wipe1, x_evL0, x_evL1, x_setL0, x_setL1, x_eVar, x_eC, x_eOp, x_eUn, x_eCall, x_eMS, x_asStr, x_aNil, x_aCons, x_eTup, x_eLst, x_eIf, x_eNot, x_eAnd, x_eOr, x_bAnd, x_bOr, x_bNot, x_bYes, x_eSl, x_oNone, x_oSome, asI_int, x_iSeq, x_iCall, x_gfName, x_gfTup, eLc, noX_is, Res.bind_ok, Res.bind_exc, flow_ok, flow_exc, seqK_next, seqK_ret, seqK_exc, seqK_brk, seqK_cont, loopK_next, loopK_cont, loopK_brk, loopK_ret, loopK_exc, must_ok, List.set_cons_succ, List.set_cons_zero, List.getD_cons_succ, List.getD_cons_zero, vD_some, if_true, if_false, Bool.false_eq_true, reduceIte, List.map_cons, List.map_nil, List.length_cons, List.length_nil, List.cons_append, List.nil_append, List.replicate, Nat.reduceSub, Nat.reduceAdd, x_add, x_sub, x_cmp, x_eq_ii, x_ne_ii, x_int_i, x_len_t, x_len_l, x_tup_l, x_tup_t, x_list_l, x_list_t, x_dSl_t, x_dSl_l, x_items_t, x_items_l, x_tru_n, x_tru_b, x_tru_i, x_tru_t, x_tru_l, x_asB, x_is_n, x_isNot_n, isNon_n, isNon_i, isNon_s, isNon_t, isNon_l, isNon_b, Bool.not_true, Bool.not_false, List.length_map, fnE, startE, F__law_price_fault, isi_t, k_tt, lq, ls, ne, aw, at_, neg1, l, en]
    simp only [sSeq_x, x_sSet, x_sIf, x_sRet, x_sRetN, x_sPar, x_sUnp, resF_ok, x_sDrop, x_sNext, x_sBreak, x_sCont, x_sRaise, x_sAug, augK_ok, x_sFor, x_sWhile, sKill_x, x_wipe0, x_wipe1, x_evL0, x_evL1, x_setL0, x_setL1, x_eVar, x_eC, x_eOp, x_eUn, x_eCall, x_eMS, x_asStr, x_aNil, x_aCons, x_eTup, x_eLst, x_eIf, x_eNot, x_eAnd, x_eOr, x_bAnd, x_bOr, x_bNot, x_bYes, x_eSl, x_oNone, x_oSome, asI_int, x_iSeq, x_iCall, x_gfName, x_gfTup, eLc, noX_is, Res.bind_ok, Res.bind_exc, flow_ok, flow_exc, seqK_next, seqK_ret, seqK_exc, seqK_brk, seqK_cont, loopK_next, loopK_cont, loopK_brk, loopK_ret, loopK_exc, must_ok, List.set_cons_succ, List.set_cons_zero, List.getD_cons_succ, List.getD_cons_zero, vD_some, if_true, if_false, Bool.false_eq_true, reduceIte, List.map_cons, List.map_nil, List.length_cons, List.length_nil, List.cons_append, List.nil_append, List.replicate, Nat.reduceSub, Nat.reduceAdd, x_add, x_sub, x_cmp, x_eq_ii, x_ne_ii, x_int_i, x_len_t, x_len_l, x_tup_l, x_tup_t, x_list_l, x_list_t, x_dSl_t, x_dSl_l, x_items_t, x_items_l, x_tru_n, x_tru_b, x_tru_i, x_tru_t, x_tru_l, x_asB, x_is_n, x_isNot_n, isNon_n, isNon_i, isNon_s, isNon_t, isNon_l, isNon_b, Bool.not_true, Bool.not_false, List.length_map, fnE, startE, C__law_price_fault, e]
end
/-! ### prices of no form; the told prices -/
section
variable {base goal : List Nat}
theorem dpf_l (hb : base.length ≤ 60) (hg : goal.length ≤ 60) (ob : ∀ x ∈ base, x < 256) (og : ∀ x ∈ goal, x < 256) (xs : List D) : C_delta_prices_fault [rowD base, rowD goal, .lst xs] = .ok (.str "form") := by
  have c := chk_ok hb hg ob og
  simp only [sSeq_x, x_sSet, x_sIf, x_sRet, x_sRetN, x_sPar, x_sUnp, resF_ok, x_sDrop, x_sNext, x_sBreak, x_sCont, x_sRaise, x_sAug, augK_ok, x_sFor, x_sWhile, sKill_x, x_wipe0, x_wipe1, x_evL0, x_evL1, x_setL0, x_setL1, x_eVar, x_eC, x_eOp, x_eUn, x_eCall, x_eMS, x_asStr, x_aNil, x_aCons, x_eTup, x_eLst, x_eIf, x_eNot, x_eAnd, x_eOr, x_bAnd, x_bOr, x_bNot, x_bYes, x_eSl, x_oNone, x_oSome, asI_int, x_iSeq, x_iCall, x_gfName, x_gfTup, eLc, noX_is, Res.bind_ok, Res.bind_exc, flow_ok, flow_exc, seqK_next, seqK_ret, seqK_exc, seqK_brk, seqK_cont, loopK_next, loopK_cont, loopK_brk, loopK_ret, loopK_exc, must_ok, List.set_cons_succ, List.set_cons_zero, List.getD_cons_succ, List.getD_cons_zero, vD_some, if_true, if_false, Bool.false_eq_true, reduceIte, List.map_cons, List.map_nil, List.length_cons, List.length_nil, List.cons_append, List.nil_append, List.replicate, Nat.reduceSub, Nat.reduceAdd, x_add, x_sub, x_cmp, x_eq_ii, x_ne_ii, x_int_i, x_len_t, x_len_l, x_tup_l, x_tup_t, x_list_l, x_list_t, x_dSl_t, x_dSl_l, x_items_t, x_items_l, x_tru_n, x_tru_b, x_tru_i, x_tru_t, x_tru_l, x_asB, x_is_n, x_isNot_n, isNon_n, isNon_i, isNon_s, isNon_t, isNon_l, isNon_b, Bool.not_true, Bool.not_false, List.length_map, fnE, startE, C_delta_prices_fault, F_delta_prices_fault, c, isi_l, k_tl]
theorem lpf_l (S : D) (xs : List D) : C__law_price_fault [S, .lst xs] = .ok (.str "form") := by
  simp only [sSeq_x, x_sSet, x_sIf, x_sRet, x_sRetN, x_sPar, x_sUnp, resF_ok, x_sDrop, x_sNext, x_sBreak, x_sCont, x_sRaise, x_sAug, augK_ok, x_sFor, x_sWhile, sKill_x, x_wipe0, x_wipe1, x_evL0, x_evL1, x_setL0, x_setL1, x_eVar, x_eC, x_eOp, x_eUn, x_eCall, x_eMS, x_asStr, x_aNil, x_aCons, x_eTup, x_eLst, x_eIf, x_eNot, x_eAnd, x_eOr, x_bAnd, x_bOr, x_bNot, x_bYes, x_eSl, x_oNone, x_oSome, asI_int, x_iSeq, x_iCall, x_gfName, x_gfTup, eLc, noX_is, Res.bind_ok, Res.bind_exc, flow_ok, flow_exc, seqK_next, seqK_ret, seqK_exc, seqK_brk, seqK_cont, loopK_next, loopK_cont, loopK_brk, loopK_ret, loopK_exc, must_ok, List.set_cons_succ, List.set_cons_zero, List.getD_cons_succ, List.getD_cons_zero, vD_some, if_true, if_false, Bool.false_eq_true, reduceIte, List.map_cons, List.map_nil, List.length_cons, List.length_nil, List.cons_append, List.nil_append, List.replicate, Nat.reduceSub, Nat.reduceAdd, x_add, x_sub, x_cmp, x_eq_ii, x_ne_ii, x_int_i, x_len_t, x_len_l, x_tup_l, x_tup_t, x_list_l, x_list_t, x_dSl_t, x_dSl_l, x_items_t, x_items_l, x_tru_n, x_tru_b, x_tru_i, x_tru_t, x_tru_l, x_asB, x_is_n, x_isNot_n, isNon_n, isNon_i, isNon_s, isNon_t, isNon_l, isNon_b, Bool.not_true, Bool.not_false, List.length_map, fnE, startE, C__law_price_fault, F__law_price_fault, isi_l, k_tl]
theorem len_ne {a b : Nat} (h : a ≠ b + 1) : dNe (.int (a : Int)) (.int ((b : Int) + 1)) = .ok (.bl true) := by
  rw [x_ne_ii]
  congr 2
  have : ((a : Int) == (b : Int) + 1) = false := beq_eq_false_iff_ne.mpr (by omega)
  rw [this]
  rfl
theorem dpf_n (hb : base.length ≤ 60) (hg : goal.length ≤ 60) (ob : ∀ x ∈ base, x < 256) (og : ∀ x ∈ goal, x < 256) (xs : List D) (h : xs.length ≠ goal.length + 1) : C_delta_prices_fault [rowD base, rowD goal, .tup xs] = .ok (.str "form") := by
  have c := chk_ok hb hg ob og
  have lq : fLen [.tup xs] = .ok (.int xs.length) := x_len_t xs
  have lg := row_len goal
  have ne := len_ne h
  have ht : dIsi isTup (.tup xs) = .ok (.bl true) := rfl
  generalize D.tup xs = T at *
  have e : F_delta_prices_fault [some (rowD base), some (rowD goal), some T, none, none, none, none, none, none] = .ret (.str "form") := by
    simp only [sSeq_x, x_sSet, x_sIf, x_sRet, x_sRetN, x_sPar, x_sUnp, resF_ok, x_sDrop, x_sNext, x_sBreak, x_sCont, x_sRaise, x_sAug, augK_ok, x_sFor, x_sWhile, sKill_x, x_wipe0, x_wipe1, x_evL0, x_evL1, x_setL0, x_setL1, x_eVar, x_eC, x_eOp, x_eUn, x_eCall, x_eMS, x_asStr, x_aNil, x_aCons, x_eTup, x_eLst, x_eIf, x_eNot, x_eAnd, x_eOr, x_bAnd, x_bOr, x_bNot, x_bYes, x_eSl, x_oNone, x_oSome, asI_int, x_iSeq, x_iCall, x_gfName, x_gfTup, eLc, noX_is, Res.bind_ok, Res.bind_exc, flow_ok, flow_exc, seqK_next, seqK_ret, seqK_exc, seqK_brk, seqK_cont, loopK_next, loopK_cont, loopK_brk, loopK_ret, loopK_exc, must_ok, List.set_cons_succ, List.set_cons_zero, List.getD_cons_succ, List.getD_cons_zero, vD_some, if_true, if_false, Bool.false_eq_true, reduceIte, List.map_cons, List.map_nil, List.length_cons, List.length_nil, List.cons_append, List.nil_append, List.replicate, Nat.reduceSub, Nat.reduceAdd, x_add, x_sub, x_cmp, x_eq_ii, x_ne_ii, x_int_i, x_len_t, x_len_l, x_tup_l, x_tup_t, x_list_l, x_list_t, x_dSl_t, x_dSl_l, x_items_t, x_items_l, x_tru_n, x_tru_b, x_tru_i, x_tru_t, x_tru_l, x_asB, x_is_n, x_isNot_n, isNon_n, isNon_i, isNon_s, isNon_t, isNon_l, isNon_b, Bool.not_true, Bool.not_false, List.length_map, fnE, startE, F_delta_prices_fault, c, ht, lq, lg, ne]
  simp only [sSeq_x, x_sSet, x_sIf, x_sRet, x_sRetN, x_sPar, x_sUnp, resF_ok, x_sDrop, x_sNext, x_sBreak, x_sCont, x_sRaise, x_sAug, augK_ok, x_sFor, x_sWhile, sKill_x, x_wipe0, x_wipe1, x_evL0, x_evL1, x_setL0, x_setL1, x_eVar, x_eC, x_eOp, x_eUn, x_eCall, x_eMS, x_asStr, x_aNil, x_aCons, x_eTup, x_eLst, x_eIf, x_eNot, x_eAnd, x_eOr, x_bAnd, x_bOr, x_bNot, x_bYes, x_eSl, x_oNone, x_oSome, asI_int, x_iSeq, x_iCall, x_gfName, x_gfTup, eLc, noX_is, Res.bind_ok, Res.bind_exc, flow_ok, flow_exc, seqK_next, seqK_ret, seqK_exc, seqK_brk, seqK_cont, loopK_next, loopK_cont, loopK_brk, loopK_ret, loopK_exc, must_ok, List.set_cons_succ, List.set_cons_zero, List.getD_cons_succ, List.getD_cons_zero, vD_some, if_true, if_false, Bool.false_eq_true, reduceIte, List.map_cons, List.map_nil, List.length_cons, List.length_nil, List.cons_append, List.nil_append, List.replicate, Nat.reduceSub, Nat.reduceAdd, x_add, x_sub, x_cmp, x_eq_ii, x_ne_ii, x_int_i, x_len_t, x_len_l, x_tup_l, x_tup_t, x_list_l, x_list_t, x_dSl_t, x_dSl_l, x_items_t, x_items_l, x_tru_n, x_tru_b, x_tru_i, x_tru_t, x_tru_l, x_asB, x_is_n, x_isNot_n, isNon_n, isNon_i, isNon_s, isNon_t, isNon_l, isNon_b, Bool.not_true, Bool.not_false, List.length_map, fnE, startE, C_delta_prices_fault, e]
theorem lpf_n (xs : List D) (h : xs.length ≠ goal.length + 1) : C__law_price_fault [stD base goal, .tup xs] = .ok (.str "form") := by
  have ls : fLen [stD base goal] = .ok (.int goal.length) := by rw [x_len_l, List.length_map, List.length_range]
  have lq : fLen [.tup xs] = .ok (.int xs.length) := x_len_t xs
  have ne := len_ne h
  have ht : dIsi isTup (.tup xs) = .ok (.bl true) := rfl
  generalize D.tup xs = T at *
  generalize stD base goal = ST at *
  have e : F__law_price_fault [some ST, some T, none, none, none, none, none] = .ret (.str "form") := by
    simp only [sSeq_x, x_sSet, x_sIf, x_sRet, x_sRetN, x_sPar, x_sUnp, resF_ok, x_sDrop, x_sNext, x_sBreak, x_sCont, x_sRaise, x_sAug, augK_ok, x_sFor, x_sWhile, sKill_x, x_wipe0, x_wipe1, x_evL0, x_evL1, x_setL0, x_setL1, x_eVar, x_eC, x_eOp, x_eUn, x_eCall, x_eMS, x_asStr, x_aNil, x_aCons, x_eTup, x_eLst, x_eIf, x_eNot, x_eAnd, x_eOr, x_bAnd, x_bOr, x_bNot, x_bYes, x_eSl, x_oNone, x_oSome, asI_int, x_iSeq, x_iCall, x_gfName, x_gfTup, eLc, noX_is, Res.bind_ok, Res.bind_exc, flow_ok, flow_exc, seqK_next, seqK_ret, seqK_exc, seqK_brk, seqK_cont, loopK_next, loopK_cont, loopK_brk, loopK_ret, loopK_exc, must_ok, List.set_cons_succ, List.set_cons_zero, List.getD_cons_succ, List.getD_cons_zero, vD_some, if_true, if_false, Bool.false_eq_true, reduceIte, List.map_cons, List.map_nil, List.length_cons, List.length_nil, List.cons_append, List.nil_append, List.replicate, Nat.reduceSub, Nat.reduceAdd, x_add, x_sub, x_cmp, x_eq_ii, x_ne_ii, x_int_i, x_len_t, x_len_l, x_tup_l, x_tup_t, x_list_l, x_list_t, x_dSl_t, x_dSl_l, x_items_t, x_items_l, x_tru_n, x_tru_b, x_tru_i, x_tru_t, x_tru_l, x_asB, x_is_n, x_isNot_n, isNon_n, isNon_i, isNon_s, isNon_t, isNon_l, isNon_b, Bool.not_true, Bool.not_false, List.length_map, fnE, startE, F__law_price_fault, ht, ls, lq, ne]
  simp only [sSeq_x, x_sSet, x_sIf, x_sRet, x_sRetN, x_sPar, x_sUnp, resF_ok, x_sDrop, x_sNext, x_sBreak, x_sCont, x_sRaise, x_sAug, augK_ok, x_sFor, x_sWhile, sKill_x, x_wipe0, x_wipe1, x_evL0, x_evL1, x_setL0, x_setL1, x_eVar, x_eC, x_eOp, x_eUn, x_eCall, x_eMS, x_asStr, x_aNil, x_aCons, x_eTup, x_eLst, x_eIf, x_eNot, x_eAnd, x_eOr, x_bAnd, x_bOr, x_bNot, x_bYes, x_eSl, x_oNone, x_oSome, asI_int, x_iSeq, x_iCall, x_gfName, x_gfTup, eLc, noX_is, Res.bind_ok, Res.bind_exc, flow_ok, flow_exc, seqK_next, seqK_ret, seqK_exc, seqK_brk, seqK_cont, loopK_next, loopK_cont, loopK_brk, loopK_ret, loopK_exc, must_ok, List.set_cons_succ, List.set_cons_zero, List.getD_cons_succ, List.getD_cons_zero, vD_some, if_true, if_false, Bool.false_eq_true, reduceIte, List.map_cons, List.map_nil, List.length_cons, List.length_nil, List.cons_append, List.nil_append, List.replicate, Nat.reduceSub, Nat.reduceAdd, x_add, x_sub, x_cmp, x_eq_ii, x_ne_ii, x_int_i, x_len_t, x_len_l, x_tup_l, x_tup_t, x_list_l, x_list_t, x_dSl_t, x_dSl_l, x_items_t, x_items_l, x_tru_n, x_tru_b, x_tru_i, x_tru_t, x_tru_l, x_asB, x_is_n, x_isNot_n, isNon_n, isNon_i, isNon_s, isNon_t, isNon_l, isNon_b, Bool.not_true, Bool.not_false, List.length_map, fnE, startE, C__law_price_fault, e]
structure BadV (d : D) : Prop where
  w : C_is_whole [d] = .ok (.bl false)
  lw : ∀ S T : Option D, lwT [S, T, none, none, some d, none, none] = .ok (.bl false)
theorem badv (d : D) (h : d ∈ ([.non, .bl true, .int (-1)] : List D)) : BadV d := by
  simp only [List.mem_cons, List.not_mem_nil, or_false] at h
  rcases h with rfl | rfl | rfl
  · exact ⟨by kernel_rfl, fun _ _ => rfl⟩
  · exact ⟨by kernel_rfl, fun _ _ => rfl⟩
  · exact ⟨by kernel_rfl, fun _ _ => rfl⟩
def mxD (d : D) : Option Nat → D
  | some n => dN n
  | none => d
abbrev mxL (q1 q2 : List Nat) : List (Option Nat) := q1.map some ++ none :: q2.map some
theorem mx_eq (d : D) (q1 q2 : List Nat) : (mxL q1 q2).map (mxD d) = q1.map dN ++ d :: q2.map dN := by
  rw [List.map_append, List.map_cons, List.map_map, List.map_map]
  rfl
theorem mx_all (q1 q2 : List Nat) : fAll [.lst ((mxL q1 q2).map fun o => .bl o.isSome)] = .ok (.bl false) := by
  rw [x_all_f (fun o : Option Nat => o.isSome) (mxL q1 q2)]
  simp
theorem len_eq (b : Nat) : dNe (.int ((b : Int) + 1)) (.int ((b : Int) + 1)) = .ok (.bl false) := by rw [x_ne_ii]; simp
theorem dpf_m (hb : base.length ≤ 60) (hg : goal.length ≤ 60) (ob : ∀ x ∈ base, x < 256) (og : ∀ x ∈ goal, x < 256) {d : D} (hd : BadV d) (q1 q2 : List Nat) (h : q1.length + 1 + q2.length = goal.length + 1) : C_delta_prices_fault [rowD base, rowD goal, .tup (q1.map dN ++ d :: q2.map dN)] = .ok (.str "form") := by
  have c := chk_ok hb hg ob og
  have lq : fLen [.tup (q1.map dN ++ d :: q2.map dN)] = .ok (.int ((goal.length : Int) + 1)) := by
    rw [x_len_t]
    congr 2
    simp
    omega
  have lg := row_len goal
  have ne := len_eq goal.length
  have hb2 := lc_fun (gf := gfName 8) (f := eCall C_is_whole (aCons (eVar 8) aNil)) (ρ := [some (rowD base), some (rowD goal), some (.tup (q1.map dN ++ d :: q2.map dN)), none, none, none, none, none, none]) (e := mxD d) (g := fun o => .bl o.isSome) (xs := mxL q1 q2) fun o ho => ⟨_, rfl, by
    cases o with
    | none =>
      have w := hd.w
      show eCall _ _ [_, _, _, none, none, none, none, none, some d] = .ok (.bl false)
      simp only [sSeq_x, x_sSet, x_sIf, x_sRet, x_sRetN, x_sPar, x_sUnp, resF_ok, x_sDrop, x_sNext, x_sBreak, x_sCont, x_sRaise, x_sAug, augK_ok, x_sFor, x_sWhile, sKill_x, x_wipe0, x_wipe1, x_evL0, x_evL1, x_setL0, x_setL1, x_eVar, x_eC, x_eOp, x_eUn, x_eCall, x_eMS, x_asStr, x_aNil, x_aCons, x_eTup, x_eLst, x_eIf, x_eNot, x_eAnd, x_eOr, x_bAnd, x_bOr, x_bNot, x_bYes, x_eSl, x_oNone, x_oSome, asI_int, x_iSeq, x_iCall, x_gfName, x_gfTup, eLc, noX_is, Res.bind_ok, Res.bind_exc, flow_ok, flow_exc, seqK_next, seqK_ret, seqK_exc, seqK_brk, seqK_cont, loopK_next, loopK_cont, loopK_brk, loopK_ret, loopK_exc, must_ok, List.set_cons_succ, List.set_cons_zero, List.getD_cons_succ, List.getD_cons_zero, vD_some, if_true, if_false, Bool.false_eq_true, reduceIte, List.map_cons, List.map_nil, List.length_cons, List.length_nil, List.cons_append, List.nil_append, List.replicate, Nat.reduceSub, Nat.reduceAdd, x_add, x_sub, x_cmp, x_eq_ii, x_ne_ii, x_int_i, x_len_t, x_len_l, x_tup_l, x_tup_t, x_list_l, x_list_t, x_dSl_t, x_dSl_l, x_items_t, x_items_l, x_tru_n, x_tru_b, x_tru_i, x_tru_t, x_tru_l, x_asB, x_is_n, x_isNot_n, isNon_n, isNon_i, isNon_s, isNon_t, isNon_l, isNon_b, Bool.not_true, Bool.not_false, List.length_map, fnE, startE, w]
    | some n =>
      have w := whole_ok n
      show eCall _ _ [_, _, _, none, none, none, none, none, some (dN n)] = .ok (.bl true)
      simp only [sSeq_x, x_sSet, x_sIf, x_sRet, x_sRetN, x_sPar, x_sUnp, resF_ok, x_sDrop, x_sNext, x_sBreak, x_sCont, x_sRaise, x_sAug, augK_ok, x_sFor, x_sWhile, sKill_x, x_wipe0, x_wipe1, x_evL0, x_evL1, x_setL0, x_setL1, x_eVar, x_eC, x_eOp, x_eUn, x_eCall, x_eMS, x_asStr, x_aNil, x_aCons, x_eTup, x_eLst, x_eIf, x_eNot, x_eAnd, x_eOr, x_bAnd, x_bOr, x_bNot, x_bYes, x_eSl, x_oNone, x_oSome, asI_int, x_iSeq, x_iCall, x_gfName, x_gfTup, eLc, noX_is, Res.bind_ok, Res.bind_exc, flow_ok, flow_exc, seqK_next, seqK_ret, seqK_exc, seqK_brk, seqK_cont, loopK_next, loopK_cont, loopK_brk, loopK_ret, loopK_exc, must_ok, List.set_cons_succ, List.set_cons_zero, List.getD_cons_succ, List.getD_cons_zero, vD_some, if_true, if_false, Bool.false_eq_true, reduceIte, List.map_cons, List.map_nil, List.length_cons, List.length_nil, List.cons_append, List.nil_append, List.replicate, Nat.reduceSub, Nat.reduceAdd, x_add, x_sub, x_cmp, x_eq_ii, x_ne_ii, x_int_i, x_len_t, x_len_l, x_tup_l, x_tup_t, x_list_l, x_list_t, x_dSl_t, x_dSl_l, x_items_t, x_items_l, x_tru_n, x_tru_b, x_tru_i, x_tru_t, x_tru_l, x_asB, x_is_n, x_isNot_n, isNon_n, isNon_i, isNon_s, isNon_t, isNon_l, isNon_b, Bool.not_true, Bool.not_false, List.length_map, fnE, startE, w]⟩
  rw [mx_eq] at hb2
  have ea := mx_all q1 q2
  have ht : dIsi isTup (.tup (q1.map dN ++ d :: q2.map dN)) = .ok (.bl true) := rfl
  have hi : dItems (.tup (q1.map dN ++ d :: q2.map dN)) = .ok (q1.map dN ++ d :: q2.map dN) := rfl
  generalize D.tup (q1.map dN ++ d :: q2.map dN) = T at *
  generalize q1.map dN ++ d :: q2.map dN = TL at *
  have e : F_delta_prices_fault [some (rowD base), some (rowD goal), some T, none, none, none, none, none, none] = .ret (.str "form") := by
    generalize (mxL q1 q2).map (fun o => D.bl o.isSome) = BL at *
    simp only [sSeq_x, x_sSet, x_sIf, x_sRet, x_sRetN, x_sPar, x_sUnp, resF_ok, x_sDrop, x_sNext, x_sBreak, x_sCont, x_sRaise, x_sAug, augK_ok, x_sFor, x_sWhile, sKill_x, x_wipe0, x_wipe1, x_evL0, x_evL1, x_setL0, x_setL1, x_eVar, x_eC, x_eOp, x_eUn, x_eCall, x_eMS, x_asStr, x_aNil, x_aCons, x_eTup, x_eLst, x_eIf, x_eNot, x_eAnd, x_eOr, x_bAnd, x_bOr, x_bNot, x_bYes, x_eSl, x_oNone, x_oSome, asI_int, x_iSeq, x_iCall, x_gfName, x_gfTup, eLc, noX_is, Res.bind_ok, Res.bind_exc, flow_ok, flow_exc, seqK_next, seqK_ret, seqK_exc, seqK_brk, seqK_cont, loopK_next, loopK_cont, loopK_brk, loopK_ret, loopK_exc, must_ok, List.set_cons_succ, List.set_cons_zero, List.getD_cons_succ, List.getD_cons_zero, vD_some, if_true, if_false, Bool.false_eq_true, reduceIte, List.map_cons, List.map_nil, List.length_cons, List.length_nil, List.cons_append, List.nil_append, List.replicate, Nat.reduceSub, Nat.reduceAdd, x_add, x_sub, x_cmp, x_eq_ii, x_ne_ii, x_int_i, x_len_t, x_len_l, x_tup_l, x_tup_t, x_list_l, x_list_t, x_dSl_t, x_dSl_l, x_items_t, x_items_l, x_tru_n, x_tru_b, x_tru_i, x_tru_t, x_tru_l, x_asB, x_is_n, x_isNot_n, isNon_n, isNon_i, isNon_s, isNon_t, isNon_l, isNon_b, Bool.not_true, Bool.not_false, List.length_map, fnE, startE, F_delta_prices_fault, c, ht, lq, lg, ne, hi, hb2, ea]
  simp only [sSeq_x, x_sSet, x_sIf, x_sRet, x_sRetN, x_sPar, x_sUnp, resF_ok, x_sDrop, x_sNext, x_sBreak, x_sCont, x_sRaise, x_sAug, augK_ok, x_sFor, x_sWhile, sKill_x, x_wipe0, x_wipe1, x_evL0, x_evL1, x_setL0, x_setL1, x_eVar, x_eC, x_eOp, x_eUn, x_eCall, x_eMS, x_asStr, x_aNil, x_aCons, x_eTup, x_eLst, x_eIf, x_eNot, x_eAnd, x_eOr, x_bAnd, x_bOr, x_bNot, x_bYes, x_eSl, x_oNone, x_oSome, asI_int, x_iSeq, x_iCall, x_gfName, x_gfTup, eLc, noX_is, Res.bind_ok, Res.bind_exc, flow_ok, flow_exc, seqK_next, seqK_ret, seqK_exc, seqK_brk, seqK_cont, loopK_next, loopK_cont, loopK_brk, loopK_ret, loopK_exc, must_ok, List.set_cons_succ, List.set_cons_zero, List.getD_cons_succ, List.getD_cons_zero, vD_some, if_true, if_false, Bool.false_eq_true, reduceIte, List.map_cons, List.map_nil, List.length_cons, List.length_nil, List.cons_append, List.nil_append, List.replicate, Nat.reduceSub, Nat.reduceAdd, x_add, x_sub, x_cmp, x_eq_ii, x_ne_ii, x_int_i, x_len_t, x_len_l, x_tup_l, x_tup_t, x_list_l, x_list_t, x_dSl_t, x_dSl_l, x_items_t, x_items_l, x_tru_n, x_tru_b, x_tru_i, x_tru_t, x_tru_l, x_asB, x_is_n, x_isNot_n, isNon_n, isNon_i, isNon_s, isNon_t, isNon_l, isNon_b, Bool.not_true, Bool.not_false, List.length_map, fnE, startE, C_delta_prices_fault, e]
theorem lpf_m {d : D} (hd : BadV d) (q1 q2 : List Nat) (h : q1.length + 1 + q2.length = goal.length + 1) : C__law_price_fault [stD base goal, .tup (q1.map dN ++ d :: q2.map dN)] = .ok (.str "form") := by
  have lq : fLen [.tup (q1.map dN ++ d :: q2.map dN)] = .ok (.int ((goal.length : Int) + 1)) := by
    rw [x_len_t]
    congr 2
    simp
    omega
  have ls : fLen [stD base goal] = .ok (.int goal.length) := by rw [x_len_l, List.length_map, List.length_range]
  have ne := len_eq goal.length
  generalize stD base goal = ST at *
  have hb2 := lc_fun (gf := gfName 4) (f := lwT) (ρ := [some ST, some (.tup (q1.map dN ++ d :: q2.map dN)), none, none, none, none, none]) (e := mxD d) (g := fun o => .bl o.isSome) (xs := mxL q1 q2) fun o ho => ⟨_, rfl, by
    cases o with
    | none => exact hd.lw _ _
    | some n =>
      have g : iGe (n : Int) 0 = true := decide_eq_true (by omega)
      show lwT [_, _, none, none, some (dN n), none, none] = .ok (.bl true)
      simp only [sSeq_x, x_sSet, x_sIf, x_sRet, x_sRetN, x_sPar, x_sUnp, resF_ok, x_sDrop, x_sNext, x_sBreak, x_sCont, x_sRaise, x_sAug, augK_ok, x_sFor, x_sWhile, sKill_x, x_wipe0, x_wipe1, x_evL0, x_evL1, x_setL0, x_setL1, x_eVar, x_eC, x_eOp, x_eUn, x_eCall, x_eMS, x_asStr, x_aNil, x_aCons, x_eTup, x_eLst, x_eIf, x_eNot, x_eAnd, x_eOr, x_bAnd, x_bOr, x_bNot, x_bYes, x_eSl, x_oNone, x_oSome, asI_int, x_iSeq, x_iCall, x_gfName, x_gfTup, eLc, noX_is, Res.bind_ok, Res.bind_exc, flow_ok, flow_exc, seqK_next, seqK_ret, seqK_exc, seqK_brk, seqK_cont, loopK_next, loopK_cont, loopK_brk, loopK_ret, loopK_exc, must_ok, List.set_cons_succ, List.set_cons_zero, List.getD_cons_succ, List.getD_cons_zero, vD_some, if_true, if_false, Bool.false_eq_true, reduceIte, List.map_cons, List.map_nil, List.length_cons, List.length_nil, List.cons_append, List.nil_append, List.replicate, Nat.reduceSub, Nat.reduceAdd, x_add, x_sub, x_cmp, x_eq_ii, x_ne_ii, x_int_i, x_len_t, x_len_l, x_tup_l, x_tup_t, x_list_l, x_list_t, x_dSl_t, x_dSl_l, x_items_t, x_items_l, x_tru_n, x_tru_b, x_tru_i, x_tru_t, x_tru_l, x_asB, x_is_n, x_isNot_n, isNon_n, isNon_i, isNon_s, isNon_t, isNon_l, isNon_b, Bool.not_true, Bool.not_false, List.length_map, fnE, startE, isi_i, k_ii, k_bi, g]⟩
  rw [mx_eq] at hb2
  have ea := mx_all q1 q2
  have ht : dIsi isTup (.tup (q1.map dN ++ d :: q2.map dN)) = .ok (.bl true) := rfl
  have hi : dItems (.tup (q1.map dN ++ d :: q2.map dN)) = .ok (q1.map dN ++ d :: q2.map dN) := rfl
  generalize D.tup (q1.map dN ++ d :: q2.map dN) = T at *
  generalize q1.map dN ++ d :: q2.map dN = TL at *
  have e : F__law_price_fault [some ST, some T, none, none, none, none, none] = .ret (.str "form") := by
    generalize (mxL q1 q2).map (fun o => D.bl o.isSome) = BL at *
    simp only [sSeq_x, x_sSet, x_sIf, x_sRet, x_sRetN, x_sPar, x_sUnp, resF_ok, x_sDrop, x_sNext, x_sBreak, x_sCont, x_sRaise, x_sAug, augK_ok, x_sFor, x_sWhile, sKill_x, x_wipe0, x_wipe1, x_evL0, x_evL1, x_setL0, x_setL1, x_eVar, x_eC, x_eOp, x_eUn, x_eCall, x_eMS, x_asStr, x_aNil, x_aCons, x_eTup, x_eLst, x_eIf, x_eNot, x_eAnd, x_eOr, x_bAnd, x_bOr, x_bNot, x_bYes, x_eSl, x_oNone, x_oSome, asI_int, x_iSeq, x_iCall, x_gfName, x_gfTup, eLc, noX_is, Res.bind_ok, Res.bind_exc, flow_ok, flow_exc, seqK_next, seqK_ret, seqK_exc, seqK_brk, seqK_cont, loopK_next, loopK_cont, loopK_brk, loopK_ret, loopK_exc, must_ok, List.set_cons_succ, List.set_cons_zero, List.getD_cons_succ, List.getD_cons_zero, vD_some, if_true, if_false, Bool.false_eq_true, reduceIte, List.map_cons, List.map_nil, List.length_cons, List.length_nil, List.cons_append, List.nil_append, List.replicate, Nat.reduceSub, Nat.reduceAdd, x_add, x_sub, x_cmp, x_eq_ii, x_ne_ii, x_int_i, x_len_t, x_len_l, x_tup_l, x_tup_t, x_list_l, x_list_t, x_dSl_t, x_dSl_l, x_items_t, x_items_l, x_tru_n, x_tru_b, x_tru_i, x_tru_t, x_tru_l, x_asB, x_is_n, x_isNot_n, isNon_n, isNon_i, isNon_s, isNon_t, isNon_l, isNon_b, Bool.not_true, Bool.not_false, List.length_map, fnE, startE, F__law_price_fault, ht, ls, lq, ne, hi, hb2, ea]
  simp only [sSeq_x, x_sSet, x_sIf, x_sRet, x_sRetN, x_sPar, x_sUnp, resF_ok, x_sDrop, x_sNext, x_sBreak, x_sCont, x_sRaise, x_sAug, augK_ok, x_sFor, x_sWhile, sKill_x, x_wipe0, x_wipe1, x_evL0, x_evL1, x_setL0, x_setL1, x_eVar, x_eC, x_eOp, x_eUn, x_eCall, x_eMS, x_asStr, x_aNil, x_aCons, x_eTup, x_eLst, x_eIf, x_eNot, x_eAnd, x_eOr, x_bAnd, x_bOr, x_bNot, x_bYes, x_eSl, x_oNone, x_oSome, asI_int, x_iSeq, x_iCall, x_gfName, x_gfTup, eLc, noX_is, Res.bind_ok, Res.bind_exc, flow_ok, flow_exc, seqK_next, seqK_ret, seqK_exc, seqK_brk, seqK_cont, loopK_next, loopK_cont, loopK_brk, loopK_ret, loopK_exc, must_ok, List.set_cons_succ, List.set_cons_zero, List.getD_cons_succ, List.getD_cons_zero, vD_some, if_true, if_false, Bool.false_eq_true, reduceIte, List.map_cons, List.map_nil, List.length_cons, List.length_nil, List.cons_append, List.nil_append, List.replicate, Nat.reduceSub, Nat.reduceAdd, x_add, x_sub, x_cmp, x_eq_ii, x_ne_ii, x_int_i, x_len_t, x_len_l, x_tup_l, x_tup_t, x_list_l, x_list_t, x_dSl_t, x_dSl_l, x_items_t, x_items_l, x_tru_n, x_tru_b, x_tru_i, x_tru_t, x_tru_l, x_asB, x_is_n, x_isNot_n, isNon_n, isNon_i, isNon_s, isNon_t, isNon_l, isNon_b, Bool.not_true, Bool.not_false, List.length_map, fnE, startE, C__law_price_fault, e]
theorem told_ok (og : ∀ x ∈ goal, x < 256) : pfD base goal (TT base goal goal.length).1 = .non := by
  have hl := TT_get (base := base) (goal := goal) goal.length
  unfold pfD
  rw [hl goal.length (Nat.le_refl _) (Nat.le_refl _), Nat.sub_self, if_pos (show pr base goal 0 = 0 from rfl)]
  have : bads base goal (TT base goal goal.length).1 = [] := by
    unfold bads
    rw [List.filter_eq_nil_iff]
    intro p hp
    have hp := List.mem_range.mp hp
    rw [Bool.not_eq_true]
    unfold bp
    rw [List.any_eq_false]
    intro x hx hb
    have hb := of_decide_eq_true hb
    obtain ⟨m, hm⟩ := PL_ok og hx
    have h2 := hm.le
    have h1 := hm.pos
    rw [hm.at_, hl p (Nat.le_refl _) (by omega), hl (p + m) (Nat.le_refl _) h2] at hb
    obtain ⟨x', hx', m', hm', et, ep, hmk, lo⟩ := pr_min (base := base) (goal := goal) (k := goal.length - p - 1) (by omega) og
    have ep : goal.length - (goal.length - p - 1 + 1) = p := by omega
    rw [ep] at lo
    have l := lo x hx
    have hm2 : EnOk base goal (goal.length - (goal.length - p - 1 + 1)) m x := by rw [ep]; exact hm
    obtain ⟨u1, u2⟩ := upE_pr (base := base) (k := goal.length - p - 1) (by omega) og hm2
    rw [ep] at u1
    rw [u1, ← hm.cost, show goal.length - p - 1 + 1 = goal.length - p by omega] at l
    rw [show goal.length - (p + m) = goal.length - p - m by omega] at hb
    omega
  rw [this]
end
/-! bad pieces -/
theorem bad_copy (a : Nat) : BadD (.tup [.str "copy", dN a]) where
  ip := by
    have e : F__is_piece [some (.tup [.str "copy", dN a])] = .ret (.bl false) := by
      have w2 : dEq (.str "copy") (.str "put") = .ok (.bl false) := by kernel_rfl
      simp only [sSeq_x, x_sSet, x_sIf, x_sRet, x_sRetN, x_sPar, x_sUnp, resF_ok, x_sDrop, x_sNext, x_sBreak, x_sCont, x_sRaise, x_sAug, augK_ok, x_sFor, x_sWhile, sKill_x, x_wipe0, x_wipe1, x_evL0, x_evL1, x_setL0, x_setL1, x_eVar, x_eC, x_eOp, x_eUn, x_eCall, x_eMS, x_asStr, x_aNil, x_aCons, x_eTup, x_eLst, x_eIf, x_eNot, x_eAnd, x_eOr, x_bAnd, x_bOr, x_bNot, x_bYes, x_eSl, x_oNone, x_oSome, asI_int, x_iSeq, x_iCall, x_gfName, x_gfTup, eLc, noX_is, Res.bind_ok, Res.bind_exc, flow_ok, flow_exc, seqK_next, seqK_ret, seqK_exc, seqK_brk, seqK_cont, loopK_next, loopK_cont, loopK_brk, loopK_ret, loopK_exc, must_ok, List.set_cons_succ, List.set_cons_zero, List.getD_cons_succ, List.getD_cons_zero, vD_some, if_true, if_false, Bool.false_eq_true, reduceIte, List.map_cons, List.map_nil, List.length_cons, List.length_nil, List.cons_append, List.nil_append, List.replicate, Nat.reduceSub, Nat.reduceAdd, x_add, x_sub, x_cmp, x_eq_ii, x_ne_ii, x_int_i, x_len_t, x_len_l, x_tup_l, x_tup_t, x_list_l, x_list_t, x_dSl_t, x_dSl_l, x_items_t, x_items_l, x_tru_n, x_tru_b, x_tru_i, x_tru_t, x_tru_l, x_asB, x_is_n, x_isNot_n, isNon_n, isNon_i, isNon_s, isNon_t, isNon_l, isNon_b, Bool.not_true, Bool.not_false, List.length_map, fnE, startE, F__is_piece, isi_t, k_tt, z23, ixp, isi_s, k_ss, wds.1, w2]
    simp only [sSeq_x, x_sSet, x_sIf, x_sRet, x_sRetN, x_sPar, x_sUnp, resF_ok, x_sDrop, x_sNext, x_sBreak, x_sCont, x_sRaise, x_sAug, augK_ok, x_sFor, x_sWhile, sKill_x, x_wipe0, x_wipe1, x_evL0, x_evL1, x_setL0, x_setL1, x_eVar, x_eC, x_eOp, x_eUn, x_eCall, x_eMS, x_asStr, x_aNil, x_aCons, x_eTup, x_eLst, x_eIf, x_eNot, x_eAnd, x_eOr, x_bAnd, x_bOr, x_bNot, x_bYes, x_eSl, x_oNone, x_oSome, asI_int, x_iSeq, x_iCall, x_gfName, x_gfTup, eLc, noX_is, Res.bind_ok, Res.bind_exc, flow_ok, flow_exc, seqK_next, seqK_ret, seqK_exc, seqK_brk, seqK_cont, loopK_next, loopK_cont, loopK_brk, loopK_ret, loopK_exc, must_ok, List.set_cons_succ, List.set_cons_zero, List.getD_cons_succ, List.getD_cons_zero, vD_some, if_true, if_false, Bool.false_eq_true, reduceIte, List.map_cons, List.map_nil, List.length_cons, List.length_nil, List.cons_append, List.nil_append, List.replicate, Nat.reduceSub, Nat.reduceAdd, x_add, x_sub, x_cmp, x_eq_ii, x_ne_ii, x_int_i, x_len_t, x_len_l, x_tup_l, x_tup_t, x_list_l, x_list_t, x_dSl_t, x_dSl_l, x_items_t, x_items_l, x_tru_n, x_tru_b, x_tru_i, x_tru_t, x_tru_l, x_asB, x_is_n, x_isNot_n, isNon_n, isNon_i, isNon_s, isNon_t, isNon_l, isNon_b, Bool.not_true, Bool.not_false, List.length_map, fnE, startE, C__is_piece, e]
  lf := fun x y => by
    have d2 := dl_2 x y (.str "copy") (dN a)
    have w : dNe (.str "copy") (.str "put") = .ok (.bl true) := by kernel_rfl
    simp only [sSeq_x, x_sSet, x_sIf, x_sRet, x_sRetN, x_sPar, x_sUnp, resF_ok, x_sDrop, x_sNext, x_sBreak, x_sCont, x_sRaise, x_sAug, augK_ok, x_sFor, x_sWhile, sKill_x, x_wipe0, x_wipe1, x_evL0, x_evL1, x_setL0, x_setL1, x_eVar, x_eC, x_eOp, x_eUn, x_eCall, x_eMS, x_asStr, x_aNil, x_aCons, x_eTup, x_eLst, x_eIf, x_eNot, x_eAnd, x_eOr, x_bAnd, x_bOr, x_bNot, x_bYes, x_eSl, x_oNone, x_oSome, asI_int, x_iSeq, x_iCall, x_gfName, x_gfTup, eLc, noX_is, Res.bind_ok, Res.bind_exc, flow_ok, flow_exc, seqK_next, seqK_ret, seqK_exc, seqK_brk, seqK_cont, loopK_next, loopK_cont, loopK_brk, loopK_ret, loopK_exc, must_ok, List.set_cons_succ, List.set_cons_zero, List.getD_cons_succ, List.getD_cons_zero, vD_some, if_true, if_false, Bool.false_eq_true, reduceIte, List.map_cons, List.map_nil, List.length_cons, List.length_nil, List.cons_append, List.nil_append, List.replicate, Nat.reduceSub, Nat.reduceAdd, x_add, x_sub, x_cmp, x_eq_ii, x_ne_ii, x_int_i, x_len_t, x_len_l, x_tup_l, x_tup_t, x_list_l, x_list_t, x_dSl_t, x_dSl_l, x_items_t, x_items_l, x_tru_n, x_tru_b, x_tru_i, x_tru_t, x_tru_l, x_asB, x_is_n, x_isNot_n, isNon_n, isNon_i, isNon_s, isNon_t, isNon_l, isNon_b, Bool.not_true, Bool.not_false, List.length_map, fnE, startE, B__law_fault_1, isi_t, k_tt, consts.2, ixp, isi_s, k_ss, d2, w]
theorem bad_keep : BadD (.tup [.str "keep", .int 0, .int 1]) where
  ip := by kernel_rfl
  lf := fun x y => by
    have d3 := dl_3 x y (.str "keep") (.int 0) (.int 1)
    have w : dNe (.str "keep") (.str "copy") = .ok (.bl true) := by kernel_rfl
    simp only [sSeq_x, x_sSet, x_sIf, x_sRet, x_sRetN, x_sPar, x_sUnp, resF_ok, x_sDrop, x_sNext, x_sBreak, x_sCont, x_sRaise, x_sAug, augK_ok, x_sFor, x_sWhile, sKill_x, x_wipe0, x_wipe1, x_evL0, x_evL1, x_setL0, x_setL1, x_eVar, x_eC, x_eOp, x_eUn, x_eCall, x_eMS, x_asStr, x_aNil, x_aCons, x_eTup, x_eLst, x_eIf, x_eNot, x_eAnd, x_eOr, x_bAnd, x_bOr, x_bNot, x_bYes, x_eSl, x_oNone, x_oSome, asI_int, x_iSeq, x_iCall, x_gfName, x_gfTup, eLc, noX_is, Res.bind_ok, Res.bind_exc, flow_ok, flow_exc, seqK_next, seqK_ret, seqK_exc, seqK_brk, seqK_cont, loopK_next, loopK_cont, loopK_brk, loopK_ret, loopK_exc, must_ok, List.set_cons_succ, List.set_cons_zero, List.getD_cons_succ, List.getD_cons_zero, vD_some, if_true, if_false, Bool.false_eq_true, reduceIte, List.map_cons, List.map_nil, List.length_cons, List.length_nil, List.cons_append, List.nil_append, List.replicate, Nat.reduceSub, Nat.reduceAdd, x_add, x_sub, x_cmp, x_eq_ii, x_ne_ii, x_int_i, x_len_t, x_len_l, x_tup_l, x_tup_t, x_list_l, x_list_t, x_dSl_t, x_dSl_l, x_items_t, x_items_l, x_tru_n, x_tru_b, x_tru_i, x_tru_t, x_tru_l, x_asB, x_is_n, x_isNot_n, isNon_n, isNon_i, isNon_s, isNon_t, isNon_l, isNon_b, Bool.not_true, Bool.not_false, List.length_map, fnE, startE, B__law_fault_1, isi_t, k_tt, consts.1, ixc, isi_s, k_ss, d3, w]
theorem bad_non : BadD .non where
  ip := by kernel_rfl
  lf := fun x y => by simp only [sSeq_x, x_sSet, x_sIf, x_sRet, x_sRetN, x_sPar, x_sUnp, resF_ok, x_sDrop, x_sNext, x_sBreak, x_sCont, x_sRaise, x_sAug, augK_ok, x_sFor, x_sWhile, sKill_x, x_wipe0, x_wipe1, x_evL0, x_evL1, x_setL0, x_setL1, x_eVar, x_eC, x_eOp, x_eUn, x_eCall, x_eMS, x_asStr, x_aNil, x_aCons, x_eTup, x_eLst, x_eIf, x_eNot, x_eAnd, x_eOr, x_bAnd, x_bOr, x_bNot, x_bYes, x_eSl, x_oNone, x_oSome, asI_int, x_iSeq, x_iCall, x_gfName, x_gfTup, eLc, noX_is, Res.bind_ok, Res.bind_exc, flow_ok, flow_exc, seqK_next, seqK_ret, seqK_exc, seqK_brk, seqK_cont, loopK_next, loopK_cont, loopK_brk, loopK_ret, loopK_exc, must_ok, List.set_cons_succ, List.set_cons_zero, List.getD_cons_succ, List.getD_cons_zero, vD_some, if_true, if_false, Bool.false_eq_true, reduceIte, List.map_cons, List.map_nil, List.length_cons, List.length_nil, List.cons_append, List.nil_append, List.replicate, Nat.reduceSub, Nat.reduceAdd, x_add, x_sub, x_cmp, x_eq_ii, x_ne_ii, x_int_i, x_len_t, x_len_l, x_tup_l, x_tup_t, x_list_l, x_list_t, x_dSl_t, x_dSl_l, x_items_t, x_items_l, x_tru_n, x_tru_b, x_tru_i, x_tru_t, x_tru_l, x_asB, x_is_n, x_isNot_n, isNon_n, isNon_i, isNon_s, isNon_t, isNon_l, isNon_b, Bool.not_true, Bool.not_false, List.length_map, fnE, startE, B__law_fault_1, isi_n, k_tn]
/-! ### the law's loops -/
theorem for_keep {gf : Px.Env → D → Res Px.Env} {F : SF} {ρ : Px.Env} : ∀ {ds : List D}, (∀ d ∈ ds, ∃ ρ1, gf ρ d = .ok ρ1 ∧ F ρ1 = .next ρ) → forE gf F ds ρ = .next ρ
  | [], _ => rfl
  | d :: ds, h => by
    obtain ⟨ρ1, e1, e2⟩ := h d List.mem_cons_self
    rw [forE_cons, e1, must_ok, e2, loopK_next]
    exact for_keep fun x hx => h x (List.mem_cons_of_mem _ hx)
theorem dr_ix {ds : List Nat} {n : Nat} (h : n < ds.length) : dIx (.lst (ds.map dN)) (.int (n : Nat)) = .ok (dN (ds.getD n 0)) := dIx_lm (by rw [List.getElem?_eq_getElem h, List.getD_eq_getElem?_getD, List.getElem?_eq_getElem h]; rfl)
theorem em : (("BadDelta" : Str) ∈ (["BadDelta", "BadOctets", "TooMany"] : List Str)) ∧ ¬ (("BadDelta" : Str) ∈ (["BadOctets"] : List Str)) ∧ (("BadDelta" : Str) ∈ (["BadDelta"] : List Str)) := ⟨by decide +kernel, by decide +kernel, by decide +kernel⟩
theorem z12 : ((1 : Int) == 0) = false ∧ ((1 : Int) == 1) = true ∧ ((2 : Int) == 0) = false ∧ ((2 : Int) == 1) = false ∧ ((2 : Int) == 2) = true := ⟨rfl, rfl, rfl, rfl, rfl⟩
theorem err1_ok {b d x : D} (h : C_made [b, d] = .ok x) : C__law_error [.int 1, b, d, .non] = .ok (.str "none") := by
  have e : F__law_error [some (.int 1), some b, some d, some .non] = .ret (.str "none") := by
    simp only [sSeq_x, x_sSet, x_sIf, x_sRet, x_sRetN, x_sPar, x_sUnp, resF_ok, x_sDrop, x_sNext, x_sBreak, x_sCont, x_sRaise, x_sAug, augK_ok, x_sFor, x_sWhile, sKill_x, x_wipe0, x_wipe1, x_evL0, x_evL1, x_setL0, x_setL1, x_eVar, x_eC, x_eOp, x_eUn, x_eCall, x_eMS, x_asStr, x_aNil, x_aCons, x_eTup, x_eLst, x_eIf, x_eNot, x_eAnd, x_eOr, x_bAnd, x_bOr, x_bNot, x_bYes, x_eSl, x_oNone, x_oSome, asI_int, x_iSeq, x_iCall, x_gfName, x_gfTup, eLc, noX_is, Res.bind_ok, Res.bind_exc, flow_ok, flow_exc, seqK_next, seqK_ret, seqK_exc, seqK_brk, seqK_cont, loopK_next, loopK_cont, loopK_brk, loopK_ret, loopK_exc, must_ok, List.set_cons_succ, List.set_cons_zero, List.getD_cons_succ, List.getD_cons_zero, vD_some, if_true, if_false, Bool.false_eq_true, reduceIte, List.map_cons, List.map_nil, List.length_cons, List.length_nil, List.cons_append, List.nil_append, List.replicate, Nat.reduceSub, Nat.reduceAdd, x_add, x_sub, x_cmp, x_eq_ii, x_ne_ii, x_int_i, x_len_t, x_len_l, x_tup_l, x_tup_t, x_list_l, x_list_t, x_dSl_t, x_dSl_l, x_items_t, x_items_l, x_tru_n, x_tru_b, x_tru_i, x_tru_t, x_tru_l, x_asB, x_is_n, x_isNot_n, isNon_n, isNon_i, isNon_s, isNon_t, isNon_l, isNon_b, Bool.not_true, Bool.not_false, List.length_map, fnE, startE, F__law_error, sTry, z12, h]
  simp only [sSeq_x, x_sSet, x_sIf, x_sRet, x_sRetN, x_sPar, x_sUnp, resF_ok, x_sDrop, x_sNext, x_sBreak, x_sCont, x_sRaise, x_sAug, augK_ok, x_sFor, x_sWhile, sKill_x, x_wipe0, x_wipe1, x_evL0, x_evL1, x_setL0, x_setL1, x_eVar, x_eC, x_eOp, x_eUn, x_eCall, x_eMS, x_asStr, x_aNil, x_aCons, x_eTup, x_eLst, x_eIf, x_eNot, x_eAnd, x_eOr, x_bAnd, x_bOr, x_bNot, x_bYes, x_eSl, x_oNone, x_oSome, asI_int, x_iSeq, x_iCall, x_gfName, x_gfTup, eLc, noX_is, Res.bind_ok, Res.bind_exc, flow_ok, flow_exc, seqK_next, seqK_ret, seqK_exc, seqK_brk, seqK_cont, loopK_next, loopK_cont, loopK_brk, loopK_ret, loopK_exc, must_ok, List.set_cons_succ, List.set_cons_zero, List.getD_cons_succ, List.getD_cons_zero, vD_some, if_true, if_false, Bool.false_eq_true, reduceIte, List.map_cons, List.map_nil, List.length_cons, List.length_nil, List.cons_append, List.nil_append, List.replicate, Nat.reduceSub, Nat.reduceAdd, x_add, x_sub, x_cmp, x_eq_ii, x_ne_ii, x_int_i, x_len_t, x_len_l, x_tup_l, x_tup_t, x_list_l, x_list_t, x_dSl_t, x_dSl_l, x_items_t, x_items_l, x_tru_n, x_tru_b, x_tru_i, x_tru_t, x_tru_l, x_asB, x_is_n, x_isNot_n, isNon_n, isNon_i, isNon_s, isNon_t, isNon_l, isNon_b, Bool.not_true, Bool.not_false, List.length_map, fnE, startE, C__law_error, e]
theorem err1_bad {b d : D} (h : C_made [b, d] = .exc "BadDelta") : C__law_error [.int 1, b, d, .non] = .ok (.str "delta") := by
  have e : F__law_error [some (.int 1), some b, some d, some .non] = .ret (.str "delta") := by
    simp only [sSeq_x, x_sSet, x_sIf, x_sRet, x_sRetN, x_sPar, x_sUnp, resF_ok, x_sDrop, x_sNext, x_sBreak, x_sCont, x_sRaise, x_sAug, augK_ok, x_sFor, x_sWhile, sKill_x, x_wipe0, x_wipe1, x_evL0, x_evL1, x_setL0, x_setL1, x_eVar, x_eC, x_eOp, x_eUn, x_eCall, x_eMS, x_asStr, x_aNil, x_aCons, x_eTup, x_eLst, x_eIf, x_eNot, x_eAnd, x_eOr, x_bAnd, x_bOr, x_bNot, x_bYes, x_eSl, x_oNone, x_oSome, asI_int, x_iSeq, x_iCall, x_gfName, x_gfTup, eLc, noX_is, Res.bind_ok, Res.bind_exc, flow_ok, flow_exc, seqK_next, seqK_ret, seqK_exc, seqK_brk, seqK_cont, loopK_next, loopK_cont, loopK_brk, loopK_ret, loopK_exc, must_ok, List.set_cons_succ, List.set_cons_zero, List.getD_cons_succ, List.getD_cons_zero, vD_some, if_true, if_false, Bool.false_eq_true, reduceIte, List.map_cons, List.map_nil, List.length_cons, List.length_nil, List.cons_append, List.nil_append, List.replicate, Nat.reduceSub, Nat.reduceAdd, x_add, x_sub, x_cmp, x_eq_ii, x_ne_ii, x_int_i, x_len_t, x_len_l, x_tup_l, x_tup_t, x_list_l, x_list_t, x_dSl_t, x_dSl_l, x_items_t, x_items_l, x_tru_n, x_tru_b, x_tru_i, x_tru_t, x_tru_l, x_asB, x_is_n, x_isNot_n, isNon_n, isNon_i, isNon_s, isNon_t, isNon_l, isNon_b, Bool.not_true, Bool.not_false, List.length_map, fnE, startE, F__law_error, sTry, z12, h, if_pos em.1, pick, if_neg em.2.1, if_pos em.2.2, sNx]
  simp only [sSeq_x, x_sSet, x_sIf, x_sRet, x_sRetN, x_sPar, x_sUnp, resF_ok, x_sDrop, x_sNext, x_sBreak, x_sCont, x_sRaise, x_sAug, augK_ok, x_sFor, x_sWhile, sKill_x, x_wipe0, x_wipe1, x_evL0, x_evL1, x_setL0, x_setL1, x_eVar, x_eC, x_eOp, x_eUn, x_eCall, x_eMS, x_asStr, x_aNil, x_aCons, x_eTup, x_eLst, x_eIf, x_eNot, x_eAnd, x_eOr, x_bAnd, x_bOr, x_bNot, x_bYes, x_eSl, x_oNone, x_oSome, asI_int, x_iSeq, x_iCall, x_gfName, x_gfTup, eLc, noX_is, Res.bind_ok, Res.bind_exc, flow_ok, flow_exc, seqK_next, seqK_ret, seqK_exc, seqK_brk, seqK_cont, loopK_next, loopK_cont, loopK_brk, loopK_ret, loopK_exc, must_ok, List.set_cons_succ, List.set_cons_zero, List.getD_cons_succ, List.getD_cons_zero, vD_some, if_true, if_false, Bool.false_eq_true, reduceIte, List.map_cons, List.map_nil, List.length_cons, List.length_nil, List.cons_append, List.nil_append, List.replicate, Nat.reduceSub, Nat.reduceAdd, x_add, x_sub, x_cmp, x_eq_ii, x_ne_ii, x_int_i, x_len_t, x_len_l, x_tup_l, x_tup_t, x_list_l, x_list_t, x_dSl_t, x_dSl_l, x_items_t, x_items_l, x_tru_n, x_tru_b, x_tru_i, x_tru_t, x_tru_l, x_asB, x_is_n, x_isNot_n, isNon_n, isNon_i, isNon_s, isNon_t, isNon_l, isNon_b, Bool.not_true, Bool.not_false, List.length_map, fnE, startE, C__law_error, e]
theorem err2_ok {d x : D} (h : C_cost_of [d] = .ok x) : C__law_error [.int 2, .non, d, .non] = .ok (.str "none") := by
  have e : F__law_error [some (.int 2), some .non, some d, some .non] = .ret (.str "none") := by
    simp only [sSeq_x, x_sSet, x_sIf, x_sRet, x_sRetN, x_sPar, x_sUnp, resF_ok, x_sDrop, x_sNext, x_sBreak, x_sCont, x_sRaise, x_sAug, augK_ok, x_sFor, x_sWhile, sKill_x, x_wipe0, x_wipe1, x_evL0, x_evL1, x_setL0, x_setL1, x_eVar, x_eC, x_eOp, x_eUn, x_eCall, x_eMS, x_asStr, x_aNil, x_aCons, x_eTup, x_eLst, x_eIf, x_eNot, x_eAnd, x_eOr, x_bAnd, x_bOr, x_bNot, x_bYes, x_eSl, x_oNone, x_oSome, asI_int, x_iSeq, x_iCall, x_gfName, x_gfTup, eLc, noX_is, Res.bind_ok, Res.bind_exc, flow_ok, flow_exc, seqK_next, seqK_ret, seqK_exc, seqK_brk, seqK_cont, loopK_next, loopK_cont, loopK_brk, loopK_ret, loopK_exc, must_ok, List.set_cons_succ, List.set_cons_zero, List.getD_cons_succ, List.getD_cons_zero, vD_some, if_true, if_false, Bool.false_eq_true, reduceIte, List.map_cons, List.map_nil, List.length_cons, List.length_nil, List.cons_append, List.nil_append, List.replicate, Nat.reduceSub, Nat.reduceAdd, x_add, x_sub, x_cmp, x_eq_ii, x_ne_ii, x_int_i, x_len_t, x_len_l, x_tup_l, x_tup_t, x_list_l, x_list_t, x_dSl_t, x_dSl_l, x_items_t, x_items_l, x_tru_n, x_tru_b, x_tru_i, x_tru_t, x_tru_l, x_asB, x_is_n, x_isNot_n, isNon_n, isNon_i, isNon_s, isNon_t, isNon_l, isNon_b, Bool.not_true, Bool.not_false, List.length_map, fnE, startE, F__law_error, sTry, z12, h]
  simp only [sSeq_x, x_sSet, x_sIf, x_sRet, x_sRetN, x_sPar, x_sUnp, resF_ok, x_sDrop, x_sNext, x_sBreak, x_sCont, x_sRaise, x_sAug, augK_ok, x_sFor, x_sWhile, sKill_x, x_wipe0, x_wipe1, x_evL0, x_evL1, x_setL0, x_setL1, x_eVar, x_eC, x_eOp, x_eUn, x_eCall, x_eMS, x_asStr, x_aNil, x_aCons, x_eTup, x_eLst, x_eIf, x_eNot, x_eAnd, x_eOr, x_bAnd, x_bOr, x_bNot, x_bYes, x_eSl, x_oNone, x_oSome, asI_int, x_iSeq, x_iCall, x_gfName, x_gfTup, eLc, noX_is, Res.bind_ok, Res.bind_exc, flow_ok, flow_exc, seqK_next, seqK_ret, seqK_exc, seqK_brk, seqK_cont, loopK_next, loopK_cont, loopK_brk, loopK_ret, loopK_exc, must_ok, List.set_cons_succ, List.set_cons_zero, List.getD_cons_succ, List.getD_cons_zero, vD_some, if_true, if_false, Bool.false_eq_true, reduceIte, List.map_cons, List.map_nil, List.length_cons, List.length_nil, List.cons_append, List.nil_append, List.replicate, Nat.reduceSub, Nat.reduceAdd, x_add, x_sub, x_cmp, x_eq_ii, x_ne_ii, x_int_i, x_len_t, x_len_l, x_tup_l, x_tup_t, x_list_l, x_list_t, x_dSl_t, x_dSl_l, x_items_t, x_items_l, x_tru_n, x_tru_b, x_tru_i, x_tru_t, x_tru_l, x_asB, x_is_n, x_isNot_n, isNon_n, isNon_i, isNon_s, isNon_t, isNon_l, isNon_b, Bool.not_true, Bool.not_false, List.length_map, fnE, startE, C__law_error, e]
theorem err2_bad {d : D} (h : C_cost_of [d] = .exc "BadDelta") : C__law_error [.int 2, .non, d, .non] = .ok (.str "delta") := by
  have e : F__law_error [some (.int 2), some .non, some d, some .non] = .ret (.str "delta") := by
    simp only [sSeq_x, x_sSet, x_sIf, x_sRet, x_sRetN, x_sPar, x_sUnp, resF_ok, x_sDrop, x_sNext, x_sBreak, x_sCont, x_sRaise, x_sAug, augK_ok, x_sFor, x_sWhile, sKill_x, x_wipe0, x_wipe1, x_evL0, x_evL1, x_setL0, x_setL1, x_eVar, x_eC, x_eOp, x_eUn, x_eCall, x_eMS, x_asStr, x_aNil, x_aCons, x_eTup, x_eLst, x_eIf, x_eNot, x_eAnd, x_eOr, x_bAnd, x_bOr, x_bNot, x_bYes, x_eSl, x_oNone, x_oSome, asI_int, x_iSeq, x_iCall, x_gfName, x_gfTup, eLc, noX_is, Res.bind_ok, Res.bind_exc, flow_ok, flow_exc, seqK_next, seqK_ret, seqK_exc, seqK_brk, seqK_cont, loopK_next, loopK_cont, loopK_brk, loopK_ret, loopK_exc, must_ok, List.set_cons_succ, List.set_cons_zero, List.getD_cons_succ, List.getD_cons_zero, vD_some, if_true, if_false, Bool.false_eq_true, reduceIte, List.map_cons, List.map_nil, List.length_cons, List.length_nil, List.cons_append, List.nil_append, List.replicate, Nat.reduceSub, Nat.reduceAdd, x_add, x_sub, x_cmp, x_eq_ii, x_ne_ii, x_int_i, x_len_t, x_len_l, x_tup_l, x_tup_t, x_list_l, x_list_t, x_dSl_t, x_dSl_l, x_items_t, x_items_l, x_tru_n, x_tru_b, x_tru_i, x_tru_t, x_tru_l, x_asB, x_is_n, x_isNot_n, isNon_n, isNon_i, isNon_s, isNon_t, isNon_l, isNon_b, Bool.not_true, Bool.not_false, List.length_map, fnE, startE, F__law_error, sTry, z12, h, if_pos em.1, pick, if_neg em.2.1, if_pos em.2.2, sNx]
  simp only [sSeq_x, x_sSet, x_sIf, x_sRet, x_sRetN, x_sPar, x_sUnp, resF_ok, x_sDrop, x_sNext, x_sBreak, x_sCont, x_sRaise, x_sAug, augK_ok, x_sFor, x_sWhile, sKill_x, x_wipe0, x_wipe1, x_evL0, x_evL1, x_setL0, x_setL1, x_eVar, x_eC, x_eOp, x_eUn, x_eCall, x_eMS, x_asStr, x_aNil, x_aCons, x_eTup, x_eLst, x_eIf, x_eNot, x_eAnd, x_eOr, x_bAnd, x_bOr, x_bNot, x_bYes, x_eSl, x_oNone, x_oSome, asI_int, x_iSeq, x_iCall, x_gfName, x_gfTup, eLc, noX_is, Res.bind_ok, Res.bind_exc, flow_ok, flow_exc, seqK_next, seqK_ret, seqK_exc, seqK_brk, seqK_cont, loopK_next, loopK_cont, loopK_brk, loopK_ret, loopK_exc, must_ok, List.set_cons_succ, List.set_cons_zero, List.getD_cons_succ, List.getD_cons_zero, vD_some, if_true, if_false, Bool.false_eq_true, reduceIte, List.map_cons, List.map_nil, List.length_cons, List.length_nil, List.cons_append, List.nil_append, List.replicate, Nat.reduceSub, Nat.reduceAdd, x_add, x_sub, x_cmp, x_eq_ii, x_ne_ii, x_int_i, x_len_t, x_len_l, x_tup_l, x_tup_t, x_list_l, x_list_t, x_dSl_t, x_dSl_l, x_items_t, x_items_l, x_tru_n, x_tru_b, x_tru_i, x_tru_t, x_tru_l, x_asB, x_is_n, x_isNot_n, isNon_n, isNon_i, isNon_s, isNon_t, isNon_l, isNon_b, Bool.not_true, Bool.not_false, List.length_map, fnE, startE, C__law_error, e]
theorem wcon : dNe (.str "form") (.str "form") = .ok (.bl false) ∧ dEq (.str "delta") (.str "delta") = .ok (.bl true) ∧ dNe (.bl true) (.bl true) = .ok (.bl false) ∧ dEq (.str "form") (.str "form") = .ok (.bl true) ∧ dEq (.str "none") (.str "delta") = .ok (.bl false) ∧ dNe (.bl false) (.bl false) = .ok (.bl false) ∧ dNe .non .non = .ok (.bl false) ∧ dEq .non (.str "form") = .ok (.bl false) := ⟨by kernel_rfl, by kernel_rfl, by kernel_rfl, by kernel_rfl, by kernel_rfl, by kernel_rfl, by kernel_rfl, by kernel_rfl⟩
theorem num_form (k : Nat) : dEq (dN k) (.str "form") = .ok (.bl false) := by
  have h1 : okN 60 (dN k) = true := ok_int _ _
  have h2 : okN 60 (.str "form") = true := by rw [ok_str]; decide +kernel
  unfold dEq
  rw [h1, h2, Bool.and_self, if_pos rfl]
  rfl
theorem n_ne (k : Nat) : dNe (dN k) (dN k) = .ok (.bl false) := by rw [x_ne_ii]; simp
theorem r_ne (r : List Nat) : dNe (rowD r) (rowD r) = .ok (.bl false) := dNe_self (ok_ints 59 r)
section
variable {base goal : List Nat} {a0 a1 a2 a4 a5 a6 a7 a8 a9 a10 a11 a12 a13 a14 a15 a18 a19 a20 a21 : Option D}
theorem law2_form (ob : ∀ x ∈ base, x < 256) (d : D) (hf : C__law_fault [rowD base, d] = .ok (.str "form")) (hi : C__is_delta [d] = .ok (.bl false)) :
    B_law_2 [a0, a1, a2, some (rowD base), a4, a5, a6, a7, a8, a9, a10, a11, a12, a13, a14, a15, some d, none, a18, a19, a20, a21, none] = .next [a0, a1, a2, some (rowD base), a4, a5, a6, a7, a8, a9, a10, a11, a12, a13, a14, a15, none, none, a18, a19, a20, a21, none] := by
  have hd := dfault_no ob hi
  have e1 := err1_bad (made_bad hd rfl)
  have e2 := err2_bad (cost_bad hi)
  simp only [sSeq_x, x_sSet, x_sIf, x_sRet, x_sRetN, x_sPar, x_sUnp, resF_ok, x_sDrop, x_sNext, x_sBreak, x_sCont, x_sRaise, x_sAug, augK_ok, x_sFor, x_sWhile, sKill_x, x_wipe0, x_wipe1, x_evL0, x_evL1, x_setL0, x_setL1, x_eVar, x_eC, x_eOp, x_eUn, x_eCall, x_eMS, x_asStr, x_aNil, x_aCons, x_eTup, x_eLst, x_eIf, x_eNot, x_eAnd, x_eOr, x_bAnd, x_bOr, x_bNot, x_bYes, x_eSl, x_oNone, x_oSome, asI_int, x_iSeq, x_iCall, x_gfName, x_gfTup, eLc, noX_is, Res.bind_ok, Res.bind_exc, flow_ok, flow_exc, seqK_next, seqK_ret, seqK_exc, seqK_brk, seqK_cont, loopK_next, loopK_cont, loopK_brk, loopK_ret, loopK_exc, must_ok, List.set_cons_succ, List.set_cons_zero, List.getD_cons_succ, List.getD_cons_zero, vD_some, if_true, if_false, Bool.false_eq_true, reduceIte, List.map_cons, List.map_nil, List.length_cons, List.length_nil, List.cons_append, List.nil_append, List.replicate, Nat.reduceSub, Nat.reduceAdd, x_add, x_sub, x_cmp, x_eq_ii, x_ne_ii, x_int_i, x_len_t, x_len_l, x_tup_l, x_tup_t, x_list_l, x_list_t, x_dSl_t, x_dSl_l, x_items_t, x_items_l, x_tru_n, x_tru_b, x_tru_i, x_tru_t, x_tru_l, x_asB, x_is_n, x_isNot_n, isNon_n, isNon_i, isNon_s, isNon_t, isNon_l, isNon_b, Bool.not_true, Bool.not_false, List.length_map, fnE, startE, B_law_2, hf, hd, e1, e2, wcon]
theorem flat_oct (ob : ∀ x ∈ base, x < 256) (ps : List Pc) (h : ∀ p ∈ ps, p.ok = true) : ∀ x ∈ ps.flatMap (Pc.mk base), x < 256 := fun x hx => by
  obtain ⟨p, hp, hx⟩ := List.mem_flatMap.mp hx
  cases p with
  | cp a n => exact ob x (List.mem_of_mem_drop (List.mem_of_mem_take hx))
  | pt o =>
    have h1 : (decide (0 < o.length) && o.all (fun x => decide (x < 256))) = true := h _ hp
    rw [Bool.and_eq_true] at h1
    exact of_decide_eq_true (List.all_eq_true.mp h1.2 x hx)
theorem flat_len (hb : base.length ≤ 60) : ∀ (ps : List Pc), (∀ p ∈ ps, p.sm) → (ps.flatMap (Pc.mk base)).length ≤ 10000 * ps.length
  | [], _ => Nat.le_refl _
  | p :: ps, h => by
    have ih := flat_len hb ps fun q hq => h q (List.mem_cons_of_mem _ hq)
    have : (p.mk base).length ≤ 10000 := by
      have s := h p List.mem_cons_self
      cases p with
      | cp a n =>
        show ((base.drop a).take n).length ≤ _
        rw [List.length_take, List.length_drop]
        omega
      | pt o => exact Nat.le_of_lt s
    rw [List.flatMap_cons, List.length_append, List.length_cons]
    omega
theorem law2_pc (hb : base.length ≤ 60) (ob : ∀ x ∈ base, x < 256) (ps : List Pc) (hl : ps.length ≤ 100) (hs : ∀ p ∈ ps, p.sm) (h : ∀ p ∈ ps, p.ok = true) :
    B_law_2 [a0, a1, a2, some (rowD base), a4, a5, a6, a7, a8, a9, a10, a11, a12, a13, a14, a15, some (.tup (ps.map pcD)), none, a18, a19, a20, a21, none] = .next [a0, a1, a2, some (rowD base), a4, a5, a6, a7, a8, a9, a10, a11, a12, a13, a14, a15, none, none, a18, a19, a20, a21, none] := by
  have hf := lfault_pc (base := base) ps (by omega) h
  have hd := dfault_pc ob ps h
  have hc := cost_ok ps hs h
  have e2 := err2_ok hc
  cases q : fi base.length ps 0 with
  | some k =>
    rw [q] at hf hd
    have e1 := err1_bad (made_bad hd rfl)
    have hf : C__law_fault [rowD base, .tup (ps.map pcD)] = .ok (dN k) := hf
    have hd : C_delta_fault [rowD base, .tup (ps.map pcD)] = .ok (dN k) := hd
    have n := n_ne k
    have nf := num_form k
    generalize D.tup (ps.map pcD) = T at *
    simp only [sSeq_x, x_sSet, x_sIf, x_sRet, x_sRetN, x_sPar, x_sUnp, resF_ok, x_sDrop, x_sNext, x_sBreak, x_sCont, x_sRaise, x_sAug, augK_ok, x_sFor, x_sWhile, sKill_x, x_wipe0, x_wipe1, x_evL0, x_evL1, x_setL0, x_setL1, x_eVar, x_eC, x_eOp, x_eUn, x_eCall, x_eMS, x_asStr, x_aNil, x_aCons, x_eTup, x_eLst, x_eIf, x_eNot, x_eAnd, x_eOr, x_bAnd, x_bOr, x_bNot, x_bYes, x_eSl, x_oNone, x_oSome, asI_int, x_iSeq, x_iCall, x_gfName, x_gfTup, eLc, noX_is, Res.bind_ok, Res.bind_exc, flow_ok, flow_exc, seqK_next, seqK_ret, seqK_exc, seqK_brk, seqK_cont, loopK_next, loopK_cont, loopK_brk, loopK_ret, loopK_exc, must_ok, List.set_cons_succ, List.set_cons_zero, List.getD_cons_succ, List.getD_cons_zero, vD_some, if_true, if_false, Bool.false_eq_true, reduceIte, List.map_cons, List.map_nil, List.length_cons, List.length_nil, List.cons_append, List.nil_append, List.replicate, Nat.reduceSub, Nat.reduceAdd, x_add, x_sub, x_cmp, x_eq_ii, x_ne_ii, x_int_i, x_len_t, x_len_l, x_tup_l, x_tup_t, x_list_l, x_list_t, x_dSl_t, x_dSl_l, x_items_t, x_items_l, x_tru_n, x_tru_b, x_tru_i, x_tru_t, x_tru_l, x_asB, x_is_n, x_isNot_n, isNon_n, isNon_i, isNon_s, isNon_t, isNon_l, isNon_b, Bool.not_true, Bool.not_false, List.length_map, fnE, startE, B_law_2, hf, hd, n, e1, e2, nf, wcon]
  | none =>
    rw [q] at hf hd
    have hf : C__law_fault [rowD base, .tup (ps.map pcD)] = .ok .non := hf
    have hd : C_delta_fault [rowD base, .tup (ps.map pcD)] = .ok .non := hd
    have inn := fi_none.mp q
    have fl := flat_len hb ps hs
    have fo := flat_oct ob ps h
    have m := made_ok ob ps h inn (by omega)
    have lm := lmade_ok (base := base) ps (by omega)
    have e1 := err1_ok m
    have rn := r_ne (ps.flatMap (Pc.mk base))
    have hbb := lc_fun (gf := gfName 22) (f := eCall C__law_cost (aCons (eVar 22) aNil)) (ρ := [a0, a1, a2, some (rowD base), a4, a5, a6, a7, a8, a9, a10, a11, a12, a13, a14, a15, some (.tup (ps.map pcD)), some .non, a18, a19, a20, a21, none]) (e := pcD) (g := fun p => dN p.cost) (xs := ps) fun p hp => ⟨_, rfl, by
      have c := lcost (hs p hp)
      generalize D.tup (ps.map pcD) = T
      simp only [sSeq_x, x_sSet, x_sIf, x_sRet, x_sRetN, x_sPar, x_sUnp, resF_ok, x_sDrop, x_sNext, x_sBreak, x_sCont, x_sRaise, x_sAug, augK_ok, x_sFor, x_sWhile, sKill_x, x_wipe0, x_wipe1, x_evL0, x_evL1, x_setL0, x_setL1, x_eVar, x_eC, x_eOp, x_eUn, x_eCall, x_eMS, x_asStr, x_aNil, x_aCons, x_eTup, x_eLst, x_eIf, x_eNot, x_eAnd, x_eOr, x_bAnd, x_bOr, x_bNot, x_bYes, x_eSl, x_oNone, x_oSome, asI_int, x_iSeq, x_iCall, x_gfName, x_gfTup, eLc, noX_is, Res.bind_ok, Res.bind_exc, flow_ok, flow_exc, seqK_next, seqK_ret, seqK_exc, seqK_brk, seqK_cont, loopK_next, loopK_cont, loopK_brk, loopK_ret, loopK_exc, must_ok, List.set_cons_succ, List.set_cons_zero, List.getD_cons_succ, List.getD_cons_zero, vD_some, if_true, if_false, Bool.false_eq_true, reduceIte, List.map_cons, List.map_nil, List.length_cons, List.length_nil, List.cons_append, List.nil_append, List.replicate, Nat.reduceSub, Nat.reduceAdd, x_add, x_sub, x_cmp, x_eq_ii, x_ne_ii, x_int_i, x_len_t, x_len_l, x_tup_l, x_tup_t, x_list_l, x_list_t, x_dSl_t, x_dSl_l, x_items_t, x_items_l, x_tru_n, x_tru_b, x_tru_i, x_tru_t, x_tru_l, x_asB, x_is_n, x_isNot_n, isNon_n, isNon_i, isNon_s, isNon_t, isNon_l, isNon_b, Bool.not_true, Bool.not_false, List.length_map, fnE, startE, c]⟩
    have su := sum_cost ps
    have sn := n_ne (ps.map Pc.cost).sum
    have ct : cut ((ps.flatMap (Pc.mk base)).map dN) none (some 60) = ((ps.flatMap (Pc.mk base)).take 60).map dN := by rw [List.map_take]; exact cut_hi ((ps.flatMap (Pc.mk base)).map dN) 60
    have le := least_ok (base := base) (goal := (ps.flatMap (Pc.mk base)).take 60) hb (by rw [List.length_take]; omega) ob fun x hx => fo x (List.mem_of_mem_take hx)
    have lM := row_len (ps.flatMap (Pc.mk base))
    have hi : dItems (.tup (ps.map pcD)) = .ok (ps.map pcD) := rfl
    have key : (ps.flatMap (Pc.mk base)).length ≤ 60 → pr base ((ps.flatMap (Pc.mk base)).take 60) ((ps.flatMap (Pc.mk base)).take 60).length ≤ (ps.map Pc.cost).sum := fun h60 => by
      have et : (ps.flatMap (Pc.mk base)).take 60 = ps.flatMap (Pc.mk base) := List.take_of_length_le h60
      rw [et]
      exact pr_le fo ps _ (Nat.le_refl _) h inn (by rw [Nat.sub_self, List.drop_zero])
    generalize ps.flatMap (Pc.mk base) = M at *
    generalize (ps.map Pc.cost).sum = S at *
    generalize pr base (M.take 60) (M.take 60).length = Pr at *
    have i0 := (ixc (dN Pr) (.tup ((dl base (M.take 60)).map pcD)) (rowD (TT base (M.take 60) (M.take 60).length).1)).1
    generalize (dl base (M.take 60)).map pcD = DL0 at *
    generalize rowD (TT base (M.take 60) (M.take 60).length).1 = DL1 at *
    generalize D.tup (ps.map pcD) = T at *
    by_cases h1 : S < Pr
    · have g1 : iLt (S : Int) (Pr : Int) = true := decide_eq_true (by omega)
      have g2 : iLe (M.length : Int) 60 = false := decide_eq_false (by intro h; have := key (by omega); omega)
      simp only [sSeq_x, x_sSet, x_sIf, x_sRet, x_sRetN, x_sPar, x_sUnp, resF_ok, x_sDrop, x_sNext, x_sBreak, x_sCont, x_sRaise, x_sAug, augK_ok, x_sFor, x_sWhile, sKill_x, x_wipe0, x_wipe1, x_evL0, x_evL1, x_setL0, x_setL1, x_eVar, x_eC, x_eOp, x_eUn, x_eCall, x_eMS, x_asStr, x_aNil, x_aCons, x_eTup, x_eLst, x_eIf, x_eNot, x_eAnd, x_eOr, x_bAnd, x_bOr, x_bNot, x_bYes, x_eSl, x_oNone, x_oSome, asI_int, x_iSeq, x_iCall, x_gfName, x_gfTup, eLc, noX_is, Res.bind_ok, Res.bind_exc, flow_ok, flow_exc, seqK_next, seqK_ret, seqK_exc, seqK_brk, seqK_cont, loopK_next, loopK_cont, loopK_brk, loopK_ret, loopK_exc, must_ok, List.set_cons_succ, List.set_cons_zero, List.getD_cons_succ, List.getD_cons_zero, vD_some, if_true, if_false, Bool.false_eq_true, reduceIte, List.map_cons, List.map_nil, List.length_cons, List.length_nil, List.cons_append, List.nil_append, List.replicate, Nat.reduceSub, Nat.reduceAdd, x_add, x_sub, x_cmp, x_eq_ii, x_ne_ii, x_int_i, x_len_t, x_len_l, x_tup_l, x_tup_t, x_list_l, x_list_t, x_dSl_t, x_dSl_l, x_items_t, x_items_l, x_tru_n, x_tru_b, x_tru_i, x_tru_t, x_tru_l, x_asB, x_is_n, x_isNot_n, isNon_n, isNon_i, isNon_s, isNon_t, isNon_l, isNon_b, Bool.not_true, Bool.not_false, List.length_map, fnE, startE, B_law_2, hf, hd, e1, e2, wcon, m, lm, rn, hc, hi, hbb, su, sn, ct, le, i0, g1, lM, g2]
    · have g1 : iLt (S : Int) (Pr : Int) = false := decide_eq_false (by omega)
      simp only [sSeq_x, x_sSet, x_sIf, x_sRet, x_sRetN, x_sPar, x_sUnp, resF_ok, x_sDrop, x_sNext, x_sBreak, x_sCont, x_sRaise, x_sAug, augK_ok, x_sFor, x_sWhile, sKill_x, x_wipe0, x_wipe1, x_evL0, x_evL1, x_setL0, x_setL1, x_eVar, x_eC, x_eOp, x_eUn, x_eCall, x_eMS, x_asStr, x_aNil, x_aCons, x_eTup, x_eLst, x_eIf, x_eNot, x_eAnd, x_eOr, x_bAnd, x_bOr, x_bNot, x_bYes, x_eSl, x_oNone, x_oSome, asI_int, x_iSeq, x_iCall, x_gfName, x_gfTup, eLc, noX_is, Res.bind_ok, Res.bind_exc, flow_ok, flow_exc, seqK_next, seqK_ret, seqK_exc, seqK_brk, seqK_cont, loopK_next, loopK_cont, loopK_brk, loopK_ret, loopK_exc, must_ok, List.set_cons_succ, List.set_cons_zero, List.getD_cons_succ, List.getD_cons_zero, vD_some, if_true, if_false, Bool.false_eq_true, reduceIte, List.map_cons, List.map_nil, List.length_cons, List.length_nil, List.cons_append, List.nil_append, List.replicate, Nat.reduceSub, Nat.reduceAdd, x_add, x_sub, x_cmp, x_eq_ii, x_ne_ii, x_int_i, x_len_t, x_len_l, x_tup_l, x_tup_t, x_list_l, x_list_t, x_dSl_t, x_dSl_l, x_items_t, x_items_l, x_tru_n, x_tru_b, x_tru_i, x_tru_t, x_tru_l, x_asB, x_is_n, x_isNot_n, isNon_n, isNon_i, isNon_s, isNon_t, isNon_l, isNon_b, Bool.not_true, Bool.not_false, List.length_map, fnE, startE, B_law_2, hf, hd, e1, e2, wcon, m, lm, rn, hc, hi, hbb, su, sn, ct, le, i0, g1]
theorem law2_it (hb : base.length ≤ 60) (ob : ∀ x ∈ base, x < 256) (ys : List It) (hl : ys.length ≤ 100) (hg : ∀ i ∈ ys, itG i) :
    B_law_2 [a0, a1, a2, some (rowD base), a4, a5, a6, a7, a8, a9, a10, a11, a12, a13, a14, a15, some (.tup (ys.map itD)), none, a18, a19, a20, a21, none] = .next [a0, a1, a2, some (rowD base), a4, a5, a6, a7, a8, a9, a10, a11, a12, a13, a14, a15, none, none, a18, a19, a20, a21, none] := by
  cases h : ys.all itOk with
  | true =>
    obtain ⟨ps, rfl⟩ := pcs_of h
    rw [List.map_map]
    exact law2_pc hb ob ps (by simpa using hl) (fun p hp => hg (.pc p) (List.mem_map.mpr ⟨p, hp, rfl⟩)) fun p hp => List.all_eq_true.mp h (.pc p) (List.mem_map.mpr ⟨p, hp, rfl⟩)
  | false =>
    have d := isd_ok hg
    rw [h] at d
    exact law2_form ob _ (lfault_form hg h _) d
end
def Ls0 : SF := (sPar [13, 14] [(eOp dMod (eCall fInt (aCons (eOp dIx (eVar 1) (eOp dAdd (eC (.int 33)) (eVar 2))) aNil)) (eC (.int 15))), (eOp dMod (eCall fInt (aCons (eOp dIx (eVar 1) (eOp dAdd (eC (.int 37)) (eVar 2))) aNil)) (eC (.int 5)))])
def Ls1 : SF := (sSet 15 (eLst (aCons (eTup (aCons (eC (.str "copy")) (aCons (eVar 13) (aCons (eVar 14) aNil)))) (aCons (eTup (aCons (eC (.str "put")) (aCons (eSl (eVar 4) oNone (oSome (eVar 14))) aNil))) (aCons (eTup (aCons (eC (.str "copy")) (aCons (eVar 13) (aCons (eC (.int 1)) aNil)))) (aCons (eTup (aCons (eC (.str "put")) (aCons (eTup (aCons (eC (.int 255)) (aCons (eC (.int 0)) aNil))) aNil))) aNil))))))
def Ls2 : SF := (sIf (eUn asB (eOp (dEq) (eOp dMod (eCall fInt (aCons (eOp dIx (eVar 1) (eC (.int 45))) aNil)) (eC (.int 3))) (eC (.int 0)))) (sSet 15 (eOp dAdd (eVar 15) (eLst (aCons (eTup (aCons (eC (.str "copy")) (aCons (eVar 13) aNil))) (aCons (eTup (aCons (eC (.str "put")) (aCons (eTup aNil) aNil))) (aCons (eTup (aCons (eC (.str "put")) (aCons (eTup (aCons (eC (.int 256)) aNil)) aNil))) (aCons (eTup (aCons (eC (.str "keep")) (aCons (eC (.int 0)) (aCons (eC (.int 1)) aNil)))) (aCons (eC .non) aNil)))))))) sNext)
def Ls3 : SF := (sAppend 12 (eOp dIx (eVar 15) (eOp dMod (eCall fInt (aCons (eOp dIx (eVar 1) (eOp dAdd (eC (.int 41)) (eVar 2))) aNil)) (eCall fLen (aCons (eVar 15) aNil)))))
theorem Ls_eq : B_law_1 = (sSeq Ls0 (sSeq Ls1 (sSeq Ls2 (sSeq Ls3 (sKill [13, 14, 15] sNext))))) := rfl
def Lt0 : SF := (sSet 13 (eOp dMod (eCall fInt (aCons (eOp dIx (eVar 1) (eOp dAdd (eC (.int 46)) (eVar 2))) aNil)) (eCall fLen (aCons (eVar 8) aNil))))
def Lt1 : SF := (sSet 18 (eOp dAdd (eOp dAdd (eSl (eVar 8) oNone (oSome (eVar 13))) (eTup (aCons (eOp dIx (eLst (aCons (eOp dAdd (eOp dIx (eVar 8) (eVar 13)) (eC (.int 1))) (aCons (eCall fMax (aCons (eC (.int 0)) (aCons (eOp dSub (eOp dIx (eVar 8) (eVar 13)) (eC (.int 1))) aNil))) (aCons (eC .non) (aCons (eC (.bl true)) (aCons (eUn dNeg (eC (.int 1))) (aCons (eOp dAdd (eOp dIx (eVar 8) (eVar 13)) (eC (.int 4))) aNil))))))) (eOp dMod (eCall fInt (aCons (eOp dIx (eVar 1) (eOp dAdd (eC (.int 50)) (eVar 2))) aNil)) (eC (.int 6)))) aNil))) (eSl (eVar 8) (oSome (eOp dAdd (eVar 13) (eC (.int 1)))) oNone)))
def Lt2 : SF := (sFor (iSeq (eTup (aCons (eVar 18) (aCons (eSl (eVar 8) oNone (oSome (eUn dNeg (eC (.int 1))))) (aCons (eCall fList (aCons (eVar 8) aNil)) (aCons (eOp dMulT (eTup (aCons (eC (.int 0)) aNil)) (eCall fLen (aCons (eVar 8) aNil))) aNil)))))) (gfName 16)
  B_law_4)
theorem Lt_eq : B_law_3 = (sSeq Lt0 (sSeq Lt1 (sSeq Lt2 (sKill [16] (sKill [13, 16, 18] sNext))))) := rfl
/-! ### drawn pieces -/
theorem ixL4 (a b c d : D) : ∀ j : Nat, j < 4 → ∃ x, dIx (.lst [a, b, c, d]) (.int (j : Nat)) = .ok x ∧ (x = a ∨ x = b ∨ x = c ∨ x = d)
  | 0, _ => ⟨a, rfl, .inl rfl⟩
  | 1, _ => ⟨b, rfl, .inr (.inl rfl)⟩
  | 2, _ => ⟨c, rfl, .inr (.inr (.inl rfl))⟩
  | 3, _ => ⟨d, rfl, .inr (.inr (.inr rfl))⟩
theorem ixMem (xs : List D) (j : Nat) (h : j < xs.length) : ∃ x ∈ xs, dIx (.lst xs) (.int (j : Nat)) = .ok x := ⟨xs[j], List.getElem_mem h, dIx_lst (List.getElem?_eq_getElem h)⟩
abbrev S4 (goal : List Nat) (x m : Nat) : List D := [.tup [.str "copy", dN x, dN m], .tup [.str "put", .tup ((goal.take m).map dN)], .tup [.str "copy", dN x, .int 1], .tup [.str "put", .tup [.int 255, .int 0]]]
abbrev S5 (x : Nat) : List D := [.tup [.str "copy", dN x], .tup [.str "put", .tup []], .tup [.str "put", .tup [.int 256]], .tup [.str "keep", .int 0, .int 1], .non]
theorem s_it (goal : List Nat) (hg : goal.length ≤ 60) (x m : Nat) (hx : x < 15) (hm : m < 5) (d : D) (h : d ∈ S4 goal x m ++ S5 x) : ∃ it, itG it ∧ itD it = d := by
  simp only [S4, S5, List.cons_append, List.nil_append, List.mem_cons, List.not_mem_nil, or_false] at h
  rcases h with rfl | rfl | rfl | rfl | rfl | rfl | rfl | rfl | rfl
  · exact ⟨.pc (.cp x m), ⟨by omega, by omega⟩, rfl⟩
  · exact ⟨.pc (.pt (goal.take m)), by show (goal.take m).length < 10000; rw [List.length_take]; omega, rfl⟩
  · exact ⟨.pc (.cp x 1), ⟨by omega, by omega⟩, rfl⟩
  · exact ⟨.pc (.pt [255, 0]), by show 2 < 10000; omega, rfl⟩
  · exact ⟨.bad _, bad_copy x, rfl⟩
  · exact ⟨.pc (.pt []), by show 0 < 10000; omega, rfl⟩
  · exact ⟨.pc (.pt [256]), by show 1 < 10000; omega, rfl⟩
  · exact ⟨.bad _, bad_keep, rfl⟩
  · exact ⟨.bad _, bad_non, rfl⟩
section
variable {goal ds : List Nat} {a0 a3 a5 a6 a7 a8 a9 a10 a11 a16 a17 a18 a19 a20 a21 a22 : Option D}
theorem dr_add {c k : Nat} (h : c + k < ds.length) : dIx (.lst (ds.map dN)) (.int ((c : Int) + (k : Int))) = .ok (dN (ds.getD (c + k) 0)) := dr_ix (n := c + k) h
theorem lw1_step (hl : ds.length = 90) (hg : goal.length ≤ 60) (k : Nat) (hk : k < 4) (F : List It) (hF : F.length < 1000) : ∃ it, itG it ∧
    B_law_1 [a0, some (.lst (ds.map dN)), some (dN k), a3, some (rowD goal), a5, a6, a7, a8, a9, a10, a11, some (.lst (F.map itD)), none, none, none, a16, a17, a18, a19, a20, a21, a22] = .next [a0, some (.lst (ds.map dN)), some (dN k), a3, some (rowD goal), a5, a6, a7, a8, a9, a10, a11, some (.lst ((F ++ [it]).map itD)), none, none, none, a16, a17, a18, a19, a20, a21, a22] := by
  have i33 := dr_add (ds := ds) (c := 33) (k := k) (by omega)
  have i37 := dr_add (ds := ds) (c := 37) (k := k) (by omega)
  have i41 := dr_add (ds := ds) (c := 41) (k := k) (by omega)
  have i45 : dIx (.lst (ds.map dN)) (.int 45) = .ok (dN (ds.getD 45 0)) := dr_ix (n := 45) (by omega)
  generalize ds.getD (33 + k) 0 = d33 at i33
  generalize ds.getD (37 + k) 0 = d37 at i37
  generalize ds.getD (41 + k) 0 = d41 at i41
  generalize ds.getD 45 0 = d45 at i45
  generalize D.lst (ds.map dN) = DS at *
  have e15 : (d33 : Int) % 15 = ((d33 % 15 : Nat) : Int) := by omega
  have e5 : (d37 : Int) % 5 = ((d37 % 5 : Nat) : Int) := by omega
  have hx : d33 % 15 < 15 := Nat.mod_lt _ (by omega)
  have hm : d37 % 5 < 5 := Nat.mod_lt _ (by omega)
  generalize d33 % 15 = x at e15 hx
  generalize d37 % 5 = m at e5 hm
  have ct : cut (goal.map dN) none (some (m : Int)) = (goal.take m).map dN := by rw [List.map_take]; exact cut_hi (goal.map dN) m
  have s0 : Ls0 [a0, some DS, some (dN k), a3, some (rowD goal), a5, a6, a7, a8, a9, a10, a11, some (.lst (F.map itD)), none, none, none, a16, a17, a18, a19, a20, a21, a22] = .next [a0, some DS, some (dN k), a3, some (rowD goal), a5, a6, a7, a8, a9, a10, a11, some (.lst (F.map itD)), some (dN x), some (dN m), none, a16, a17, a18, a19, a20, a21, a22] := by
    have i33 : dIx DS (.int ((33 : Int) + (k : Int))) = .ok (dN d33) := i33
    have i37 : dIx DS (.int ((37 : Int) + (k : Int))) = .ok (dN d37) := i37
    simp only [sSeq_x, x_sSet, x_sIf, x_sRet, x_sRetN, x_sPar, x_sUnp, resF_ok, x_sDrop, x_sNext, x_sBreak, x_sCont, x_sRaise, x_sAug, augK_ok, x_sFor, x_sWhile, sKill_x, x_wipe0, x_wipe1, x_evL0, x_evL1, x_setL0, x_setL1, x_eVar, x_eC, x_eOp, x_eUn, x_eCall, x_eMS, x_asStr, x_aNil, x_aCons, x_eTup, x_eLst, x_eIf, x_eNot, x_eAnd, x_eOr, x_bAnd, x_bOr, x_bNot, x_bYes, x_eSl, x_oNone, x_oSome, asI_int, x_iSeq, x_iCall, x_gfName, x_gfTup, eLc, noX_is, Res.bind_ok, Res.bind_exc, flow_ok, flow_exc, seqK_next, seqK_ret, seqK_exc, seqK_brk, seqK_cont, loopK_next, loopK_cont, loopK_brk, loopK_ret, loopK_exc, must_ok, List.set_cons_succ, List.set_cons_zero, List.getD_cons_succ, List.getD_cons_zero, vD_some, if_true, if_false, Bool.false_eq_true, reduceIte, List.map_cons, List.map_nil, List.length_cons, List.length_nil, List.cons_append, List.nil_append, List.replicate, Nat.reduceSub, Nat.reduceAdd, x_add, x_sub, x_cmp, x_eq_ii, x_ne_ii, x_int_i, x_len_t, x_len_l, x_tup_l, x_tup_t, x_list_l, x_list_t, x_dSl_t, x_dSl_l, x_items_t, x_items_l, x_tru_n, x_tru_b, x_tru_i, x_tru_t, x_tru_l, x_asB, x_is_n, x_isNot_n, isNon_n, isNon_i, isNon_s, isNon_t, isNon_l, isNon_b, Bool.not_true, Bool.not_false, List.length_map, fnE, startE, Ls0, i33, i37, x_mod _ 15 (by decide), x_mod _ 5 (by decide), e15, e5]
  have s1 : Ls1 [a0, some DS, some (dN k), a3, some (rowD goal), a5, a6, a7, a8, a9, a10, a11, some (.lst (F.map itD)), some (dN x), some (dN m), none, a16, a17, a18, a19, a20, a21, a22] = .next [a0, some DS, some (dN k), a3, some (rowD goal), a5, a6, a7, a8, a9, a10, a11, some (.lst (F.map itD)), some (dN x), some (dN m), some (.lst (S4 goal x m)), a16, a17, a18, a19, a20, a21, a22] := by
    simp only [sSeq_x, x_sSet, x_sIf, x_sRet, x_sRetN, x_sPar, x_sUnp, resF_ok, x_sDrop, x_sNext, x_sBreak, x_sCont, x_sRaise, x_sAug, augK_ok, x_sFor, x_sWhile, sKill_x, x_wipe0, x_wipe1, x_evL0, x_evL1, x_setL0, x_setL1, x_eVar, x_eC, x_eOp, x_eUn, x_eCall, x_eMS, x_asStr, x_aNil, x_aCons, x_eTup, x_eLst, x_eIf, x_eNot, x_eAnd, x_eOr, x_bAnd, x_bOr, x_bNot, x_bYes, x_eSl, x_oNone, x_oSome, asI_int, x_iSeq, x_iCall, x_gfName, x_gfTup, eLc, noX_is, Res.bind_ok, Res.bind_exc, flow_ok, flow_exc, seqK_next, seqK_ret, seqK_exc, seqK_brk, seqK_cont, loopK_next, loopK_cont, loopK_brk, loopK_ret, loopK_exc, must_ok, List.set_cons_succ, List.set_cons_zero, List.getD_cons_succ, List.getD_cons_zero, vD_some, if_true, if_false, Bool.false_eq_true, reduceIte, List.map_cons, List.map_nil, List.length_cons, List.length_nil, List.cons_append, List.nil_append, List.replicate, Nat.reduceSub, Nat.reduceAdd, x_add, x_sub, x_cmp, x_eq_ii, x_ne_ii, x_int_i, x_len_t, x_len_l, x_tup_l, x_tup_t, x_list_l, x_list_t, x_dSl_t, x_dSl_l, x_items_t, x_items_l, x_tru_n, x_tru_b, x_tru_i, x_tru_t, x_tru_l, x_asB, x_is_n, x_isNot_n, isNon_n, isNon_i, isNon_s, isNon_t, isNon_l, isNon_b, Bool.not_true, Bool.not_false, List.length_map, fnE, startE, Ls1, ct]
  have s2 : ∃ S : List D, (∀ d ∈ S, d ∈ S4 goal x m ++ S5 x) ∧ 0 < S.length ∧ Ls2 [a0, some DS, some (dN k), a3, some (rowD goal), a5, a6, a7, a8, a9, a10, a11, some (.lst (F.map itD)), some (dN x), some (dN m), some (.lst (S4 goal x m)), a16, a17, a18, a19, a20, a21, a22] = .next [a0, some DS, some (dN k), a3, some (rowD goal), a5, a6, a7, a8, a9, a10, a11, some (.lst (F.map itD)), some (dN x), some (dN m), some (.lst S), a16, a17, a18, a19, a20, a21, a22] := by
    have hz : (S4 goal x m).length + (S5 x).length ≤ 16777216 := by simp only [S4, S5, List.length_cons, List.length_nil]; omega
    have ad : dAdd (.lst (S4 goal x m)) (.lst (S5 x)) = .ok (.lst (S4 goal x m ++ S5 x)) := by
      rw [x_add_l, sl_eq, if_pos hz]
    cases h : ((d45 : Int) % 3 == 0) with
    | true =>
      refine ⟨S4 goal x m ++ S5 x, fun d hd => hd, by simp, ?_⟩
      generalize S4 goal x m ++ S5 x = S9 at ad ⊢
      generalize D.lst (S4 goal x m) = S0 at ad ⊢
      simp only [sSeq_x, x_sSet, x_sIf, x_sRet, x_sRetN, x_sPar, x_sUnp, resF_ok, x_sDrop, x_sNext, x_sBreak, x_sCont, x_sRaise, x_sAug, augK_ok, x_sFor, x_sWhile, sKill_x, x_wipe0, x_wipe1, x_evL0, x_evL1, x_setL0, x_setL1, x_eVar, x_eC, x_eOp, x_eUn, x_eCall, x_eMS, x_asStr, x_aNil, x_aCons, x_eTup, x_eLst, x_eIf, x_eNot, x_eAnd, x_eOr, x_bAnd, x_bOr, x_bNot, x_bYes, x_eSl, x_oNone, x_oSome, asI_int, x_iSeq, x_iCall, x_gfName, x_gfTup, eLc, noX_is, Res.bind_ok, Res.bind_exc, flow_ok, flow_exc, seqK_next, seqK_ret, seqK_exc, seqK_brk, seqK_cont, loopK_next, loopK_cont, loopK_brk, loopK_ret, loopK_exc, must_ok, List.set_cons_succ, List.set_cons_zero, List.getD_cons_succ, List.getD_cons_zero, vD_some, if_true, if_false, Bool.false_eq_true, reduceIte, List.map_cons, List.map_nil, List.length_cons, List.length_nil, List.cons_append, List.nil_append, List.replicate, Nat.reduceSub, Nat.reduceAdd, x_add, x_sub, x_cmp, x_eq_ii, x_ne_ii, x_int_i, x_len_t, x_len_l, x_tup_l, x_tup_t, x_list_l, x_list_t, x_dSl_t, x_dSl_l, x_items_t, x_items_l, x_tru_n, x_tru_b, x_tru_i, x_tru_t, x_tru_l, x_asB, x_is_n, x_isNot_n, isNon_n, isNon_i, isNon_s, isNon_t, isNon_l, isNon_b, Bool.not_true, Bool.not_false, List.length_map, fnE, startE, Ls2, i45, x_mod _ 3 (by decide), x_eq_ii, h, ad]
    | false =>
      refine ⟨S4 goal x m, fun d hd => List.mem_append_left _ hd, by simp, ?_⟩
      generalize D.lst (S4 goal x m) = S0
      simp only [sSeq_x, x_sSet, x_sIf, x_sRet, x_sRetN, x_sPar, x_sUnp, resF_ok, x_sDrop, x_sNext, x_sBreak, x_sCont, x_sRaise, x_sAug, augK_ok, x_sFor, x_sWhile, sKill_x, x_wipe0, x_wipe1, x_evL0, x_evL1, x_setL0, x_setL1, x_eVar, x_eC, x_eOp, x_eUn, x_eCall, x_eMS, x_asStr, x_aNil, x_aCons, x_eTup, x_eLst, x_eIf, x_eNot, x_eAnd, x_eOr, x_bAnd, x_bOr, x_bNot, x_bYes, x_eSl, x_oNone, x_oSome, asI_int, x_iSeq, x_iCall, x_gfName, x_gfTup, eLc, noX_is, Res.bind_ok, Res.bind_exc, flow_ok, flow_exc, seqK_next, seqK_ret, seqK_exc, seqK_brk, seqK_cont, loopK_next, loopK_cont, loopK_brk, loopK_ret, loopK_exc, must_ok, List.set_cons_succ, List.set_cons_zero, List.getD_cons_succ, List.getD_cons_zero, vD_some, if_true, if_false, Bool.false_eq_true, reduceIte, List.map_cons, List.map_nil, List.length_cons, List.length_nil, List.cons_append, List.nil_append, List.replicate, Nat.reduceSub, Nat.reduceAdd, x_add, x_sub, x_cmp, x_eq_ii, x_ne_ii, x_int_i, x_len_t, x_len_l, x_tup_l, x_tup_t, x_list_l, x_list_t, x_dSl_t, x_dSl_l, x_items_t, x_items_l, x_tru_n, x_tru_b, x_tru_i, x_tru_t, x_tru_l, x_asB, x_is_n, x_isNot_n, isNon_n, isNon_i, isNon_s, isNon_t, isNon_l, isNon_b, Bool.not_true, Bool.not_false, List.length_map, fnE, startE, Ls2, i45, x_mod _ 3 (by decide), x_eq_ii, h]
  obtain ⟨S, hS, hS0, s2⟩ := s2
  have hj : d41 % S.length < S.length := Nat.mod_lt _ hS0
  obtain ⟨d, hd, id⟩ := ixMem S (d41 % S.length) hj
  obtain ⟨it, hit, rfl⟩ := s_it goal hg x m hx hm d (hS d hd)
  have lS : fLen [.lst S] = .ok (.int S.length) := x_len_l S
  have e41 : (d41 : Int) % (S.length : Int) = ((d41 % S.length : Nat) : Int) := by simp
  have pS : (0 : Int) < (S.length : Int) := by omega
  have hl2 : F.length < 16777216 := by omega
  have i41 : dIx DS (.int ((41 : Int) + (k : Int))) = .ok (dN d41) := i41
  refine ⟨it, hit, ?_⟩
  rw [Ls_eq]
  generalize D.lst (S4 goal x m) = S0 at *
  generalize D.lst S = SS at *
  simp only [sSeq_x, x_sSet, x_sIf, x_sRet, x_sRetN, x_sPar, x_sUnp, resF_ok, x_sDrop, x_sNext, x_sBreak, x_sCont, x_sRaise, x_sAug, augK_ok, x_sFor, x_sWhile, sKill_x, x_wipe0, x_wipe1, x_evL0, x_evL1, x_setL0, x_setL1, x_eVar, x_eC, x_eOp, x_eUn, x_eCall, x_eMS, x_asStr, x_aNil, x_aCons, x_eTup, x_eLst, x_eIf, x_eNot, x_eAnd, x_eOr, x_bAnd, x_bOr, x_bNot, x_bYes, x_eSl, x_oNone, x_oSome, asI_int, x_iSeq, x_iCall, x_gfName, x_gfTup, eLc, noX_is, Res.bind_ok, Res.bind_exc, flow_ok, flow_exc, seqK_next, seqK_ret, seqK_exc, seqK_brk, seqK_cont, loopK_next, loopK_cont, loopK_brk, loopK_ret, loopK_exc, must_ok, List.set_cons_succ, List.set_cons_zero, List.getD_cons_succ, List.getD_cons_zero, vD_some, if_true, if_false, Bool.false_eq_true, reduceIte, List.map_cons, List.map_nil, List.length_cons, List.length_nil, List.cons_append, List.nil_append, List.replicate, Nat.reduceSub, Nat.reduceAdd, x_add, x_sub, x_cmp, x_eq_ii, x_ne_ii, x_int_i, x_len_t, x_len_l, x_tup_l, x_tup_t, x_list_l, x_list_t, x_dSl_t, x_dSl_l, x_items_t, x_items_l, x_tru_n, x_tru_b, x_tru_i, x_tru_t, x_tru_l, x_asB, x_is_n, x_isNot_n, isNon_n, isNon_i, isNon_s, isNon_t, isNon_l, isNon_b, Bool.not_true, Bool.not_false, List.length_map, fnE, startE, s0, s1, s2, Ls3, i41, lS, x_mod _ _ pS, e41, id, sAppend, sl_eq, hl2, List.map_append]
theorem lw1_loop (hl : ds.length = 90) (hg : goal.length ≤ 60) : ∀ (xs : List Nat) (g2 : Option D) (F : List It), (∀ k ∈ xs, k < 4) → F.length + xs.length ≤ 100 → (∀ i ∈ F, itG i) → ∃ (g2' : Option D) (F' : List It), F'.length = F.length + xs.length ∧ (∀ i ∈ F', itG i) ∧
    forE (gfName 2) B_law_1 (xs.map fun i => D.int (i : Nat)) [a0, some (.lst (ds.map dN)), g2, a3, some (rowD goal), a5, a6, a7, a8, a9, a10, a11, some (.lst (F.map itD)), none, none, none, a16, a17, a18, a19, a20, a21, a22] = .next [a0, some (.lst (ds.map dN)), g2', a3, some (rowD goal), a5, a6, a7, a8, a9, a10, a11, some (.lst (F'.map itD)), none, none, none, a16, a17, a18, a19, a20, a21, a22]
  | [], g2, F, _, _, hF => ⟨g2, F, rfl, hF, rfl⟩
  | k :: xs, g2, F, hx, hs, hF => by
    rw [List.length_cons] at hs
    obtain ⟨it, hit, st⟩ := lw1_step (goal := goal) (ds := ds) (a0 := a0) (a3 := a3) (a5 := a5) (a6 := a6) (a7 := a7) (a8 := a8) (a9 := a9) (a10 := a10) (a11 := a11) (a16 := a16) (a17 := a17) (a18 := a18) (a19 := a19) (a20 := a20) (a21 := a21) (a22 := a22) hl hg k (hx k List.mem_cons_self) F (by omega)
    obtain ⟨g2', F', e1, e2, e3⟩ := lw1_loop hl hg xs (some (dN k)) (F ++ [it]) (fun j hj => hx j (List.mem_cons_of_mem _ hj)) (by simp; omega) fun i hi => (List.mem_append.mp hi).elim (hF i) fun h => by rw [List.mem_singleton.mp h]; exact hit
    refine ⟨g2', F', by rw [e1]; simp; omega, e2, ?_⟩
    rw [List.map_cons, forE_cons, ← e3]
    show loopK _ _ = _
    simp only [sSeq_x, x_sSet, x_sIf, x_sRet, x_sRetN, x_sPar, x_sUnp, resF_ok, x_sDrop, x_sNext, x_sBreak, x_sCont, x_sRaise, x_sAug, augK_ok, x_sFor, x_sWhile, sKill_x, x_wipe0, x_wipe1, x_evL0, x_evL1, x_setL0, x_setL1, x_eVar, x_eC, x_eOp, x_eUn, x_eCall, x_eMS, x_asStr, x_aNil, x_aCons, x_eTup, x_eLst, x_eIf, x_eNot, x_eAnd, x_eOr, x_bAnd, x_bOr, x_bNot, x_bYes, x_eSl, x_oNone, x_oSome, asI_int, x_iSeq, x_iCall, x_gfName, x_gfTup, eLc, noX_is, Res.bind_ok, Res.bind_exc, flow_ok, flow_exc, seqK_next, seqK_ret, seqK_exc, seqK_brk, seqK_cont, loopK_next, loopK_cont, loopK_brk, loopK_ret, loopK_exc, must_ok, List.set_cons_succ, List.set_cons_zero, List.getD_cons_succ, List.getD_cons_zero, vD_some, if_true, if_false, Bool.false_eq_true, reduceIte, List.map_cons, List.map_nil, List.length_cons, List.length_nil, List.cons_append, List.nil_append, List.replicate, Nat.reduceSub, Nat.reduceAdd, x_add, x_sub, x_cmp, x_eq_ii, x_ne_ii, x_int_i, x_len_t, x_len_l, x_tup_l, x_tup_t, x_list_l, x_list_t, x_dSl_t, x_dSl_l, x_items_t, x_items_l, x_tru_n, x_tru_b, x_tru_i, x_tru_t, x_tru_l, x_asB, x_is_n, x_isNot_n, isNon_n, isNon_i, isNon_s, isNon_t, isNon_l, isNon_b, Bool.not_true, Bool.not_false, List.length_map, fnE, startE, st]
end
/-! ### prices bent -/
theorem cut_last (X : List D) : cut X none (some (-1)) = X.dropLast := by
  unfold cut
  rw [HT.sIx_none, List.drop_zero, Nat.sub_zero, List.dropLast_eq_take]
  congr 1
  unfold HT.sIx
  simp
  omega
theorem pf_okN (base goal q : List Nat) : okN 60 (pfD base goal q) = true := by
  unfold pfD
  split
  · split
    · exact ok_non _
    · exact ok_int _ _
  · rw [ok_str]; decide +kernel
theorem ixL6 (v1 v2 v3 : Nat) (j : Nat) (h : j < 6) : ∃ x, dIx (.lst [dN v1, dN v2, .non, .bl true, .int (-1), dN v3]) (.int (j : Nat)) = .ok x ∧ ((∃ v, x = dN v) ∨ BadV x) := by
  match j, h with
  | 0, _ => exact ⟨_, rfl, .inl ⟨v1, rfl⟩⟩
  | 1, _ => exact ⟨_, rfl, .inl ⟨v2, rfl⟩⟩
  | 2, _ => exact ⟨_, rfl, .inr (badv _ (by simp))⟩
  | 3, _ => exact ⟨_, rfl, .inr (badv _ (by simp))⟩
  | 4, _ => exact ⟨_, rfl, .inr (badv _ (by simp))⟩
  | 5, _ => exact ⟨_, rfl, .inl ⟨v3, rfl⟩⟩
section
variable {base goal ds : List Nat} {a0 a1 a2 a5 a6 a8 a9 a10 a11 a12 a13 a14 a15 a17 a18 a19 a20 a21 a22 : Option D}
theorem law4 {one r : D} (h1 : C_delta_prices_fault [rowD base, rowD goal, one] = .ok r) (h2 : C__law_price_fault [stD base goal, one] = .ok r) (ok : okN 60 r = true) :
    B_law_4 [a0, a1, a2, some (rowD base), some (rowD goal), a5, a6, some (stD base goal), a8, a9, a10, a11, a12, a13, a14, a15, some one, a17, a18, a19, a20, a21, a22] = .next [a0, a1, a2, some (rowD base), some (rowD goal), a5, a6, some (stD base goal), a8, a9, a10, a11, a12, a13, a14, a15, none, a17, a18, a19, a20, a21, a22] := by
  have n := dNe_self ok
  generalize stD base goal = ST at *
  simp only [sSeq_x, x_sSet, x_sIf, x_sRet, x_sRetN, x_sPar, x_sUnp, resF_ok, x_sDrop, x_sNext, x_sBreak, x_sCont, x_sRaise, x_sAug, augK_ok, x_sFor, x_sWhile, sKill_x, x_wipe0, x_wipe1, x_evL0, x_evL1, x_setL0, x_setL1, x_eVar, x_eC, x_eOp, x_eUn, x_eCall, x_eMS, x_asStr, x_aNil, x_aCons, x_eTup, x_eLst, x_eIf, x_eNot, x_eAnd, x_eOr, x_bAnd, x_bOr, x_bNot, x_bYes, x_eSl, x_oNone, x_oSome, asI_int, x_iSeq, x_iCall, x_gfName, x_gfTup, eLc, noX_is, Res.bind_ok, Res.bind_exc, flow_ok, flow_exc, seqK_next, seqK_ret, seqK_exc, seqK_brk, seqK_cont, loopK_next, loopK_cont, loopK_brk, loopK_ret, loopK_exc, must_ok, List.set_cons_succ, List.set_cons_zero, List.getD_cons_succ, List.getD_cons_zero, vD_some, if_true, if_false, Bool.false_eq_true, reduceIte, List.map_cons, List.map_nil, List.length_cons, List.length_nil, List.cons_append, List.nil_append, List.replicate, Nat.reduceSub, Nat.reduceAdd, x_add, x_sub, x_cmp, x_eq_ii, x_ne_ii, x_int_i, x_len_t, x_len_l, x_tup_l, x_tup_t, x_list_l, x_list_t, x_dSl_t, x_dSl_l, x_items_t, x_items_l, x_tru_n, x_tru_b, x_tru_i, x_tru_t, x_tru_l, x_asB, x_is_n, x_isNot_n, isNon_n, isNon_i, isNon_s, isNon_t, isNon_l, isNon_b, Bool.not_true, Bool.not_false, List.length_map, fnE, startE, B_law_4, h1, h2, n]
theorem form_ok : okN 60 (.str "form") = true := by rw [ok_str]; decide +kernel
theorem lw3_step (hl : ds.length = 90) (hb : base.length ≤ 60) (hg : goal.length ≤ 60) (ob : ∀ x ∈ base, x < 256) (og : ∀ x ∈ goal, x < 256) (P : List Nat) (hP : P.length = goal.length + 1) (k : Nat) (hk : k < 4) :
    B_law_3 [a0, some (.lst (ds.map dN)), some (dN k), some (rowD base), some (rowD goal), a5, a6, some (stD base goal), some (rowD P), a9, a10, a11, a12, none, a14, a15, none, a17, none, a19, a20, a21, a22] = .next [a0, some (.lst (ds.map dN)), some (dN k), some (rowD base), some (rowD goal), a5, a6, some (stD base goal), some (rowD P), a9, a10, a11, a12, none, a14, a15, none, a17, none, a19, a20, a21, a22] := by
  have i46 := dr_add (ds := ds) (c := 46) (k := k) (by omega)
  have i50 := dr_add (ds := ds) (c := 50) (k := k) (by omega)
  generalize ds.getD (46 + k) 0 = d46 at i46
  generalize ds.getD (50 + k) 0 = d50 at i50
  generalize D.lst (ds.map dN) = DS at *
  have i46 : dIx DS (.int ((46 : Int) + (k : Int))) = .ok (dN d46) := i46
  have i50 : dIx DS (.int ((50 : Int) + (k : Int))) = .ok (dN d50) := i50
  have lP := row_len P
  have pP : (0 : Int) < (P.length : Int) := by omega
  have e46 : (d46 : Int) % (P.length : Int) = ((d46 % P.length : Nat) : Int) := by simp
  have ha : d46 % P.length < P.length := Nat.mod_lt _ (by omega)
  generalize d46 % P.length = at_ at e46 ha
  have e50 : (d50 : Int) % 6 = ((d50 % 6 : Nat) : Int) := by omega
  have h6 : d50 % 6 < 6 := Nat.mod_lt _ (by omega)
  generalize d50 % 6 = j at e50 h6
  have iP : dIx (rowD P) (dN at_) = .ok (dN (P.getD at_ 0)) := q_ix (goal := goal) hP (by omega)
  generalize P.getD at_ 0 = v at iP
  have c1 : cut (P.map dN) none (some (at_ : Int)) = (P.take at_).map dN := by rw [List.map_take]; exact cut_hi (P.map dN) at_
  have c2 : cut (P.map dN) (some ((at_ : Int) + 1)) none = (P.drop (at_ + 1)).map dN := by rw [List.map_drop]; exact cut_lo (P.map dN) (at_ + 1)
  have hmax : fMax [.int 0, .int ((v : Int) - 1)] = .ok (dN (v - 1)) := by
    show Res.ok (D.int (if (v : Int) - 1 > 0 then (v : Int) - 1 else 0)) = _
    congr 2
    split <;> omega
  obtain ⟨x, ix, hx⟩ := ixL6 (v + 1) (v - 1) (v + 4) j h6
  have ix : dIx (.lst [.int ((v : Int) + 1), dN (v - 1), .non, .bl true, .int (-1), .int ((v : Int) + 4)]) (.int (j : Nat)) = .ok x := ix
  have z1 : at_ + 1 ≤ 16777216 := by omega
  have lt1 : (P.take at_).length = at_ := by rw [List.length_take]; omega
  have z2 : ((P.take at_).map dN ++ [x]).length + ((P.drop (at_ + 1)).map dN).length ≤ 16777216 := by simp; omega
  have z0 : (P.take at_).length + 1 ≤ 16777216 := by omega
  have z3 : (P.take at_).length + 1 + (P.drop (at_ + 1)).length ≤ 16777216 := by rw [List.length_drop]; omega
  have s0 : Lt0 [a0, some DS, some (dN k), some (rowD base), some (rowD goal), a5, a6, some (stD base goal), some (rowD P), a9, a10, a11, a12, none, a14, a15, none, a17, none, a19, a20, a21, a22] = .next [a0, some DS, some (dN k), some (rowD base), some (rowD goal), a5, a6, some (stD base goal), some (rowD P), a9, a10, a11, a12, some (dN at_), a14, a15, none, a17, none, a19, a20, a21, a22] := by
    generalize stD base goal = ST
    simp only [sSeq_x, x_sSet, x_sIf, x_sRet, x_sRetN, x_sPar, x_sUnp, resF_ok, x_sDrop, x_sNext, x_sBreak, x_sCont, x_sRaise, x_sAug, augK_ok, x_sFor, x_sWhile, sKill_x, x_wipe0, x_wipe1, x_evL0, x_evL1, x_setL0, x_setL1, x_eVar, x_eC, x_eOp, x_eUn, x_eCall, x_eMS, x_asStr, x_aNil, x_aCons, x_eTup, x_eLst, x_eIf, x_eNot, x_eAnd, x_eOr, x_bAnd, x_bOr, x_bNot, x_bYes, x_eSl, x_oNone, x_oSome, asI_int, x_iSeq, x_iCall, x_gfName, x_gfTup, eLc, noX_is, Res.bind_ok, Res.bind_exc, flow_ok, flow_exc, seqK_next, seqK_ret, seqK_exc, seqK_brk, seqK_cont, loopK_next, loopK_cont, loopK_brk, loopK_ret, loopK_exc, must_ok, List.set_cons_succ, List.set_cons_zero, List.getD_cons_succ, List.getD_cons_zero, vD_some, if_true, if_false, Bool.false_eq_true, reduceIte, List.map_cons, List.map_nil, List.length_cons, List.length_nil, List.cons_append, List.nil_append, List.replicate, Nat.reduceSub, Nat.reduceAdd, x_add, x_sub, x_cmp, x_eq_ii, x_ne_ii, x_int_i, x_len_t, x_len_l, x_tup_l, x_tup_t, x_list_l, x_list_t, x_dSl_t, x_dSl_l, x_items_t, x_items_l, x_tru_n, x_tru_b, x_tru_i, x_tru_t, x_tru_l, x_asB, x_is_n, x_isNot_n, isNon_n, isNon_i, isNon_s, isNon_t, isNon_l, isNon_b, Bool.not_true, Bool.not_false, List.length_map, fnE, startE, Lt0, i46, lP, x_mod _ _ pP, e46]
  have s1 : Lt1 [a0, some DS, some (dN k), some (rowD base), some (rowD goal), a5, a6, some (stD base goal), some (rowD P), a9, a10, a11, a12, some (dN at_), a14, a15, none, a17, none, a19, a20, a21, a22] = .next [a0, some DS, some (dN k), some (rowD base), some (rowD goal), a5, a6, some (stD base goal), some (rowD P), a9, a10, a11, a12, some (dN at_), a14, a15, none, a17, some (.tup ((P.take at_).map dN ++ [x] ++ (P.drop (at_ + 1)).map dN)), a19, a20, a21, a22] := by
    generalize stD base goal = ST
    simp only [sSeq_x, x_sSet, x_sIf, x_sRet, x_sRetN, x_sPar, x_sUnp, resF_ok, x_sDrop, x_sNext, x_sBreak, x_sCont, x_sRaise, x_sAug, augK_ok, x_sFor, x_sWhile, sKill_x, x_wipe0, x_wipe1, x_evL0, x_evL1, x_setL0, x_setL1, x_eVar, x_eC, x_eOp, x_eUn, x_eCall, x_eMS, x_asStr, x_aNil, x_aCons, x_eTup, x_eLst, x_eIf, x_eNot, x_eAnd, x_eOr, x_bAnd, x_bOr, x_bNot, x_bYes, x_eSl, x_oNone, x_oSome, asI_int, x_iSeq, x_iCall, x_gfName, x_gfTup, eLc, noX_is, Res.bind_ok, Res.bind_exc, flow_ok, flow_exc, seqK_next, seqK_ret, seqK_exc, seqK_brk, seqK_cont, loopK_next, loopK_cont, loopK_brk, loopK_ret, loopK_exc, must_ok, List.set_cons_succ, List.set_cons_zero, List.getD_cons_succ, List.getD_cons_zero, vD_some, if_true, if_false, Bool.false_eq_true, reduceIte, List.map_cons, List.map_nil, List.length_cons, List.length_nil, List.cons_append, List.nil_append, List.replicate, Nat.reduceSub, Nat.reduceAdd, x_add, x_sub, x_cmp, x_eq_ii, x_ne_ii, x_int_i, x_len_t, x_len_l, x_tup_l, x_tup_t, x_list_l, x_list_t, x_dSl_t, x_dSl_l, x_items_t, x_items_l, x_tru_n, x_tru_b, x_tru_i, x_tru_t, x_tru_l, x_asB, x_is_n, x_isNot_n, isNon_n, isNon_i, isNon_s, isNon_t, isNon_l, isNon_b, Bool.not_true, Bool.not_false, List.length_map, fnE, startE, Lt1, c1, c2, iP, hmax, neg1, i50, x_mod _ 6 (by decide), e50, ix, x_add_t, sl_eq, z0, z3, List.length_append]
  generalize hBT : D.tup ((P.take at_).map dN ++ [x] ++ (P.drop (at_ + 1)).map dN) = BT at s1
  have hbent : ∃ r, C_delta_prices_fault [rowD base, rowD goal, BT] = .ok r ∧ C__law_price_fault [stD base goal, BT] = .ok r ∧ okN 60 r = true := by
    subst hBT
    rcases hx with ⟨w, rfl⟩ | hbad
    · have e : (P.take at_).map dN ++ [dN w] ++ (P.drop (at_ + 1)).map dN = (P.take at_ ++ [w] ++ P.drop (at_ + 1)).map dN := by simp
      rw [e]
      have hq : (P.take at_ ++ [w] ++ P.drop (at_ + 1)).length = goal.length + 1 := by simp; omega
      exact ⟨_, dpf_ok hb hg ob og hq, lpf_ok hg hq, pf_okN _ _ _⟩
    · have e : (P.take at_).map dN ++ [x] ++ (P.drop (at_ + 1)).map dN = (P.take at_).map dN ++ x :: (P.drop (at_ + 1)).map dN := by simp
      rw [e]
      have hq : (P.take at_).length + 1 + (P.drop (at_ + 1)).length = goal.length + 1 := by rw [List.length_drop]; omega
      exact ⟨_, dpf_m hb hg ob og hbad _ _ hq, lpf_m hbad _ _ hq, form_ok⟩
  have hzero : (.tup (List.replicate P.length (.int 0)) : D) = rowD (List.replicate P.length 0) := by
    show _ = D.tup ((List.replicate P.length 0).map dN)
    rw [List.map_replicate]
    rfl
  have hrep : dMulT (.tup [.int 0]) (.int (P.length : Int)) = .ok (rowD (List.replicate P.length 0)) := by
    have fl : ∀ n : Nat, (List.replicate n [D.int 0]).flatten = List.replicate n (.int 0) := fun n => by
      induction n with
      | zero => rfl
      | succ n ih => rw [List.replicate_succ, List.flatten_cons, ih, List.replicate_succ]; rfl
    show (if 0 < [D.int 0].length ∧ [D.int 0].length ≤ 1000 ∧ 1 ≤ (P.length : Int) ∧ (P.length : Int) ≤ 1000 then Res.ok (D.tup (List.replicate ((P.length : Int)).toNat [D.int 0]).flatten) else .err) = _
    rw [if_pos ⟨by simp, by simp, by omega, by omega⟩, Int.toNat_natCast, fl, hzero]
  have hcl := cut_last (P.map dN)
  have hlist : fList [rowD P] = .ok (.lst (P.map dN)) := rfl
  generalize hZ : rowD (List.replicate P.length 0) = ZD at hrep
  generalize hLD : (P.map dN).dropLast = LD at hcl
  have k4 : ∀ b13 b18, forE (gfName 16) B_law_4 [BT, .tup LD, .lst (P.map dN), ZD] [a0, some DS, some (dN k), some (rowD base), some (rowD goal), a5, a6, some (stD base goal), some (rowD P), a9, a10, a11, a12, b13, a14, a15, none, a17, b18, a19, a20, a21, a22] = .next [a0, some DS, some (dN k), some (rowD base), some (rowD goal), a5, a6, some (stD base goal), some (rowD P), a9, a10, a11, a12, b13, a14, a15, none, a17, b18, a19, a20, a21, a22] := fun b13 b18 => for_keep fun d hd => by
    simp only [List.mem_cons, List.not_mem_nil, or_false] at hd
    rcases hd with rfl | rfl | rfl | rfl
    · obtain ⟨r, r1, r2, r3⟩ := hbent
      exact ⟨_, rfl, law4 r1 r2 r3⟩
    · have hq : LD.length ≠ goal.length + 1 := by rw [← hLD, List.length_dropLast, List.length_map]; omega
      exact ⟨_, rfl, law4 (dpf_n hb hg ob og _ hq) (lpf_n _ hq) form_ok⟩
    · exact ⟨_, rfl, law4 (dpf_l hb hg ob og _) (lpf_l _ _) form_ok⟩
    · rw [← hZ]
      have hq : (List.replicate P.length 0).length = goal.length + 1 := by rw [List.length_replicate, hP]
      exact ⟨_, rfl, law4 (dpf_ok hb hg ob og hq) (lpf_ok hg hq) (pf_okN _ _ _)⟩
  rw [Lt_eq]
  generalize stD base goal = ST at *
  simp only [sSeq_x, x_sSet, x_sIf, x_sRet, x_sRetN, x_sPar, x_sUnp, resF_ok, x_sDrop, x_sNext, x_sBreak, x_sCont, x_sRaise, x_sAug, augK_ok, x_sFor, x_sWhile, sKill_x, x_wipe0, x_wipe1, x_evL0, x_evL1, x_setL0, x_setL1, x_eVar, x_eC, x_eOp, x_eUn, x_eCall, x_eMS, x_asStr, x_aNil, x_aCons, x_eTup, x_eLst, x_eIf, x_eNot, x_eAnd, x_eOr, x_bAnd, x_bOr, x_bNot, x_bYes, x_eSl, x_oNone, x_oSome, asI_int, x_iSeq, x_iCall, x_gfName, x_gfTup, eLc, noX_is, Res.bind_ok, Res.bind_exc, flow_ok, flow_exc, seqK_next, seqK_ret, seqK_exc, seqK_brk, seqK_cont, loopK_next, loopK_cont, loopK_brk, loopK_ret, loopK_exc, must_ok, List.set_cons_succ, List.set_cons_zero, List.getD_cons_succ, List.getD_cons_zero, vD_some, if_true, if_false, Bool.false_eq_true, reduceIte, List.map_cons, List.map_nil, List.length_cons, List.length_nil, List.cons_append, List.nil_append, List.replicate, Nat.reduceSub, Nat.reduceAdd, x_add, x_sub, x_cmp, x_eq_ii, x_ne_ii, x_int_i, x_len_t, x_len_l, x_tup_l, x_tup_t, x_list_l, x_list_t, x_dSl_t, x_dSl_l, x_items_t, x_items_l, x_tru_n, x_tru_b, x_tru_i, x_tru_t, x_tru_l, x_asB, x_is_n, x_isNot_n, isNon_n, isNon_i, isNon_s, isNon_t, isNon_l, isNon_b, Bool.not_true, Bool.not_false, List.length_map, fnE, startE, s0, s1, Lt2, neg1, hcl, hlist, lP, hrep, k4]
end
def Lw0 : SF := (sSet 1 (eCall C__law_draws (aCons (eVar 0) (aCons (eC (.int 90)) aNil))))
def Lw1 : SF := (sSet 3 (eCall fTuple (aCons (eLc (iCall dRng1 (aCons (eOp dMod (eCall fInt (aCons (eOp dIx (eVar 1) (eC (.int 0))) aNil)) (eC (.int 13))) aNil)) [2] (gfName 2) bYes (eOp dMod (eCall fInt (aCons (eOp dIx (eVar 1) (eOp dAdd (eC (.int 1)) (eVar 2))) aNil)) (eC (.int 3)))) aNil)))
def Lw2 : SF := (sSet 4 (eCall fTuple (aCons (eLc (iCall dRng1 (aCons (eOp dMod (eCall fInt (aCons (eOp dIx (eVar 1) (eC (.int 14))) aNil)) (eC (.int 13))) aNil)) [2] (gfName 2) bYes (eOp dMod (eCall fInt (aCons (eOp dIx (eVar 1) (eOp dAdd (eC (.int 15)) (eVar 2))) aNil)) (eC (.int 3)))) aNil)))
def Lw3 : SF := (sIf (eUn asB (eOp (dEq) (eOp dMod (eCall fInt (aCons (eOp dIx (eVar 1) (eC (.int 28))) aNil)) (eC (.int 2))) (eC (.int 0)))) (sSeq (sPar [5, 6] [(eOp dMod (eCall fInt (aCons (eOp dIx (eVar 1) (eC (.int 29))) aNil)) (eOp dAdd (eCall fLen (aCons (eVar 3) aNil)) (eC (.int 1)))), (eOp dMod (eCall fInt (aCons (eOp dIx (eVar 1) (eC (.int 30))) aNil)) (eOp dAdd (eCall fLen (aCons (eVar 3) aNil)) (eC (.int 1))))])
  (sSet 4 (eSl (eOp dAdd (eOp dAdd (eSl (eVar 3) (oSome (eVar 5)) oNone) (eSl (eVar 4) oNone (oSome (eOp dMod (eCall fInt (aCons (eOp dIx (eVar 1) (eC (.int 31))) aNil)) (eC (.int 3)))))) (eSl (eVar 3) (oSome (eVar 6)) oNone)) oNone (oSome (eC (.int 14)))))) sNext)
def Lw4 : SF := (sSet 7 (eCall C__law_steps (aCons (eVar 3) (aCons (eVar 4) aNil))))
def Lw5 : SF := (sSet 8 (eCall C__law_prices (aCons (eVar 7) aNil)))
def Lw6 : SF := (sUnp (gfTup [9, 10, 11]) (eCall C_least_delta (aCons (eVar 3) (aCons (eVar 4) aNil))))
def Lw7 : SF := (sIf (bOr (eUn asB (eOp (dNe) (eVar 9) (eOp dIx (eVar 8) (eC (.int 0))))) (bOr (eUn asB (eOp (dNe) (eVar 11) (eVar 8))) (bOr (eUn asB (eOp (dIsNot) (eCall C__law_fault (aCons (eVar 3) (aCons (eVar 10) aNil))) (eC .non))) (bOr (eUn asB (eOp (dNe) (eCall C__law_made (aCons (eVar 3) (aCons (eVar 10) aNil))) (eVar 4))) (eUn asB (eOp (dNe) (eCall fSum (aCons (eLc (iSeq (eVar 10)) [22] (gfName 22) bYes (eCall C__law_cost (aCons (eVar 22) aNil))) aNil)) (eVar 9))))))) (sRet (eC (.bl false))) sNext)
def Lw8 : SF := (sIf (bOr (eUn asB (eOp (dNe) (eCall C_made (aCons (eVar 3) (aCons (eVar 10) aNil))) (eVar 4))) (bOr (eUn asB (eOp (dNe) (eCall C_cost_of (aCons (eVar 10) aNil)) (eVar 9))) (bOr (eUn asB (eOp (dIsNot) (eCall C_delta_fault (aCons (eVar 3) (aCons (eVar 10) aNil))) (eC .non))) (eUn asB (eOp (dIsNot) (eCall C_delta_prices_fault (aCons (eVar 3) (aCons (eVar 4) (aCons (eVar 11) aNil)))) (eC .non)))))) (sRet (eC (.bl false))) sNext)
def Lw9 : SF := (sSet 12 (eC (.lst [])))
def Lw10 : SF := (sFor (iCall dRng1 (aCons (eOp dMod (eCall fInt (aCons (eOp dIx (eVar 1) (eC (.int 32))) aNil)) (eC (.int 4))) aNil)) (gfName 2)
  B_law_1)
def Lw11 : SF := (sFor (iSeq (eTup (aCons (eCall fTuple (aCons (eVar 12) aNil)) (aCons (eOp dAdd (eVar 10) (eCall fTuple (aCons (eVar 12) aNil))) (aCons (eCall fList (aCons (eVar 10) aNil)) (aCons (eSl (eVar 10) (oSome (eC (.int 1))) oNone) aNil)))))) (gfName 16)
  B_law_2)
def Lw12 : SF := (sFor (iCall dRng1 (aCons (eC (.int 4)) aNil)) (gfName 2)
  B_law_3)
def Lw13 : SF := (sFor (iSeq (eTup (aCons (eC .non) (aCons (eLst (aCons (eC (.int 1)) aNil)) (aCons (eTup (aCons (eC (.int 256)) aNil)) (aCons (eTup (aCons (eC (.bl true)) aNil)) aNil)))))) (gfName 19)
  B_law_5)
def Lw14 : SF := (sSet 20 (eCall fTuple (aCons (eLc (iCall dRng1 (aCons (eC (.int 300)) aNil)) [2] (gfName 2) bYes (eOp dMod (eVar 2) (eC (.int 251)))) aNil)))
def Lw15 : SF := (sIf (bOr (eUn asB (eOp (dNe) (eCall C_cost_of (aCons (eTup (aCons (eTup (aCons (eC (.str "copy")) (aCons (eC (.int 200)) (aCons (eC (.int 90)) aNil)))) (aCons (eTup (aCons (eC (.str "put")) (aCons (eSl (eVar 20) oNone (oSome (eC (.int 130)))) aNil))) aNil))) aNil)) (eOp dAdd (eOp dAdd (eOp dAdd (eOp dAdd (eOp dAdd (eC (.int 1)) (eC (.int 2))) (eC (.int 1))) (eC (.int 1))) (eC (.int 2))) (eC (.int 130))))) (eUn asB (eOp (dNe) (eCall C_made (aCons (eVar 20) (aCons (eTup (aCons (eTup (aCons (eC (.str "copy")) (aCons (eC (.int 200)) (aCons (eC (.int 90)) aNil)))) aNil)) aNil))) (eSl (eVar 20) (oSome (eC (.int 200))) (oSome (eC (.int 290))))))) (sRet (eC (.bl false))) sNext)
def Lw16 : SF := (sRet (eOp (dEq) (eOp dAdd (eLc (iSeq (eTup (aCons (eC (.int 3)) (aCons (eC (.int 4)) aNil)))) [21] (gfName 21) bYes (eCall C__law_error (aCons (eVar 21) (aCons (eOp dMulT (eTup (aCons (eC (.int 0)) aNil)) (eC (.int 61))) (aCons (eTup aNil) (aCons (eTup aNil) aNil)))))) (eLc (iSeq (eTup (aCons (eC (.int 3)) (aCons (eC (.int 4)) aNil)))) [21] (gfName 21) bYes (eCall C__law_error (aCons (eVar 21) (aCons (eTup aNil) (aCons (eOp dMulT (eTup (aCons (eC (.int 0)) aNil)) (eC (.int 61))) (aCons (eTup aNil) aNil))))))) (eOp dRep (eLst (aCons (eC (.str "many")) aNil)) (eC (.int 4)))))
theorem Lw_eq : F_law = (sSeq Lw0 (sSeq Lw1 (sSeq Lw2 (sSeq Lw3 (sSeq Lw4 (sSeq Lw5 (sSeq Lw6 (sSeq Lw7 (sSeq Lw8 (sSeq Lw9 (sSeq Lw10 (sKill [13, 14, 15] (sSeq Lw11 (sKill [16, 17] (sSeq Lw12 (sKill [13, 16, 18] (sSeq Lw13 (sKill [19] (sSeq Lw14 (sSeq Lw15 Lw16)))))))))))))))))))) := rfl
/-! ### wrong rows -/
abbrev bads5 : List D := [.non, .lst [.int 1], .tup [.int 256], .tup [.bl true]]
theorem oct_err (d : D) (h : d ∈ bads5) : (∀ c ∈ ([0, 1, 3, 4] : List Int), C__law_error [.int c, d, .tup [], .non] = .ok (.str "octets")) ∧ ∀ c ∈ ([3, 4] : List Int), C__law_error [.int c, .tup [], d, .non] = .ok (.str "octets") := by
  simp only [bads5, List.mem_cons, List.not_mem_nil, or_false] at h
  constructor
  · intro c hc
    simp only [List.mem_cons, List.not_mem_nil, or_false] at hc
    rcases h with rfl | rfl | rfl | rfl <;> rcases hc with rfl | rfl | rfl | rfl <;> kernel_rfl
  · intro c hc
    simp only [List.mem_cons, List.not_mem_nil, or_false] at hc
    rcases h with rfl | rfl | rfl | rfl <;> rcases hc with rfl | rfl <;> kernel_rfl
theorem rep_s (w : Str) : dRep (.lst [.str w]) (.int 4) = .ok (.lst [.str w, .str w, .str w, .str w]) ∧ dRep (.lst [.str w]) (.int 2) = .ok (.lst [.str w, .str w]) := ⟨rfl, rfl⟩
theorem ne_oct : dNe (.lst [.str "octets", .str "octets", .str "octets", .str "octets"]) (.lst [.str "octets", .str "octets", .str "octets", .str "octets"]) = .ok (.bl false) ∧ dNe (.lst [.str "octets", .str "octets"]) (.lst [.str "octets", .str "octets"]) = .ok (.bl false) := ⟨by kernel_rfl, by kernel_rfl⟩
section
variable {a0 a1 a2 a3 a4 a5 a6 a7 a8 a9 a10 a11 a12 a13 a14 a15 a16 a17 a18 a20 a22 : Option D}
theorem law5 (d : D) (h : d ∈ bads5) : B_law_5 [a0, a1, a2, a3, a4, a5, a6, a7, a8, a9, a10, a11, a12, a13, a14, a15, a16, a17, a18, some d, a20, none, a22] = .next [a0, a1, a2, a3, a4, a5, a6, a7, a8, a9, a10, a11, a12, a13, a14, a15, a16, a17, a18, none, a20, none, a22] := by
  obtain ⟨h1, h2⟩ := oct_err d h
  have b1 : lcE (gfName 21) bYes (eCall C__law_error (aCons (eVar 21) (aCons (eVar 19) (aCons (eTup aNil) (aCons (eC .non) aNil))))) [a0, a1, a2, a3, a4, a5, a6, a7, a8, a9, a10, a11, a12, a13, a14, a15, a16, a17, a18, some d, a20, none, a22] [.int 0, .int 1, .int 3, .int 4] = .ok [.str "octets", .str "octets", .str "octets", .str "octets"] := lc_fun (e := fun i : Int => D.int i) (g := fun _ => .str "octets") (xs := [0, 1, 3, 4]) fun c hc => ⟨_, rfl, by
    have := h1 c hc
    simp only [sSeq_x, x_sSet, x_sIf, x_sRet, x_sRetN, x_sPar, x_sUnp, resF_ok, x_sDrop, x_sNext, x_sBreak, x_sCont, x_sRaise, x_sAug, augK_ok, x_sFor, x_sWhile, sKill_x, x_wipe0, x_wipe1, x_evL0, x_evL1, x_setL0, x_setL1, x_eVar, x_eC, x_eOp, x_eUn, x_eCall, x_eMS, x_asStr, x_aNil, x_aCons, x_eTup, x_eLst, x_eIf, x_eNot, x_eAnd, x_eOr, x_bAnd, x_bOr, x_bNot, x_bYes, x_eSl, x_oNone, x_oSome, asI_int, x_iSeq, x_iCall, x_gfName, x_gfTup, eLc, noX_is, Res.bind_ok, Res.bind_exc, flow_ok, flow_exc, seqK_next, seqK_ret, seqK_exc, seqK_brk, seqK_cont, loopK_next, loopK_cont, loopK_brk, loopK_ret, loopK_exc, must_ok, List.set_cons_succ, List.set_cons_zero, List.getD_cons_succ, List.getD_cons_zero, vD_some, if_true, if_false, Bool.false_eq_true, reduceIte, List.map_cons, List.map_nil, List.length_cons, List.length_nil, List.cons_append, List.nil_append, List.replicate, Nat.reduceSub, Nat.reduceAdd, x_add, x_sub, x_cmp, x_eq_ii, x_ne_ii, x_int_i, x_len_t, x_len_l, x_tup_l, x_tup_t, x_list_l, x_list_t, x_dSl_t, x_dSl_l, x_items_t, x_items_l, x_tru_n, x_tru_b, x_tru_i, x_tru_t, x_tru_l, x_asB, x_is_n, x_isNot_n, isNon_n, isNon_i, isNon_s, isNon_t, isNon_l, isNon_b, Bool.not_true, Bool.not_false, List.length_map, fnE, startE, this]⟩
  have b2 : lcE (gfName 21) bYes (eCall C__law_error (aCons (eVar 21) (aCons (eTup aNil) (aCons (eVar 19) (aCons (eC .non) aNil))))) [a0, a1, a2, a3, a4, a5, a6, a7, a8, a9, a10, a11, a12, a13, a14, a15, a16, a17, a18, some d, a20, none, a22] [.int 3, .int 4] = .ok [.str "octets", .str "octets"] := lc_fun (e := fun i : Int => D.int i) (g := fun _ => .str "octets") (xs := [3, 4]) fun c hc => ⟨_, rfl, by
    have := h2 c hc
    simp only [sSeq_x, x_sSet, x_sIf, x_sRet, x_sRetN, x_sPar, x_sUnp, resF_ok, x_sDrop, x_sNext, x_sBreak, x_sCont, x_sRaise, x_sAug, augK_ok, x_sFor, x_sWhile, sKill_x, x_wipe0, x_wipe1, x_evL0, x_evL1, x_setL0, x_setL1, x_eVar, x_eC, x_eOp, x_eUn, x_eCall, x_eMS, x_asStr, x_aNil, x_aCons, x_eTup, x_eLst, x_eIf, x_eNot, x_eAnd, x_eOr, x_bAnd, x_bOr, x_bNot, x_bYes, x_eSl, x_oNone, x_oSome, asI_int, x_iSeq, x_iCall, x_gfName, x_gfTup, eLc, noX_is, Res.bind_ok, Res.bind_exc, flow_ok, flow_exc, seqK_next, seqK_ret, seqK_exc, seqK_brk, seqK_cont, loopK_next, loopK_cont, loopK_brk, loopK_ret, loopK_exc, must_ok, List.set_cons_succ, List.set_cons_zero, List.getD_cons_succ, List.getD_cons_zero, vD_some, if_true, if_false, Bool.false_eq_true, reduceIte, List.map_cons, List.map_nil, List.length_cons, List.length_nil, List.cons_append, List.nil_append, List.replicate, Nat.reduceSub, Nat.reduceAdd, x_add, x_sub, x_cmp, x_eq_ii, x_ne_ii, x_int_i, x_len_t, x_len_l, x_tup_l, x_tup_t, x_list_l, x_list_t, x_dSl_t, x_dSl_l, x_items_t, x_items_l, x_tru_n, x_tru_b, x_tru_i, x_tru_t, x_tru_l, x_asB, x_is_n, x_isNot_n, isNon_n, isNon_i, isNon_s, isNon_t, isNon_l, isNon_b, Bool.not_true, Bool.not_false, List.length_map, fnE, startE, this]⟩
  simp only [sSeq_x, x_sSet, x_sIf, x_sRet, x_sRetN, x_sPar, x_sUnp, resF_ok, x_sDrop, x_sNext, x_sBreak, x_sCont, x_sRaise, x_sAug, augK_ok, x_sFor, x_sWhile, sKill_x, x_wipe0, x_wipe1, x_evL0, x_evL1, x_setL0, x_setL1, x_eVar, x_eC, x_eOp, x_eUn, x_eCall, x_eMS, x_asStr, x_aNil, x_aCons, x_eTup, x_eLst, x_eIf, x_eNot, x_eAnd, x_eOr, x_bAnd, x_bOr, x_bNot, x_bYes, x_eSl, x_oNone, x_oSome, asI_int, x_iSeq, x_iCall, x_gfName, x_gfTup, eLc, noX_is, Res.bind_ok, Res.bind_exc, flow_ok, flow_exc, seqK_next, seqK_ret, seqK_exc, seqK_brk, seqK_cont, loopK_next, loopK_cont, loopK_brk, loopK_ret, loopK_exc, must_ok, List.set_cons_succ, List.set_cons_zero, List.getD_cons_succ, List.getD_cons_zero, vD_some, if_true, if_false, Bool.false_eq_true, reduceIte, List.map_cons, List.map_nil, List.length_cons, List.length_nil, List.cons_append, List.nil_append, List.replicate, Nat.reduceSub, Nat.reduceAdd, x_add, x_sub, x_cmp, x_eq_ii, x_ne_ii, x_int_i, x_len_t, x_len_l, x_tup_l, x_tup_t, x_list_l, x_list_t, x_dSl_t, x_dSl_l, x_items_t, x_items_l, x_tru_n, x_tru_b, x_tru_i, x_tru_t, x_tru_l, x_asB, x_is_n, x_isNot_n, isNon_n, isNon_i, isNon_s, isNon_t, isNon_l, isNon_b, Bool.not_true, Bool.not_false, List.length_map, fnE, startE, B_law_5, b1, b2, rep_s, ne_oct]
end
/-! ### far -/
def far : List Nat := (List.range 300).map fun k => k % 251
theorem far_len : far.length = 300 := by unfold far; rw [List.length_map, List.length_range]
theorem far_oct : ∀ x ∈ far, x < 256 := fun x hx => by
  obtain ⟨k, _, rfl⟩ := List.mem_map.mp hx
  have := Nat.mod_lt k (show 251 > 0 by omega)
  omega
theorem enc_c : (enc 200).length = 2 ∧ (enc 90).length = 1 ∧ (enc 130).length = 2 := by
  refine ⟨?_, ?_, ?_⟩
  · rw [enc_ge (by omega), enc_lt (by omega)]; rfl
  · rw [enc_lt (by omega)]; rfl
  · rw [enc_ge (by omega), enc_lt (by omega)]; rfl
theorem far_cost : C_cost_of [.tup [.tup [.str "copy", .int 200, .int 90], .tup [.str "put", .tup ((far.take 130).map dN)]]] = .ok (.int 137) := by
  have hl : (far.take 130).length = 130 := by rw [List.length_take, far_len]; rfl
  have c := cost_ok [.cp 200 90, .pt (far.take 130)] (fun p hp => by
    simp only [List.mem_cons, List.not_mem_nil, or_false] at hp
    rcases hp with rfl | rfl
    · exact ⟨by omega, by omega⟩
    · show (far.take 130).length < 10000
      omega) fun p hp => by
    simp only [List.mem_cons, List.not_mem_nil, or_false] at hp
    rcases hp with rfl | rfl
    · rfl
    · show (decide (0 < (far.take 130).length) && (far.take 130).all fun x => decide (x < 256)) = true
      rw [hl, List.all_eq_true.mpr fun x hx => decide_eq_true (far_oct x (List.mem_of_mem_take hx))]
      rfl
  have e : (([Pc.cp 200 90, Pc.pt (far.take 130)] : List Pc).map Pc.cost).sum = 137 := by
    show cCp 200 90 + (cPt (far.take 130).length + 0) = 137
    unfold cCp cPt
    rw [hl, enc_c.1, enc_c.2.1, enc_c.2.2]
  rw [e] at c
  exact c
theorem far_made : C_made [rowD far, .tup [.tup [.str "copy", .int 200, .int 90]]] = .ok (rowD ((far.drop 200).take 90)) := by
  have m := made_ok (base := far) far_oct [.cp 200 90] (fun p hp => by rw [List.mem_singleton.mp hp]; rfl) (fun p hp => by
    rw [List.mem_singleton.mp hp]
    show decide (200 + 90 ≤ far.length) = true
    rw [far_len]
    rfl) (by
    show ((far.drop 200).take 90 ++ []).length ≤ _
    rw [List.append_nil, List.length_take]
    omega)
  have e : ([Pc.cp 200 90] : List Pc).flatMap (Pc.mk far) = (far.drop 200).take 90 := List.append_nil _
  rw [e] at m
  exact m
abbrev Z61 : D := .tup (List.replicate 61 (.int 0))
theorem many_err : (∀ c ∈ ([3, 4] : List Int), C__law_error [.int c, Z61, .tup [], .tup []] = .ok (.str "many")) ∧ ∀ c ∈ ([3, 4] : List Int), C__law_error [.int c, .tup [], Z61, .tup []] = .ok (.str "many") := by
  constructor
  · intro c hc
    simp only [List.mem_cons, List.not_mem_nil, or_false] at hc
    rcases hc with rfl | rfl <;> kernel_rfl
  · intro c hc
    simp only [List.mem_cons, List.not_mem_nil, or_false] at hc
    rcases hc with rfl | rfl <;> kernel_rfl
theorem rep61 : dMulT (.tup [.int 0]) (.int 61) = .ok Z61 := rfl
theorem eq_many : dEq (.lst [.str "many", .str "many", .str "many", .str "many"]) (.lst [.str "many", .str "many", .str "many", .str "many"]) = .ok (.bl true) := by kernel_rfl
section
variable {a0 a1 a2 a3 a4 a5 a6 a7 a8 a9 a10 a11 a12 a13 a14 a15 a16 a17 a18 a19 a20 a22 : Option D}
theorem lw16 : Lw16 [a0, a1, a2, a3, a4, a5, a6, a7, a8, a9, a10, a11, a12, a13, a14, a15, a16, a17, a18, a19, a20, none, a22] = .ret (.bl true) := by
  obtain ⟨h1, h2⟩ := many_err
  have hr := rep61
  generalize Z61 = Z at *
  have b1 : lcE (gfName 21) bYes (eCall C__law_error (aCons (eVar 21) (aCons (eOp dMulT (eTup (aCons (eC (.int 0)) aNil)) (eC (.int 61))) (aCons (eTup aNil) (aCons (eTup aNil) aNil))))) [a0, a1, a2, a3, a4, a5, a6, a7, a8, a9, a10, a11, a12, a13, a14, a15, a16, a17, a18, a19, a20, none, a22] [.int 3, .int 4] = .ok [.str "many", .str "many"] := lc_fun (e := fun i : Int => D.int i) (g := fun _ => .str "many") (xs := [3, 4]) fun c hc => ⟨_, rfl, by
    have := h1 c hc
    simp only [sSeq_x, x_sSet, x_sIf, x_sRet, x_sRetN, x_sPar, x_sUnp, resF_ok, x_sDrop, x_sNext, x_sBreak, x_sCont, x_sRaise, x_sAug, augK_ok, x_sFor, x_sWhile, sKill_x, x_wipe0, x_wipe1, x_evL0, x_evL1, x_setL0, x_setL1, x_eVar, x_eC, x_eOp, x_eUn, x_eCall, x_eMS, x_asStr, x_aNil, x_aCons, x_eTup, x_eLst, x_eIf, x_eNot, x_eAnd, x_eOr, x_bAnd, x_bOr, x_bNot, x_bYes, x_eSl, x_oNone, x_oSome, asI_int, x_iSeq, x_iCall, x_gfName, x_gfTup, eLc, noX_is, Res.bind_ok, Res.bind_exc, flow_ok, flow_exc, seqK_next, seqK_ret, seqK_exc, seqK_brk, seqK_cont, loopK_next, loopK_cont, loopK_brk, loopK_ret, loopK_exc, must_ok, List.set_cons_succ, List.set_cons_zero, List.getD_cons_succ, List.getD_cons_zero, vD_some, if_true, if_false, Bool.false_eq_true, reduceIte, List.map_cons, List.map_nil, List.length_cons, List.length_nil, List.cons_append, List.nil_append, List.replicate, Nat.reduceSub, Nat.reduceAdd, x_add, x_sub, x_cmp, x_eq_ii, x_ne_ii, x_int_i, x_len_t, x_len_l, x_tup_l, x_tup_t, x_list_l, x_list_t, x_dSl_t, x_dSl_l, x_items_t, x_items_l, x_tru_n, x_tru_b, x_tru_i, x_tru_t, x_tru_l, x_asB, x_is_n, x_isNot_n, isNon_n, isNon_i, isNon_s, isNon_t, isNon_l, isNon_b, Bool.not_true, Bool.not_false, List.length_map, fnE, startE, hr, this]⟩
  have b2 : lcE (gfName 21) bYes (eCall C__law_error (aCons (eVar 21) (aCons (eTup aNil) (aCons (eOp dMulT (eTup (aCons (eC (.int 0)) aNil)) (eC (.int 61))) (aCons (eTup aNil) aNil))))) [a0, a1, a2, a3, a4, a5, a6, a7, a8, a9, a10, a11, a12, a13, a14, a15, a16, a17, a18, a19, a20, none, a22] [.int 3, .int 4] = .ok [.str "many", .str "many"] := lc_fun (e := fun i : Int => D.int i) (g := fun _ => .str "many") (xs := [3, 4]) fun c hc => ⟨_, rfl, by
    have := h2 c hc
    simp only [sSeq_x, x_sSet, x_sIf, x_sRet, x_sRetN, x_sPar, x_sUnp, resF_ok, x_sDrop, x_sNext, x_sBreak, x_sCont, x_sRaise, x_sAug, augK_ok, x_sFor, x_sWhile, sKill_x, x_wipe0, x_wipe1, x_evL0, x_evL1, x_setL0, x_setL1, x_eVar, x_eC, x_eOp, x_eUn, x_eCall, x_eMS, x_asStr, x_aNil, x_aCons, x_eTup, x_eLst, x_eIf, x_eNot, x_eAnd, x_eOr, x_bAnd, x_bOr, x_bNot, x_bYes, x_eSl, x_oNone, x_oSome, asI_int, x_iSeq, x_iCall, x_gfName, x_gfTup, eLc, noX_is, Res.bind_ok, Res.bind_exc, flow_ok, flow_exc, seqK_next, seqK_ret, seqK_exc, seqK_brk, seqK_cont, loopK_next, loopK_cont, loopK_brk, loopK_ret, loopK_exc, must_ok, List.set_cons_succ, List.set_cons_zero, List.getD_cons_succ, List.getD_cons_zero, vD_some, if_true, if_false, Bool.false_eq_true, reduceIte, List.map_cons, List.map_nil, List.length_cons, List.length_nil, List.cons_append, List.nil_append, List.replicate, Nat.reduceSub, Nat.reduceAdd, x_add, x_sub, x_cmp, x_eq_ii, x_ne_ii, x_int_i, x_len_t, x_len_l, x_tup_l, x_tup_t, x_list_l, x_list_t, x_dSl_t, x_dSl_l, x_items_t, x_items_l, x_tru_n, x_tru_b, x_tru_i, x_tru_t, x_tru_l, x_asB, x_is_n, x_isNot_n, isNon_n, isNon_i, isNon_s, isNon_t, isNon_l, isNon_b, Bool.not_true, Bool.not_false, List.length_map, fnE, startE, hr, this]⟩
  have ad : dAdd (.lst [.str "many", .str "many"]) (.lst [.str "many", .str "many"]) = .ok (.lst [.str "many", .str "many", .str "many", .str "many"]) := rfl
  simp only [sSeq_x, x_sSet, x_sIf, x_sRet, x_sRetN, x_sPar, x_sUnp, resF_ok, x_sDrop, x_sNext, x_sBreak, x_sCont, x_sRaise, x_sAug, augK_ok, x_sFor, x_sWhile, sKill_x, x_wipe0, x_wipe1, x_evL0, x_evL1, x_setL0, x_setL1, x_eVar, x_eC, x_eOp, x_eUn, x_eCall, x_eMS, x_asStr, x_aNil, x_aCons, x_eTup, x_eLst, x_eIf, x_eNot, x_eAnd, x_eOr, x_bAnd, x_bOr, x_bNot, x_bYes, x_eSl, x_oNone, x_oSome, asI_int, x_iSeq, x_iCall, x_gfName, x_gfTup, eLc, noX_is, Res.bind_ok, Res.bind_exc, flow_ok, flow_exc, seqK_next, seqK_ret, seqK_exc, seqK_brk, seqK_cont, loopK_next, loopK_cont, loopK_brk, loopK_ret, loopK_exc, must_ok, List.set_cons_succ, List.set_cons_zero, List.getD_cons_succ, List.getD_cons_zero, vD_some, if_true, if_false, Bool.false_eq_true, reduceIte, List.map_cons, List.map_nil, List.length_cons, List.length_nil, List.cons_append, List.nil_append, List.replicate, Nat.reduceSub, Nat.reduceAdd, x_add, x_sub, x_cmp, x_eq_ii, x_ne_ii, x_int_i, x_len_t, x_len_l, x_tup_l, x_tup_t, x_list_l, x_list_t, x_dSl_t, x_dSl_l, x_items_t, x_items_l, x_tru_n, x_tru_b, x_tru_i, x_tru_t, x_tru_l, x_asB, x_is_n, x_isNot_n, isNon_n, isNon_i, isNon_s, isNon_t, isNon_l, isNon_b, Bool.not_true, Bool.not_false, List.length_map, fnE, startE, Lw16, b1, b2, ad, rep_s, eq_many]
theorem lw15 : Lw15 [a0, a1, a2, a3, a4, a5, a6, a7, a8, a9, a10, a11, a12, a13, a14, a15, a16, a17, a18, a19, some (rowD far), none, a22] = .next [a0, a1, a2, a3, a4, a5, a6, a7, a8, a9, a10, a11, a12, a13, a14, a15, a16, a17, a18, a19, some (rowD far), none, a22] := by
  have c := far_cost
  have m := far_made
  have c1 : cut (far.map dN) none (some 130) = (far.take 130).map dN := by rw [List.map_take]; exact cut_hi (far.map dN) 130
  have c2 : cut (far.map dN) (some 200) (some 290) = ((far.drop 200).take 90).map dN := by rw [List.map_take, List.map_drop]; exact cut_lh (far.map dN) 200 290
  have n1 : ((137 : Int) == 1 + 2 + 1 + 1 + 2 + 130) = true := by decide
  have n2 := r_ne ((far.drop 200).take 90)
  have n2 : dNe (.tup (((far.drop 200).take 90).map dN)) (.tup (((far.drop 200).take 90).map dN)) = .ok (.bl false) := n2
  have m : C_made [.tup (far.map dN), .tup [.tup [.str "copy", .int 200, .int 90]]] = .ok (.tup (((far.drop 200).take 90).map dN)) := m
  show Lw15 [a0, a1, a2, a3, a4, a5, a6, a7, a8, a9, a10, a11, a12, a13, a14, a15, a16, a17, a18, a19, some (.tup (far.map dN)), none, a22] = .next [a0, a1, a2, a3, a4, a5, a6, a7, a8, a9, a10, a11, a12, a13, a14, a15, a16, a17, a18, a19, some (.tup (far.map dN)), none, a22]
  generalize ((far.drop 200).take 90).map dN = G2 at *
  generalize (far.take 130).map dN = G1 at *
  generalize far.map dN = G0 at *
  simp only [sSeq_x, x_sSet, x_sIf, x_sRet, x_sRetN, x_sPar, x_sUnp, resF_ok, x_sDrop, x_sNext, x_sBreak, x_sCont, x_sRaise, x_sAug, augK_ok, x_sFor, x_sWhile, sKill_x, x_wipe0, x_wipe1, x_evL0, x_evL1, x_setL0, x_setL1, x_eVar, x_eC, x_eOp, x_eUn, x_eCall, x_eMS, x_asStr, x_aNil, x_aCons, x_eTup, x_eLst, x_eIf, x_eNot, x_eAnd, x_eOr, x_bAnd, x_bOr, x_bNot, x_bYes, x_eSl, x_oNone, x_oSome, asI_int, x_iSeq, x_iCall, x_gfName, x_gfTup, eLc, noX_is, Res.bind_ok, Res.bind_exc, flow_ok, flow_exc, seqK_next, seqK_ret, seqK_exc, seqK_brk, seqK_cont, loopK_next, loopK_cont, loopK_brk, loopK_ret, loopK_exc, must_ok, List.set_cons_succ, List.set_cons_zero, List.getD_cons_succ, List.getD_cons_zero, vD_some, if_true, if_false, Bool.false_eq_true, reduceIte, List.map_cons, List.map_nil, List.length_cons, List.length_nil, List.cons_append, List.nil_append, List.replicate, Nat.reduceSub, Nat.reduceAdd, x_add, x_sub, x_cmp, x_eq_ii, x_ne_ii, x_int_i, x_len_t, x_len_l, x_tup_l, x_tup_t, x_list_l, x_list_t, x_dSl_t, x_dSl_l, x_items_t, x_items_l, x_tru_n, x_tru_b, x_tru_i, x_tru_t, x_tru_l, x_asB, x_is_n, x_isNot_n, isNon_n, isNon_i, isNon_s, isNon_t, isNon_l, isNon_b, Bool.not_true, Bool.not_false, List.length_map, fnE, startE, Lw15, c1, c, c2, m, n1, n2]
end
/-! ### the law -/
abbrev fD (c : Int) : EF := eOp dMod (eCall fInt (aCons (eOp dIx (eVar 1) (eOp dAdd (eC (.int c)) (eVar 2))) aNil)) (eC (.int 3))
def rw3 (ds : List Nat) (c q : Nat) : List Nat := (List.range q).map fun k => ds.getD (c + k) 0 % 3
theorem rw3_ok (ds : List Nat) (c q : Nat) : (rw3 ds c q).length = q ∧ ∀ x ∈ rw3 ds c q, x < 256 := by
  refine ⟨by unfold rw3; rw [List.length_map, List.length_range], fun x hx => ?_⟩
  obtain ⟨k, _, rfl⟩ := List.mem_map.mp hx
  have := Nat.mod_lt (ds.getD (c + k) 0) (show 3 > 0 by omega)
  omega
theorem rw3_lc {ds : List Nat} {c q : Nat} (h : c + q ≤ ds.length) (ρ : Px.Env) (h1 : ∀ x : D, (ρ.set 2 (some x)).getD 1 none = some (.lst (ds.map dN))) (h2 : ∀ x : D, (ρ.set 2 (some x)).getD 2 none = some x) : lcE (gfName 2) bYes (fD (c : Int)) ρ ((List.range q).map fun i => D.int (i : Nat)) = .ok ((rw3 ds c q).map dN) := by
  have := lc_fun (gf := gfName 2) (f := fD (c : Int)) (ρ := ρ) (e := fun i : Nat => D.int (i : Nat)) (g := fun k => dN (ds.getD (c + k) 0 % 3)) (xs := List.range q) fun k hk => ⟨_, rfl, by
    have hk := List.mem_range.mp hk
    have i := dr_add (ds := ds) (c := c) (k := k) (by omega)
    have e : ((ds.getD (c + k) 0 : Nat) : Int) % 3 = ((ds.getD (c + k) 0 % 3 : Nat) : Int) := by omega
    simp only [x_eOp, x_eCall, x_aCons, x_aNil, x_eVar, x_eC, h1, h2, vD_some, Res.bind_ok, x_add, i, x_int_i, x_mod _ 3 (by decide), e]⟩
  rw [this]
  unfold rw3
  rw [List.map_map]
  rfl
abbrev e23 (sc DS : D) (s2 s3 s4 s5 s6 s7 s8 s9 s10 s11 s12 s20 : Option D) : Px.Env := [some sc, some DS, s2, s3, s4, s5, s6, s7, s8, s9, s10, s11, s12, none, none, none, none, none, none, none, s20, none, none]
section
variable {sc : D} {ds base goal : List Nat}
theorem lw1 (hl : ds.length = 90) : ∃ r : List Nat, r.length ≤ 12 ∧ (∀ x ∈ r, x < 256) ∧ Lw1 (e23 sc (.lst (ds.map dN)) none none none none none none none none none none none none) = .next (e23 sc (.lst (ds.map dN)) none (some (rowD r)) none none none none none none none none none none) := by
  have i0 : dIx (.lst (ds.map dN)) (.int 0) = .ok (dN (ds.getD 0 0)) := dr_ix (n := 0) (by omega)
  generalize ds.getD 0 0 = d at i0
  have e : (d : Int) % 13 = ((d % 13 : Nat) : Int) := by omega
  have hq : d % 13 < 13 := Nat.mod_lt _ (by omega)
  generalize d % 13 = q at e hq
  obtain ⟨r1, r2⟩ := rw3_ok ds 1 q
  have r := dRng1_nat q (by omega)
  have hb := rw3_lc (ds := ds) (c := 1) (q := q) (by omega) (e23 sc (.lst (ds.map dN)) none none none none none none none none none none none none) (fun _ => rfl) fun _ => rfl
  refine ⟨rw3 ds 1 q, by omega, r2, ?_⟩
  have hb : lcE (gfName 2) bYes (fD 1) _ _ = _ := hb
  generalize D.lst (ds.map dN) = DS at *
  simp only [sSeq_x, x_sSet, x_sIf, x_sRet, x_sRetN, x_sPar, x_sUnp, resF_ok, x_sDrop, x_sNext, x_sBreak, x_sCont, x_sRaise, x_sAug, augK_ok, x_sFor, x_sWhile, sKill_x, x_wipe0, x_wipe1, x_evL0, x_evL1, x_setL0, x_setL1, x_eVar, x_eC, x_eOp, x_eUn, x_eCall, x_eMS, x_asStr, x_aNil, x_aCons, x_eTup, x_eLst, x_eIf, x_eNot, x_eAnd, x_eOr, x_bAnd, x_bOr, x_bNot, x_bYes, x_eSl, x_oNone, x_oSome, asI_int, x_iSeq, x_iCall, x_gfName, x_gfTup, eLc, noX_is, Res.bind_ok, Res.bind_exc, flow_ok, flow_exc, seqK_next, seqK_ret, seqK_exc, seqK_brk, seqK_cont, loopK_next, loopK_cont, loopK_brk, loopK_ret, loopK_exc, must_ok, List.set_cons_succ, List.set_cons_zero, List.getD_cons_succ, List.getD_cons_zero, vD_some, if_true, if_false, Bool.false_eq_true, reduceIte, List.map_cons, List.map_nil, List.length_cons, List.length_nil, List.cons_append, List.nil_append, List.replicate, Nat.reduceSub, Nat.reduceAdd, x_add, x_sub, x_cmp, x_eq_ii, x_ne_ii, x_int_i, x_len_t, x_len_l, x_tup_l, x_tup_t, x_list_l, x_list_t, x_dSl_t, x_dSl_l, x_items_t, x_items_l, x_tru_n, x_tru_b, x_tru_i, x_tru_t, x_tru_l, x_asB, x_is_n, x_isNot_n, isNon_n, isNon_i, isNon_s, isNon_t, isNon_l, isNon_b, Bool.not_true, Bool.not_false, List.length_map, fnE, startE, Lw1, i0, x_mod _ 13 (by decide), e, r, hb]
theorem lw2 (hl : ds.length = 90) (b : D) : ∃ r : List Nat, r.length ≤ 12 ∧ (∀ x ∈ r, x < 256) ∧ Lw2 (e23 sc (.lst (ds.map dN)) none (some b) none none none none none none none none none none) = .next (e23 sc (.lst (ds.map dN)) none (some b) (some (rowD r)) none none none none none none none none none) := by
  have i0 : dIx (.lst (ds.map dN)) (.int 14) = .ok (dN (ds.getD 14 0)) := dr_ix (n := 14) (by omega)
  generalize ds.getD 14 0 = d at i0
  have e : (d : Int) % 13 = ((d % 13 : Nat) : Int) := by omega
  have hq : d % 13 < 13 := Nat.mod_lt _ (by omega)
  generalize d % 13 = q at e hq
  obtain ⟨r1, r2⟩ := rw3_ok ds 15 q
  have r := dRng1_nat q (by omega)
  have hb := rw3_lc (ds := ds) (c := 15) (q := q) (by omega) (e23 sc (.lst (ds.map dN)) none (some b) none none none none none none none none none none) (fun _ => rfl) fun _ => rfl
  refine ⟨rw3 ds 15 q, by omega, r2, ?_⟩
  have hb : lcE (gfName 2) bYes (fD 15) _ _ = _ := hb
  generalize D.lst (ds.map dN) = DS at *
  simp only [sSeq_x, x_sSet, x_sIf, x_sRet, x_sRetN, x_sPar, x_sUnp, resF_ok, x_sDrop, x_sNext, x_sBreak, x_sCont, x_sRaise, x_sAug, augK_ok, x_sFor, x_sWhile, sKill_x, x_wipe0, x_wipe1, x_evL0, x_evL1, x_setL0, x_setL1, x_eVar, x_eC, x_eOp, x_eUn, x_eCall, x_eMS, x_asStr, x_aNil, x_aCons, x_eTup, x_eLst, x_eIf, x_eNot, x_eAnd, x_eOr, x_bAnd, x_bOr, x_bNot, x_bYes, x_eSl, x_oNone, x_oSome, asI_int, x_iSeq, x_iCall, x_gfName, x_gfTup, eLc, noX_is, Res.bind_ok, Res.bind_exc, flow_ok, flow_exc, seqK_next, seqK_ret, seqK_exc, seqK_brk, seqK_cont, loopK_next, loopK_cont, loopK_brk, loopK_ret, loopK_exc, must_ok, List.set_cons_succ, List.set_cons_zero, List.getD_cons_succ, List.getD_cons_zero, vD_some, if_true, if_false, Bool.false_eq_true, reduceIte, List.map_cons, List.map_nil, List.length_cons, List.length_nil, List.cons_append, List.nil_append, List.replicate, Nat.reduceSub, Nat.reduceAdd, x_add, x_sub, x_cmp, x_eq_ii, x_ne_ii, x_int_i, x_len_t, x_len_l, x_tup_l, x_tup_t, x_list_l, x_list_t, x_dSl_t, x_dSl_l, x_items_t, x_items_l, x_tru_n, x_tru_b, x_tru_i, x_tru_t, x_tru_l, x_asB, x_is_n, x_isNot_n, isNon_n, isNon_i, isNon_s, isNon_t, isNon_l, isNon_b, Bool.not_true, Bool.not_false, List.length_map, fnE, startE, Lw2, i0, x_mod _ 13 (by decide), e, r, hb]
theorem lw3 (hl : ds.length = 90) (hb : base.length ≤ 12) (hg : goal.length ≤ 12) (ob : ∀ x ∈ base, x < 256) (og : ∀ x ∈ goal, x < 256) : ∃ (g : List Nat) (s5 s6 : Option D), g.length ≤ 14 ∧ (∀ x ∈ g, x < 256) ∧
    Lw3 (e23 sc (.lst (ds.map dN)) none (some (rowD base)) (some (rowD goal)) none none none none none none none none none) = .next (e23 sc (.lst (ds.map dN)) none (some (rowD base)) (some (rowD g)) s5 s6 none none none none none none none) := by
  have i28 : dIx (.lst (ds.map dN)) (.int 28) = .ok (dN (ds.getD 28 0)) := dr_ix (n := 28) (by omega)
  have i29 : dIx (.lst (ds.map dN)) (.int 29) = .ok (dN (ds.getD 29 0)) := dr_ix (n := 29) (by omega)
  have i30 : dIx (.lst (ds.map dN)) (.int 30) = .ok (dN (ds.getD 30 0)) := dr_ix (n := 30) (by omega)
  have i31 : dIx (.lst (ds.map dN)) (.int 31) = .ok (dN (ds.getD 31 0)) := dr_ix (n := 31) (by omega)
  generalize ds.getD 28 0 = d28 at i28
  generalize ds.getD 29 0 = d29 at i29
  generalize ds.getD 30 0 = d30 at i30
  generalize ds.getD 31 0 = d31 at i31
  generalize D.lst (ds.map dN) = DS at *
  have lb := row_len base
  have pos : (0 : Int) < (base.length : Int) + 1 := by omega
  have e29 : (d29 : Int) % ((base.length : Int) + 1) = ((d29 % (base.length + 1) : Nat) : Int) := by simp
  have e30 : (d30 : Int) % ((base.length : Int) + 1) = ((d30 % (base.length + 1) : Nat) : Int) := by simp
  generalize d29 % (base.length + 1) = c at e29
  generalize d30 % (base.length + 1) = o at e30
  have e31 : (d31 : Int) % 3 = ((d31 % 3 : Nat) : Int) := by omega
  generalize d31 % 3 = m at e31
  have c1 : cut (base.map dN) (some (c : Int)) none = (base.drop c).map dN := by rw [List.map_drop]; exact cut_lo (base.map dN) c
  have c2 : cut (goal.map dN) none (some (m : Int)) = (goal.take m).map dN := by rw [List.map_take]; exact cut_hi (goal.map dN) m
  have c3 : cut (base.map dN) (some (o : Int)) none = (base.drop o).map dN := by rw [List.map_drop]; exact cut_lo (base.map dN) o
  have l1 : (base.drop c).length ≤ 12 := by rw [List.length_drop]; omega
  have l2 : (goal.take m).length ≤ 12 := by rw [List.length_take]; omega
  have l3 : (base.drop o).length ≤ 12 := by rw [List.length_drop]; omega
  cases h : ((d28 : Int) % 2 == 0) with
  | false =>
    refine ⟨goal, none, none, by omega, og, ?_⟩
    simp only [sSeq_x, x_sSet, x_sIf, x_sRet, x_sRetN, x_sPar, x_sUnp, resF_ok, x_sDrop, x_sNext, x_sBreak, x_sCont, x_sRaise, x_sAug, augK_ok, x_sFor, x_sWhile, sKill_x, x_wipe0, x_wipe1, x_evL0, x_evL1, x_setL0, x_setL1, x_eVar, x_eC, x_eOp, x_eUn, x_eCall, x_eMS, x_asStr, x_aNil, x_aCons, x_eTup, x_eLst, x_eIf, x_eNot, x_eAnd, x_eOr, x_bAnd, x_bOr, x_bNot, x_bYes, x_eSl, x_oNone, x_oSome, asI_int, x_iSeq, x_iCall, x_gfName, x_gfTup, eLc, noX_is, Res.bind_ok, Res.bind_exc, flow_ok, flow_exc, seqK_next, seqK_ret, seqK_exc, seqK_brk, seqK_cont, loopK_next, loopK_cont, loopK_brk, loopK_ret, loopK_exc, must_ok, List.set_cons_succ, List.set_cons_zero, List.getD_cons_succ, List.getD_cons_zero, vD_some, if_true, if_false, Bool.false_eq_true, reduceIte, List.map_cons, List.map_nil, List.length_cons, List.length_nil, List.cons_append, List.nil_append, List.replicate, Nat.reduceSub, Nat.reduceAdd, x_add, x_sub, x_cmp, x_eq_ii, x_ne_ii, x_int_i, x_len_t, x_len_l, x_tup_l, x_tup_t, x_list_l, x_list_t, x_dSl_t, x_dSl_l, x_items_t, x_items_l, x_tru_n, x_tru_b, x_tru_i, x_tru_t, x_tru_l, x_asB, x_is_n, x_isNot_n, isNon_n, isNon_i, isNon_s, isNon_t, isNon_l, isNon_b, Bool.not_true, Bool.not_false, List.length_map, fnE, startE, Lw3, i28, x_mod _ 2 (by decide), x_eq_ii, h]
  | true =>
    have z1 : (base.drop c).length + (goal.take m).length ≤ 16777216 := by omega
    have z2 : (base.drop c).length + (goal.take m).length + (base.drop o).length ≤ 16777216 := by omega
    have c4 : cut ((base.drop c).map dN ++ (goal.take m).map dN ++ (base.drop o).map dN) none (some 14) = ((base.drop c ++ goal.take m ++ base.drop o).take 14).map dN := by
      rw [← List.map_append, ← List.map_append, List.map_take]
      exact cut_hi ((base.drop c ++ goal.take m ++ base.drop o).map dN) 14
    refine ⟨(base.drop c ++ goal.take m ++ base.drop o).take 14, some (dN c), some (dN o), by rw [List.length_take]; omega, fun x hx => ?_, ?_⟩
    · have hx := List.mem_of_mem_take hx
      simp only [List.mem_append] at hx
      rcases hx with (hx | hx) | hx
      · exact ob x (List.mem_of_mem_drop hx)
      · exact og x (List.mem_of_mem_take hx)
      · exact ob x (List.mem_of_mem_drop hx)
    · generalize (base.drop c ++ goal.take m ++ base.drop o).take 14 = G at *
      simp only [sSeq_x, x_sSet, x_sIf, x_sRet, x_sRetN, x_sPar, x_sUnp, resF_ok, x_sDrop, x_sNext, x_sBreak, x_sCont, x_sRaise, x_sAug, augK_ok, x_sFor, x_sWhile, sKill_x, x_wipe0, x_wipe1, x_evL0, x_evL1, x_setL0, x_setL1, x_eVar, x_eC, x_eOp, x_eUn, x_eCall, x_eMS, x_asStr, x_aNil, x_aCons, x_eTup, x_eLst, x_eIf, x_eNot, x_eAnd, x_eOr, x_bAnd, x_bOr, x_bNot, x_bYes, x_eSl, x_oNone, x_oSome, asI_int, x_iSeq, x_iCall, x_gfName, x_gfTup, eLc, noX_is, Res.bind_ok, Res.bind_exc, flow_ok, flow_exc, seqK_next, seqK_ret, seqK_exc, seqK_brk, seqK_cont, loopK_next, loopK_cont, loopK_brk, loopK_ret, loopK_exc, must_ok, List.set_cons_succ, List.set_cons_zero, List.getD_cons_succ, List.getD_cons_zero, vD_some, if_true, if_false, Bool.false_eq_true, reduceIte, List.map_cons, List.map_nil, List.length_cons, List.length_nil, List.cons_append, List.nil_append, List.replicate, Nat.reduceSub, Nat.reduceAdd, x_add, x_sub, x_cmp, x_eq_ii, x_ne_ii, x_int_i, x_len_t, x_len_l, x_tup_l, x_tup_t, x_list_l, x_list_t, x_dSl_t, x_dSl_l, x_items_t, x_items_l, x_tru_n, x_tru_b, x_tru_i, x_tru_t, x_tru_l, x_asB, x_is_n, x_isNot_n, isNon_n, isNon_i, isNon_s, isNon_t, isNon_l, isNon_b, Bool.not_true, Bool.not_false, List.length_map, fnE, startE, Lw3, i28, x_mod _ 2 (by decide), x_eq_ii, h, i29, i30, i31, lb, x_mod _ _ pos, e29, e30, x_mod _ 3 (by decide), e31, c1, c2, c3, x_add_t, sl_eq, z1, z2, List.length_append, c4]
end
theorem path_sm {base goal : List Nat} (hb : base.length ≤ 60) (hg : goal.length ≤ 60) {k : Nat} {ps : List Pc} (h : PathOk base goal k ps) : ∀ p ∈ ps, p.sm := fun p hp => by
  have i := h.inn p hp
  cases p with
  | cp a n =>
    have i := of_decide_eq_true i
    exact ⟨by omega, by omega⟩
  | pt o =>
    have hl := congrArg List.length h.mk_
    rw [List.length_drop] at hl
    obtain ⟨s, t, e⟩ := List.append_of_mem hp
    rw [e, List.flatMap_append, List.flatMap_cons, List.length_append, List.length_append] at hl
    have : (Pc.mk base (.pt o)).length = o.length := rfl
    show o.length < 10000
    omega
section
variable {sc DS : D} {base goal : List Nat} {s2 s5 s6 s12 : Option D}
theorem lw4 (hb : base.length ≤ 60) (hg : goal.length ≤ 60) : Lw4 (e23 sc DS s2 (some (rowD base)) (some (rowD goal)) s5 s6 none none none none none none none) = .next (e23 sc DS s2 (some (rowD base)) (some (rowD goal)) s5 s6 (some (stD base goal)) none none none none none none) := by
  have h := steps_ok (base := base) (goal := goal) (by omega) (by omega)
  generalize stD base goal = ST at *
  simp only [sSeq_x, x_sSet, x_sIf, x_sRet, x_sRetN, x_sPar, x_sUnp, resF_ok, x_sDrop, x_sNext, x_sBreak, x_sCont, x_sRaise, x_sAug, augK_ok, x_sFor, x_sWhile, sKill_x, x_wipe0, x_wipe1, x_evL0, x_evL1, x_setL0, x_setL1, x_eVar, x_eC, x_eOp, x_eUn, x_eCall, x_eMS, x_asStr, x_aNil, x_aCons, x_eTup, x_eLst, x_eIf, x_eNot, x_eAnd, x_eOr, x_bAnd, x_bOr, x_bNot, x_bYes, x_eSl, x_oNone, x_oSome, asI_int, x_iSeq, x_iCall, x_gfName, x_gfTup, eLc, noX_is, Res.bind_ok, Res.bind_exc, flow_ok, flow_exc, seqK_next, seqK_ret, seqK_exc, seqK_brk, seqK_cont, loopK_next, loopK_cont, loopK_brk, loopK_ret, loopK_exc, must_ok, List.set_cons_succ, List.set_cons_zero, List.getD_cons_succ, List.getD_cons_zero, vD_some, if_true, if_false, Bool.false_eq_true, reduceIte, List.map_cons, List.map_nil, List.length_cons, List.length_nil, List.cons_append, List.nil_append, List.replicate, Nat.reduceSub, Nat.reduceAdd, x_add, x_sub, x_cmp, x_eq_ii, x_ne_ii, x_int_i, x_len_t, x_len_l, x_tup_l, x_tup_t, x_list_l, x_list_t, x_dSl_t, x_dSl_l, x_items_t, x_items_l, x_tru_n, x_tru_b, x_tru_i, x_tru_t, x_tru_l, x_asB, x_is_n, x_isNot_n, isNon_n, isNon_i, isNon_s, isNon_t, isNon_l, isNon_b, Bool.not_true, Bool.not_false, List.length_map, fnE, startE, Lw4, h]
theorem lw5 (hg : goal.length ≤ 60) (og : ∀ x ∈ goal, x < 256) : Lw5 (e23 sc DS s2 (some (rowD base)) (some (rowD goal)) s5 s6 (some (stD base goal)) none none none none none none) = .next (e23 sc DS s2 (some (rowD base)) (some (rowD goal)) s5 s6 (some (stD base goal)) (some (rowD (TT base goal goal.length).1)) none none none none none) := by
  have h := lprices_ok (base := base) og (by omega)
  generalize stD base goal = ST at *
  simp only [sSeq_x, x_sSet, x_sIf, x_sRet, x_sRetN, x_sPar, x_sUnp, resF_ok, x_sDrop, x_sNext, x_sBreak, x_sCont, x_sRaise, x_sAug, augK_ok, x_sFor, x_sWhile, sKill_x, x_wipe0, x_wipe1, x_evL0, x_evL1, x_setL0, x_setL1, x_eVar, x_eC, x_eOp, x_eUn, x_eCall, x_eMS, x_asStr, x_aNil, x_aCons, x_eTup, x_eLst, x_eIf, x_eNot, x_eAnd, x_eOr, x_bAnd, x_bOr, x_bNot, x_bYes, x_eSl, x_oNone, x_oSome, asI_int, x_iSeq, x_iCall, x_gfName, x_gfTup, eLc, noX_is, Res.bind_ok, Res.bind_exc, flow_ok, flow_exc, seqK_next, seqK_ret, seqK_exc, seqK_brk, seqK_cont, loopK_next, loopK_cont, loopK_brk, loopK_ret, loopK_exc, must_ok, List.set_cons_succ, List.set_cons_zero, List.getD_cons_succ, List.getD_cons_zero, vD_some, if_true, if_false, Bool.false_eq_true, reduceIte, List.map_cons, List.map_nil, List.length_cons, List.length_nil, List.cons_append, List.nil_append, List.replicate, Nat.reduceSub, Nat.reduceAdd, x_add, x_sub, x_cmp, x_eq_ii, x_ne_ii, x_int_i, x_len_t, x_len_l, x_tup_l, x_tup_t, x_list_l, x_list_t, x_dSl_t, x_dSl_l, x_items_t, x_items_l, x_tru_n, x_tru_b, x_tru_i, x_tru_t, x_tru_l, x_asB, x_is_n, x_isNot_n, isNon_n, isNon_i, isNon_s, isNon_t, isNon_l, isNon_b, Bool.not_true, Bool.not_false, List.length_map, fnE, startE, Lw5, h]
abbrev eB (sc DS : D) (base goal : List Nat) (s2 s5 s6 s12 s20 : Option D) : Px.Env := e23 sc DS s2 (some (rowD base)) (some (rowD goal)) s5 s6 (some (stD base goal)) (some (rowD (TT base goal goal.length).1)) (some (dN (pr base goal goal.length))) (some (.tup ((dl base goal).map pcD))) (some (rowD (TT base goal goal.length).1)) s12 s20
theorem lw6 (hb : base.length ≤ 60) (hg : goal.length ≤ 60) (ob : ∀ x ∈ base, x < 256) (og : ∀ x ∈ goal, x < 256) : Lw6 (e23 sc DS s2 (some (rowD base)) (some (rowD goal)) s5 s6 (some (stD base goal)) (some (rowD (TT base goal goal.length).1)) none none none none none) = .next (eB sc DS base goal s2 s5 s6 none none) := by
  have h := least_ok hb hg ob og
  unfold eB
  generalize stD base goal = ST at *
  generalize rowD (TT base goal goal.length).1 = T at *
  generalize D.tup ((dl base goal).map pcD) = DT at *
  simp only [sSeq_x, x_sSet, x_sIf, x_sRet, x_sRetN, x_sPar, x_sUnp, resF_ok, x_sDrop, x_sNext, x_sBreak, x_sCont, x_sRaise, x_sAug, augK_ok, x_sFor, x_sWhile, sKill_x, x_wipe0, x_wipe1, x_evL0, x_evL1, x_setL0, x_setL1, x_eVar, x_eC, x_eOp, x_eUn, x_eCall, x_eMS, x_asStr, x_aNil, x_aCons, x_eTup, x_eLst, x_eIf, x_eNot, x_eAnd, x_eOr, x_bAnd, x_bOr, x_bNot, x_bYes, x_eSl, x_oNone, x_oSome, asI_int, x_iSeq, x_iCall, x_gfName, x_gfTup, eLc, noX_is, Res.bind_ok, Res.bind_exc, flow_ok, flow_exc, seqK_next, seqK_ret, seqK_exc, seqK_brk, seqK_cont, loopK_next, loopK_cont, loopK_brk, loopK_ret, loopK_exc, must_ok, List.set_cons_succ, List.set_cons_zero, List.getD_cons_succ, List.getD_cons_zero, vD_some, if_true, if_false, Bool.false_eq_true, reduceIte, List.map_cons, List.map_nil, List.length_cons, List.length_nil, List.cons_append, List.nil_append, List.replicate, Nat.reduceSub, Nat.reduceAdd, x_add, x_sub, x_cmp, x_eq_ii, x_ne_ii, x_int_i, x_len_t, x_len_l, x_tup_l, x_tup_t, x_list_l, x_list_t, x_dSl_t, x_dSl_l, x_items_t, x_items_l, x_tru_n, x_tru_b, x_tru_i, x_tru_t, x_tru_l, x_asB, x_is_n, x_isNot_n, isNon_n, isNon_i, isNon_s, isNon_t, isNon_l, isNon_b, Bool.not_true, Bool.not_false, List.length_map, fnE, startE, Lw6, h]
theorem lw78 (hb : base.length ≤ 60) (hg : goal.length ≤ 60) (ob : ∀ x ∈ base, x < 256) (og : ∀ x ∈ goal, x < 256) : Lw7 (eB sc DS base goal s2 s5 s6 none none) = .next (eB sc DS base goal s2 s5 s6 none none) ∧ Lw8 (eB sc DS base goal s2 s5 s6 none none) = .next (eB sc DS base goal s2 s5 s6 none none) := by
  have pk := path_ok (base := base) og goal.length goal.length (Nat.le_refl _) (Nat.le_refl _)
  have sm := path_sm hb hg pk
  have mk := pk.mk_
  rw [Nat.sub_self, List.drop_zero] at mk
  have hlen : (dl base goal).length ≤ goal.length := pk.len
  have lf := lfault_pc (base := base) (dl base goal) (by omega) pk.ok
  rw [fi_none.mpr pk.inn] at lf
  have lf : C__law_fault [rowD base, .tup ((dl base goal).map pcD)] = .ok .non := lf
  have df := dfault_pc ob (dl base goal) pk.ok
  rw [fi_none.mpr pk.inn] at df
  have df : C_delta_fault [rowD base, .tup ((dl base goal).map pcD)] = .ok .non := df
  have lm := lmade_ok (base := base) (dl base goal) (by rw [mk]; omega)
  rw [mk] at lm
  have md := made_ok ob (dl base goal) pk.ok pk.inn (by rw [mk]; omega)
  rw [mk] at md
  have co := cost_ok (dl base goal) sm pk.ok
  rw [pk.cost] at co
  have hbb := lc_fun (gf := gfName 22) (f := eCall C__law_cost (aCons (eVar 22) aNil)) (ρ := eB sc DS base goal s2 s5 s6 none none) (e := pcD) (g := fun p => dN p.cost) (xs := dl base goal) fun p hp => ⟨_, rfl, by
    have c := lcost (sm p hp)
    generalize stD base goal = ST
    generalize rowD (TT base goal goal.length).1 = T
    generalize D.tup ((dl base goal).map pcD) = DT
    simp only [sSeq_x, x_sSet, x_sIf, x_sRet, x_sRetN, x_sPar, x_sUnp, resF_ok, x_sDrop, x_sNext, x_sBreak, x_sCont, x_sRaise, x_sAug, augK_ok, x_sFor, x_sWhile, sKill_x, x_wipe0, x_wipe1, x_evL0, x_evL1, x_setL0, x_setL1, x_eVar, x_eC, x_eOp, x_eUn, x_eCall, x_eMS, x_asStr, x_aNil, x_aCons, x_eTup, x_eLst, x_eIf, x_eNot, x_eAnd, x_eOr, x_bAnd, x_bOr, x_bNot, x_bYes, x_eSl, x_oNone, x_oSome, asI_int, x_iSeq, x_iCall, x_gfName, x_gfTup, eLc, noX_is, Res.bind_ok, Res.bind_exc, flow_ok, flow_exc, seqK_next, seqK_ret, seqK_exc, seqK_brk, seqK_cont, loopK_next, loopK_cont, loopK_brk, loopK_ret, loopK_exc, must_ok, List.set_cons_succ, List.set_cons_zero, List.getD_cons_succ, List.getD_cons_zero, vD_some, if_true, if_false, Bool.false_eq_true, reduceIte, List.map_cons, List.map_nil, List.length_cons, List.length_nil, List.cons_append, List.nil_append, List.replicate, Nat.reduceSub, Nat.reduceAdd, x_add, x_sub, x_cmp, x_eq_ii, x_ne_ii, x_int_i, x_len_t, x_len_l, x_tup_l, x_tup_t, x_list_l, x_list_t, x_dSl_t, x_dSl_l, x_items_t, x_items_l, x_tru_n, x_tru_b, x_tru_i, x_tru_t, x_tru_l, x_asB, x_is_n, x_isNot_n, isNon_n, isNon_i, isNon_s, isNon_t, isNon_l, isNon_b, Bool.not_true, Bool.not_false, List.length_map, fnE, startE, c]⟩
  have su := sum_cost (dl base goal)
  rw [pk.cost] at su
  have hq : (TT base goal goal.length).1.length = goal.length + 1 := (TT_len (base := base) (goal := goal) goal.length (Nat.le_refl _)).1
  have dp := dpf_ok hb hg ob og hq
  rw [told_ok og] at dp
  have i0 : dIx (rowD (TT base goal goal.length).1) (.int 0) = .ok (dN (pr base goal goal.length)) := q_ix (goal := goal) hq (j := 0) (by omega)
  have n1 := n_ne (pr base goal goal.length)
  have n2 := r_ne (TT base goal goal.length).1
  have n3 := r_ne goal
  have hi : dItems (.tup ((dl base goal).map pcD)) = .ok ((dl base goal).map pcD) := rfl
  unfold eB at hbb ⊢
  generalize stD base goal = ST at *
  generalize rowD (TT base goal goal.length).1 = T at *
  generalize D.tup ((dl base goal).map pcD) = DT at *
  generalize pr base goal goal.length = Pr at *
  constructor
  · simp only [sSeq_x, x_sSet, x_sIf, x_sRet, x_sRetN, x_sPar, x_sUnp, resF_ok, x_sDrop, x_sNext, x_sBreak, x_sCont, x_sRaise, x_sAug, augK_ok, x_sFor, x_sWhile, sKill_x, x_wipe0, x_wipe1, x_evL0, x_evL1, x_setL0, x_setL1, x_eVar, x_eC, x_eOp, x_eUn, x_eCall, x_eMS, x_asStr, x_aNil, x_aCons, x_eTup, x_eLst, x_eIf, x_eNot, x_eAnd, x_eOr, x_bAnd, x_bOr, x_bNot, x_bYes, x_eSl, x_oNone, x_oSome, asI_int, x_iSeq, x_iCall, x_gfName, x_gfTup, eLc, noX_is, Res.bind_ok, Res.bind_exc, flow_ok, flow_exc, seqK_next, seqK_ret, seqK_exc, seqK_brk, seqK_cont, loopK_next, loopK_cont, loopK_brk, loopK_ret, loopK_exc, must_ok, List.set_cons_succ, List.set_cons_zero, List.getD_cons_succ, List.getD_cons_zero, vD_some, if_true, if_false, Bool.false_eq_true, reduceIte, List.map_cons, List.map_nil, List.length_cons, List.length_nil, List.cons_append, List.nil_append, List.replicate, Nat.reduceSub, Nat.reduceAdd, x_add, x_sub, x_cmp, x_eq_ii, x_ne_ii, x_int_i, x_len_t, x_len_l, x_tup_l, x_tup_t, x_list_l, x_list_t, x_dSl_t, x_dSl_l, x_items_t, x_items_l, x_tru_n, x_tru_b, x_tru_i, x_tru_t, x_tru_l, x_asB, x_is_n, x_isNot_n, isNon_n, isNon_i, isNon_s, isNon_t, isNon_l, isNon_b, Bool.not_true, Bool.not_false, List.length_map, fnE, startE, Lw7, i0, n1, n2, lf, lm, n3, hi, hbb, su]
  · simp only [sSeq_x, x_sSet, x_sIf, x_sRet, x_sRetN, x_sPar, x_sUnp, resF_ok, x_sDrop, x_sNext, x_sBreak, x_sCont, x_sRaise, x_sAug, augK_ok, x_sFor, x_sWhile, sKill_x, x_wipe0, x_wipe1, x_evL0, x_evL1, x_setL0, x_setL1, x_eVar, x_eC, x_eOp, x_eUn, x_eCall, x_eMS, x_asStr, x_aNil, x_aCons, x_eTup, x_eLst, x_eIf, x_eNot, x_eAnd, x_eOr, x_bAnd, x_bOr, x_bNot, x_bYes, x_eSl, x_oNone, x_oSome, asI_int, x_iSeq, x_iCall, x_gfName, x_gfTup, eLc, noX_is, Res.bind_ok, Res.bind_exc, flow_ok, flow_exc, seqK_next, seqK_ret, seqK_exc, seqK_brk, seqK_cont, loopK_next, loopK_cont, loopK_brk, loopK_ret, loopK_exc, must_ok, List.set_cons_succ, List.set_cons_zero, List.getD_cons_succ, List.getD_cons_zero, vD_some, if_true, if_false, Bool.false_eq_true, reduceIte, List.map_cons, List.map_nil, List.length_cons, List.length_nil, List.cons_append, List.nil_append, List.replicate, Nat.reduceSub, Nat.reduceAdd, x_add, x_sub, x_cmp, x_eq_ii, x_ne_ii, x_int_i, x_len_t, x_len_l, x_tup_l, x_tup_t, x_list_l, x_list_t, x_dSl_t, x_dSl_l, x_items_t, x_items_l, x_tru_n, x_tru_b, x_tru_i, x_tru_t, x_tru_l, x_asB, x_is_n, x_isNot_n, isNon_n, isNon_i, isNon_s, isNon_t, isNon_l, isNon_b, Bool.not_true, Bool.not_false, List.length_map, fnE, startE, Lw8, md, n3, co, n1, df, dp]
end
section
variable {sc : D} {ds base goal : List Nat} {s5 s6 : Option D}
theorem lw10 (hl : ds.length = 90) (hg : goal.length ≤ 60) : ∃ (g2 : Option D) (F : List It), F.length ≤ 4 ∧ (∀ i ∈ F, itG i) ∧ Lw10 (eB sc (.lst (ds.map dN)) base goal none s5 s6 (some (.lst [])) none) = .next (eB sc (.lst (ds.map dN)) base goal g2 s5 s6 (some (.lst (F.map itD))) none) := by
  have i32 : dIx (.lst (ds.map dN)) (.int 32) = .ok (dN (ds.getD 32 0)) := dr_ix (n := 32) (by omega)
  generalize ds.getD 32 0 = d at i32
  have e : (d : Int) % 4 = ((d % 4 : Nat) : Int) := by omega
  have hq : d % 4 < 4 := Nat.mod_lt _ (by omega)
  generalize d % 4 = q at e hq
  have r := dRng1_nat q (by omega)
  obtain ⟨g2, F, h1, h2, lo⟩ := lw1_loop (goal := goal) (ds := ds) (a0 := some sc) (a3 := some (rowD base)) (a5 := s5) (a6 := s6) (a7 := some (stD base goal)) (a8 := some (rowD (TT base goal goal.length).1)) (a9 := some (dN (pr base goal goal.length))) (a10 := some (.tup ((dl base goal).map pcD))) (a11 := some (rowD (TT base goal goal.length).1)) (a16 := none) (a17 := none) (a18 := none) (a19 := none) (a20 := none) (a21 := none) (a22 := none) hl hg (List.range q) none [] (fun k hk => by have := List.mem_range.mp hk; omega) (by rw [List.length_range, List.length_nil]; omega) (fun i hi => nomatch hi)
  rw [List.length_nil, List.length_range] at h1
  rw [List.map_nil] at lo
  refine ⟨g2, F, by omega, h2, ?_⟩
  unfold eB
  generalize D.lst (ds.map dN) = DS at *
  generalize stD base goal = ST at *
  generalize rowD (TT base goal goal.length).1 = T at *
  generalize D.tup ((dl base goal).map pcD) = DT at *
  generalize D.lst (F.map itD) = FD at *
  simp only [sSeq_x, x_sSet, x_sIf, x_sRet, x_sRetN, x_sPar, x_sUnp, resF_ok, x_sDrop, x_sNext, x_sBreak, x_sCont, x_sRaise, x_sAug, augK_ok, x_sFor, x_sWhile, sKill_x, x_wipe0, x_wipe1, x_evL0, x_evL1, x_setL0, x_setL1, x_eVar, x_eC, x_eOp, x_eUn, x_eCall, x_eMS, x_asStr, x_aNil, x_aCons, x_eTup, x_eLst, x_eIf, x_eNot, x_eAnd, x_eOr, x_bAnd, x_bOr, x_bNot, x_bYes, x_eSl, x_oNone, x_oSome, asI_int, x_iSeq, x_iCall, x_gfName, x_gfTup, eLc, noX_is, Res.bind_ok, Res.bind_exc, flow_ok, flow_exc, seqK_next, seqK_ret, seqK_exc, seqK_brk, seqK_cont, loopK_next, loopK_cont, loopK_brk, loopK_ret, loopK_exc, must_ok, List.set_cons_succ, List.set_cons_zero, List.getD_cons_succ, List.getD_cons_zero, vD_some, if_true, if_false, Bool.false_eq_true, reduceIte, List.map_cons, List.map_nil, List.length_cons, List.length_nil, List.cons_append, List.nil_append, List.replicate, Nat.reduceSub, Nat.reduceAdd, x_add, x_sub, x_cmp, x_eq_ii, x_ne_ii, x_int_i, x_len_t, x_len_l, x_tup_l, x_tup_t, x_list_l, x_list_t, x_dSl_t, x_dSl_l, x_items_t, x_items_l, x_tru_n, x_tru_b, x_tru_i, x_tru_t, x_tru_l, x_asB, x_is_n, x_isNot_n, isNon_n, isNon_i, isNon_s, isNon_t, isNon_l, isNon_b, Bool.not_true, Bool.not_false, List.length_map, fnE, startE, Lw10, i32, x_mod _ 4 (by decide), e, r, lo]
theorem lw11 (hb : base.length ≤ 60) (hg : goal.length ≤ 60) (ob : ∀ x ∈ base, x < 256) (og : ∀ x ∈ goal, x < 256) (DS : D) (g2 : Option D) (F : List It) (hF : F.length ≤ 4) (hG : ∀ i ∈ F, itG i) : Lw11 (eB sc DS base goal g2 s5 s6 (some (.lst (F.map itD))) none) = .next (eB sc DS base goal g2 s5 s6 (some (.lst (F.map itD))) none) := by
  have pk := path_ok (base := base) og goal.length goal.length (Nat.le_refl _) (Nat.le_refl _)
  have sm := path_sm hb hg pk
  have hlen : (dl base goal).length ≤ goal.length := pk.len
  have e2 : (dl base goal).map pcD ++ F.map itD = ((dl base goal).map It.pc ++ F).map itD := by
    rw [List.map_append, List.map_map]
    rfl
  have e4 : ((dl base goal).map pcD).drop 1 = (((dl base goal).drop 1).map It.pc).map itD := by
    rw [List.map_map, ← List.map_drop]
    rfl
  have c4 : cut ((dl base goal).map pcD) (some 1) none = ((dl base goal).map pcD).drop 1 := cut_lo ((dl base goal).map pcD) 1
  have k : forE (gfName 16) B_law_2 [.tup (F.map itD), .tup ((dl base goal).map pcD ++ F.map itD), .lst ((dl base goal).map pcD), .tup (((dl base goal).map pcD).drop 1)] (eB sc DS base goal g2 s5 s6 (some (.lst (F.map itD))) none) = .next (eB sc DS base goal g2 s5 s6 (some (.lst (F.map itD))) none) := for_keep fun d hd => by
    simp only [List.mem_cons, List.not_mem_nil, or_false] at hd
    rcases hd with rfl | rfl | rfl | rfl
    · exact ⟨_, rfl, law2_it hb ob F (by omega) hG⟩
    · rw [e2]
      exact ⟨_, rfl, law2_it hb ob _ (by simp; omega) fun i hi => (List.mem_append.mp hi).elim (fun h => by
        obtain ⟨p, hp, rfl⟩ := List.mem_map.mp h
        exact sm p hp) (hG i)⟩
    · exact ⟨_, rfl, law2_form ob _ (lfault_l _ _) (isd_l _)⟩
    · rw [e4]
      exact ⟨_, rfl, law2_it hb ob _ (by simp; omega) fun i hi => by
        obtain ⟨p, hp, rfl⟩ := List.mem_map.mp hi
        exact sm p (List.mem_of_mem_drop hp)⟩
  have z : (dl base goal).length + F.length ≤ 16777216 := by omega
  have tp : fTuple [.lst (F.map itD)] = .ok (.tup (F.map itD)) := rfl
  have ad : dAdd (.tup ((dl base goal).map pcD)) (.tup (F.map itD)) = .ok (.tup ((dl base goal).map pcD ++ F.map itD)) := by
    rw [x_add_t, sl_eq, List.length_map, List.length_map, if_pos z]
  have ls : fList [.tup ((dl base goal).map pcD)] = .ok (.lst ((dl base goal).map pcD)) := rfl
  have sl : dSl (.tup ((dl base goal).map pcD)) (some 1) none = .ok (.tup (((dl base goal).map pcD).drop 1)) := by rw [x_dSl_t, c4]
  unfold eB at k ⊢
  generalize stD base goal = ST at *
  generalize rowD (TT base goal goal.length).1 = T at *
  generalize D.tup ((dl base goal).map pcD ++ F.map itD) = X2 at *
  generalize D.tup (((dl base goal).map pcD).drop 1) = X4 at *
  generalize D.tup ((dl base goal).map pcD) = DT at *
  generalize D.lst ((dl base goal).map pcD) = X3 at *
  generalize D.lst (F.map itD) = FD at *
  generalize D.tup (F.map itD) = X1 at *
  simp only [sSeq_x, x_sSet, x_sIf, x_sRet, x_sRetN, x_sPar, x_sUnp, resF_ok, x_sDrop, x_sNext, x_sBreak, x_sCont, x_sRaise, x_sAug, augK_ok, x_sFor, x_sWhile, sKill_x, x_wipe0, x_wipe1, x_evL0, x_evL1, x_setL0, x_setL1, x_eVar, x_eC, x_eOp, x_eUn, x_eCall, x_eMS, x_asStr, x_aNil, x_aCons, x_eTup, x_eLst, x_eIf, x_eNot, x_eAnd, x_eOr, x_bAnd, x_bOr, x_bNot, x_bYes, x_eSl, x_oNone, x_oSome, asI_int, x_iSeq, x_iCall, x_gfName, x_gfTup, eLc, noX_is, Res.bind_ok, Res.bind_exc, flow_ok, flow_exc, seqK_next, seqK_ret, seqK_exc, seqK_brk, seqK_cont, loopK_next, loopK_cont, loopK_brk, loopK_ret, loopK_exc, must_ok, List.set_cons_succ, List.set_cons_zero, List.getD_cons_succ, List.getD_cons_zero, vD_some, if_true, if_false, Bool.false_eq_true, reduceIte, List.map_cons, List.map_nil, List.length_cons, List.length_nil, List.cons_append, List.nil_append, List.replicate, Nat.reduceSub, Nat.reduceAdd, x_add, x_sub, x_cmp, x_eq_ii, x_ne_ii, x_int_i, x_len_t, x_len_l, x_tup_l, x_tup_t, x_list_l, x_list_t, x_dSl_t, x_dSl_l, x_items_t, x_items_l, x_tru_n, x_tru_b, x_tru_i, x_tru_t, x_tru_l, x_asB, x_is_n, x_isNot_n, isNon_n, isNon_i, isNon_s, isNon_t, isNon_l, isNon_b, Bool.not_true, Bool.not_false, List.length_map, fnE, startE, Lw11, tp, ad, ls, sl, k]
theorem lw3_loop (hl : ds.length = 90) (hb : base.length ≤ 60) (hg : goal.length ≤ 60) (ob : ∀ x ∈ base, x < 256) (og : ∀ x ∈ goal, x < 256) (FD : D) : ∀ (xs : List Nat) (g2 : Option D), (∀ k ∈ xs, k < 4) → ∃ g2', forE (gfName 2) B_law_3 (xs.map fun i => D.int (i : Nat)) (eB sc (.lst (ds.map dN)) base goal g2 s5 s6 (some FD) none) = .next (eB sc (.lst (ds.map dN)) base goal g2' s5 s6 (some FD) none)
  | [], g2, _ => ⟨g2, rfl⟩
  | k :: xs, g2, hx => by
    obtain ⟨g2', ih⟩ := lw3_loop hl hb hg ob og FD xs (some (dN k)) fun j hj => hx j (List.mem_cons_of_mem _ hj)
    have hq : (TT base goal goal.length).1.length = goal.length + 1 := (TT_len (base := base) (goal := goal) goal.length (Nat.le_refl _)).1
    have st := lw3_step (base := base) (goal := goal) (ds := ds) (a0 := some sc) (a5 := s5) (a6 := s6) (a9 := some (dN (pr base goal goal.length))) (a10 := some (.tup ((dl base goal).map pcD))) (a11 := some (rowD (TT base goal goal.length).1)) (a12 := some FD) (a14 := none) (a15 := none) (a17 := none) (a19 := none) (a20 := none) (a21 := none) (a22 := none) hl hb hg ob og (TT base goal goal.length).1 hq k (hx k List.mem_cons_self)
    refine ⟨g2', ?_⟩
    rw [List.map_cons, forE_cons, ← ih]
    unfold eB
    show loopK _ _ = _
    generalize D.lst (ds.map dN) = DS at *
    generalize stD base goal = ST at *
    generalize rowD (TT base goal goal.length).1 = T at *
    generalize D.tup ((dl base goal).map pcD) = DT at *
    simp only [sSeq_x, x_sSet, x_sIf, x_sRet, x_sRetN, x_sPar, x_sUnp, resF_ok, x_sDrop, x_sNext, x_sBreak, x_sCont, x_sRaise, x_sAug, augK_ok, x_sFor, x_sWhile, sKill_x, x_wipe0, x_wipe1, x_evL0, x_evL1, x_setL0, x_setL1, x_eVar, x_eC, x_eOp, x_eUn, x_eCall, x_eMS, x_asStr, x_aNil, x_aCons, x_eTup, x_eLst, x_eIf, x_eNot, x_eAnd, x_eOr, x_bAnd, x_bOr, x_bNot, x_bYes, x_eSl, x_oNone, x_oSome, asI_int, x_iSeq, x_iCall, x_gfName, x_gfTup, eLc, noX_is, Res.bind_ok, Res.bind_exc, flow_ok, flow_exc, seqK_next, seqK_ret, seqK_exc, seqK_brk, seqK_cont, loopK_next, loopK_cont, loopK_brk, loopK_ret, loopK_exc, must_ok, List.set_cons_succ, List.set_cons_zero, List.getD_cons_succ, List.getD_cons_zero, vD_some, if_true, if_false, Bool.false_eq_true, reduceIte, List.map_cons, List.map_nil, List.length_cons, List.length_nil, List.cons_append, List.nil_append, List.replicate, Nat.reduceSub, Nat.reduceAdd, x_add, x_sub, x_cmp, x_eq_ii, x_ne_ii, x_int_i, x_len_t, x_len_l, x_tup_l, x_tup_t, x_list_l, x_list_t, x_dSl_t, x_dSl_l, x_items_t, x_items_l, x_tru_n, x_tru_b, x_tru_i, x_tru_t, x_tru_l, x_asB, x_is_n, x_isNot_n, isNon_n, isNon_i, isNon_s, isNon_t, isNon_l, isNon_b, Bool.not_true, Bool.not_false, List.length_map, fnE, startE, st]
theorem lw12 (hl : ds.length = 90) (hb : base.length ≤ 60) (hg : goal.length ≤ 60) (ob : ∀ x ∈ base, x < 256) (og : ∀ x ∈ goal, x < 256) (FD : D) (g2 : Option D) : ∃ g2', Lw12 (eB sc (.lst (ds.map dN)) base goal g2 s5 s6 (some FD) none) = .next (eB sc (.lst (ds.map dN)) base goal g2' s5 s6 (some FD) none) := by
  obtain ⟨g2', lo⟩ := lw3_loop (sc := sc) (s5 := s5) (s6 := s6) hl hb hg ob og FD (List.range 4) g2 fun k hk => List.mem_range.mp hk
  have r : dRng1 [.int 4] = .ok ((List.range 4).map fun i => D.int (i : Nat)) := dRng1_nat 4 (by omega)
  refine ⟨g2', ?_⟩
  generalize eB sc (.lst (ds.map dN)) base goal g2 s5 s6 (some FD) none = E1 at *
  generalize eB sc (.lst (ds.map dN)) base goal g2' s5 s6 (some FD) none = E2 at *
  simp only [sSeq_x, x_sSet, x_sIf, x_sRet, x_sRetN, x_sPar, x_sUnp, resF_ok, x_sDrop, x_sNext, x_sBreak, x_sCont, x_sRaise, x_sAug, augK_ok, x_sFor, x_sWhile, sKill_x, x_wipe0, x_wipe1, x_evL0, x_evL1, x_setL0, x_setL1, x_eVar, x_eC, x_eOp, x_eUn, x_eCall, x_eMS, x_asStr, x_aNil, x_aCons, x_eTup, x_eLst, x_eIf, x_eNot, x_eAnd, x_eOr, x_bAnd, x_bOr, x_bNot, x_bYes, x_eSl, x_oNone, x_oSome, asI_int, x_iSeq, x_iCall, x_gfName, x_gfTup, eLc, noX_is, Res.bind_ok, Res.bind_exc, flow_ok, flow_exc, seqK_next, seqK_ret, seqK_exc, seqK_brk, seqK_cont, loopK_next, loopK_cont, loopK_brk, loopK_ret, loopK_exc, must_ok, List.set_cons_succ, List.set_cons_zero, List.getD_cons_succ, List.getD_cons_zero, vD_some, if_true, if_false, Bool.false_eq_true, reduceIte, List.map_cons, List.map_nil, List.length_cons, List.length_nil, List.cons_append, List.nil_append, List.replicate, Nat.reduceSub, Nat.reduceAdd, x_add, x_sub, x_cmp, x_eq_ii, x_ne_ii, x_int_i, x_len_t, x_len_l, x_tup_l, x_tup_t, x_list_l, x_list_t, x_dSl_t, x_dSl_l, x_items_t, x_items_l, x_tru_n, x_tru_b, x_tru_i, x_tru_t, x_tru_l, x_asB, x_is_n, x_isNot_n, isNon_n, isNon_i, isNon_s, isNon_t, isNon_l, isNon_b, Bool.not_true, Bool.not_false, List.length_map, fnE, startE, Lw12, r, lo]
theorem lw13 (DS FD : D) (g2 : Option D) : Lw13 (eB sc DS base goal g2 s5 s6 (some FD) none) = .next (eB sc DS base goal g2 s5 s6 (some FD) none) := by
  have k : forE (gfName 19) B_law_5 bads5 (eB sc DS base goal g2 s5 s6 (some FD) none) = .next (eB sc DS base goal g2 s5 s6 (some FD) none) := for_keep fun d hd => ⟨_, rfl, law5 d hd⟩
  generalize eB sc DS base goal g2 s5 s6 (some FD) none = E1 at *
  simp only [sSeq_x, x_sSet, x_sIf, x_sRet, x_sRetN, x_sPar, x_sUnp, resF_ok, x_sDrop, x_sNext, x_sBreak, x_sCont, x_sRaise, x_sAug, augK_ok, x_sFor, x_sWhile, sKill_x, x_wipe0, x_wipe1, x_evL0, x_evL1, x_setL0, x_setL1, x_eVar, x_eC, x_eOp, x_eUn, x_eCall, x_eMS, x_asStr, x_aNil, x_aCons, x_eTup, x_eLst, x_eIf, x_eNot, x_eAnd, x_eOr, x_bAnd, x_bOr, x_bNot, x_bYes, x_eSl, x_oNone, x_oSome, asI_int, x_iSeq, x_iCall, x_gfName, x_gfTup, eLc, noX_is, Res.bind_ok, Res.bind_exc, flow_ok, flow_exc, seqK_next, seqK_ret, seqK_exc, seqK_brk, seqK_cont, loopK_next, loopK_cont, loopK_brk, loopK_ret, loopK_exc, must_ok, List.set_cons_succ, List.set_cons_zero, List.getD_cons_succ, List.getD_cons_zero, vD_some, if_true, if_false, Bool.false_eq_true, reduceIte, List.map_cons, List.map_nil, List.length_cons, List.length_nil, List.cons_append, List.nil_append, List.replicate, Nat.reduceSub, Nat.reduceAdd, x_add, x_sub, x_cmp, x_eq_ii, x_ne_ii, x_int_i, x_len_t, x_len_l, x_tup_l, x_tup_t, x_list_l, x_list_t, x_dSl_t, x_dSl_l, x_items_t, x_items_l, x_tru_n, x_tru_b, x_tru_i, x_tru_t, x_tru_l, x_asB, x_is_n, x_isNot_n, isNon_n, isNon_i, isNon_s, isNon_t, isNon_l, isNon_b, Bool.not_true, Bool.not_false, List.length_map, fnE, startE, Lw13, k]
theorem lw14 (DS FD : D) (g2 : Option D) : Lw14 (eB sc DS base goal g2 s5 s6 (some FD) none) = .next (eB sc DS base goal g2 s5 s6 (some FD) (some (rowD far))) := by
  have r : dRng1 [.int 300] = .ok ((List.range 300).map fun i => D.int (i : Nat)) := dRng1_nat 300 (by omega)
  have hb := lc_fun (gf := gfName 2) (f := eOp dMod (eVar 2) (eC (.int 251))) (ρ := eB sc DS base goal none s5 s6 (some FD) none) (e := fun i : Nat => D.int (i : Nat)) (g := fun k => dN (k % 251)) (xs := List.range 300) fun k hk => ⟨_, rfl, by
    have e : (k : Int) % 251 = ((k % 251 : Nat) : Int) := by omega
    unfold eB
    generalize stD base goal = ST
    generalize rowD (TT base goal goal.length).1 = T
    generalize D.tup ((dl base goal).map pcD) = DT
    simp only [sSeq_x, x_sSet, x_sIf, x_sRet, x_sRetN, x_sPar, x_sUnp, resF_ok, x_sDrop, x_sNext, x_sBreak, x_sCont, x_sRaise, x_sAug, augK_ok, x_sFor, x_sWhile, sKill_x, x_wipe0, x_wipe1, x_evL0, x_evL1, x_setL0, x_setL1, x_eVar, x_eC, x_eOp, x_eUn, x_eCall, x_eMS, x_asStr, x_aNil, x_aCons, x_eTup, x_eLst, x_eIf, x_eNot, x_eAnd, x_eOr, x_bAnd, x_bOr, x_bNot, x_bYes, x_eSl, x_oNone, x_oSome, asI_int, x_iSeq, x_iCall, x_gfName, x_gfTup, eLc, noX_is, Res.bind_ok, Res.bind_exc, flow_ok, flow_exc, seqK_next, seqK_ret, seqK_exc, seqK_brk, seqK_cont, loopK_next, loopK_cont, loopK_brk, loopK_ret, loopK_exc, must_ok, List.set_cons_succ, List.set_cons_zero, List.getD_cons_succ, List.getD_cons_zero, vD_some, if_true, if_false, Bool.false_eq_true, reduceIte, List.map_cons, List.map_nil, List.length_cons, List.length_nil, List.cons_append, List.nil_append, List.replicate, Nat.reduceSub, Nat.reduceAdd, x_add, x_sub, x_cmp, x_eq_ii, x_ne_ii, x_int_i, x_len_t, x_len_l, x_tup_l, x_tup_t, x_list_l, x_list_t, x_dSl_t, x_dSl_l, x_items_t, x_items_l, x_tru_n, x_tru_b, x_tru_i, x_tru_t, x_tru_l, x_asB, x_is_n, x_isNot_n, isNon_n, isNon_i, isNon_s, isNon_t, isNon_l, isNon_b, Bool.not_true, Bool.not_false, List.length_map, fnE, startE, x_mod _ 251 (by decide), e]⟩
  have ef : ((List.range 300).map fun k => dN (k % 251)) = far.map dN := by
    unfold far
    rw [List.map_map]
    rfl
  rw [ef] at hb
  have tp : fTuple [.lst (far.map dN)] = .ok (rowD far) := rfl
  generalize (List.range 300).map (fun i => D.int (i : Nat)) = R3 at *
  unfold eB at hb ⊢
  generalize rowD far = FR at *
  generalize far.map dN = FM at *
  generalize stD base goal = ST at *
  generalize rowD (TT base goal goal.length).1 = T at *
  generalize D.tup ((dl base goal).map pcD) = DT at *
  simp only [sSeq_x, x_sSet, x_sIf, x_sRet, x_sRetN, x_sPar, x_sUnp, resF_ok, x_sDrop, x_sNext, x_sBreak, x_sCont, x_sRaise, x_sAug, augK_ok, x_sFor, x_sWhile, sKill_x, x_wipe0, x_wipe1, x_evL0, x_evL1, x_setL0, x_setL1, x_eVar, x_eC, x_eOp, x_eUn, x_eCall, x_eMS, x_asStr, x_aNil, x_aCons, x_eTup, x_eLst, x_eIf, x_eNot, x_eAnd, x_eOr, x_bAnd, x_bOr, x_bNot, x_bYes, x_eSl, x_oNone, x_oSome, asI_int, x_iSeq, x_iCall, x_gfName, x_gfTup, eLc, noX_is, Res.bind_ok, Res.bind_exc, flow_ok, flow_exc, seqK_next, seqK_ret, seqK_exc, seqK_brk, seqK_cont, loopK_next, loopK_cont, loopK_brk, loopK_ret, loopK_exc, must_ok, List.set_cons_succ, List.set_cons_zero, List.getD_cons_succ, List.getD_cons_zero, vD_some, if_true, if_false, Bool.false_eq_true, reduceIte, List.map_cons, List.map_nil, List.length_cons, List.length_nil, List.cons_append, List.nil_append, List.replicate, Nat.reduceSub, Nat.reduceAdd, x_add, x_sub, x_cmp, x_eq_ii, x_ne_ii, x_int_i, x_len_t, x_len_l, x_tup_l, x_tup_t, x_list_l, x_list_t, x_dSl_t, x_dSl_l, x_items_t, x_items_l, x_tru_n, x_tru_b, x_tru_i, x_tru_t, x_tru_l, x_asB, x_is_n, x_isNot_n, isNon_n, isNon_i, isNon_s, isNon_t, isNon_l, isNon_b, Bool.not_true, Bool.not_false, List.length_map, fnE, startE, Lw14, r, hb, tp]
end
theorem pure_law (ns : List Int) (hn : ns.length ≤ 63) : C_law [.lst (ns.map .int)] = .ok (.bl true) := by
  obtain ⟨ds, hl, hd, eD⟩ := drawsN ns hn 90 (by omega)
  have eD : C__law_draws [.lst (ns.map .int), .int 90] = .ok (.lst (ds.map dN)) := eD
  generalize D.lst (ns.map .int) = sc at eD
  obtain ⟨base, b1, b2, h1⟩ := lw1 (sc := sc) hl
  obtain ⟨g0, c1, c2, h2⟩ := lw2 (sc := sc) hl (rowD base)
  obtain ⟨goal, s5, s6, g1, g2, h3⟩ := lw3 (sc := sc) hl b1 c1 b2 c2
  have hb : base.length ≤ 60 := by omega
  have hg : goal.length ≤ 60 := by omega
  have h4 := lw4 (sc := sc) (DS := .lst (ds.map dN)) (s2 := none) (s5 := s5) (s6 := s6) hb hg
  have h5 := lw5 (sc := sc) (DS := .lst (ds.map dN)) (base := base) (s2 := none) (s5 := s5) (s6 := s6) hg g2
  have h6 := lw6 (sc := sc) (DS := .lst (ds.map dN)) (s2 := none) (s5 := s5) (s6 := s6) hb hg b2 g2
  obtain ⟨h7, h8⟩ := lw78 (sc := sc) (DS := .lst (ds.map dN)) (s2 := none) (s5 := s5) (s6 := s6) hb hg b2 g2
  obtain ⟨t2, F, f1, f2, h10⟩ := lw10 (sc := sc) (base := base) (s5 := s5) (s6 := s6) hl hg
  have h11 := lw11 (sc := sc) (s5 := s5) (s6 := s6) hb hg b2 g2 (.lst (ds.map dN)) t2 F f1 f2
  obtain ⟨t3, h12⟩ := lw12 (sc := sc) (s5 := s5) (s6 := s6) hl hb hg b2 g2 (.lst (F.map itD)) t2
  have h13 := lw13 (sc := sc) (base := base) (goal := goal) (s5 := s5) (s6 := s6) (.lst (ds.map dN)) (.lst (F.map itD)) t3
  have h14 := lw14 (sc := sc) (base := base) (goal := goal) (s5 := s5) (s6 := s6) (.lst (ds.map dN)) (.lst (F.map itD)) t3
  have h15 := lw15 (a0 := some sc) (a1 := some (.lst (ds.map dN))) (a2 := t3) (a3 := some (rowD base)) (a4 := some (rowD goal)) (a5 := s5) (a6 := s6) (a7 := some (stD base goal)) (a8 := some (rowD (TT base goal goal.length).1)) (a9 := some (dN (pr base goal goal.length))) (a10 := some (.tup ((dl base goal).map pcD))) (a11 := some (rowD (TT base goal goal.length).1)) (a12 := some (.lst (F.map itD))) (a13 := none) (a14 := none) (a15 := none) (a16 := none) (a17 := none) (a18 := none) (a19 := none) (a22 := none)
  have h16 := lw16 (a0 := some sc) (a1 := some (.lst (ds.map dN))) (a2 := t3) (a3 := some (rowD base)) (a4 := some (rowD goal)) (a5 := s5) (a6 := s6) (a7 := some (stD base goal)) (a8 := some (rowD (TT base goal goal.length).1)) (a9 := some (dN (pr base goal goal.length))) (a10 := some (.tup ((dl base goal).map pcD))) (a11 := some (rowD (TT base goal goal.length).1)) (a12 := some (.lst (F.map itD))) (a13 := none) (a14 := none) (a15 := none) (a16 := none) (a17 := none) (a18 := none) (a19 := none) (a20 := some (rowD far)) (a22 := none)
  unfold eB at h6 h7 h8 h10 h11 h12 h13 h14
  generalize D.lst (ds.map dN) = DS at *
  generalize stD base goal = ST at *
  generalize rowD (TT base goal goal.length).1 = T at *
  generalize D.tup ((dl base goal).map pcD) = DT at *
  generalize D.lst (F.map itD) = FD at *
  generalize rowD far = FR at *
  have e : F_law [some sc, none, none, none, none, none, none, none, none, none, none, none, none, none, none, none, none, none, none, none, none, none, none] = .ret (.bl true) := by
    rw [Lw_eq]
    simp only [sSeq_x, x_sSet, x_sIf, x_sRet, x_sRetN, x_sPar, x_sUnp, resF_ok, x_sDrop, x_sNext, x_sBreak, x_sCont, x_sRaise, x_sAug, augK_ok, x_sFor, x_sWhile, sKill_x, x_wipe0, x_wipe1, x_evL0, x_evL1, x_setL0, x_setL1, x_eVar, x_eC, x_eOp, x_eUn, x_eCall, x_eMS, x_asStr, x_aNil, x_aCons, x_eTup, x_eLst, x_eIf, x_eNot, x_eAnd, x_eOr, x_bAnd, x_bOr, x_bNot, x_bYes, x_eSl, x_oNone, x_oSome, asI_int, x_iSeq, x_iCall, x_gfName, x_gfTup, eLc, noX_is, Res.bind_ok, Res.bind_exc, flow_ok, flow_exc, seqK_next, seqK_ret, seqK_exc, seqK_brk, seqK_cont, loopK_next, loopK_cont, loopK_brk, loopK_ret, loopK_exc, must_ok, List.set_cons_succ, List.set_cons_zero, List.getD_cons_succ, List.getD_cons_zero, vD_some, if_true, if_false, Bool.false_eq_true, reduceIte, List.map_cons, List.map_nil, List.length_cons, List.length_nil, List.cons_append, List.nil_append, List.replicate, Nat.reduceSub, Nat.reduceAdd, x_add, x_sub, x_cmp, x_eq_ii, x_ne_ii, x_int_i, x_len_t, x_len_l, x_tup_l, x_tup_t, x_list_l, x_list_t, x_dSl_t, x_dSl_l, x_items_t, x_items_l, x_tru_n, x_tru_b, x_tru_i, x_tru_t, x_tru_l, x_asB, x_is_n, x_isNot_n, isNon_n, isNon_i, isNon_s, isNon_t, isNon_l, isNon_b, Bool.not_true, Bool.not_false, List.length_map, fnE, startE, Lw0, Lw9, eD, h1, h2, h3, h4, h5, h6, h7, h8, h10, h11, h12, h13, h14, h15, h16]
  simp only [sSeq_x, x_sSet, x_sIf, x_sRet, x_sRetN, x_sPar, x_sUnp, resF_ok, x_sDrop, x_sNext, x_sBreak, x_sCont, x_sRaise, x_sAug, augK_ok, x_sFor, x_sWhile, sKill_x, x_wipe0, x_wipe1, x_evL0, x_evL1, x_setL0, x_setL1, x_eVar, x_eC, x_eOp, x_eUn, x_eCall, x_eMS, x_asStr, x_aNil, x_aCons, x_eTup, x_eLst, x_eIf, x_eNot, x_eAnd, x_eOr, x_bAnd, x_bOr, x_bNot, x_bYes, x_eSl, x_oNone, x_oSome, asI_int, x_iSeq, x_iCall, x_gfName, x_gfTup, eLc, noX_is, Res.bind_ok, Res.bind_exc, flow_ok, flow_exc, seqK_next, seqK_ret, seqK_exc, seqK_brk, seqK_cont, loopK_next, loopK_cont, loopK_brk, loopK_ret, loopK_exc, must_ok, List.set_cons_succ, List.set_cons_zero, List.getD_cons_succ, List.getD_cons_zero, vD_some, if_true, if_false, Bool.false_eq_true, reduceIte, List.map_cons, List.map_nil, List.length_cons, List.length_nil, List.cons_append, List.nil_append, List.replicate, Nat.reduceSub, Nat.reduceAdd, x_add, x_sub, x_cmp, x_eq_ii, x_ne_ii, x_int_i, x_len_t, x_len_l, x_tup_l, x_tup_t, x_list_l, x_list_t, x_dSl_t, x_dSl_l, x_items_t, x_items_l, x_tru_n, x_tru_b, x_tru_i, x_tru_t, x_tru_l, x_asB, x_is_n, x_isNot_n, isNon_n, isNon_i, isNon_s, isNon_t, isNon_l, isNon_b, Bool.not_true, Bool.not_false, List.length_map, fnE, startE, C_law, e]
end K
theorem PySem.Challenge.cw_patchwright_k88_whole_least_deltas_holds : PySem.Challenge.rw_patchwright_k88_whole_least_deltas.Holds := by
  exact K.top K.pure_law
