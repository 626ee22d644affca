import PyProof.Rows.All
import HandS.ForMost
import HandS.Exc
import HandS.TryOnly
import HandS.TryMany
import HandS.ExcOwn
import HandS.ExcIs
import HandS.WordsExc
import HandS.Flow
import HandS.Deep
import HandS.Dict
import HandS.HeadHook1
import HandS.TupAny
import HandS.TupMul
import HandS.Wide
import HandS.TupLen
import HandS.IsInst
import HandS.Text
import KE.DataMinMax
import HandS.Style
import HandS.Head0
import HandS.Head1
import HandS.Head2
import HandS.HeadEnd
import HandS.EndBits
import KE.GoesEnum
import HandS.Zip
import HandS.StrMore
import HandS.Replace
import HandS.RaiseMore
import HandS.Conv
import PyProof.CollectIter
import PyProof.EnumMake
import PyProof.JoinWalk
import KE.SortData
import HandS.Small
import HandS.SetFor
import HandS.Strs
import HandS.More
import PySem.Challenge.RW_patchwright_k30_nearest_ancestors
set_option Elab.async false
set_option linter.all false
set_option maxRecDepth 100000
set_option maxHeartbeats 4000000
set_option autoImplicit false
/-! Px: a layer over HandS: expressions and statements as functions over plain data. -/
namespace Px
open PySem PySem.Spec PyProof.Rows L2

/-- plain data -/
inductive D where
  | non
  | bl (b : Bool)
  | int (i : Int)
  | str (s : Str)
  | tup (xs : List D)
  | lst (xs : List D)
  | dic (t : Bool) (ks vs : List D)
  | ins (c : Str) (ns : List Str) (vs : List D)
  | set (xs : List D)
  | exc (c : Str)
  | oth

/-- the outcome of an expression -/
inductive Res (α : Type) where
  | ok (a : α)
  | exc (c : Str)
  | err
namespace Res
def bind {α β : Type} : Res α → (α → Res β) → Res β
  | .ok a, k => k a
  | .exc c, _ => .exc c
  | .err, _ => .err
instance : Monad Res where
  pure := .ok
  bind := Res.bind
@[simp] theorem bind_ok {α β : Type} (a : α) (k : α → Res β) : (Res.ok a >>= k) = k a := id rfl
@[simp] theorem bind_exc {α β : Type} (c : Str) (k : α → Res β) : ((Res.exc c : Res α) >>= k) = .exc c := id rfl
@[simp] theorem bind_err {α β : Type} (k : α → Res β) : ((Res.err : Res α) >>= k) = .err := id rfl
@[simp] theorem pure_ok {α : Type} (a : α) : (pure a : Res α) = .ok a := id rfl
end Res

abbrev Env := List (Option D)
abbrev EF := Env → Res D
inductive Flow where
  | next (ρ : Env) | brk (ρ : Env) | cont (ρ : Env) | ret (d : D) | exc (c : Str) (ρ : Env) | err
abbrev SF := Env → Flow
abbrev AS := Addr → Prop

/-! ### data in the heap -/
/-- a list of the written part -/
def KL (K : PySem.W.Frag) (a : Addr) (xs : List V) : Prop :=
  ∃ (o : Obj) (its : Array Value) (n : Nat), K.lookup a = some o ∧ o.cls = .type "list" ∧ o.dict = none ∧ o.data = .seq its n ∧ its.size ≤ sizeLine ∧ Vals xs its.toList
def dKey : Key → D
  | .inl i => .int i
  | .inr s => .str s
def dKeyT (k : List Key) : D := .tup (k.map dKey)
/-- the object of a dict: its keys, the values -/
def DcH (t : Bool) (ks : List D) (xs : List V) (o : HO) : Prop := match t with
  | false => ∃ kk : List Key, ks = kk.map dKey ∧ kk.length = xs.length ∧ kk.Nodup ∧ o = .dK (kk.zip xs)
  | true => ∃ kk : List (List Key), ks = kk.map dKeyT ∧ kk.length = xs.length ∧ kk.Nodup ∧ o = .dT (kk.zip xs)
/-- the object of a container with the children xs -/
def CnO (K : PySem.W.Frag) (d : D) (xs : List V) (o : HO) : Prop := match d with
  | .lst _ => o = .lst xs ∧ xs.length ≤ sizeLine
  | .dic t ks _ => DcH t ks xs o
  | .ins c ns _ => ∃ dx, o = .ins (He.ga K c) dx (ns.zip xs) ∧ ns.length = xs.length
  | _ => False
def isC : D → Bool
  | .lst _ => true
  | .dic _ _ _ => true
  | .ins _ _ _ => true
  | _ => false
def kids : D → List D
  | .lst xs => xs
  | .dic _ _ vs => vs
  | .ins _ _ vs => vs
  | _ => []
/-- an object that may be read: it is, or it is known and stays (lists and dicts alone) -/
def RdC (d : D) (H : Hp) (a : Addr) (o : HO) : Prop := H a = some o ∨ (match d with
  | .ins _ _ _ => False
  | _ => ∃ u, H a = some (.frz u o))
theorem RdC.rd {d : D} {H : Hp} {a : Addr} {o : HO} (h : RdC d H a o) : Rd H a o := by
  rcases h with h | h
  · exact .inl h
  · cases d <;> first | exact .inr h | exact h.elim
theorem RdC.keep {d : D} {H H' : Hp} {a : Addr} {o : HO} (h : RdC d H a o) (k : ∀ u, H a = some u → H' a = some u) : RdC d H' a o := by
  rcases h with h | h
  · exact .inl (k _ h)
  · refine .inr ?_
    cases d <;> first | (obtain ⟨u, h⟩ := h; exact ⟨u, k _ h⟩) | exact h.elim
theorem RdC.lst {ds : List D} {H : Hp} {a : Addr} {o : HO} (h : Rd H a o) : RdC (.lst ds) H a o := h
/-- what may be read as a container -/
def CnR (K : PySem.W.Frag) (H : Hp) (a : Addr) (d : D) (xs : List V) : Prop := (∃ o, CnO K d xs o ∧ RdC d H a o) ∨ (∃ ds, d = .lst ds) ∧ KL K a xs ∧ xs.length ≤ sizeLine
/-- .. that nobody owns -/
def CnX (K : PySem.W.Frag) (ex : AS) (H : Hp) (a : Addr) (d : D) (xs : List V) : Prop := (∃ o, CnO K d xs o ∧ RdC d H a o ∧ ¬ ex a) ∨ (∃ ds, d = .lst ds) ∧ KL K a xs ∧ xs.length ≤ sizeLine
theorem CnX.r {K : PySem.W.Frag} {ex : AS} {H : Hp} {a : Addr} {d : D} {xs : List V} (h : CnX K ex H a d xs) : CnR K H a d xs := by
  rcases h with ⟨o, h1, h2, _⟩ | h
  · exact .inl ⟨o, h1, h2⟩
  · exact .inr h
theorem CnR.x {K : PySem.W.Frag} {ex : AS} {H : Hp} {a : Addr} {d : D} {xs : List V} (h : CnR K H a d xs) (n : ¬ ex a) : CnX K ex H a d xs := by
  rcases h with ⟨o, h1, h2⟩ | h
  · exact .inl ⟨o, h1, h2, n⟩
  · exact .inr h
theorem CnR.sq {K : PySem.W.Frag} {H : Hp} {a : Addr} {ds : List D} {xs : List V} (h : CnR K H a (.lst ds) xs) : SqL K H a xs ∧ xs.length ≤ sizeLine := by
  rcases h with ⟨o, ⟨rfl, h1⟩, h2⟩ | ⟨_, h, hl⟩
  · exact ⟨.inl h2.rd, h1⟩
  · exact ⟨.inr h, hl⟩
theorem CnR.of {K : PySem.W.Frag} {H : Hp} {a : Addr} {ds : List D} {xs : List V} (h : SqL K H a xs) (hl : xs.length ≤ sizeLine) : CnR K H a (.lst ds) xs := by
  rcases h with h | h
  · exact .inl ⟨_, ⟨rfl, hl⟩, RdC.lst h⟩
  · exact .inr ⟨⟨_, rfl⟩, h, hl⟩

section
variable (K : PySem.W.Frag) (ex : AS) (H : Hp)
mutual
def R : D → V → Prop
  | .non, v => v = .non
  | .bl b, v => v = .bl b
  | .int i, v => v = .int i
  | .str s, v => v = .str s
  | .tup ds, v => ∃ a xs, v = .ref a ∧ (H a = some (.tup xs) ∧ xs.length ≤ sizeLine) ∧ RL ds xs
  | .lst ds, v => ∃ a xs, v = .ref a ∧ CnX K ex H a (.lst ds) xs ∧ RL ds xs
  | .dic t ks ds, v => ∃ a xs, v = .ref a ∧ CnX K ex H a (.dic t ks ds) xs ∧ RL ds xs
  | .ins c ns ds, v => ∃ a xs, v = .ref a ∧ CnX K ex H a (.ins c ns ds) xs ∧ RL ds xs
  | .set _, _ => False
  | .exc _, _ => False
  | .oth, _ => False
def RL : List D → List V → Prop
  | [], vs => vs = []
  | d :: ds, vs => ∃ v r, vs = v :: r ∧ R d v ∧ RL ds r
end
end
section
variable {K : PySem.W.Frag} {ex ex' : AS} {H H' : Hp}
theorem R.cn : ∀ {d : D} {v : V}, isC d = true → (R K ex H d v ↔ ∃ a xs, v = .ref a ∧ CnX K ex H a d xs ∧ RL K ex H (kids d) xs)
  | .lst ds, v, _ => by rw [R]; rfl
  | .dic _ _ ds, v, _ => by rw [R]; rfl
  | .ins _ _ ds, v, _ => by rw [R]; rfl
theorem RL.pair : ∀ {ds : List D} {vs : List V}, RL K ex H ds vs → Paired (R K ex H) ds vs
  | [], vs, h => by
    rw [RL] at h
    subst h
    exact .nil
  | d :: ds, vs, h => by
    rw [RL] at h
    obtain ⟨v, r, rfl, h1, h2⟩ := h
    exact .cons h1 (RL.pair h2)
theorem RL.of : ∀ {ds : List D} {vs : List V}, Paired (R K ex H) ds vs → RL K ex H ds vs
  | _, _, .nil => by rw [RL]
  | _, _, .cons h t => by
    rw [RL]
    exact ⟨_, _, rfl, h, RL.of t⟩
theorem RL.length {ds : List D} {vs : List V} (h : RL K ex H ds vs) : ds.length = vs.length := (RL.pair h).length
theorem Same.seqT {a : Addr} {xs : List V} (e : Same H H') (h : SqT K H a xs) : SqT K H' a xs := by
  rcases h with (h | ⟨o, h⟩) | h
  · exact .inl (.inl (e _ _ h))
  · exact .inl (.inr ⟨o, e _ _ h⟩)
  · exact .inr h
theorem Same.rd {a : Addr} {u : HO} (e : Same H H') (h : Rd H a u) : Rd H' a u := by
  rcases h with h | ⟨o, h⟩
  · exact .inl (e _ _ h)
  · exact .inr ⟨o, e _ _ h⟩
/-- what is not owned stays: all but what stands at addresses in ex, and the tuples -/
structure Keep (ex : AS) (H H' : Hp) : Prop where
  tup : ∀ a xs, H a = some (.tup xs) → H' a = some (.tup xs)
  obj : ∀ a o, ¬ ex a → H a = some o → H' a = some o
  there : ∀ a, H a ≠ none → H' a ≠ none
theorem Keep.free (k : Keep ex H H') {a : Addr} (h : H' a = none) : H a = none := Classical.byContradiction fun q => k.there a q h
theorem Keep.same (e : Same H H') : Keep ex H H' := ⟨fun _ _ h => e _ _ h, fun _ _ _ h => e _ _ h, fun a h q => h (e.free q)⟩
theorem Keep.toSame (k : Keep (fun _ => False) H H') : Same H H' := fun a o h => k.obj a o (fun q => q) h
theorem Keep.more {ey : AS} (k : Keep ex H H') (m : ∀ a, ex a → ey a) : Keep ey H H' := ⟨k.tup, fun a o n h => k.obj a o (fun q => n (m a q)) h, k.there⟩
theorem Keep.trans {H'' : Hp} (k : Keep ex H H') (l : Keep ex H' H'') : Keep ex H H'' := ⟨fun a xs h => l.tup a xs (k.tup a xs h), fun a o n h => l.obj a o n (k.obj a o n h), fun a h => l.there a (k.there a h)⟩
theorem Keep.rd (k : Keep ex H H') {a : Addr} {o : HO} (n : ¬ ex a) (h : Rd H a o) : Rd H' a o := by
  rcases h with h | ⟨u, h⟩
  · exact .inl (k.obj _ _ n h)
  · exact .inr ⟨u, k.obj _ _ n h⟩
theorem Rd.there {a : Addr} {o : HO} (h : Rd H a o) : H a ≠ none := fun q => by
  rcases h with h | ⟨u, h⟩ <;> rw [q] at h <;> cases h
theorem Keep.cnX (k : Keep ex H H') (m : ∀ a, ex' a → ex a ∨ H a = none) {a : Addr} {d : D} {xs : List V} (h : CnX K ex H a d xs) : CnX K ex' H' a d xs := by
  rcases h with ⟨o, h1, h2, n⟩ | h
  · refine .inl ⟨o, h1, h2.keep fun u hu => k.obj _ _ n hu, fun q => ?_⟩
    rcases m a q with q | q
    · exact n q
    · exact Rd.there h2.rd q
  · exact .inr h
mutual
theorem R.keep (k : Keep ex H H') (m : ∀ a, ex' a → ex a ∨ H a = none) : ∀ (d : D) {v : V}, R K ex H d v → R K ex' H' d v
  | .non, _, h => by
    rw [R] at h ⊢
    exact h
  | .bl _, _, h => by
    rw [R] at h ⊢
    exact h
  | .int _, _, h => by
    rw [R] at h ⊢
    exact h
  | .str _, _, h => by
    rw [R] at h ⊢
    exact h
  | .tup ds, _, h => by
    rw [R] at h ⊢
    obtain ⟨a, xs, e, h1, h2⟩ := h
    exact ⟨a, xs, e, ⟨k.tup _ _ h1.1, h1.2⟩, RL.keep k m ds h2⟩
  | .lst ds, _, h => by
    rw [R] at h ⊢
    obtain ⟨a, xs, e, h1, h2⟩ := h
    exact ⟨a, xs, e, k.cnX m h1, RL.keep k m ds h2⟩
  | .dic _ _ ds, _, h => by
    rw [R] at h ⊢
    obtain ⟨a, xs, e, h1, h2⟩ := h
    exact ⟨a, xs, e, k.cnX m h1, RL.keep k m ds h2⟩
  | .ins _ _ ds, _, h => by
    rw [R] at h ⊢
    obtain ⟨a, xs, e, h1, h2⟩ := h
    exact ⟨a, xs, e, k.cnX m h1, RL.keep k m ds h2⟩
  | .set _, _, h => by
    rw [R] at h
    exact h.elim
  | .exc _, _, h => by
    rw [R] at h
    exact h.elim
  | .oth, _, h => by
    rw [R] at h
    exact h.elim
theorem RL.keep (k : Keep ex H H') (m : ∀ a, ex' a → ex a ∨ H a = none) : ∀ (ds : List D) {vs : List V}, RL K ex H ds vs → RL K ex' H' ds vs
  | [], _, h => by
    rw [RL] at h ⊢
    exact h
  | d :: ds, _, h => by
    rw [RL] at h ⊢
    obtain ⟨v, r, e, h1, h2⟩ := h
    exact ⟨v, r, e, R.keep k m d h1, RL.keep k m ds h2⟩
end
theorem R.same (e : Same H H') {d : D} {v : V} (h : R K ex H d v) : R K ex H' d v := R.keep (Keep.same e) (fun _ q => .inl q) d h
theorem R.less (m : ∀ a, ex' a → ex a ∨ H a = none) {d : D} {v : V} (h : R K ex H d v) : R K ex' H d v := R.keep (Keep.same (Same.refl H)) m d h

/-! ### borrowed: the topmost n levels may be owned by someone -/
def RB (K : PySem.W.Frag) (ex : AS) (H : Hp) : Nat → D → V → Prop
  | 0, d, v => R K ex H d v
  | n + 1, d, v => if isC d = true then ∃ a xs, v = .ref a ∧ CnR K H a d xs ∧ Paired (RB K ex H n) (kids d) xs else R K ex H d v
theorem RB.cn {n : Nat} {d : D} {v : V} (c : isC d = true) : RB K ex H (n + 1) d v ↔ ∃ a xs, v = .ref a ∧ CnR K H a d xs ∧ Paired (RB K ex H n) (kids d) xs := by rw [RB, if_pos c]
theorem RB.nc {n : Nat} {d : D} {v : V} (c : isC d = false) : RB K ex H n d v ↔ R K ex H d v := by
  cases n with
  | zero => rw [RB]
  | succ n => rw [RB, if_neg (by rw [c]; decide)]
theorem RB.of : ∀ {n : Nat} {d : D} {v : V}, R K ex H d v → RB K ex H n d v
  | 0, _, _, h => h
  | n + 1, d, v, h => by
    cases c : isC d with
    | true =>
      obtain ⟨a, xs, e, h1, h2⟩ := (R.cn c).mp h
      exact (RB.cn c).mpr ⟨a, xs, e, h1.r, (RL.pair h2).mono fun _ _ q => RB.of q⟩
    | false => exact (RB.nc c).mpr h
theorem Same.cnR {a : Addr} {d : D} {xs : List V} (e : Same H H') (h : CnR K H a d xs) : CnR K H' a d xs := by
  rcases h with ⟨o, h1, h2⟩ | h
  · exact .inl ⟨o, h1, h2.keep fun u hu => e _ _ hu⟩
  · exact .inr h
theorem RB.same (e : Same H H') : ∀ {n : Nat} {d : D} {v : V}, RB K ex H n d v → RB K ex H' n d v
  | 0, _, _, h => R.same e h
  | n + 1, d, v, h => by
    cases c : isC d with
    | true =>
      obtain ⟨a, xs, q, h1, h2⟩ := (RB.cn c).mp h
      exact (RB.cn c).mpr ⟨a, xs, q, Same.cnR e h1, h2.mono fun _ _ q => RB.same e q⟩
    | false => exact (RB.nc c).mpr (R.same e ((RB.nc c).mp h))
theorem RB.up : ∀ {n : Nat} {d : D} {v : V}, RB K ex H n d v → RB K ex H (n + 1) d v
  | 0, _, _, h => RB.of h
  | n + 1, d, v, h => by
    cases c : isC d with
    | true =>
      obtain ⟨a, xs, q, h1, h2⟩ := (RB.cn c).mp h
      exact (RB.cn c).mpr ⟨a, xs, q, h1, h2.mono fun _ _ q => RB.up q⟩
    | false => exact (RB.nc c).mpr ((RB.nc c).mp h)

/-! ### owned: the topmost k levels stand at addresses of their own -/
inductive P3 {α β γ : Type} (F : α → β → γ → Prop) : List α → List β → List γ → Prop
  | nil : P3 F [] [] []
  | cons {a : α} {b : β} {c : γ} {as : List α} {bs : List β} {cs : List γ} : F a b c → P3 F as bs cs → P3 F (a :: as) (b :: bs) (c :: cs)
theorem P3.mono {α β γ : Type} {F G : α → β → γ → Prop} (h : ∀ a b c, F a b c → G a b c) : ∀ {as : List α} {bs : List β} {cs : List γ}, P3 F as bs cs → P3 G as bs cs
  | _, _, _, .nil => .nil
  | _, _, _, .cons x t => .cons (h _ _ _ x) (P3.mono h t)
theorem P3.mono2 {α β γ : Type} {F G : α → β → List γ → Prop} : ∀ {as : List α} {bs : List β} {cs : List (List γ)}, P3 F as bs cs → (∀ a b c, F a b c → (∀ x ∈ c, x ∈ cs.flatten) → G a b c) → P3 G as bs cs
  | _, _, _, .nil, _ => .nil
  | _, _, _, .cons x t, h => by
    refine .cons (h _ _ _ x fun y hy => ?_) (P3.mono2 t fun a b c f m => h a b c f fun y hy => ?_)
    · rw [List.flatten_cons]
      exact List.mem_append_left _ hy
    · rw [List.flatten_cons]
      exact List.mem_append_right _ (m y hy)
def RO (K : PySem.W.Frag) (ex : AS) (H : Hp) : Nat → D → V → List Addr → Prop
  | 0, d, v, fp => fp = [] ∧ R K ex H d v
  | k + 1, d, v, fp => if isC d = true then ∃ a xs fps o, v = .ref a ∧ (CnO K d xs o ∧ H a = some o) ∧ fp = a :: fps.flatten ∧ P3 (RO K ex H k) (kids d) xs fps else fp = [] ∧ R K ex H d v
theorem RO.cn {k : Nat} {d : D} {v : V} {fp : List Addr} (c : isC d = true) : RO K ex H (k + 1) d v fp ↔ ∃ a xs fps o, v = .ref a ∧ (CnO K d xs o ∧ H a = some o) ∧ fp = a :: fps.flatten ∧ P3 (RO K ex H k) (kids d) xs fps := by rw [RO, if_pos c]
theorem RO.nc {k : Nat} {d : D} {v : V} {fp : List Addr} (c : isC d = false) : RO K ex H k d v fp ↔ fp = [] ∧ R K ex H d v := by
  cases k with
  | zero => rw [RO]
  | succ k => rw [RO, if_neg (by rw [c]; decide)]
theorem RO.keep : ∀ {k : Nat} {d : D} {v : V} {fp : List Addr}, Keep ex H H' → (∀ a, ex' a → ex a ∨ H a = none) → (∀ a ∈ fp, ∀ o, H a = some o → H' a = some o) → RO K ex H k d v fp → RO K ex' H' k d v fp
  | 0, d, _, _, kp, m, _, h => by
    rw [RO] at h ⊢
    exact ⟨h.1, R.keep kp m d h.2⟩
  | k + 1, d, v, fp, kp, m, kf, h => by
    cases c : isC d with
    | true =>
      obtain ⟨a, xs, fps, o, e, h1, e2, h2⟩ := (RO.cn c).mp h
      subst e2
      refine (RO.cn c).mpr ⟨a, xs, fps, o, e, ⟨h1.1, kf a List.mem_cons_self _ h1.2⟩, rfl, P3.mono2 h2 fun x y z f mm => RO.keep kp m (fun b hb => kf b (List.mem_cons_of_mem _ (mm b hb))) f⟩
    | false =>
      obtain ⟨e, h⟩ := (RO.nc c).mp h
      exact (RO.nc c).mpr ⟨e, R.keep kp m d h⟩
theorem RO.same (e : Same H H') {k : Nat} {d : D} {v : V} {fp : List Addr} (h : RO K ex H k d v fp) : RO K ex H' k d v fp :=
  RO.keep (Keep.same e) (fun _ q => .inl q) (fun a _ o q => e a o q) h
theorem RO.less (m : ∀ a, ex' a → ex a ∨ H a = none) {k : Nat} {d : D} {v : V} {fp : List Addr} (h : RO K ex H k d v fp) : RO K ex' H k d v fp :=
  RO.keep (Keep.same (Same.refl H)) m (fun _ _ _ q => q) h
theorem P3.to {α β γ : Type} {F : α → β → List γ → Prop} {G : α → β → Prop} : ∀ {as : List α} {bs : List β} {cs : List (List γ)}, P3 F as bs cs → (∀ a b c, F a b c → (∀ x ∈ c, x ∈ cs.flatten) → G a b) → Paired G as bs
  | _, _, _, .nil, _ => .nil
  | _, _, _, .cons x t, h => by
    refine .cons (h _ _ _ x fun y hy => ?_) (P3.to t fun a b c f m => h a b c f fun y hy => ?_)
    · rw [List.flatten_cons]
      exact List.mem_append_left _ hy
    · rw [List.flatten_cons]
      exact List.mem_append_right _ (m y hy)
/-- given up: nothing of it is among the owned any more -/
theorem RO.shared : ∀ {k : Nat} {d : D} {v : V} {fp : List Addr}, RO K ex H k d v fp → (∀ a, ex' a → ex a) → (∀ a ∈ fp, ¬ ex' a) → R K ex' H d v
  | 0, d, _, _, h, m, _ => by
    rw [RO] at h
    exact R.less (fun a q => .inl (m a q)) h.2
  | k + 1, d, v, fp, h, m, n => by
    cases c : isC d with
    | true =>
      obtain ⟨a, xs, fps, o, e, h1, e2, h2⟩ := (RO.cn c).mp h
      subst e2
      exact (R.cn c).mpr ⟨a, xs, e, .inl ⟨o, h1.1, .inl h1.2, n a List.mem_cons_self⟩, RL.of (P3.to h2 fun x y z f mm => RO.shared f m fun b hb => n b (List.mem_cons_of_mem _ (mm b hb)))⟩
    | false =>
      obtain ⟨e, h⟩ := (RO.nc c).mp h
      exact R.less (fun a q => .inl (m a q)) h
theorem RO.borrow : ∀ {k : Nat} {d : D} {v : V} {fp : List Addr}, RO K ex H k d v fp → RB K ex H k d v
  | 0, _, _, _, h => by
    rw [RO] at h
    exact h.2
  | k + 1, d, v, fp, h => by
    cases c : isC d with
    | true =>
      obtain ⟨a, xs, fps, o, e, h1, e2, h2⟩ := (RO.cn c).mp h
      exact (RB.cn c).mpr ⟨a, xs, e, .inl ⟨o, h1.1, .inl h1.2⟩, P3.to h2 fun x y z f _ => RO.borrow f⟩
    | false => exact (RB.nc c).mpr ((RO.nc c).mp h).2
/-- what is shared anyway is owned to any depth where no list is at its top -/
theorem RO.zero {d : D} {v : V} (h : R K ex H d v) : RO K ex H 0 d v [] := ⟨rfl, h⟩
/-- what stands at an owned address is no tuple -/
theorem CnO.noTup {d : D} {xs : List V} {o : HO} (h : CnO K d xs o) : ∀ ys, o ≠ .tup ys := by
  intro ys e
  subst e
  cases d with
  | lst => cases h.1
  | dic t ks vs =>
    cases t with
    | false =>
      obtain ⟨_, _, _, _, e⟩ := h
      cases e
    | true =>
      obtain ⟨_, _, _, _, e⟩ := h
      cases e
  | ins c ns vs =>
    obtain ⟨_, e, _⟩ := h
    cases e
  | _ => exact h
theorem RO.what : ∀ {k : Nat} {d : D} {v : V} {fp : List Addr}, RO K ex H k d v fp → ∀ a ∈ fp, ∃ o, H a = some o ∧ ∀ ys, o ≠ .tup ys
  | 0, _, _, _, h, a, ha => by
    rw [RO] at h
    rw [h.1] at ha
    cases ha
  | k + 1, d, v, fp, h, a, ha => by
    cases c : isC d with
    | true =>
      obtain ⟨b, xs, fps, o, e, h1, e2, h2⟩ := (RO.cn c).mp h
      subst e2
      rcases List.mem_cons.mp ha with rfl | ha
      · exact ⟨o, h1.2, h1.1.noTup⟩
      · clear h1 e h
        generalize kids d = ds at h2
        induction h2 with
        | nil => cases ha
        | cons x t ih =>
          rw [List.flatten_cons] at ha
          rcases List.mem_append.mp ha with ha | ha
          · exact RO.what x a ha
          · exact ih (List.mem_cons_of_mem _ ha) ha
    | false =>
      rw [((RO.nc c).mp h).1] at ha
      cases ha
theorem RO.there {k : Nat} {d : D} {v : V} {fp : List Addr} (h : RO K ex H k d v fp) : ∀ a ∈ fp, H a ≠ none := fun a ha q => by
  obtain ⟨o, e, _⟩ := RO.what h a ha
  rw [q] at e
  cases e
end
end Px

namespace Px
open PySem PySem.Spec PyProof.Rows L2

/-! ### the names' values -/
structure SI (K : PySem.W.Frag) (ex : AS) (L : List Nat) (ρ : Env) (σ : L2.St) (H : Hp) (fp : Nat → List Addr) : Prop where
  len : ρ.length = σ.length
  val : ∀ i d, ρ[i]? = some (some d) → ∃ v, σ[i]? = some (some v) ∧ RO K ex H (L.getD i 0) d v (fp i)
  nod : ∀ i, (fp i).Nodup
  dis : ∀ i j a, a ∈ fp i → a ∈ fp j → i = j
  sub : ∀ i a, a ∈ fp i → ex a
  ext : ∀ a, ex a → H a ≠ none
/-- what a def's body is given: what callers own; what is lent to it, to be changed; the object whose method it is -/
structure CS (mb : Bool) where
  ex0 : AS
  io : AS
  sv : Option V
  hb : mb = false → sv = none
  hv : mb = true → sv ≠ none
instance {mb : Bool} : CoeFun (CS mb) (fun _ => AS) := ⟨CS.ex0⟩
/-- how a body hands back: a value, owned to a depth; or that and its object, owned to a depth -/
inductive RM where
  | r (kr : Nat)
  | m (kr km : Nat)
def RM.b : RM → Bool
  | .r _ => false
  | .m _ _ => true
/-- .. in a def's body: H0 the heap at its entry, ex0 what it is given, G what loops around walk over -/
structure SS {mb : Bool} (K : PySem.W.Frag) (H0 : Hp) (ex0 : CS mb) (G : List (D × V)) (L : List Nat) (ρ : Env) (σ : L2.St) (H : Hp) (fp : Nat → List Addr) : Prop where
  si : SI K (fun a => (∃ i, a ∈ fp i) ∨ ex0 a) L ρ σ H fp
  own : ∀ i a, a ∈ fp i → H0 a = none ∨ ex0.io a
  old : ∀ a, ex0 a → H0 a ≠ none ∧ ¬ ex0.io a
  same : Keep ex0.io H0 H
  slf : ∀ v, ex0.sv = some v → σ[0]? = some (some v)
  held : ∀ g ∈ G, R K (fun a => (∃ i, a ∈ fp i) ∨ ex0 a) H g.1 g.2
section
variable {K : PySem.W.Frag} {ex ex' : AS} {H H' : Hp} {L : List Nat} {ρ : Env} {σ : L2.St} {fp : Nat → List Addr}
theorem SI.same (I : SI K ex L ρ σ H fp) (e : Same H H') : SI K ex L ρ σ H' fp where
  len := I.len
  val := fun i d h => by
    obtain ⟨v, h1, h2⟩ := I.val i d h
    exact ⟨v, h1, h2.same e⟩
  nod := I.nod
  dis := I.dis
  sub := I.sub
  ext := fun a h q => by
    cases z : H a with
    | none => exact I.ext a h z
    | some o =>
      rw [e a o z] at q
      cases q
theorem new_not_ex (I : SI K ex L ρ σ H fp) {p : Addr} (h : H p = none) : ¬ ex p := fun q => I.ext p q h

/-! ### outcomes -/
/-- an outcome is met: the value's wish, or what is wanted of the exception (the class c of the module's) -/
def Out {α : Type} (X : Cx) (W : WX) (σ : L2.St) (H : Hp) (r : Res α) (P : α → Prop) : Prop :=
  match r with
  | .ok a => P a
  | .exc c => ∀ C, X.mg c = some (.ref C) → ∀ H', Same H H' → W (.ref C) none σ H'
  | .err => False
theorem Out.bind {α β : Type} {X : Cx} {W : WX} {r : Res α} {k : α → Res β} {P : β → Prop} (h : Out X W σ H (r >>= k) P) : Out X W σ H r (fun a => Out X W σ H (k a) P) := by
  cases r with
  | ok a => exact h
  | exc c => exact h
  | err => exact h
theorem Out.mono {α : Type} {X : Cx} {W : WX} {r : Res α} {P Q : α → Prop} (h : Out X W σ H r P) (m : ∀ a, P a → Q a) : Out X W σ H r Q := by
  cases r with
  | ok a => exact m a h
  | exc c => exact h
  | err => exact h
theorem Out.later {α : Type} {X : Cx} {W : WX} {r : Res α} {P : α → Prop} (h : Out X W σ H r P) (e : Same H H') : Out X W σ H' r P := by
  cases r with
  | ok a => exact h
  | exc c => exact fun C m H2 e2 => h C m H2 (e.trans e2)
  | err => exact h
/-- the value is known to be of a form -/
theorem Out.ok_iff {α : Type} {X : Cx} {W : WX} {a : α} {P : α → Prop} (h : Out X W σ H (.ok a) P) : P a := h
end

/-! ### the judgements -/
section
variable (X : Cx) (W : WX) (L : List Nat)
/-- borrowed to the depth n -/
def tB (n : Nat) (f : EF) : TE := fun σ H Q => ∃ ex ρ fp, SI X.K ex L ρ σ H fp ∧ Out X W σ H (f ρ) fun d => ∀ v H', Same H H' → RB X.K ex H' n d v → Q v H'
/-- owned to the depth k -/
def tO (k : Nat) (f : EF) : TE := fun σ H Q => ∃ ex ρ fp, SI X.K ex L ρ σ H fp ∧ Out X W σ H (f ρ) fun d => ∀ v H' fq, Same H H' → RO X.K (fun a => a ∈ fq ∨ ex a) H' k d v fq → fq.Nodup → (∀ a ∈ fq, H a = none) → Q v H'
/-- arguments, each borrowed to the depth n -/
def tAB (n m : Nat) (f : Env → Res (List D)) : TA := fun σ H Q => ∃ ex ρ fp, SI X.K ex L ρ σ H fp ∧ Out X W σ H (f ρ) fun ds => ∀ vs H', Same H H' → Paired (RB X.K ex H' n) ds vs → vs.length = m → Q vs H'
def tT (f : Env → Res Bool) : TT := fun σ H Q => ∃ ex ρ fp, SI X.K ex L ρ σ H fp ∧ Out X W σ H (f ρ) fun b => ∀ H', Same H H' → Q b H'
end
abbrev EB (X : Cx) (W : WX) (L : List Nat) (n : Nat) (e : Expr) (f : EF) : Prop := PE X e (tB X W L n f)
abbrev EO (X : Cx) (W : WX) (L : List Nat) (k : Nat) (e : Expr) (f : EF) : Prop := PE X e (tO X W L k f)
abbrev EA (X : Cx) (W : WX) (L : List Nat) (n m : Nat) (es : List Expr) (f : Env → Res (List D)) : Prop := PA X es (tAB X W L n m f)
abbrev ET (X : Cx) (W : WX) (L : List Nat) (e : Expr) (f : Env → Res Bool) : Prop := PT X e (tT X W L f)

theorem PE.imp {X : Cx} {e : Expr} {t t' : TE} (h : PE X e t) (m : ∀ σ H Q, t' σ H Q → t σ H Q) : PE X e t' := ⟨fun pins s σ H Q I q => h.run pins s σ H Q I (m σ H Q q)⟩
theorem PT.imp {X : Cx} {e : Expr} {t t' : TT} (h : PT X e t) (m : ∀ σ H Q, t' σ H Q → t σ H Q) : PT X e t' := ⟨fun pins s σ H Q I q => h.run pins s σ H Q I (m σ H Q q)⟩
theorem PW.imp {X : Cx} {e : Expr} {t t' : TT} (h : PW X e t) (m : ∀ σ H Q, t' σ H Q → t σ H Q) : PW X e t' := ⟨fun w pins s σ H Q I q => h.run w pins s σ H Q I (m σ H Q q)⟩
theorem PA.imp {X : Cx} {es : List Expr} {t t' : TA} (h : PA X es t) (m : ∀ σ H Q, t' σ H Q → t σ H Q) : PA X es t' := ⟨fun p pins s σ H Q I q => h.run p pins s σ H Q I (m σ H Q q)⟩
theorem PS.imp {X : Cx} {e : Stmt} {t t' : TS} (h : PS X e t) (m : ∀ D σ H, t' D σ H → t D σ H) : PS X e t' := ⟨fun pins s σ H D I q => h.run pins s σ H D I (m D σ H q)⟩
theorem PSs.imp {X : Cx} {e : List Stmt} {t t' : TS} (h : PSs X e t) (m : ∀ D σ H, t' D σ H → t D σ H) : PSs X e t' := ⟨fun pins s σ H D I q => h.run pins s σ H D I (m D σ H q)⟩

/-! ### changing the mode -/
section
variable {X : Cx} {W : WX} {L : List Nat} {e : Expr} {f g : EF} {n k : Nat}
theorem EO.b (h : EO X W L k e f) : EB X W L 0 e f := PE.imp h fun σ H Q ⟨ex, ρ, fp, I, o⟩ => ⟨ex, ρ, fp, I, o.mono fun d q v H' fq e r nd nw =>
  q v H' e (show R X.K ex H' d v from r.shared (fun a z => .inr z) fun a z => new_not_ex I (nw a z))⟩
theorem EB.up (h : EB X W L 0 e f) : EB X W L n e f := by
  refine PE.imp h fun σ H Q ⟨ex, ρ, fp, I, o⟩ => ⟨ex, ρ, fp, I, o.mono fun d q v H' e r => q v H' e (RB.of r)⟩
theorem EO.up (h : EO X W L k e f) : EB X W L n e f := EB.up (EO.b h)
theorem EB.o (h : EB X W L 0 e f) : EO X W L 0 e f := PE.imp h fun σ H Q ⟨ex, ρ, fp, I, o⟩ => ⟨ex, ρ, fp, I, o.mono fun d q v H' e r =>
  q v H' [] e ⟨rfl, R.less (fun a z => .inl (by
    rcases z with z | z
    · cases z
    · exact z)) r⟩ List.nodup_nil fun a z => nomatch z⟩
theorem EB.cg (h : EB X W L n e f) (m : ∀ ρ, g ρ = f ρ) : EB X W L n e g := by
  have e : g = f := funext m
  rw [e]
  exact h
end
end Px

namespace Px
open PySem PySem.Spec PyProof.Rows L2

/-! ### small facts -/
section
variable {K : PySem.W.Frag} {ex : AS} {H : Hp} {n k : Nat}
def notList : D → Bool
  | .lst _ => false
  | .dic _ _ _ => false
  | .ins _ _ _ => false
  | _ => true
theorem isC_not {d : D} (f : notList d = true) : isC d = false := by
  cases d <;> first | rfl | cases f
theorem RO.flat {d : D} {v : V} (h : R K ex H d v) (f : notList d = true) : RO K ex H k d v [] := (RO.nc (isC_not f)).mpr ⟨rfl, h⟩
theorem RB.flat {d : D} {v : V} (h : RB K ex H n d v) (f : notList d = true) : R K ex H d v := (RB.nc (isC_not f)).mp h
theorem RB.int {i : Int} {v : V} (h : RB K ex H n (.int i) v) : v = .int i := by
  have h := RB.flat h rfl
  rw [R] at h
  exact h
theorem RB.bl {b : Bool} {v : V} (h : RB K ex H n (.bl b) v) : v = .bl b := by
  have h := RB.flat h rfl
  rw [R] at h
  exact h
theorem RB.str {b : Str} {v : V} (h : RB K ex H n (.str b) v) : v = .str b := by
  have h := RB.flat h rfl
  rw [R] at h
  exact h
theorem RB.non {v : V} (h : RB K ex H n .non v) : v = .non := by
  have h := RB.flat h rfl
  rw [R] at h
  exact h
theorem RB.tupX {ds : List D} {v : V} (h : RB K ex H n (.tup ds) v) : ∃ a xs, v = .ref a ∧ H a = some (.tup xs) ∧ xs.length ≤ sizeLine ∧ Paired (R K ex H) ds xs := by
  have h := RB.flat h rfl
  rw [R] at h
  obtain ⟨a, xs, e, h1, h2⟩ := h
  exact ⟨a, xs, e, h1.1, h1.2, RL.pair h2⟩
theorem RB.tup {ds : List D} {v : V} (h : RB K ex H n (.tup ds) v) : ∃ a xs, v = .ref a ∧ SqT K H a xs ∧ xs.length ≤ sizeLine ∧ Paired (R K ex H) ds xs := by
  obtain ⟨a, xs, e, h1, h2⟩ := RB.tupX h
  exact ⟨a, xs, e, .inl (.inl h1), h2⟩
theorem RB.lst {ds : List D} {v : V} (h : RB K ex H (n + 1) (.lst ds) v) : ∃ a xs, v = .ref a ∧ SqL K H a xs ∧ xs.length ≤ sizeLine ∧ Paired (RB K ex H n) ds xs := by
  obtain ⟨a, xs, e, h1, h2⟩ := (RB.cn rfl).mp h
  exact ⟨a, xs, e, h1.sq.1, h1.sq.2, h2⟩
theorem R.lst {ds : List D} {v : V} (h : R K ex H (.lst ds) v) : ∃ a xs, v = .ref a ∧ SqL K H a xs ∧ xs.length ≤ sizeLine ∧ Paired (R K ex H) ds xs := by
  rw [R] at h
  obtain ⟨a, xs, e, h1, h2⟩ := h
  exact ⟨a, xs, e, h1.r.sq.1, h1.r.sq.2, RL.pair h2⟩
theorem RB.ref {d : D} {v : V} (h : RB K ex H n d v) (c : isC d = true) : ∃ a, v = .ref a := by
  cases n with
  | zero =>
    obtain ⟨a, _, e, _⟩ := (R.cn c).mp h
    exact ⟨a, e⟩
  | succ n =>
    obtain ⟨a, _, e, _⟩ := (RB.cn c).mp h
    exact ⟨a, e⟩
theorem R.no {v : V} : ∀ {d : D}, (match d with | .set _ => True | .exc _ => True | .oth => True | _ => False) → ¬ R K ex H d v
  | .set _, _, h => by
    rw [R] at h
    exact h
  | .exc _, _, h => by
    rw [R] at h
    exact h
  | .oth, _, h => by
    rw [R] at h
    exact h
theorem Paired.get {α β : Type} {F : α → β → Prop} : ∀ {as : List α} {bs : List β} {i : Nat} {a : α}, Paired F as bs → as[i]? = some a → ∃ b, bs[i]? = some b ∧ F a b
  | _, _, _, _, .nil, e => by simp at e
  | _, _, 0, _, .cons r _, e => by simp at e; subst e; exact ⟨_, rfl, r⟩
  | _, _, i + 1, x, .cons _ t, e => by
    obtain ⟨u, h1, h2⟩ := Paired.get (i := i) (a := x) t (by simpa using e)
    exact ⟨u, by simpa using h1, h2⟩
theorem Paired.app {α β : Type} {F : α → β → Prop} : ∀ {as cs : List α} {bs ds : List β}, Paired F as bs → Paired F cs ds → Paired F (as ++ cs) (bs ++ ds)
  | _, _, _, _, .nil, s => s
  | _, _, _, _, .cons r t, s => .cons r (Paired.app t s)
theorem Paired.takeP {α β : Type} {F : α → β → Prop} : ∀ {as : List α} {bs : List β} (n : Nat), Paired F as bs → Paired F (as.take n) (bs.take n)
  | _, _, 0, _ => .nil
  | _, _, _ + 1, .nil => .nil
  | _, _, n + 1, .cons r t => .cons r (Paired.takeP n t)
theorem Paired.dropP {α β : Type} {F : α → β → Prop} : ∀ {as : List α} {bs : List β} (n : Nat), Paired F as bs → Paired F (as.drop n) (bs.drop n)
  | _, _, 0, r => r
  | _, _, _ + 1, .nil => .nil
  | _, _, n + 1, .cons _ t => Paired.dropP n t
theorem Paired.setP {α β : Type} {F : α → β → Prop} {a : α} {b : β} (r : F a b) : ∀ {as : List α} {bs : List β} (i : Nat), Paired F as bs → Paired F (as.set i a) (bs.set i b)
  | _, _, _, .nil => .nil
  | _, _, 0, .cons _ t => .cons r t
  | _, _, i + 1, .cons q t => .cons q (Paired.setP r i t)
theorem Paired.revP {α β : Type} {F : α → β → Prop} : ∀ {as : List α} {bs : List β}, Paired F as bs → Paired F as.reverse bs.reverse
  | _, _, .nil => .nil
  | _, _, .cons r t => by
    rw [List.reverse_cons, List.reverse_cons]
    exact Paired.app (Paired.revP t) (.cons r .nil)
theorem Paired.flattenP {α β : Type} {F : α → β → Prop} {as : List α} {bs : List β} (h : Paired F as bs) : ∀ m : Nat, Paired F (List.replicate m as).flatten (List.replicate m bs).flatten
  | 0 => .nil
  | m + 1 => by
    rw [List.replicate_succ, List.replicate_succ, List.flatten_cons, List.flatten_cons]
    exact Paired.app h (Paired.flattenP h m)
theorem same_upd {p : Addr} {o : HO} (h : H p = none) : Same H (upd H p o) := fun b x e => by
  rw [upd_ne (ne_of_none e h)]
  exact e
/-- an owned object is changed -/
theorem Keep.upd {H1 : Hp} {a : Addr} {o o' : HO} (e : Same H H1) (hH : H a = some o) (nt : ∀ ys, o ≠ .tup ys) (hx : ex a) : Keep ex H (L2.upd H1 a o') where
  tup := fun b ys h => by
    have hb : b ≠ a := fun q => by
      rw [q, hH] at h
      exact nt ys (Option.some.inj h)
    rw [upd_ne hb]
    exact e _ _ h
  obj := fun b u n h => by
    rw [upd_ne (fun q => n (by rw [q]; exact hx))]
    exact e _ _ h
  there := fun b h q => by
    by_cases hb : b = a
    · rw [hb, upd_same] at q
      cases q
    · rw [upd_ne hb] at q
      exact h (e.free q)
theorem P3.ofP {α β γ : Type} {F : α → β → Prop} {G : α → β → List γ → Prop} (m : ∀ a b, F a b → G a b []) : ∀ {as : List α} {bs : List β}, Paired F as bs → ∃ fps, P3 G as bs fps ∧ fps.flatten = []
  | _, _, .nil => ⟨[], .nil, rfl⟩
  | _, _, .cons r t => by
    obtain ⟨fps, h, e⟩ := P3.ofP m t
    exact ⟨[] :: fps, .cons (m _ _ r) h, by rw [List.flatten_cons, e]; rfl⟩
theorem p3_zero {K : PySem.W.Frag} {ex : AS} {H : Hp} : ∀ {ds : List D} {vs : List V} {fps : List (List Addr)}, P3 (RO K ex H 0) ds vs fps → fps.flatten = [] ∧ Paired (R K ex H) ds vs
  | _, _, _, .nil => ⟨rfl, .nil⟩
  | _, _, _, .cons h t => by
    rw [RO] at h
    obtain ⟨a, b⟩ := p3_zero t
    exact ⟨by rw [List.flatten_cons, h.1, a]; rfl, .cons h.2 b⟩
theorem of_pair {K : PySem.W.Frag} {ex : AS} {H : Hp} {ds : List D} {vs : List V} (h : Paired (R K ex H) ds vs) : ∃ fps, P3 (RO K ex H 0) ds vs fps ∧ fps.flatten = [] := P3.ofP (G := RO K ex H 0) (fun a b q => ⟨rfl, q⟩) h
theorem paired_set {α β : Type} {F : α → β → Prop} : ∀ {as : List α} {bs : List β} {a : α} {b : β} (n : Nat), Paired F as bs → F a b → Paired F (as.set n a) (bs.set n b)
  | _, _, _, _, _, .nil, _ => .nil
  | _, _, _, _, 0, .cons _ t, h => .cons h t
  | _, _, _, _, n + 1, .cons x t, h => .cons x (paired_set n t h)
theorem new_less {p : Addr} (hp : H p = none) : ∀ a, (a ∈ [p] ∨ ex a) → ex a ∨ H a = none := fun a h => by
  rcases h with h | h
  · rw [List.mem_singleton.mp h]
    exact .inr hp
  · exact .inl h
/-- a new list of shared things is owned -/
theorem RO.newList {ds : List D} {xs : List V} {p : Addr} (r : Paired (R K ex H) ds xs) (hp : H p = none) (hl : xs.length ≤ sizeLine) :
    RO K (fun a => a ∈ [p] ∨ ex a) (upd H p (.lst xs)) 1 (.lst ds) (.ref p) [p] := by
  obtain ⟨fps, h, e⟩ := P3.ofP (G := RO K (fun a => a ∈ [p] ∨ ex a) (upd H p (.lst xs)) 0) (fun a b q => ⟨rfl, R.keep (Keep.same (same_upd (o := .lst xs) hp)) (new_less hp) a q⟩) r
  exact (RO.cn rfl).mpr ⟨p, xs, fps, _, rfl, ⟨⟨rfl, hl⟩, upd_same⟩, by rw [e], h⟩
theorem R.newTup {ds : List D} {xs : List V} {p : Addr} (r : Paired (R K ex H) ds xs) (hp : H p = none) (hl : xs.length ≤ sizeLine) : R K ex (upd H p (.tup xs)) (.tup ds) (.ref p) := by
  rw [R]
  exact ⟨p, xs, rfl, ⟨upd_same, hl⟩, RL.of (r.mono fun _ _ q => R.same (same_upd hp) q)⟩
theorem ex_nil {d : D} {v : V} (h : R K ex H d v) (f : notList d = true) : RO K (fun a => a ∈ ([] : List Addr) ∨ ex a) H k d v [] :=
  RO.flat (R.less (fun a q => .inl (by
    rcases q with q | q
    · cases q
    · exact q)) h) f
end

/-! ### expressions -/
/-- the wish for a new value, owned to the depth k -/
abbrev QO (K : PySem.W.Frag) (ex : AS) (H : Hp) (k : Nat) (Q : VK) (d : D) : Prop := ∀ v H' fq, Same H H' → RO K (fun a => a ∈ fq ∨ ex a) H' k d v fq → fq.Nodup → (∀ a ∈ fq, H a = none) → Q v H'
section
variable {K : PySem.W.Frag} {ex : AS} {H : Hp} {k : Nat} {Q : VK}
theorem QO.flat {d : D} (q : QO K ex H k Q d) {v : V} (h : R K ex H d v) (f : notList d = true) : Q v H := q v H [] (Same.refl H) (ex_nil h f) List.nodup_nil fun a z => nomatch z
theorem QO.int {i : Int} (q : QO K ex H k Q (.int i)) : Q (.int i) H := q.flat (by rw [R]) rfl
theorem QO.bl {i : Bool} (q : QO K ex H k Q (.bl i)) : Q (.bl i) H := q.flat (by rw [R]) rfl
theorem QO.str {i : Str} (q : QO K ex H k Q (.str i)) : Q (.str i) H := q.flat (by rw [R]) rfl
theorem QO.non (q : QO K ex H k Q .non) : Q .non H := q.flat (by rw [R]) rfl
theorem QO.lst {ds : List D} {xs : List V} {p : Addr} (q : QO K ex H 1 Q (.lst ds)) (r : Paired (R K ex H) ds xs) (hp : H p = none) (hl : xs.length ≤ sizeLine) : Q (.ref p) (upd H p (.lst xs)) :=
  q (.ref p) _ [p] (same_upd hp) (RO.newList r hp hl) (List.nodup_cons.mpr ⟨List.not_mem_nil, List.nodup_nil⟩) fun a z => by
    rw [List.mem_singleton.mp z]
    exact hp
theorem QO.tup {ds : List D} {xs : List V} {p : Addr} (q : QO K ex H k Q (.tup ds)) (r : Paired (R K ex H) ds xs) (hp : H p = none) (hl : xs.length ≤ sizeLine) : Q (.ref p) (upd H p (.tup xs)) :=
  q (.ref p) _ [] (same_upd hp) (ex_nil (R.newTup r hp hl) rfl) List.nodup_nil fun a z => nomatch z
end

def eVar (i : Nat) : EF := fun ρ => match ρ.getD i none with
  | some d => .ok d
  | none => .err
def eC (d : D) : EF := fun _ => .ok d
section
variable {X : Cx} {W : WX} {L : List Nat} {n k : Nat} {pos : Pos}
theorem getD_some {ρ : Env} {i : Nat} {d : D} (h : ρ.getD i none = some d) : ρ[i]? = some (some d) := by
  rw [List.getD_eq_getElem?_getD] at h
  cases e : ρ[i]? with
  | none => rw [e] at h; cases h
  | some z => rw [e] at h; exact congrArg some h
theorem RB.le {K : PySem.W.Frag} {ex : AS} {H : Hp} {j : Nat} {d : D} {v : V} (h : RB K ex H j d v) : ∀ {n : Nat}, j ≤ n → RB K ex H n d v := by
  intro n hn
  induction n with
  | zero =>
    have e : j = 0 := by omega
    rw [← e]
    exact h
  | succ n ih =>
    by_cases e : j = n + 1
    · rw [← e]
      exact h
    · exact (ih (by omega)).up
theorem eb_var {i : Nat} {x : Str} (hN : X.N[i]? = some x) (hv : Vis X.env.scope x) (hl : L.getD i 0 ≤ n) (hd : (x == ("__debug__" : Str)) = false := by decide) (hcd : (x == ("__classdict__" : Str)) = false := by decide) :
    EB X W L n (.Name x pos) (eVar i) := PE.imp (pe_var hN hv hd hcd) fun σ H Q ⟨ex, ρ, fp, I, o⟩ => by
  unfold eVar at o
  cases e : ρ.getD i none with
  | none => rw [e] at o; exact o.elim
  | some d =>
    rw [e] at o
    obtain ⟨v, h1, h2⟩ := I.val i d (getD_some e)
    exact ⟨v, h1, o v H (Same.refl H) (h2.borrow.le hl)⟩
theorem eo_int {i : Int} {j : Nat} : EO X W L k (.Constant (.int i) j pos) (eC (.int i)) := PE.imp pe_int fun σ H Q ⟨ex, ρ, fp, I, o⟩ => QO.int o
theorem eo_bl {i : Bool} {j : Nat} : EO X W L k (.Constant (.bool i) j pos) (eC (.bl i)) := PE.imp pe_bl fun σ H Q ⟨ex, ρ, fp, I, o⟩ => QO.bl o
theorem eo_str {i : Str} {j : Nat} : EO X W L k (.Constant (.str i) j pos) (eC (.str i)) := PE.imp pe_str fun σ H Q ⟨ex, ρ, fp, I, o⟩ => QO.str o
theorem eo_non {j : Nat} : EO X W L k (.Constant .none j pos) (eC .non) := PE.imp pe_non fun σ H Q ⟨ex, ρ, fp, I, o⟩ => QO.non o

/-! arguments -/
def aNil : Env → Res (List D) := fun _ => .ok []
def aCons (f : EF) (g : Env → Res (List D)) : Env → Res (List D) := fun ρ => f ρ >>= fun d => g ρ >>= fun ds => .ok (d :: ds)
variable {e : Expr} {es : List Expr} {f g : EF} {fs : Env → Res (List D)} {m : Nat}
theorem ea_nil : EA X W L n 0 [] aNil := PA.imp pa_nil fun σ H Q ⟨ex, ρ, fp, I, o⟩ => o [] H (Same.refl H) .nil rfl
theorem ea_cons (h : EB X W L n e f) (t : EA X W L n m es fs) (hs : starEach (e :: es) X.env = (false, eval e X.env) :: starEach es X.env := by rfl) : EA X W L n (m + 1) (e :: es) (aCons f fs) :=
  PA.imp (pa_cons h t hs) fun σ H Q ⟨ex, ρ, fp, I, o⟩ => by
    refine ⟨ex, ρ, fp, I, o.bind.mono fun d q v H1 e1 r1 => ⟨ex, ρ, fp, I.same e1, (q.bind.later e1).mono fun ds q2 vs H2 e2 r2 hm => ?_⟩⟩
    exact q2 (v :: vs) H2 (e1.trans e2) (.cons (r1.same e2) r2) (by rw [List.length_cons, hm])

/-! tuples, lists -/
def eTup (fs : Env → Res (List D)) : EF := fun ρ => fs ρ >>= fun ds => .ok (.tup ds)
def eLst (fs : Env → Res (List D)) : EF := fun ρ => fs ρ >>= fun ds => .ok (.lst ds)
theorem eo_tup {j : Nat} (h : EA X W L 0 m es fs) (hm : m ≤ sizeLine := by decide) : EO X W L k (.Tuple es j pos) (eTup fs) := PE.imp (pe_tup h) fun σ H Q ⟨ex, ρ, fp, I, o⟩ =>
  ⟨ex, ρ, fp, I, o.bind.mono fun ds q vs H1 e1 r1 hl => ⟨by omega, fun p hp => by
    refine QO.tup (K := X.K) (ex := ex) (k := k) (fun v H2 fq e2 ro nd nw => q v H2 fq (e1.trans e2) ro nd fun a ha => e1.free (nw a ha)) (r1 : Paired (R X.K ex H1) ds vs) hp (by omega)⟩⟩
theorem eo_lst (h : EA X W L 0 m es fs) (hm : m ≤ sizeLine := by decide) : EO X W L 1 (.List es pos) (eLst fs) := PE.imp (pe_lst h) fun σ H Q ⟨ex, ρ, fp, I, o⟩ =>
  ⟨ex, ρ, fp, I, o.bind.mono fun ds q vs H1 e1 r1 hl => ⟨by omega, fun p hp => by
    refine QO.lst (K := X.K) (ex := ex) (fun v H2 fq e2 ro nd nw => q v H2 fq (e1.trans e2) ro nd fun a ha => e1.free (nw a ha)) (r1 : Paired (R X.K ex H1) ds vs) hp (by omega)⟩⟩
theorem eo_nil : EO X W L (k + 1) (.List [] pos) (eC (.lst [])) := PE.imp (pe_lst pa_nil) fun σ H Q ⟨ex, ρ, fp, I, o⟩ => ⟨Nat.zero_le _, fun p hp =>
  o (.ref p) _ [p] (same_upd hp) ((RO.cn rfl).mpr ⟨p, [], [], _, rfl, ⟨⟨rfl, Nat.zero_le _⟩, upd_same⟩, rfl, .nil⟩) (List.nodup_cons.mpr ⟨List.not_mem_nil, List.nodup_nil⟩) fun a z => by
    rw [List.mem_singleton.mp z]
    exact hp⟩

/-! operators -/
/-- a binary operation does what a function over data does -/
def Op2 (X : Cx) (n m k : Nat) (f : Value → Value → Sem Value) (g : D → D → Res D) : Prop :=
  OpR X f fun x y H Q => ∃ ex d1 d2 d, (∀ a, ex a → H a ≠ none) ∧ RB X.K ex H n d1 x ∧ RB X.K ex H m d2 y ∧ g d1 d2 = .ok d ∧ QO X.K ex H k Q d
def eOp (o : D → D → Res D) (f g : EF) : EF := fun ρ => f ρ >>= fun a => g ρ >>= fun b => o a b
variable {a b c : Expr} {o o' : D → D → Res D} {n1 n2 : Nat}
theorem no_exc {α : Type} {r : Res α} {σ : L2.St} {H : Hp} {P : α → Prop} (h : Out X W σ H r P) (ne : ∀ c, r ≠ .exc c) : ∃ d, r = .ok d ∧ P d := by
  cases r with
  | ok d => exact ⟨d, rfl, h⟩
  | exc c => exact absurd rfl (ne c)
  | err => exact h.elim
/-- an operation over data that raises nothing -/
def NoX2 (o : D → D → Res D) : Prop := ∀ a b c, o a b ≠ .exc c
theorem eo_op {op : Operator} (ho : Op2 X n1 n2 k (binaryOp op) o) (nx : NoX2 o) (ha : EB X W L n1 a f) (hb : EB X W L n2 b g) : EO X W L k (.BinOp a op b pos) (eOp o f g) :=
  PE.imp (pe_op ho ha hb) fun σ H Q ⟨ex, ρ, fp, I, q⟩ => by
    refine ⟨ex, ρ, fp, I, q.bind.mono fun d1 q1 v1 H1 e1 r1 => ⟨ex, ρ, fp, I.same e1, (q1.bind.later e1).mono fun d2 q2 v2 H2 e2 r2 => ?_⟩⟩
    obtain ⟨d, ed, qd⟩ := no_exc q2 (nx d1 d2)
    exact ⟨ex, d1, d2, d, ((I.same e1).same e2).ext, r1.same e2, r2, ed, fun v H3 fq e3 ro nd nw => qd v H3 fq ((e1.trans e2).trans e3) ro nd fun a ha => (e1.trans e2).free (nw a ha)⟩
theorem eo_cmp {op : CmpOp} (ho : Op2 X n1 n2 k (compareOp op) o) (nx : NoX2 o) (ha : EB X W L n1 a f) (hb : EB X W L n2 b g) (hm : behindInMarks op b = false) : EO X W L k (.Compare a [op] [b] pos) (eOp o f g) :=
  PE.imp (pe_cmpR ho ha hb hm) fun σ H Q ⟨ex, ρ, fp, I, q⟩ => by
    refine ⟨ex, ρ, fp, I, q.bind.mono fun d1 q1 v1 H1 e1 r1 => ⟨ex, ρ, fp, I.same e1, (q1.bind.later e1).mono fun d2 q2 v2 H2 e2 r2 => ?_⟩⟩
    obtain ⟨d, ed, qd⟩ := no_exc q2 (nx d1 d2)
    exact ⟨ex, d1, d2, d, ((I.same e1).same e2).ext, r1.same e2, r2, ed, fun v H3 fq e3 ro nd nw => qd v H3 fq ((e1.trans e2).trans e3) ro nd fun a ha => (e1.trans e2).free (nw a ha)⟩
end
end Px

namespace Px
open PySem PySem.Spec PyProof.Rows L2
/-! ### dicts: keys and places -/
section
variable {κ : Type} [DecidableEq κ]
/-- where a key stands -/
def kIdx (kk : List κ) (k : κ) : Option Nat := kk.findIdx? fun j => decide (j = k)
theorem kIdx_nil (k : κ) : kIdx ([] : List κ) k = none := rfl
theorem kIdx_cons (j : κ) (kk : List κ) (k : κ) : kIdx (j :: kk) k = if j = k then some 0 else (kIdx kk k).map (· + 1) := by
  unfold kIdx
  rw [List.findIdx?_cons]
  by_cases h : j = k
  · simp [h]
  · simp [h]
theorem kIdx_lt {kk : List κ} {k : κ} {n : Nat} (h : kIdx kk k = some n) : n < kk.length ∧ kk[n]? = some k := by
  unfold kIdx at h
  obtain ⟨h1, h2, _⟩ := List.findIdx?_eq_some_iff_getElem.mp h
  refine ⟨h1, ?_⟩
  rw [List.getElem?_eq_getElem h1]
  simp at h2
  rw [h2]
theorem kIdx_none {kk : List κ} {k : κ} (h : kIdx kk k = none) : k ∉ kk := fun q => by
  unfold kIdx at h
  have := List.findIdx?_eq_none_iff.mp h k q
  simp at this
theorem valV_zip (k : κ) : ∀ (kk : List κ) (xs : List V), kk.length = xs.length → valV (kk.zip xs) k = (kIdx kk k).bind (xs[·]?)
  | [], [], _ => rfl
  | [], _ :: _, h => by simp at h
  | _ :: _, [], h => by simp at h
  | j :: kk, x :: xs, h => by
    rw [List.zip_cons_cons, kIdx_cons]
    by_cases e : j = k
    · rw [if_pos e, valV_pos (p := (j, x)) e]
      rfl
    · rw [if_neg e, valV_neg (p := (j, x)) e, valV_zip k kk xs (by simpa using h)]
      cases kIdx kk k <;> rfl
theorem zip_set (v : V) : ∀ (kk : List κ) (xs : List V) (n : Nat) (k : κ), kk[n]? = some k → kk.Nodup → kk.length = xs.length → ((kk.zip xs).map fun kv => if kv.1 = k then (kv.1, v) else kv) = kk.zip (xs.set n v)
  | [], _, _, _, h, _, _ => by simp at h
  | j :: kk, [], _, _, _, _, h => by simp at h
  | j :: kk, x :: xs, 0, k, h, nd, hl => by
    simp at h
    subst h
    rw [List.zip_cons_cons, List.map_cons, List.set_cons_zero, List.zip_cons_cons]
    simp only [if_true]
    congr 1
    have hn := (List.nodup_cons.mp nd).1
    have : ∀ p ∈ kk.zip xs, (if p.1 = j then (p.1, v) else p) = p := fun p hp => by
      rw [if_neg]
      intro q
      obtain ⟨a, b⟩ := p
      have := (List.of_mem_zip hp).1
      exact hn (q ▸ this)
    rw [List.map_congr_left this]
    simp
  | j :: kk, x :: xs, n + 1, k, h, nd, hl => by
    simp at h
    have hn := (List.nodup_cons.mp nd).1
    have hj : j ≠ k := fun q => hn (q ▸ List.mem_of_getElem? h)
    rw [List.zip_cons_cons, List.map_cons, List.set_cons_succ, List.zip_cons_cons, zip_set v kk xs n k h (List.nodup_cons.mp nd).2 (by simpa using hl)]
    simp [hj]
theorem zip_any (k : κ) : ∀ (kk : List κ) (xs : List V), kk.length = xs.length → ((kk.zip xs).any fun kv => decide (kv.1 = k)) = (kIdx kk k).isSome
  | [], _, _ => rfl
  | _ :: _, [], h => by simp at h
  | j :: kk, x :: xs, h => by
    rw [List.zip_cons_cons, List.any_cons, kIdx_cons, zip_any k kk xs (by simpa using h)]
    by_cases e : j = k
    · simp [e]
    · simp [e]
theorem putK_zip (kk : List κ) (xs : List V) (k : κ) (v : V) (hl : kk.length = xs.length) (nd : kk.Nodup) : putK (kk.zip xs) k v = match kIdx kk k with
    | some n => kk.zip (xs.set n v)
    | none => (kk ++ [k]).zip (xs ++ [v]) := by
  unfold putK
  rw [zip_any k kk xs hl]
  cases h : kIdx kk k with
  | some n =>
    simp only [Option.isSome_some, if_true]
    exact zip_set v kk xs n k (kIdx_lt h).2 nd hl
  | none =>
    simp only [Option.isSome_none, Bool.false_eq_true, if_false]
    rw [List.zip_append hl]
    rfl
theorem dropK_zip : ∀ (kk : List κ) (xs : List V) (k : κ) (n : Nat), kIdx kk k = some n → kk.length = xs.length → kk.Nodup → dropK (kk.zip xs) k = (kk.eraseIdx n).zip (xs.eraseIdx n)
  | [], _, _, _, h, _, _ => by cases h
  | _ :: _, [], _, _, _, h, _ => by simp at h
  | j :: kk, x :: xs, k, n, h, hl, nd => by
    rw [kIdx_cons] at h
    rw [List.zip_cons_cons]
    by_cases e : j = k
    · rw [if_pos e] at h
      cases h
      rw [dropK_pos (p := (j, x)) e, List.eraseIdx_cons_zero, List.eraseIdx_cons_zero]
      refine dropK_no fun q => ?_
      have hn := (List.nodup_cons.mp nd).1
      obtain ⟨p, hp, rfl⟩ := List.mem_map.mp q
      obtain ⟨a, b⟩ := p
      exact hn (e ▸ (List.of_mem_zip hp).1)
    · rw [if_neg e] at h
      cases q : kIdx kk k with
      | none => rw [q] at h; cases h
      | some m =>
        rw [q] at h
        cases h
        rw [dropK_neg (p := (j, x)) e, List.eraseIdx_cons_succ, List.eraseIdx_cons_succ, List.zip_cons_cons, dropK_zip kk xs k m q (by simpa using hl) (List.nodup_cons.mp nd).2]
theorem kIdx_map {α : Type} (f : κ → α) (p : α → Bool) (k : κ) (h : ∀ j, p (f j) = decide (j = k)) : ∀ kk : List κ, (kk.map f).findIdx? p = kIdx kk k
  | [] => rfl
  | j :: kk => by
    rw [List.map_cons, List.findIdx?_cons, kIdx_cons, h, kIdx_map f p k h kk]
    by_cases e : j = k
    · simp [e]
    · simp [e]
end
def kOf : D → Option Key
  | .int i => some (.inl i)
  | .str s => some (.inr s)
  | _ => none
def kOfs : List D → Option (List Key)
  | [] => some []
  | d :: ds => match kOf d, kOfs ds with
    | some k, some ks => some (k :: ks)
    | _, _ => none
def tOf : D → Option (List Key)
  | .tup ds => kOfs ds
  | _ => none
theorem kOf_key (k : Key) : kOf (dKey k) = some k := by cases k <;> rfl
theorem kOfs_key : ∀ k : List Key, kOfs (k.map dKey) = some k
  | [] => rfl
  | a :: r => by rw [List.map_cons, kOfs, kOf_key, kOfs_key r]
theorem tOf_key (k : List Key) : tOf (dKeyT k) = some k := kOfs_key k
theorem kOf_eq {d : D} {k : Key} (h : kOf d = some k) : d = dKey k := by
  cases d <;> cases h <;> rfl
theorem kOfs_eq : ∀ {ds : List D} {k : List Key}, kOfs ds = some k → ds = k.map dKey
  | [], _, h => by cases h; rfl
  | d :: ds, k, h => by
    rw [kOfs] at h
    split at h
    · rename_i a r h1 h2
      cases h
      rw [kOf_eq h1, kOfs_eq h2]
      rfl
    · cases h
theorem tOf_eq {d : D} {k : List Key} (h : tOf d = some k) : d = dKeyT k := by
  cases d with
  | tup ds => rw [kOfs_eq (ds := ds) h]; rfl
  | _ => cases h
/-- where a key stands among the keys of a dict -/
def dFind (t : Bool) (ks : List D) (d : D) : Res (Option Nat) := match t with
  | false => match kOf d with
    | some k => .ok (ks.findIdx? fun j => decide (kOf j = some k))
    | none => .err
  | true => match tOf d with
    | some k => .ok (ks.findIdx? fun j => decide (tOf j = some k))
    | none => .err
section
variable {K : PySem.W.Frag} {ex : AS} {H : Hp} {n : Nat}
theorem RB.key {d : D} {v : V} {k : Key} (h : RB K ex H n d v) (e : kOf d = some k) : v = kV k := by
  rw [kOf_eq e] at h
  cases k with
  | inl i => exact h.int
  | inr s => exact h.str
theorem keys_vals : ∀ {k : List Key} {vs : List V}, Paired (R K ex H) (k.map dKey) vs → vs = k.map kV
  | [], _, h => by cases h; rfl
  | a :: r, _, h => by
    rw [List.map_cons] at h
    cases h with
    | cons x t =>
      rw [List.map_cons, ← keys_vals t, RB.key (n := 0) x (kOf_key a)]
theorem RB.keyT {d : D} {v : V} {k : List Key} (h : RB K ex H n d v) (e : tOf d = some k) : ∃ b, v = .ref b ∧ H b = some (.tup (k.map kV)) := by
  rw [tOf_eq e] at h
  obtain ⟨a, xs, rfl, h1, _, h3⟩ := RB.tupX h
  exact ⟨a, rfl, by rw [h1, keys_vals h3]⟩
/-- a look at a dict -/
theorem dFind_get {a : Addr} {t : Bool} {ks vs : List D} {xs : List V} {d : D} {y : V} {o : Option Nat} (h : CnR K H a (.dic t ks vs) xs) (r : RB K ex H n d y) (e : dFind t ks d = .ok o) :
    DGet H a y (o.bind (xs[·]?)) ∧ (∀ m, o = some m → m < xs.length) := by
  rcases h with ⟨o2, h1, h2⟩ | ⟨⟨_, h⟩, _⟩
  · cases t with
    | false =>
      obtain ⟨kk, rfl, hl, nd, rfl⟩ := h1
      unfold dFind at e
      cases hk : kOf d with
      | none => simp only [hk] at e; cases e
      | some k =>
        simp only [hk] at e
        rw [kIdx_map dKey _ k (fun j => by rw [kOf_key]; simp)] at e
        cases e
        refine ⟨.inl ⟨_, k, h2.rd, r.key hk, ?_⟩, fun m hm => by rw [← hl]; exact (kIdx_lt hm).1⟩
        rw [valV_zip k kk xs hl]
    | true =>
      obtain ⟨kk, rfl, hl, nd, rfl⟩ := h1
      unfold dFind at e
      cases hk : tOf d with
      | none => simp only [hk] at e; cases e
      | some k =>
        simp only [hk] at e
        rw [kIdx_map dKeyT _ k (fun j => by rw [tOf_key]; simp)] at e
        cases e
        obtain ⟨b, rfl, hb⟩ := r.keyT hk
        refine ⟨.inr ⟨_, k, b, h2.rd, rfl, hb, ?_⟩, fun m hm => by rw [← hl]; exact (kIdx_lt hm).1⟩
        rw [valV_zip k kk xs hl]
  · cases h
/-- what stands behind a store: keys, children -/
def kPut {α : Type} (o : Option Nat) (xs : List α) (x : α) : List α := match o with
  | some n => xs.set n x
  | none => xs ++ [x]
def kAdd (o : Option Nat) (ks : List D) (k : D) : List D := match o with
  | some _ => ks
  | none => ks ++ [k]
theorem nd_add {κ : Type} {kk : List κ} {k : κ} (nd : kk.Nodup) (h : k ∉ kk) : (kk ++ [k]).Nodup := by
  rw [List.nodup_append]
  refine ⟨nd, by simp, fun a ha b hb e => ?_⟩
  rw [List.mem_singleton.mp hb] at e
  exact h (e ▸ ha)
theorem dFind_put {a : Addr} {t : Bool} {ks vs : List D} {xs : List V} {d : D} {y v : V} {o : Option Nat} {ho : HO} (h : CnO K (.dic t ks vs) xs ho) (hH : H a = some ho) (r : RB K ex H n d y) (e : dFind t ks d = .ok o) (hz : xs.length < sizeLine) (vs' : List D) :
    ∃ ho', DPut H a y v (upd H a ho') ∧ CnO K (.dic t (kAdd o ks d) vs') (kPut o xs v) ho' := by
  cases t with
  | false =>
    obtain ⟨kk, rfl, hl, nd, rfl⟩ := h
    unfold dFind at e
    cases hk : kOf d with
    | none => simp only [hk] at e; cases e
    | some k =>
      simp only [hk] at e
      rw [kIdx_map dKey _ k (fun j => by rw [kOf_key]; simp)] at e
      cases e
      refine ⟨_, .inl ⟨_, k, hH, r.key hk, by rw [List.length_zip]; omega, rfl⟩, ?_⟩
      rw [putK_zip kk xs k v hl nd]
      cases q : kIdx kk k with
      | some m => exact ⟨kk, rfl, by show kk.length = (xs.set m v).length; rw [List.length_set]; exact hl, nd, rfl⟩
      | none => exact ⟨kk ++ [k], by show kk.map dKey ++ [d] = _; rw [List.map_append, kOf_eq hk]; rfl, by show (kk ++ [k]).length = (xs ++ [v]).length; simp [hl], nd_add nd (kIdx_none q), rfl⟩
  | true =>
    obtain ⟨kk, rfl, hl, nd, rfl⟩ := h
    unfold dFind at e
    cases hk : tOf d with
    | none => simp only [hk] at e; cases e
    | some k =>
      simp only [hk] at e
      rw [kIdx_map dKeyT _ k (fun j => by rw [tOf_key]; simp)] at e
      cases e
      obtain ⟨b, rfl, hb⟩ := r.keyT hk
      refine ⟨_, .inr ⟨_, k, b, hH, rfl, hb, by rw [List.length_zip]; omega, rfl⟩, ?_⟩
      rw [putK_zip kk xs k v hl nd]
      cases q : kIdx kk k with
      | some m => exact ⟨kk, rfl, by show kk.length = (xs.set m v).length; rw [List.length_set]; exact hl, nd, rfl⟩
      | none => exact ⟨kk ++ [k], by show kk.map dKeyT ++ [d] = _; rw [List.map_append, tOf_eq hk]; rfl, by show (kk ++ [k]).length = (xs ++ [v]).length; simp [hl], nd_add nd (kIdx_none q), rfl⟩
theorem RB.cnr {d : D} {v : V} (c : isC d = true) (h : RB K ex H n d v) : ∃ a xs, v = .ref a ∧ CnR K H a d xs ∧ Paired (RB K ex H (n - 1)) (kids d) xs := by
  cases n with
  | zero =>
    obtain ⟨a, xs, e, h1, h2⟩ := (R.cn c).mp h
    exact ⟨a, xs, e, h1.r, RL.pair h2⟩
  | succ n => exact (RB.cn c).mp h
theorem nodup_eraseIdx {κ : Type} : ∀ {kk : List κ} (n : Nat), kk.Nodup → (kk.eraseIdx n).Nodup := fun n h => h.sublist (List.eraseIdx_sublist _ n)
theorem CnO.dic_len {t : Bool} {ks vs : List D} {xs : List V} {ho : HO} (h : CnO K (.dic t ks vs) xs ho) : ks.length = xs.length := by
  cases t with
  | false =>
    obtain ⟨kk, rfl, hl, _⟩ := h
    rw [List.length_map]
    exact hl
  | true =>
    obtain ⟨kk, rfl, hl, _⟩ := h
    rw [List.length_map]
    exact hl
end
end Px

namespace Px
open PySem PySem.Spec PyProof.Rows L2

/-! ### data that is compared -/
mutual
def toP : D → PyData
  | .non => .none
  | .bl b => .bool b
  | .int i => .int i
  | .str s => .str s
  | .tup xs => .tuple (toPL xs)
  | .lst xs => .list (toPL xs)
  | .dic _ _ _ => .none
  | .ins _ _ _ => .none
  | .set _ => .none
  | .exc _ => .none
  | .oth => .none
def toPL : List D → List PyData
  | [] => []
  | x :: xs => toP x :: toPL xs
end
mutual
/-- plain data to the depth n -/
def okN : Nat → D → Bool
  | _, .non => true
  | _, .bl _ => true
  | _, .int _ => true
  | _, .str s => PyData.strOk s
  | 0, .tup _ => false
  | n + 1, .tup xs => okL n xs
  | 0, .lst _ => false
  | n + 1, .lst xs => okL n xs
  | _, .dic _ _ _ => false
  | _, .ins _ _ _ => false
  | _, .set _ => false
  | _, .exc _ => false
  | _, .oth => false
def okL : Nat → List D → Bool
  | _, [] => true
  | n, x :: xs => okN n x && okL n xs
end
mutual
def eqD : D → D → Bool
  | .non, .non => true
  | .bl a, .bl b => a == b
  | .bl a, .int j => (if a then 1 else 0) == j
  | .int i, .bl b => i == (if b then 1 else 0)
  | .int i, .int j => i == j
  | .str x, .str y => x == y
  | .lst xs, .lst ys => eqDL xs ys
  | .tup xs, .tup ys => eqDL xs ys
  | _, _ => false
def eqDL : List D → List D → Bool
  | [], [] => true
  | x :: xs, y :: ys => eqD x y && eqDL xs ys
  | _, _ => false
end
theorem okL_all (n : Nat) : ∀ xs : List D, okL n xs = xs.all (okN n)
  | [] => by rw [okL, List.all_nil]
  | x :: xs => by rw [okL, List.all_cons, okL_all n xs]
mutual
theorem ok_lay : ∀ (n : Nat) (d : D), okN n d = true → (toP d).canLay0 = true ∧ (toP d).depth ≤ n
  | n, .non, _ => by simp [toP, PyData.canLay0, PyData.depth]
  | n, .bl _, _ => by simp [toP, PyData.canLay0, PyData.depth]
  | n, .int _, _ => by simp [toP, PyData.canLay0, PyData.depth]
  | n, .str _, h => by
    rw [okN] at h
    simp [toP, PyData.canLay0, PyData.depth, h]
  | 0, .tup _, h => by simp [okN] at h
  | n + 1, .tup xs, h => by
    rw [okN] at h
    obtain ⟨a, b⟩ := ok_layL n xs h
    simp only [toP, PyData.canLay0, PyData.depth]
    exact ⟨a, by omega⟩
  | 0, .lst _, h => by simp [okN] at h
  | n + 1, .lst xs, h => by
    rw [okN] at h
    obtain ⟨a, b⟩ := ok_layL n xs h
    simp only [toP, PyData.canLay0, PyData.depth]
    exact ⟨a, by omega⟩
  | n, .dic _ _ _, h => by simp [okN] at h
  | n, .ins _ _ _, h => by simp [okN] at h
  | n, .set _, h => by simp [okN] at h
  | n, .exc _, h => by simp [okN] at h
  | n, .oth, h => by simp [okN] at h
theorem ok_layL : ∀ (n : Nat) (ds : List D), okL n ds = true → PyData.canLayAll0 (toPL ds) = true ∧ PyData.depthAll (toPL ds) ≤ n
  | n, [], _ => by simp [toPL, PyData.canLayAll0, PyData.depthAll]
  | n, d :: ds, h => by
    rw [okL, Bool.and_eq_true] at h
    obtain ⟨a, b⟩ := ok_lay n d h.1
    obtain ⟨a2, b2⟩ := ok_layL n ds h.2
    simp only [toPL, PyData.canLayAll0, PyData.depthAll, a, a2, Bool.and_self, true_and]
    omega
end
theorem ok_shaped {d : D} (h : okN 60 d = true) : SeqAt.shaped (toP d) = true := by
  obtain ⟨a, b⟩ := ok_lay 60 d h
  unfold SeqAt.shaped
  rw [a, Bool.true_and, decide_eq_true_eq]
  omega
mutual
theorem eqD_eqv : ∀ (n m : Nat) (a b : D), okN n a = true → okN m b = true → PyData.eqv (toP a) (toP b) = eqD a b
  | _, _, .non, b, _, h => by cases b <;> simp_all [toP, PyData.eqv, eqD, okN]
  | _, _, .bl _, b, _, h => by cases b <;> simp_all [toP, PyData.eqv, eqD, okN]
  | _, _, .int _, b, _, h => by cases b <;> simp_all [toP, PyData.eqv, eqD, okN]
  | _, _, .str _, b, _, h => by cases b <;> simp_all [toP, PyData.eqv, eqD, okN]
  | n, m, .tup xs, b, h1, h => by
    cases n with
    | zero => simp [okN] at h1
    | succ n =>
      cases b with
      | tup ys =>
        cases m with
        | zero => simp [okN] at h
        | succ m =>
          rw [okN] at h1 h
          rw [toP, toP, PyData.eqv, eqD]
          exact eqD_eqvL n m xs ys h1 h
      | _ => simp_all [toP, PyData.eqv, eqD, okN]
  | n, m, .lst xs, b, h1, h => by
    cases n with
    | zero => simp [okN] at h1
    | succ n =>
      cases b with
      | lst ys =>
        cases m with
        | zero => simp [okN] at h
        | succ m =>
          rw [okN] at h1 h
          rw [toP, toP, PyData.eqv, eqD]
          exact eqD_eqvL n m xs ys h1 h
      | _ => simp_all [toP, PyData.eqv, eqD, okN]
  | _, _, .dic _ _ _, _, h, _ => by simp [okN] at h
  | _, _, .ins _ _ _, _, h, _ => by simp [okN] at h
  | _, _, .set _, _, h, _ => by simp [okN] at h
  | _, _, .exc _, _, h, _ => by simp [okN] at h
  | _, _, .oth, _, h, _ => by simp [okN] at h
theorem eqD_eqvL : ∀ (n m : Nat) (a b : List D), okL n a = true → okL m b = true → PyData.eqvAll (toPL a) (toPL b) = eqDL a b
  | _, _, [], [], _, _ => by simp [toPL, PyData.eqvAll, eqDL]
  | _, _, [], _ :: _, _, _ => by simp [toPL, PyData.eqvAll, eqDL]
  | _, _, _ :: _, [], _, _ => by simp [toPL, PyData.eqvAll, eqDL]
  | n, m, x :: xs, y :: ys, h1, h2 => by
    rw [okL, Bool.and_eq_true] at h1 h2
    rw [toPL, toPL, PyData.eqvAll, eqDL, eqD_eqv n m x y h1.1 h2.1, eqD_eqvL n m xs ys h1.2 h2.2]
end
section
variable {K : PySem.W.Frag} {ex : AS} {H : Hp}
mutual
theorem R.dp : ∀ (n : Nat) (d : D) {v : V}, okN n d = true → R K ex H d v → Dp K H v (toP d)
  | _, .non, v, _, h => by
    rw [R] at h
    subst h
    rw [toP]
    exact .non
  | _, .bl _, v, _, h => by
    rw [R] at h
    subst h
    rw [toP]
    exact .bl _
  | _, .int _, v, _, h => by
    rw [R] at h
    subst h
    rw [toP]
    exact .int _
  | _, .str _, v, _, h => by
    rw [R] at h
    subst h
    rw [toP]
    exact .str _
  | 0, .tup ds, v, k, _ => by simp [okN] at k
  | n + 1, .tup ds, v, k, h => by
    rw [R] at h
    rw [okN] at k
    obtain ⟨a, xs, rfl, h1, h2⟩ := h
    rw [toP]
    exact .tup (.inl (.inl h1.1)) (RL.dp n ds k h2)
  | 0, .lst ds, v, k, _ => by simp [okN] at k
  | n + 1, .lst ds, v, k, h => by
    rw [R] at h
    rw [okN] at k
    obtain ⟨a, xs, rfl, h1, h2⟩ := h
    rw [toP]
    exact .lst h1.r.sq.1 (RL.dp n ds k h2)
  | _, .dic _ _ _, _, k, _ => by simp [okN] at k
  | _, .ins _ _ _, _, k, _ => by simp [okN] at k
  | _, .set _, _, k, _ => by simp [okN] at k
  | _, .exc _, _, k, _ => by simp [okN] at k
  | _, .oth, _, k, _ => by simp [okN] at k
theorem RL.dp : ∀ (n : Nat) (ds : List D) {vs : List V}, okL n ds = true → RL K ex H ds vs → DpAll K H vs (toPL ds)
  | _, [], _, _, h => by
    rw [RL] at h
    subst h
    rw [toPL]
    exact .nil
  | n, d :: ds, _, k, h => by
    rw [RL] at h
    rw [okL, Bool.and_eq_true] at k
    obtain ⟨v, r, rfl, h1, h2⟩ := h
    rw [toPL]
    exact .cons (R.dp n d k.1 h1) (RL.dp n ds k.2 h2)
end
theorem RB.dp : ∀ {n : Nat} (m : Nat) {d : D} {v : V}, okN m d = true → RB K ex H n d v → Dp K H v (toP d)
  | 0, m, d, _, k, h => R.dp m d k h
  | n + 1, m, d, v, k, h => by
    cases d with
    | lst ds =>
      cases m with
      | zero => simp [okN] at k
      | succ m =>
      rw [okN] at k
      obtain ⟨a, xs, rfl, h1, hz, h2⟩ := RB.lst h
      rw [toP]
      refine .lst h1 ?_
      clear h h1 hz
      induction h2 with
      | nil =>
        rw [toPL]
        exact .nil
      | cons x t ih =>
        rw [okL, Bool.and_eq_true] at k
        rw [toPL]
        exact .cons (RB.dp m k.1 x) (ih k.2)
    | dic _ _ _ => simp [okN] at k
    | ins _ _ _ => simp [okN] at k
    | _ => exact R.dp m _ k (RB.flat h rfl)
end

/-! ### comparisons -/
def dEq (a b : D) : Res D := if okN 60 a && okN 60 b then .ok (.bl (eqD a b)) else .err
def dNe (a b : D) : Res D := if okN 60 a && okN 60 b then .ok (.bl (!eqD a b)) else .err
def dCmpI (p : Int → Int → Bool) : D → D → Res D
  | .int i, .int j => .ok (.bl (p i j))
  | _, _ => .err
def isNon : D → Bool
  | .non => true
  | _ => false
def dIs : D → D → Res D
  | a, .non => .ok (.bl (isNon a))
  | _, _ => .err
def dIsNot : D → D → Res D
  | a, .non => .ok (.bl (!isNon a))
  | _, _ => .err
def dIn : D → D → Res D
  | a, .lst xs => if okN 60 a && okN 60 (.lst xs) then .ok (.bl (xs.any fun z => eqD z a)) else .err
  | a, .tup xs => if okN 60 a && okN 60 (.tup xs) then .ok (.bl (xs.any fun z => eqD z a)) else .err
  | .str a, .str s => if a.cps.size = 1 then .ok (.bl (decide (a.cps.getD 0 0 ∈ s.cps.toList))) else .ok (.bl (!(Builtin.Str.occurrences s a 0 s.length 1).isEmpty))
  | a, .dic t ks _ => match dFind t ks a with
    | .ok o => .ok (.bl o.isSome)
    | _ => .err
  | _, _ => .err
def dNotIn (a b : D) : Res D := match dIn a b with
  | .ok (.bl x) => .ok (.bl (!x))
  | _ => .err
section
variable {X : Cx} {n m k : Nat}
theorem dEq_nx : NoX2 dEq := fun a b c h => by
  unfold dEq at h
  split at h <;> cases h
theorem dNe_nx : NoX2 dNe := fun a b c h => by
  unfold dNe at h
  split at h <;> cases h
theorem dCmpI_nx {p : Int → Int → Bool} : NoX2 (dCmpI p) := fun a b c h => by
  unfold dCmpI at h
  split at h <;> cases h
theorem dIs_nx : NoX2 dIs := fun a b c h => by
  unfold dIs at h
  split at h <;> cases h
theorem dIsNot_nx : NoX2 dIsNot := fun a b c h => by
  unfold dIsNot at h
  split at h <;> cases h
theorem dNotIn_nx : NoX2 dNotIn := fun a b c h => by
  unfold dNotIn at h
  split at h <;> cases h
theorem dIn_nx : NoX2 dIn := fun a b c h => by
  unfold dIn at h
  split at h <;> first | cases h | (split at h <;> cases h)
theorem o_eq (hu : X.A.units + 64 < cLine) : Op2 X n m k (compareOp .Eq) dEq := fun pins s σ H x y v u Q I rx ry h => by
  obtain ⟨ex, d1, d2, d, ext, r1, r2, e, q⟩ := h
  unfold dEq at e
  split at e
  · rename_i ok
    rw [Bool.and_eq_true] at ok
    cases e
    exact op_eqD hu pins s σ H x y v u Q I rx ry ⟨toP d1, toP d2, (r1.dp 60 ok.1), (r2.dp 60 ok.2), ok_shaped ok.1, ok_shaped ok.2, by rw [eqD_eqv 60 60 d1 d2 ok.1 ok.2]; exact q.bl⟩
  · cases e
theorem o_ne (hu : X.A.units + 64 < cLine) : Op2 X n m k (compareOp .NotEq) dNe := fun pins s σ H x y v u Q I rx ry h => by
  obtain ⟨ex, d1, d2, d, ext, r1, r2, e, q⟩ := h
  unfold dNe at e
  split at e
  · rename_i ok
    rw [Bool.and_eq_true] at ok
    cases e
    exact op_neD hu pins s σ H x y v u Q I rx ry ⟨toP d1, toP d2, (r1.dp 60 ok.1), (r2.dp 60 ok.2), ok_shaped ok.1, ok_shaped ok.2, by rw [eqD_eqv 60 60 d1 d2 ok.1 ok.2]; exact q.bl⟩
  · cases e
theorem o_cmpI {f : Value → Value → Sem Value} {p : Int → Int → Bool} (h0 : OpR X f (rI0 fun i j => .bl (p i j))) : Op2 X n m k f (dCmpI p) := fun pins s σ H x y v u Q I rx ry h => by
  obtain ⟨ex, d1, d2, d, ext, r1, r2, e, q⟩ := h
  unfold dCmpI at e
  split at e
  · cases e
    exact h0 pins s σ H x y v u Q I rx ry ⟨_, _, r1.int, r2.int, q.bl⟩
  · cases e
abbrev iLt : Int → Int → Bool := fun i j => decide (i < j)
abbrev iLe : Int → Int → Bool := fun i j => decide (i ≤ j)
abbrev iGt : Int → Int → Bool := fun i j => decide (j < i)
abbrev iGe : Int → Int → Bool := fun i j => decide (j ≤ i)
theorem o_lt : Op2 X n m k (compareOp .Lt) (dCmpI iLt) := o_cmpI op_lt
theorem o_le : Op2 X n m k (compareOp .LtE) (dCmpI iLe) := o_cmpI op_le
theorem o_gt : Op2 X n m k (compareOp .Gt) (dCmpI iGt) := o_cmpI op_gt
theorem o_ge : Op2 X n m k (compareOp .GtE) (dCmpI iGe) := o_cmpI op_ge
theorem RB.isNon {K : PySem.W.Frag} {ex : AS} {H : Hp} {d : D} {v : V} (h : RB K ex H n d v) : decide (v = V.non) = Px.isNon d := by
  cases d with
  | non =>
    rw [h.non]
    rfl
  | bl b =>
    rw [h.bl]
    rfl
  | int b =>
    rw [h.int]
    rfl
  | str b =>
    rw [h.str]
    exact decide_eq_false fun q => nomatch q
  | tup xs =>
    obtain ⟨a, ys, rfl, _⟩ := h.tup
    exact decide_eq_false fun q => nomatch q
  | lst xs =>
    obtain ⟨a, ys, rfl, _⟩ := (h.up).lst
    exact decide_eq_false fun q => nomatch q
  | dic _ _ _ =>
    obtain ⟨a, rfl⟩ := h.ref rfl
    exact decide_eq_false fun q => nomatch q
  | ins _ _ _ =>
    obtain ⟨a, rfl⟩ := h.ref rfl
    exact decide_eq_false fun q => nomatch q
  | _ => exact absurd (RB.flat h rfl) (R.no (by trivial))
theorem o_is : Op2 X n m k (compareOp .Is) dIs := fun pins s σ H x y v u Q I rx ry h => by
  obtain ⟨ex, d1, d2, d, ext, r1, r2, e, q⟩ := h
  unfold dIs at e
  split at e
  · cases e
    exact op_isN pins s σ H x y v u Q I rx ry ⟨r2.non, by rw [RB.isNon r1]; exact q.bl⟩
  · cases e
theorem o_isNot : Op2 X n m k (compareOp .IsNot) dIsNot := fun pins s σ H x y v u Q I rx ry h => by
  obtain ⟨ex, d1, d2, d, ext, r1, r2, e, q⟩ := h
  unfold dIsNot at e
  split at e
  · cases e
    exact op_notN pins s σ H x y v u Q I rx ry ⟨r2.non, by rw [RB.isNon r1]; exact q.bl⟩
  · cases e
theorem any_toP (a : D) (ha : okN 60 a = true) (n : Nat) : ∀ xs : List D, okL n xs = true → ((toPL xs).any fun z => PyData.eqv z (toP a)) = xs.any fun z => eqD z a
  | [], _ => by rw [toPL]; rfl
  | x :: xs, h => by
    rw [okL, Bool.and_eq_true] at h
    rw [toPL, List.any_cons, List.any_cons, any_toP a ha n xs h.2, eqD_eqv n 60 x a h.1 ha]
theorem one_sign {a : Str} (h : a.cps.size = 1) : a = ⟨#[a.cps.getD 0 0]⟩ := by
  obtain ⟨cps⟩ := a
  obtain ⟨l⟩ := cps
  cases l with
  | nil => cases h
  | cons c r =>
    cases r with
    | nil => rfl
    | cons _ _ => simp at h
theorem o_in_aux (hu : X.A.units + 65 < cLine) (neg : Bool) (op : CmpOp) (hop : op = if neg then .NotIn else .In)
    {pins : List (Addr × Obj)} {s : Shared} {σ : L2.St} {H : Hp} {x y : V} {v u : Value} {Q : VK} (I : Inv X pins σ H s) (rx : RelV x v) (ry : RelV y u) {ex : AS} {d1 d2 : D} {b : Bool} (r1 : RB X.K ex H n d1 x) (r2 : RB X.K ex H m d2 y) (e : dIn d1 d2 = .ok (.bl b))
    (q : Q (.bl (if neg then !b else b)) H) : wpAny (model X.prog X.w) X.A (compareOp op v u) (EP X pins σ Q) X.xe s := by
  unfold dIn at e
  split at e
  · rename_i xs
    split at e
    · rename_i ok
      rw [Bool.and_eq_true] at ok
      have e2 : (xs.any fun z => eqD z d1) = b := by cases e; rfl
      have hl : okL 59 xs = true := by have := ok.2; rw [okN] at this; exact this
      have hr := RB.dp 60 ok.2 r2
      rw [toP] at hr
      have hs : SeqAt.shaped (.list (toPL xs)) = true := by have := ok_shaped ok.2; rw [toP] at this; exact this
      cases neg with
      | false =>
        subst hop
        exact op_inD hu pins s σ H x y v u Q I rx ry ⟨toP d1, toPL xs, (r1.dp 60 ok.1), hr, ok_shaped ok.1, hs, by rw [any_toP d1 ok.1 59 xs hl, e2]; exact q⟩
      | true =>
        subst hop
        exact op_notInD hu pins s σ H x y v u Q I rx ry ⟨toP d1, toPL xs, (r1.dp 60 ok.1), hr, ok_shaped ok.1, hs, by rw [any_toP d1 ok.1 59 xs hl, e2]; exact q⟩
    · cases e
  · rename_i xs
    split at e
    · rename_i ok
      rw [Bool.and_eq_true] at ok
      have e2 : (xs.any fun z => eqD z d1) = b := by cases e; rfl
      have hl : okL 59 xs = true := by have := ok.2; rw [okN] at this; exact this
      have hr := RB.dp 60 ok.2 r2
      rw [toP] at hr
      have hs : SeqAt.shaped (.tuple (toPL xs)) = true := by have := ok_shaped ok.2; rw [toP] at this; exact this
      obtain ⟨as, q1⟩ := Dp.reads I (toP d1) x v (r1.dp 60 ok.1) rx
      obtain ⟨bs, q2⟩ := Dp.reads I (.tuple (toPL xs)) y u hr ry
      cases neg with
      | false =>
        subst hop
        exact SeqAt.in_tuple_reads q2 q1 (SeqAt.canLay_of_shaped hs) (SeqAt.canLay_of_shaped (ok_shaped ok.1)) (room_in_shaped (ok_shaped ok.1) hu) ⟨.bl _, H, I, rfl, by rw [any_toP d1 ok.1 59 xs hl, e2]; exact q⟩
      | true =>
        subst hop
        exact SeqAt.notIn_tuple_reads q2 q1 (SeqAt.canLay_of_shaped hs) (SeqAt.canLay_of_shaped (ok_shaped ok.1)) (room_in_shaped (ok_shaped ok.1) hu) ⟨.bl _, H, I, rfl, by rw [any_toP d1 ok.1 59 xs hl, e2]; exact q⟩
    · cases e
  · rename_i a z
    split at e
    · rename_i h1
      have e2 : decide (a.cps.getD 0 0 ∈ z.cps.toList) = b := by cases e; rfl
      have ex1 := r1.str
      rw [one_sign h1] at ex1
      cases neg with
      | false =>
        subst hop
        exact op_in_sign pins s σ H x y v u Q I rx ry ⟨a.cps.getD 0 0, z, ex1, r2.str, by rw [e2]; exact q⟩
      | true =>
        subst hop
        exact op_notIn_sign pins s σ H x y v u Q I rx ry ⟨a.cps.getD 0 0, z, ex1, r2.str, by rw [e2]; exact q⟩
    · have e2 : (!(Builtin.Str.occurrences z a 0 z.length 1).isEmpty) = b := by cases e; rfl
      cases neg with
      | false =>
        subst hop
        exact op_in_str pins s σ H x y v u Q I rx ry ⟨a, z, r1.str, r2.str, by rw [e2]; exact q⟩
      | true =>
        subst hop
        exact op_notIn_str pins s σ H x y v u Q I rx ry ⟨a, z, r1.str, r2.str, by rw [e2]; exact q⟩
  · split at e
    · rename_i o ho
      have e2 : o.isSome = b := by cases e; rfl
      obtain ⟨a, xs, rfl, h1, h2⟩ := RB.cnr rfl r2
      cases ry
      obtain ⟨g, hlt⟩ := dFind_get h1 r1 ho
      have e3 : (o.bind (xs[·]?)).isSome = b := by
        rw [← e2]
        cases o with
        | none => rfl
        | some m => simp [hlt m rfl]
      cases neg with
      | false =>
        subst hop
        exact d_in (by omega) I g rx fun s' I' => ⟨.bl _, H, I', rfl, by rw [e3]; exact q⟩
      | true =>
        subst hop
        exact d_notIn (by omega) I g rx fun s' I' => ⟨.bl _, H, I', rfl, by rw [e3]; exact q⟩
    · cases e
  · cases e
theorem dIn_bl {a b d : D} (h : dIn a b = .ok d) : ∃ x, d = .bl x := by
  unfold dIn at h
  split at h <;> first | cases h | (split at h <;> first | (cases h; done) | (cases h; exact ⟨_, rfl⟩))
theorem o_in (hu : X.A.units + 65 < cLine) : Op2 X n m k (compareOp .In) dIn := fun pins s σ H x y v u Q I rx ry h => by
  obtain ⟨ex, d1, d2, d, ext, r1, r2, e, q⟩ := h
  obtain ⟨b, rfl⟩ := dIn_bl e
  exact o_in_aux hu false .In rfl I rx ry r1 r2 e q.bl
theorem o_notIn (hu : X.A.units + 65 < cLine) : Op2 X n m k (compareOp .NotIn) dNotIn := fun pins s σ H x y v u Q I rx ry h => by
  obtain ⟨ex, d1, d2, d, ext, r1, r2, e, q⟩ := h
  unfold dNotIn at e
  split at e
  · rename_i b e2
    cases e
    exact o_in_aux hu true .NotIn rfl I rx ry r1 r2 e2 q.bl
  · cases e

/-! ### arithmetic -/
/-- what a product's factors may be: one within 64 bits, or both together below a million bits -/
def mulOk (i j : Int) : Bool := decide ((-(2 ^ 64) < i ∧ i < 2 ^ 64) ∨ (-(2 ^ 64) < j ∧ j < 2 ^ 64))
def dAdd : D → D → Res D
  | .int i, .int j => .ok (.int (i + j))
  | .str a, .str b => if a.length + b.length ≤ sizeLine then .ok (.str (a ++ b)) else .err
  | .lst a, .lst b => if a.length + b.length ≤ sizeLine then .ok (.lst (a ++ b)) else .err
  | .tup a, .tup b => if a.length + b.length ≤ sizeLine then .ok (.tup (a ++ b)) else .err
  | _, _ => .err
def dSub : D → D → Res D
  | .int i, .int j => .ok (.int (i - j))
  | _, _ => .err
def dMul : D → D → Res D
  | .int i, .int j => if mulOk i j then .ok (.int (i * j)) else .err
  | _, _ => .err
/-- a floor division by a divisor above nought, below 2 ^ 30 -/
def dDiv : D → D → Res D
  | .int i, .int j => if 0 < j ∧ j < 1073741824 then .ok (.int (i / j)) else .err
  | _, _ => .err
def dMod : D → D → Res D
  | .int i, .int j => if 0 < j then .ok (.int (i % j)) else .err
  | _, _ => .err
def dPow : D → D → Res D
  | .int i, .int j => if 0 ≤ j ∧ j ≤ 1000000 ∧ i.natAbs < 2 ^ 64 then .ok (.int (i ^ j.toNat)) else .err
  | _, _ => .err
theorem dAdd_nx : NoX2 dAdd := fun a b c h => by
  unfold dAdd at h
  split at h <;> first | cases h | (split at h <;> cases h)
theorem dSub_nx : NoX2 dSub := fun a b c h => by
  unfold dSub at h
  split at h <;> first | cases h | (split at h <;> cases h)
theorem dMul_nx : NoX2 dMul := fun a b c h => by
  unfold dMul at h
  split at h <;> first | cases h | (split at h <;> cases h)
theorem dDiv_nx : NoX2 dDiv := fun a b c h => by
  unfold dDiv at h
  split at h <;> first | cases h | (split at h <;> cases h)
theorem dMod_nx : NoX2 dMod := fun a b c h => by
  unfold dMod at h
  split at h <;> first | cases h | (split at h <;> cases h)
theorem dPow_nx : NoX2 dPow := fun a b c h => by
  unfold dPow at h
  split at h <;> first | cases h | (split at h <;> cases h)
theorem o_sub : Op2 X n m k (binaryOp .Sub) dSub := fun pins s σ H x y v u Q I rx ry h => by
  obtain ⟨ex, d1, d2, d, ext, r1, r2, e, q⟩ := h
  unfold dSub at e
  split at e
  · cases e
    exact op_sub pins s σ H x y v u Q I rx ry ⟨_, _, r1.int, r2.int, q.int⟩
  · cases e
theorem o_div : Op2 X n m k (binaryOp .FloorDiv) dDiv := fun pins s σ H x y v u Q I rx ry h => by
  obtain ⟨ex, d1, d2, d, ext, r1, r2, e, q⟩ := h
  unfold dDiv at e
  split at e
  · split at e
    · rename_i hc
      cases e
      exact op_fdiv pins s σ H x y v u Q I rx ry ⟨_, _, r1.int, r2.int, hc, q.int⟩
    · cases e
  · cases e
theorem o_mod : Op2 X n m k (binaryOp .Mod) dMod := fun pins s σ H x y v u Q I rx ry h => by
  obtain ⟨ex, d1, d2, d, ext, r1, r2, e, q⟩ := h
  unfold dMod at e
  split at e
  · split at e
    · rename_i hc
      cases e
      exact op_mod pins s σ H x y v u Q I rx ry ⟨_, _, r1.int, r2.int, hc, q.int⟩
    · cases e
  · cases e
theorem o_pow : Op2 X n m k (binaryOp .Pow) dPow := fun pins s σ H x y v u Q I rx ry h => by
  obtain ⟨ex, d1, d2, d, ext, r1, r2, e, q⟩ := h
  unfold dPow at e
  split at e
  · split at e
    · rename_i hc
      cases e
      exact op_pow pins s σ H x y v u Q I rx ry ⟨_, _, r1.int, r2.int, hc, q.int⟩
    · cases e
  · cases e
theorem op_catL {pins : List (Addr × Obj)} {s : Shared} {σ : L2.St} {H : Hp} {l b : Addr} {xs ys : List V} {v u : Value} {Q : VK} (I : Inv X pins σ H s) (h1 : SqL X.K H l xs) (h2 : SqL X.K H b ys) (rx : RelV (.ref l) v) (ry : RelV (.ref b) u)
    (hl : xs.length + ys.length ≤ sizeLine) (q : Q (.ref s.heap.objs.size) (upd H s.heap.objs.size (.lst (xs ++ ys)))) : wpAny (model X.prog X.w) X.A (binaryOp .Add v u) (EP X pins σ Q) X.xe s := by
  cases rx
  cases ry
  obtain ⟨its, rv, pl, _⟩ := I.list h1
  obtain ⟨its2, rv2, pl2, _⟩ := I.list h2
  obtain ⟨⟨cls, dd, data, sl⟩, ho, hc, n, hd⟩ := id pl.isList
  obtain ⟨⟨cls2, dd2, data2, sl2⟩, ho2, hc2, n2, hd2⟩ := id pl2.isList
  simp only at hc hd hc2 hd2
  subst hc hd hc2 hd2
  have e : its.toArray ++ its2.toArray = (its ++ its2).toArray := by simp
  have el := rv.length
  have el2 := rv2.length
  refine concat_meets ⟨_, ho, rfl⟩ ⟨_, ho2, rfl⟩ noFill_list_add seq_list_add PySem.F.slot_list_add PySem.F.entry_list_add (PySem.F.args_list_add_2 _ _) (list_addW l b its.toArray its2.toArray n n2 dd dd2 sl sl2 (by rw [List.size_toArray, List.size_toArray]; omega)) ⟨ho, ho2, ?_⟩
  rw [e]
  exact ⟨.ref _, _, I.lnew (t' := s.toks) (rv.append rv2) (by rw [List.length_append]; exact hl), rfl, q⟩
/-- data with lists at its top owned to the depth one, of anything new -/
theorem o_add : Op2 X 1 1 1 (binaryOp .Add) dAdd := fun pins s σ H x y v u Q I rx ry h => by
  obtain ⟨ex, d1, d2, d, ext, r1, r2, e, q⟩ := h
  unfold dAdd at e
  split at e
  · cases e
    exact op_add pins s σ H x y v u Q I rx ry ⟨_, _, r1.int, r2.int, q.int⟩
  · split at e
    · rename_i hc
      cases e
      exact op_add_str pins s σ H x y v u Q I rx ry ⟨_, _, r1.str, r2.str, hc, q.str⟩
    · cases e
  · split at e
    · rename_i hc
      cases e
      obtain ⟨l, xs, rfl, h1, z1, p1⟩ := r1.lst
      obtain ⟨b, ys, rfl, h2, z2, p2⟩ := r2.lst
      have p : Paired (R X.K ex H) _ (xs ++ ys) := Paired.app p1 p2
      have hl : xs.length + ys.length ≤ sizeLine := by rw [← p1.length, ← p2.length]; exact hc
      exact op_catL I h1 h2 rx ry hl (q.lst p I.fresh (by rw [List.length_append]; exact hl))
    · cases e
  · split at e
    · rename_i hc
      cases e
      obtain ⟨l, xs, rfl, h1, z1, p1⟩ := r1.tupX
      obtain ⟨b, ys, rfl, h2, z2, p2⟩ := r2.tupX
      have hl : xs.length + ys.length ≤ sizeLine := by rw [← p1.length, ← p2.length]; exact hc
      refine op_catA pins s σ H _ _ v u Q I rx ry ⟨l, b, xs, ys, rfl, rfl, .inl (.inl h1), .inl (.inl h2), hl, fun e => ?_, fun _ e => ?_, fun _ _ p hp => q.tup (Paired.app p1 p2) hp (by rw [List.length_append]; exact hl)⟩
      · subst e
        cases p1
        exact q.flat (by rw [R]; exact ⟨b, ys, rfl, ⟨h2, z2⟩, RL.of p2⟩) rfl
      · subst e
        cases p2
        rw [List.append_nil] at q
        exact q.flat (by rw [R]; exact ⟨l, xs, rfl, ⟨h1, z1⟩, RL.of p1⟩) rfl
    · cases e
  · cases e
end
end Px

namespace Px
open PySem PySem.Spec PyProof.Rows L2

/-! ### one operand -/
def Op1 (X : Cx) (n k : Nat) (f : Value → Sem Value) (g : D → Res D) : Prop :=
  UnR X f fun x H Q => ∃ ex d1 d, (∀ a, ex a → H a ≠ none) ∧ RB X.K ex H n d1 x ∧ g d1 = .ok d ∧ QO X.K ex H k Q d
def NoX1 {α : Type} (o : D → Res α) : Prop := ∀ a c, o a ≠ .exc c
def eUn {α : Type} (o : D → Res α) (f : EF) : Env → Res α := fun ρ => f ρ >>= o
def dNeg : D → Res D
  | .int i => .ok (.int (-i))
  | _ => .err
theorem dNeg_nx : NoX1 dNeg := fun a c h => by
  unfold dNeg at h
  split at h <;> cases h
section
variable {X : Cx} {W : WX} {L : List Nat} {n n1 n2 k m : Nat} {pos : Pos} {e a b c : Expr} {es rest : List Expr} {f g : EF} {fs : Env → Res (List D)} {ft gt : Env → Res Bool}
theorem o_neg : Op1 X n k (unaryOp .USub) dNeg := fun pins s σ H x v Q I rx h => by
  obtain ⟨ex, d1, d, ext, r1, e, q⟩ := h
  unfold dNeg at e
  split at e
  · cases e
    exact un_neg pins s σ H x v Q I rx ⟨_, r1.int, q.int⟩
  · cases e
theorem eo_un {op : UnaryOp} {o : D → Res D} (ho : Op1 X n k (unaryOp op) o) (nx : NoX1 o) (ha : EB X W L n a f) : EO X W L k (.UnaryOp op a pos) (eUn o f) :=
  PE.imp (pe_un ho ha) fun σ H Q ⟨ex, ρ, fp, I, q⟩ => by
    refine ⟨ex, ρ, fp, I, q.bind.mono fun d1 q1 v1 H1 e1 r1 => ?_⟩
    obtain ⟨d, ed, qd⟩ := no_exc q1 (nx d1)
    exact ⟨ex, d1, d, (I.same e1).ext, r1, ed, fun v H3 fq e3 ro nd nw => qd v H3 fq (e1.trans e3) ro nd fun a ha => e1.free (nw a ha)⟩

/-! ### truth -/
def dTru : D → Res Bool
  | .non => .ok false
  | .bl b => .ok b
  | .int i => .ok (i != 0)
  | .str s => if s.length ≤ sizeLine then .ok ((s.length : Int) != 0) else .err
  | .tup xs => .ok (!xs.isEmpty)
  | .lst xs => .ok (!xs.isEmpty)
  | _ => .err
theorem dTru_nx : NoX1 dTru := fun a c h => by
  unfold dTru at h
  split at h <;> first | cases h | (split at h <;> cases h)
theorem Paired.isEmpty {α β : Type} {F : α → β → Prop} {as : List α} {bs : List β} (h : Paired F as bs) : bs.isEmpty = as.isEmpty := by
  cases h <;> rfl
theorem dTru_v {K : PySem.W.Frag} {ex : AS} {H : Hp} {d : D} {x : V} {t : Bool} (r : RB K ex H n d x) (e : dTru d = .ok t) : TruV K x H t := by
  unfold dTru at e
  split at e
  · cases e
    rw [r.non]
    rfl
  · cases e
    rw [r.bl]
    rfl
  · cases e
    rw [r.int]
    rfl
  · split at e
    · rename_i hs
      cases e
      rw [r.str]
      exact ⟨hs, rfl⟩
    · cases e
  · cases e
    obtain ⟨a, xs, rfl, h1, h2, h3⟩ := r.tup
    exact .inr (.inl ⟨xs, h1, by rw [Paired.isEmpty h3]⟩)
  · cases e
    obtain ⟨a, xs, rfl, h1, h2, h3⟩ := r.up.lst
    exact .inl ⟨xs, h1, by rw [Paired.isEmpty h3]⟩
  · cases e
theorem et_val (ha : EB X W L n a f) (he : ∀ whole, isTrue a X.env whole = (do let v ← whole; standAt a.pos; holding [v] (truthy v)) := by intro _; rfl) : ET X W L a (eUn dTru f) :=
  PT.imp (pt_truth ha he) fun σ H Q ⟨ex, ρ, fp, I, q⟩ => ⟨ex, ρ, fp, I, q.bind.mono fun d q1 v H1 e1 r1 => by
    obtain ⟨t, et, qt⟩ := no_exc q1 (dTru_nx d)
    exact ⟨t, dTru_v r1 et, qt H1 e1⟩⟩
/-- a chain of and, or in a test -/
abbrev EW (X : Cx) (W : WX) (L : List Nat) (e : Expr) (f : Env → Res Bool) : Prop := PW X e (tT X W L f)
def bAnd (f g : Env → Res Bool) : Env → Res Bool := fun ρ => f ρ >>= fun b => if b = true then g ρ else .ok false
def bOr (f g : Env → Res Bool) : Env → Res Bool := fun ρ => f ρ >>= fun b => if b = true then .ok true else g ρ
def bNot (f : Env → Res Bool) : Env → Res Bool := fun ρ => f ρ >>= fun b => .ok (!b)
theorem ew_and1 (ha : ET X W L a ft) : EW X W L (.BoolOp .And [a] pos) ft := pw_and1 ha
theorem ew_or1 (ha : ET X W L a ft) : EW X W L (.BoolOp .Or [a] pos) ft := pw_or1 ha
theorem ew_and (ha : ET X W L a ft) (hb : EW X W L (.BoolOp .And (b :: rest) pos) gt) : EW X W L (.BoolOp .And (a :: b :: rest) pos) (bAnd ft gt) :=
  PW.imp (pw_and ha hb) fun σ H Q ⟨ex, ρ, fp, I, q⟩ => ⟨ex, ρ, fp, I, q.bind.mono fun t q1 H1 e1 => by
    cases t with
    | true =>
      rw [if_pos rfl]
      exact ⟨ex, ρ, fp, I.same e1, (Out.later (show Out X W σ H (gt ρ) _ from q1) e1).mono fun t2 q2 H2 e2 => q2 H2 (e1.trans e2)⟩
    | false => exact q1 H1 e1⟩
theorem ew_or (ha : ET X W L a ft) (hb : EW X W L (.BoolOp .Or (b :: rest) pos) gt) : EW X W L (.BoolOp .Or (a :: b :: rest) pos) (bOr ft gt) :=
  PW.imp (pw_or ha hb) fun σ H Q ⟨ex, ρ, fp, I, q⟩ => ⟨ex, ρ, fp, I, q.bind.mono fun t q1 H1 e1 => by
    cases t with
    | false =>
      rw [if_neg Bool.false_ne_true]
      exact ⟨ex, ρ, fp, I.same e1, (Out.later (show Out X W σ H (gt ρ) _ from q1) e1).mono fun t2 q2 H2 e2 => q2 H2 (e1.trans e2)⟩
    | true => exact q1 H1 e1⟩
theorem et_w (h : EW X W L e ft) : ET X W L e ft := PW.pt h
theorem et_not (ha : ET X W L a ft) : ET X W L (.UnaryOp .Not a pos) (bNot ft) :=
  PT.imp (pt_not ha) fun σ H Q ⟨ex, ρ, fp, I, q⟩ => ⟨ex, ρ, fp, I, q.bind.mono fun t q1 H1 e1 => q1 H1 e1⟩
/-- not a as a value -/
def eNot (f : EF) : EF := fun ρ => f ρ >>= fun d => dTru d >>= fun b => .ok (.bl (!b))
theorem eo_not (ha : EB X W L n a f) : EO X W L k (.UnaryOp .Not a pos) (eNot f) :=
  PE.imp (pe_notT ha) fun σ H Q ⟨ex, ρ, fp, I, q⟩ => ⟨ex, ρ, fp, I, q.bind.mono fun d q1 v H1 e1 r1 => by
    have q2 := q1.bind
    obtain ⟨t, et, qt⟩ := no_exc q2 (dTru_nx d)
    exact ⟨t, dTru_v r1 et, QO.bl (K := X.K) (ex := ex) (k := k) fun v H2 fq e2 ro nd nw => qt v H2 fq (e1.trans e2) ro nd fun a ha => e1.free (nw a ha)⟩⟩
/-- and, or as values -/
def eAnd (f g : EF) : EF := fun ρ => f ρ >>= fun d => dTru d >>= fun b => if b = true then g ρ else .ok d
def eOr (f g : EF) : EF := fun ρ => f ρ >>= fun d => dTru d >>= fun b => if b = true then .ok d else g ρ
theorem eb_one {op : BoolOp} (h : EB X W L n a f) : EB X W L n (.BoolOp op [a] pos) f := pe_one h
theorem eb_and (ha : EB X W L n a f) (hb : EB X W L n (.BoolOp .And (b :: rest) pos) g) : EB X W L n (.BoolOp .And (a :: b :: rest) pos) (eAnd f g) :=
  PE.imp (pe_andT ha hb) fun σ H Q ⟨ex, ρ, fp, I, q⟩ => ⟨ex, ρ, fp, I, q.bind.mono fun d q1 v H1 e1 r1 => by
    have q2 := q1.bind
    obtain ⟨t, et, qt⟩ := no_exc q2 (dTru_nx d)
    refine ⟨t, dTru_v r1 et, ?_⟩
    cases t with
    | true =>
      rw [if_pos rfl]
      exact ⟨ex, ρ, fp, I.same e1, (Out.later (show Out X W σ H (g ρ) _ from qt) e1).mono fun t2 q2 v2 H2 e2 r2 => q2 v2 H2 (e1.trans e2) r2⟩
    | false =>
      rw [if_neg Bool.false_ne_true]
      exact qt v H1 e1 r1⟩
theorem eb_or (ha : EB X W L n a f) (hb : EB X W L n (.BoolOp .Or (b :: rest) pos) g) : EB X W L n (.BoolOp .Or (a :: b :: rest) pos) (eOr f g) :=
  PE.imp (pe_orT ha hb) fun σ H Q ⟨ex, ρ, fp, I, q⟩ => ⟨ex, ρ, fp, I, q.bind.mono fun d q1 v H1 e1 r1 => by
    have q2 := q1.bind
    obtain ⟨t, et, qt⟩ := no_exc q2 (dTru_nx d)
    refine ⟨t, dTru_v r1 et, ?_⟩
    cases t with
    | false =>
      rw [if_neg Bool.false_ne_true]
      exact ⟨ex, ρ, fp, I.same e1, (Out.later (show Out X W σ H (g ρ) _ from qt) e1).mono fun t2 q2 v2 H2 e2 r2 => q2 v2 H2 (e1.trans e2) r2⟩
    | true =>
      rw [if_pos rfl]
      exact qt v H1 e1 r1⟩
def eIf (t : Env → Res Bool) (f g : EF) : EF := fun ρ => t ρ >>= fun b => if b = true then f ρ else g ρ
theorem eb_if (hc : ET X W L c ft) (ha : EB X W L n a f) (hb : EB X W L n b g) : EB X W L n (.IfExp c a b pos) (eIf ft f g) :=
  PE.imp (pe_ifExp hc ha hb) fun σ H Q ⟨ex, ρ, fp, I, q⟩ => ⟨ex, ρ, fp, I, q.bind.mono fun t q1 H1 e1 => by
    cases t with
    | true =>
      rw [if_pos rfl]
      exact ⟨ex, ρ, fp, I.same e1, (Out.later (show Out X W σ H (f ρ) _ from q1) e1).mono fun t2 q2 v2 H2 e2 r2 => q2 v2 H2 (e1.trans e2) r2⟩
    | false =>
      rw [if_neg Bool.false_ne_true]
      exact ⟨ex, ρ, fp, I.same e1, (Out.later (show Out X W σ H (g ρ) _ from q1) e1).mono fun t2 q2 v2 H2 e2 r2 => q2 v2 H2 (e1.trans e2) r2⟩⟩
theorem eo_if (hc : ET X W L c ft) (ha : EO X W L k a f) (hb : EO X W L k b g) : EO X W L k (.IfExp c a b pos) (eIf ft f g) :=
  PE.imp (pe_ifExp hc ha hb) fun σ H Q ⟨ex, ρ, fp, I, q⟩ => ⟨ex, ρ, fp, I, q.bind.mono fun t q1 H1 e1 => by
    cases t with
    | true =>
      rw [if_pos rfl]
      exact ⟨ex, ρ, fp, I.same e1, (Out.later (show Out X W σ H (f ρ) _ from q1) e1).mono fun t2 q2 v2 H2 fq e2 r2 nd nw => q2 v2 H2 fq (e1.trans e2) r2 nd fun a ha => e1.free (nw a ha)⟩
    | false =>
      rw [if_neg Bool.false_ne_true]
      exact ⟨ex, ρ, fp, I.same e1, (Out.later (show Out X W σ H (g ρ) _ from q1) e1).mono fun t2 q2 v2 H2 fq e2 r2 nd nw => q2 v2 H2 fq (e1.trans e2) r2 nd fun a ha => e1.free (nw a ha)⟩⟩
/-- a op b op' c -/
def eChain (o o' : D → D → Res D) (f g h : EF) : EF := fun ρ => f ρ >>= fun a => g ρ >>= fun b => o a b >>= fun r => match r with
  | .bl true => h ρ >>= fun c => o' b c
  | .bl false => .ok (.bl false)
  | _ => .err
theorem eo_chain {op op' : CmpOp} {o o' : D → D → Res D} {h : EF} (ho : Op2 X 0 0 0 (compareOp op) o) (nx : NoX2 o) (ho' : Op2 X 0 0 k (compareOp op') o') (nx' : NoX2 o') (ha : EB X W L 0 a f) (hb : EB X W L 0 b g) (hc : EB X W L 0 c h)
    (hm : lastMarks [op, op'] [b, c] = false := by with_unfolding_all rfl) : EO X W L k (.Compare a [op, op'] [b, c] pos) (eChain o o' f g h) :=
  PE.imp (pe_chain ho ho' ha hb hc hm) fun σ H Q ⟨ex, ρ, fp, I, q⟩ => by
    refine ⟨ex, ρ, fp, I, q.bind.mono fun d1 q1 v1 H1 e1 r1 => ⟨ex, ρ, fp, I.same e1, (q1.bind.later e1).mono fun d2 q2 v2 H2 e2 r2 => ?_⟩⟩
    obtain ⟨d, ed, qd⟩ := no_exc q2.bind (nx d1 d2)
    refine ⟨ex, d1, d2, d, ((I.same e1).same e2).ext, r1.same e2, r2, ed, fun v H3 fq e3 ro nd nw => ?_⟩
    have r3 : RB X.K (fun a => a ∈ fq ∨ ex a) H3 0 d v := ro.borrow
    cases d with
    | bl t =>
      cases t with
      | true =>
        refine ⟨true, r3.bl, ?_⟩
        rw [if_pos rfl]
        refine ⟨ex, ρ, fp, ((I.same e1).same e2).same e3, ((Out.bind qd).later ((e1.trans e2).trans e3)).mono fun d3 q3 v4 H4 e4 r4 => ?_⟩
        obtain ⟨z, ez, qz⟩ := no_exc q3 (nx' d2 d3)
        exact ⟨ex, d2, d3, z, ((((I.same e1).same e2).same e3).same e4).ext, (r2.same e3).same e4, r4, ez, fun v H5 fq e5 ro nd nw => qz v H5 fq ((((e1.trans e2).trans e3).trans e4).trans e5) ro nd fun a ha => ((((e1.trans e2).trans e3).trans e4)).free (nw a ha)⟩
      | false =>
        refine ⟨false, r3.bl, ?_⟩
        rw [if_neg Bool.false_ne_true]
        exact QO.bl (K := X.K) (ex := ex) (k := k) fun v H5 fq e5 ro nd nw => qd v H5 fq (((e1.trans e2).trans e3).trans e5) ro nd fun a ha => ((e1.trans e2).trans e3).free (nw a ha)
    | _ => exact qd.elim

/-! ### items -/
def dIx : D → D → Res D
  | .lst xs, .int i => match atI xs i with
    | some d => .ok d
    | none => .err
  | .tup xs, .int i => match atI xs i with
    | some d => .ok d
    | none => .err
  | .str s, .int i => if s.length ≤ sizeLine then (match atI s.cps.toList i with
    | some c => .ok (.str ⟨#[c]⟩)
    | none => .err) else .err
  | .dic t ks vs, k => match dFind t ks k with
    | .ok (some n) => (match vs[n]? with
      | some d => .ok d
      | none => .err)
    | _ => .err
  | _, _ => .err
theorem dIx_nx : NoX2 dIx := fun a b c h => by
  unfold dIx at h
  split at h
  · split at h <;> cases h
  · split at h <;> cases h
  · split at h <;> first | cases h | (split at h <;> cases h)
  · split at h <;> first | cases h | (split at h <;> cases h)
  · cases h
/-- d[k], k there, as an item -/
theorem ix_dic (hu : X.A.units + 1 < cLine) : IxR X (fun x y H Q => ∃ p v, x = .ref p ∧ DGet H p y (some v) ∧ Q v H) := by
  intro value slice pins s σ H x y v u Q I rx ry h hs
  obtain ⟨p, z, rfl, g, q⟩ := h
  obtain rfl : v = Value.ref p := rx
  have hm : s.TypeIs (.ref p) "dict" := by
    rcases g with ⟨kvs, k, e, _⟩ | ⟨kvs, k, b, e, _⟩
    · obtain ⟨_, _, vs, _, dd⟩ := dk_rd I.hok e
      exact dd.typeIs
    · obtain ⟨_, _, vs, _, dd⟩ := dt_rd I.hok e
      exact dd.typeIs
  exact tail_any hm PySem.F.slot_dict_getitem.lookup (d_getItem hu I g ry fun w' s' I' r' => ⟨z, H, I', r', q⟩) hs
theorem Paired.atI {α β : Type} {F : α → β → Prop} {as : List α} {bs : List β} {i : Int} {x : α} (h : Paired F as bs) (e : atI as i = some x) : ∃ y, L2.atI bs i = some y ∧ F x y := by
  unfold L2.atI at e ⊢
  rw [← h.length]
  cases q : ixN as.length i with
  | none => rw [q] at e; cases e
  | some j =>
    rw [q] at e
    exact Paired.get h e
theorem eb_ix (hu : X.A.units + 1 < cLine) (ha : EB X W L (n + 1) a f) (hb : EB X W L n2 b g) (hs : PlainIx b := by intro _ _; rfl) : EB X W L n (.Subscript a b pos) (eOp dIx f g) :=
  PE.imp (pe_ix (IxR.or ix_seq (ix_dic hu)) ha hb hs) fun σ H Q ⟨ex, ρ, fp, I, q⟩ => by
    refine ⟨ex, ρ, fp, I, q.bind.mono fun d1 q1 v1 H1 e1 r1 => ⟨ex, ρ, fp, I.same e1, (q1.bind.later e1).mono fun d2 q2 v2 H2 e2 r2 => ?_⟩⟩
    obtain ⟨d, ed, qd⟩ := no_exc q2 (dIx_nx d1 d2)
    have r1 := r1.same e2
    unfold dIx at ed
    split at ed
    · split at ed
      · rename_i hx
        cases ed
        obtain ⟨p, xs, rfl, h1, h2, h3⟩ := r1.lst
        obtain ⟨y, hy, ry⟩ := Paired.atI h3 hx
        exact .inl (.inl ⟨p, xs, _, y, rfl, r2.int, h1, hy, qd y H2 (e1.trans e2) ry⟩)
      · cases ed
    · split at ed
      · rename_i hx
        cases ed
        obtain ⟨p, xs, rfl, h1, h2, h3⟩ := r1.tup
        obtain ⟨y, hy, ry⟩ := Paired.atI h3 hx
        exact .inl (.inr (.inl ⟨p, xs, _, y, rfl, r2.int, h1, hy, qd y H2 (e1.trans e2) (RB.of ry)⟩))
      · cases ed
    · split at ed
      · rename_i hl
        split at ed
        · rename_i hx
          cases ed
          exact .inl (.inr (.inr ⟨_, _, _, r1.str, r2.int, hl, hx, qd _ H2 (e1.trans e2) (RB.of (by rw [R]))⟩))
        · cases ed
      · cases ed
    · split at ed
      · rename_i m ho
        split at ed
        · rename_i hx
          cases ed
          obtain ⟨p, xs, rfl, h1, h2⟩ := RB.cnr rfl r1
          obtain ⟨g, hlt⟩ := dFind_get h1 r2 ho
          obtain ⟨y, hy, ry⟩ := Paired.get h2 hx
          have g : DGet H2 p v2 (some y) := by
            have e : ((some m).bind (xs[·]?)) = some y := hy
            rw [e] at g
            exact g
          exact .inr ⟨p, y, rfl, g, qd y H2 (e1.trans e2) ry⟩
        · cases ed
      · cases ed
    · cases ed

/-! ### calls of what is built in -/
def CallD (X : Cx) (n k : Nat) (f : Value) (g : List D → Res D) : Prop :=
  CallR X f fun xs H Q => ∃ ex ds d, (∀ a, ex a → H a ≠ none) ∧ Paired (RB X.K ex H n) ds xs ∧ g ds = .ok d ∧ QO X.K ex H k Q d
def NoXL (g : List D → Res D) : Prop := ∀ ds c, g ds ≠ .exc c
def eCall (o : List D → Res D) (f : Env → Res (List D)) : EF := fun ρ => f ρ >>= o
variable {x : Str} {p : Pos} {id T : String} {o : List D → Res D}
theorem eo_callB (hc : CallD X n k (.builtin id) o) (nx : NoXL o) (hg : Gl X x) (hm : X.mg x = none) (hv : bootBuiltins x = some (.builtin id)) (ha : EA X W L n m (e :: es) fs) (hn : x ≠ "__name__" := by decide) (hdb : (x == ("__debug__" : Str)) = false := by decide)
    (he : starEach (e :: es) X.env = (false, eval e X.env) :: starEach es X.env := by rfl) (hpl : (backTo pos (starEach es X.env)).any (·.1) = false := by rfl) : EO X W L k (.Call (.Name x p) (e :: es) [] pos) (eCall o fs) :=
  PE.imp (pe_callB hc hg hm hv ha hn hdb he hpl) fun σ H Q ⟨ex, ρ, fp, I, q⟩ => ⟨ex, ρ, fp, I, q.bind.mono fun ds q1 vs H1 e1 r1 _ => by
    obtain ⟨d, ed, qd⟩ := no_exc q1 (nx ds)
    exact ⟨ex, ds, d, (I.same e1).ext, r1, ed, fun v H3 fq e3 ro nd nw => qd v H3 fq (e1.trans e3) ro nd fun a ha => e1.free (nw a ha)⟩⟩
theorem eo_callTy (hc : CallD X n k (.type T) o) (nx : NoXL o) (hg : Gl X x) (hm : X.mg x = none) (hv : bootBuiltins x = some (.type T)) (ha : EA X W L n m (e :: es) fs) (hn : x ≠ "__name__" := by decide) (hdb : (x == ("__debug__" : Str)) = false := by decide)
    (he : starEach (e :: es) X.env = (false, eval e X.env) :: starEach es X.env := by rfl) (hpl : (backTo pos (starEach es X.env)).any (·.1) = false := by rfl) : EO X W L k (.Call (.Name x p) (e :: es) [] pos) (eCall o fs) :=
  PE.imp (pe_callTy hc hg hm hv ha hn hdb he hpl) fun σ H Q ⟨ex, ρ, fp, I, q⟩ => ⟨ex, ρ, fp, I, q.bind.mono fun ds q1 vs H1 e1 r1 _ => by
    obtain ⟨d, ed, qd⟩ := no_exc q1 (nx ds)
    exact ⟨ex, ds, d, (I.same e1).ext, r1, ed, fun v H3 fq e3 ro nd nw => qd v H3 fq (e1.trans e3) ro nd fun a ha => e1.free (nw a ha)⟩⟩
def fLen : List D → Res D
  | [.str s] => if s.length ≤ sizeLine then .ok (.int s.length) else .err
  | [.tup xs] => .ok (.int xs.length)
  | [.lst xs] => .ok (.int xs.length)
  | [.dic _ _ vs] => .ok (.int vs.length)
  | _ => .err
/-- len(d), what may be read -/
theorem len_dic {pins : List (Addr × Obj)} {s : Shared} {σ : L2.St} {H : Hp} {K : PySem.W.Frag} {a : Addr} {t : Bool} {ks vs : List D} {xs : List V} {Q : VK} (I : Inv X pins σ H s) (h : CnR K H a (.dic t ks vs) xs) (q : Q (.int xs.length) H) :
    wpAny (model X.prog X.w) X.A (call (.builtin "len") [.ref a]) (L2.EP X pins σ Q) X.xe s := by
  have hz := sizeLine_eq
  rcases h with ⟨o, h1, h2⟩ | ⟨⟨_, h⟩, _⟩
  · cases t with
    | false =>
      obtain ⟨kk, _, hl, _, rfl⟩ := h1
      refine d_len I h2.rd fun t s' I' => ⟨.int (kk.zip xs).length, H, I', ⟨_, rfl⟩, ?_⟩
      rw [List.length_zip, hl, Nat.min_self]
      exact q
    | true =>
      obtain ⟨kk, _, hl, _, rfl⟩ := h1
      obtain ⟨z, hd, ys, rel, dd⟩ := dt_rd I.hok h2.rd
      have hl2 : (kk.zip xs).length = ys.length := Paired.length rel
      refine call_len_dictH hd dd (by omega) ⟨.int ys.length, H, I.tok _, ⟨_, rfl⟩, ?_⟩
      rw [← hl2, List.length_zip, hl, Nat.min_self]
      exact q
  · cases h
theorem fLen_nx : NoXL fLen := fun ds c h => by
  unfold fLen at h
  split at h <;> first | cases h | (split at h <;> cases h)
theorem c_len : CallD X 1 k (.builtin "len") fLen := fun pins s σ H xs us Q I r h => by
  obtain ⟨ex, ds, d, ext, rs, e, q⟩ := h
  unfold fLen at e
  split at e
  · split at e
    · rename_i hl
      cases e
      cases rs with
      | cons r1 t =>
        cases t
        rw [RB.str r1] at *
        exact call_len pins s σ H _ us Q I r ⟨_, _, rfl, ⟨hl, rfl⟩, q.int⟩
    · cases e
  · cases e
    cases rs with
    | cons r1 t =>
      cases t
      obtain ⟨a, ys, rfl, h1, _, h3⟩ := RB.tup r1
      exact call_len pins s σ H _ us Q I r ⟨_, ys.length, rfl, .inr ⟨ys, h1, rfl⟩, by rw [← h3.length]; exact q.int⟩
  · cases e
    cases rs with
    | cons r1 t =>
      cases t
      obtain ⟨a, ys, rfl, h1, _, h3⟩ := RB.lst r1
      exact call_len pins s σ H _ us Q I r ⟨_, ys.length, rfl, .inl ⟨ys, h1, rfl⟩, by rw [← h3.length]; exact q.int⟩
  · cases e
    cases rs with
    | cons r1 t =>
      cases t
      obtain ⟨a, ys, rfl, h1, h3⟩ := RB.cnr rfl r1
      rw [Vals.ref1 r]
      refine len_dic I h1 ?_
      rw [← h3.length]
      exact q.int
  · cases e
def fAbs : List D → Res D
  | [.int i] => .ok (.int (if i < 0 then -i else i))
  | _ => .err
theorem fAbs_nx : NoXL fAbs := fun ds c h => by
  unfold fAbs at h
  split at h <;> cases h
theorem c_abs : CallD X n k (.builtin "abs") fAbs := fun pins s σ H xs us Q I r h => by
  obtain ⟨ex, ds, d, ext, rs, e, q⟩ := h
  unfold fAbs at e
  split at e
  · cases e
    cases rs with
    | cons r1 t =>
      cases t
      rw [RB.int r1] at *
      exact call_abs pins s σ H _ us Q I r ⟨_, rfl, q.int⟩
  · cases e
def fInt : List D → Res D
  | [.int i] => .ok (.int i)
  | [.bl b] => .ok (.int (if b then 1 else 0))
  | _ => .err
theorem fInt_nx : NoXL fInt := fun ds c h => by
  unfold fInt at h
  split at h <;> cases h
theorem c_int : CallD X n k (.type "int") fInt := fun pins s σ H xs us Q I r h => by
  obtain ⟨ex, ds, d, ext, rs, e, q⟩ := h
  unfold fInt at e
  split at e
  · cases e
    cases rs with
    | cons r1 t =>
      cases t
      rw [RB.int r1] at *
      exact call_int1 pins s σ H _ us Q I r (.inl ⟨_, rfl, q.int⟩)
  · cases e
    cases rs with
    | cons r1 t =>
      cases t
      rw [RB.bl r1] at *
      exact call_int1 pins s σ H _ us Q I r (.inr ⟨_, rfl, q.int⟩)
  · cases e
/-- tuple(x), list(x) of a list or a tuple -/
def fTuple : List D → Res D
  | [.tup xs] => .ok (.tup xs)
  | [.lst xs] => .ok (.tup xs)
  | _ => .err
def fList : List D → Res D
  | [.tup xs] => .ok (.lst xs)
  | [.lst xs] => .ok (.lst xs)
  | _ => .err
theorem fTuple_nx : NoXL fTuple := fun ds c h => by
  unfold fTuple at h
  split at h <;> cases h
theorem fList_nx : NoXL fList := fun ds c h => by
  unfold fList at h
  split at h <;> cases h
theorem c_tuple : CallD X 1 k (.type "tuple") fTuple := fun pins s σ H xs us Q I r h => by
  obtain ⟨ex, ds, d, ext, rs, e, q⟩ := h
  unfold fTuple at e
  split at e
  · cases e
    cases rs with
    | cons r1 t =>
      cases t
      obtain ⟨a, ys, rfl, h1, h2, h3⟩ := RB.tupX r1
      exact call_tuple_of pins s σ H _ us Q I r ⟨a, ys, rfl, .inr ⟨.inl (.inl h1), q.flat (by rw [R]; exact ⟨a, ys, rfl, ⟨h1, h2⟩, RL.of h3⟩) rfl⟩⟩
  · cases e
    cases rs with
    | cons r1 t =>
      cases t
      obtain ⟨a, ys, rfl, h1, h2, h3⟩ := RB.lst r1
      exact call_tuple_of pins s σ H _ us Q I r ⟨a, ys, rfl, .inl ⟨h1, fun l hl => q.tup h3 hl h2⟩⟩
  · cases e
theorem c_list : CallD X 1 1 (.type "list") fList := fun pins s σ H xs us Q I r h => by
  obtain ⟨ex, ds, d, ext, rs, e, q⟩ := h
  unfold fList at e
  split at e
  · cases e
    cases rs with
    | cons r1 t =>
      cases t
      obtain ⟨a, ys, rfl, h1, h2, h3⟩ := RB.tup r1
      exact call_list_of pins s σ H _ us Q I r ⟨a, ys, rfl, .inr h1, fun l hl => q.lst h3 hl h2⟩
  · cases e
    cases rs with
    | cons r1 t =>
      cases t
      obtain ⟨a, ys, rfl, h1, h2, h3⟩ := RB.lst r1
      exact call_list_of pins s σ H _ us Q I r ⟨a, ys, rfl, .inl h1, fun l hl => q.lst h3 hl h2⟩
  · cases e
/-- truth values alone -/
def bools : List D → Option (List Bool)
  | [] => some []
  | .bl b :: r => (bools r).map (b :: ·)
  | _ :: _ => none
def nums : List D → Option (List Int)
  | [] => some []
  | .int b :: r => (nums r).map (b :: ·)
  | _ :: _ => none
theorem bools_vals {K : PySem.W.Frag} {ex : AS} {H : Hp} : ∀ {ds : List D} {vs : List V} {bs : List Bool}, Paired (RB K ex H n) ds vs → bools ds = some bs → vs = bs.map V.bl
  | [], _, _, .nil, h => by cases h; rfl
  | d :: ds, _, _, .cons r t, h => by
    cases d with
    | bl b =>
      rw [bools] at h
      cases q : bools ds with
      | none => rw [q] at h; cases h
      | some bs =>
        rw [q] at h
        cases h
        rw [RB.bl r, bools_vals t q]
        rfl
    | _ => cases h
theorem nums_vals {K : PySem.W.Frag} {ex : AS} {H : Hp} : ∀ {ds : List D} {vs : List V} {bs : List Int}, Paired (RB K ex H n) ds vs → nums ds = some bs → vs = bs.map V.int
  | [], _, _, .nil, h => by cases h; rfl
  | d :: ds, _, _, .cons r t, h => by
    cases d with
    | int b =>
      rw [nums] at h
      cases q : nums ds with
      | none => rw [q] at h; cases h
      | some bs =>
        rw [q] at h
        cases h
        rw [RB.int r, nums_vals t q]
        rfl
    | _ => cases h
@[simp] theorem bools_map (bs : List Bool) : bools (bs.map D.bl) = some bs := by
  induction bs with
  | nil => rfl
  | cons b r ih => rw [List.map_cons, bools, ih]; rfl
@[simp] theorem nums_map (bs : List Int) : nums (bs.map D.int) = some bs := by
  induction bs with
  | nil => rfl
  | cons b r ih => rw [List.map_cons, nums, ih]; rfl
def fAll : List D → Res D
  | [.lst xs] => match bools xs with
    | some bs => .ok (.bl (bs.all fun z => z))
    | none => .err
  | _ => .err
def fAny : List D → Res D
  | [.lst xs] => match bools xs with
    | some bs => .ok (.bl (bs.any fun z => z))
    | none => .err
  | _ => .err
def fSum : List D → Res D
  | [.lst xs] => match nums xs with
    | some bs => .ok (.int bs.sum)
    | none => .err
  | _ => .err
theorem fAll_nx : NoXL fAll := fun ds c h => by
  unfold fAll at h
  split at h <;> first | cases h | (split at h <;> cases h)
theorem fAny_nx : NoXL fAny := fun ds c h => by
  unfold fAny at h
  split at h <;> first | cases h | (split at h <;> cases h)
theorem fSum_nx : NoXL fSum := fun ds c h => by
  unfold fSum at h
  split at h <;> first | cases h | (split at h <;> cases h)
theorem c_all (hc : X.calm = true) : CallD X 1 k (.builtin "all") fAll := fun pins s σ H xs us Q I r h => by
  obtain ⟨ex, ds, d, ext, rs, e, q⟩ := h
  unfold fAll at e
  split at e
  · split at e
    · rename_i bs hb
      cases e
      cases rs with
      | cons r1 t =>
        cases t
        obtain ⟨a, ys, rfl, h1, _, h3⟩ := RB.lst r1
        rw [bools_vals h3 hb] at h1
        exact cr_all hc pins s σ H _ us Q I r ⟨a, bs, rfl, h1, q.bl⟩
    · cases e
  · cases e
theorem c_any (hc : X.calm = true) : CallD X 1 k (.builtin "any") fAny := fun pins s σ H xs us Q I r h => by
  obtain ⟨ex, ds, d, ext, rs, e, q⟩ := h
  unfold fAny at e
  split at e
  · split at e
    · rename_i bs hb
      cases e
      cases rs with
      | cons r1 t =>
        cases t
        obtain ⟨a, ys, rfl, h1, _, h3⟩ := RB.lst r1
        rw [bools_vals h3 hb] at h1
        exact cr_any hc pins s σ H _ us Q I r ⟨a, bs, rfl, h1, q.bl⟩
    · cases e
  · cases e
theorem c_sum (hc : X.calm = true) : CallD X 1 k (.builtin "sum") fSum := fun pins s σ H xs us Q I r h => by
  obtain ⟨ex, ds, d, ext, rs, e, q⟩ := h
  unfold fSum at e
  split at e
  · split at e
    · rename_i bs hb
      cases e
      cases rs with
      | cons r1 t =>
        cases t
        obtain ⟨a, ys, rfl, h1, _, h3⟩ := RB.lst r1
        rw [nums_vals h3 hb] at h1
        exact cr_sum hc pins s σ H _ us Q I r ⟨a, bs, rfl, h1, q.int⟩
    · cases e
  · cases e
/-- min, max: of two ints, of a list or a tuple of ints -/
def fMin : List D → Res D
  | [.int i, .int j] => .ok (.int (if j < i then j else i))
  | [.lst xs] => match nums xs with
    | some (b :: bs) => .ok (.int (bs.foldl min b))
    | _ => .err
  | [.tup xs] => match nums xs with
    | some (b :: bs) => .ok (.int (bs.foldl min b))
    | _ => .err
  | _ => .err
def fMax : List D → Res D
  | [.int i, .int j] => .ok (.int (if j > i then j else i))
  | [.lst xs] => match nums xs with
    | some (b :: bs) => .ok (.int (bs.foldl max b))
    | _ => .err
  | [.tup xs] => match nums xs with
    | some (b :: bs) => .ok (.int (bs.foldl max b))
    | _ => .err
  | _ => .err
theorem fMin_nx : NoXL fMin := fun ds c h => by
  unfold fMin at h
  split at h <;> first | cases h | (split at h <;> cases h)
theorem fMax_nx : NoXL fMax := fun ds c h => by
  unfold fMax at h
  split at h <;> first | cases h | (split at h <;> cases h)
theorem ints_reads {h : Heap} : ∀ {us : List Value} {ns : List Int}, Vals (ns.map V.int) us → ∃ as, ReadsAll h us (ns.map PyData.int) as
  | [], [], _ => ⟨[], .nil⟩
  | _, [], h => by cases h; exact ⟨[], .nil⟩
  | [], _ :: _, h => by cases h
  | u :: us, n :: ns, h => by
    rw [List.map_cons] at h
    cases h with
    | cons r t =>
      obtain ⟨k, rfl⟩ := r
      obtain ⟨as, q⟩ := ints_reads t
      rw [List.map_cons]
      exact ⟨_, .cons (.int n k) q⟩
theorem ints_alike (ns : List Int) : PySem.W.AlikeAll (ns.map PyData.int) := by
  constructor
  · intro x hx y hy
    obtain ⟨i, _, rfl⟩ := List.mem_map.mp hx
    obtain ⟨j, _, rfl⟩ := List.mem_map.mp hy
    rfl
  · intro x hx
    obtain ⟨i, _, rfl⟩ := List.mem_map.mp hx
    exact fun q => nomatch q
theorem ints_depth : ∀ ns : List Int, PyData.depthAll (ns.map PyData.int) = 0
  | [] => by simp [PyData.depthAll]
  | n :: ns => by
    rw [List.map_cons, PyData.depthAll, ints_depth ns, PyData.depth]
    rfl
theorem reads_int {h : Heap} {v : Value} {i : Int} {bs : List Addr} (r : Reads h v (.int i) bs) : ∃ t, v = .int i t := by
  cases r
  exact ⟨_, rfl⟩
theorem min_data_ok (hd : X.A.handled = none) (hu : X.A.units + 64 < cLine) {pins : List (Addr × Obj)} {s : Shared} {σ : L2.St} {H : Hp} {a : Addr} {b : Int} {bs : List Int} {Q : VK} (I : Inv X pins σ H s) (h : SqL X.K H a ((b :: bs).map V.int) ∨ SqT X.K H a ((b :: bs).map V.int)) (q : Q (.int (bs.foldl min b)) H) :
    wpAny (model X.prog X.w) X.A (call (.builtin "min") [.ref a]) (EP X pins σ Q) X.xe s := by
  have fin : ∀ (v : Value) (h' : Heap) (tk : Nat) (cs : List Addr), Reads h' v (PySem.W.minD (.int b) (bs.map PyData.int)) cs → (∀ b o, s.heap.get? b = some o → h'.get? b = some o) → EP X pins σ Q v { s with heap := h', toks := tk } := fun v h' tk cs r k => by
    rw [PySem.W.minD_ints] at r
    obtain ⟨t, rfl⟩ := reads_int r
    exact ⟨.int _, H, I.kept (t' := tk) k, ⟨t, rfl⟩, q⟩
  have hz : X.A.units + 1 + PyData.depthAll (.int b :: bs.map PyData.int) < cLine := by
    have := ints_depth (b :: bs)
    rw [List.map_cons] at this
    rw [this]
    omega
  rcases h with h | h
  · obtain ⟨its, rv, pl, _⟩ := I.list h
    obtain ⟨as, ra⟩ := ints_reads (h := s.heap) rv
    exact PySem.W.min_list_data hd pl.isList ra (ints_alike (b :: bs)) hz fun i v h' tk cs hv r k => fin v h' tk cs r k
  · obtain ⟨its, rv, pl, _⟩ := I.tuple h
    obtain ⟨as, ra⟩ := ints_reads (h := s.heap) rv
    exact PySem.W.min_tuple_data hd (show s.heap.IsTuple a its.toArray from pl) ra (ints_alike (b :: bs)) hz fun i v h' tk cs hv r k => fin v h' tk cs r k
theorem max_data_ok (hd : X.A.handled = none) (hu : X.A.units + 64 < cLine) {pins : List (Addr × Obj)} {s : Shared} {σ : L2.St} {H : Hp} {a : Addr} {b : Int} {bs : List Int} {Q : VK} (I : Inv X pins σ H s) (h : SqL X.K H a ((b :: bs).map V.int) ∨ SqT X.K H a ((b :: bs).map V.int)) (q : Q (.int (bs.foldl max b)) H) :
    wpAny (model X.prog X.w) X.A (call (.builtin "max") [.ref a]) (EP X pins σ Q) X.xe s := by
  have fin : ∀ (v : Value) (h' : Heap) (tk : Nat) (cs : List Addr), Reads h' v (PySem.W.maxD (.int b) (bs.map PyData.int)) cs → (∀ b o, s.heap.get? b = some o → h'.get? b = some o) → EP X pins σ Q v { s with heap := h', toks := tk } := fun v h' tk cs r k => by
    rw [PySem.W.maxD_ints] at r
    obtain ⟨t, rfl⟩ := reads_int r
    exact ⟨.int _, H, I.kept (t' := tk) k, ⟨t, rfl⟩, q⟩
  have hz : X.A.units + 1 + PyData.depthAll (.int b :: bs.map PyData.int) < cLine := by
    have := ints_depth (b :: bs)
    rw [List.map_cons] at this
    rw [this]
    omega
  rcases h with h | h
  · obtain ⟨its, rv, pl, _⟩ := I.list h
    obtain ⟨as, ra⟩ := ints_reads (h := s.heap) rv
    exact PySem.W.max_list_data hd pl.isList ra (ints_alike (b :: bs)) hz fun i v h' tk cs hv r k => fin v h' tk cs r k
  · obtain ⟨its, rv, pl, _⟩ := I.tuple h
    obtain ⟨as, ra⟩ := ints_reads (h := s.heap) rv
    exact PySem.W.max_tuple_data hd (show s.heap.IsTuple a its.toArray from pl) ra (ints_alike (b :: bs)) hz fun i v h' tk cs hv r k => fin v h' tk cs r k
theorem c_min (hc : X.calm = true) (hd : X.A.handled = none) (hu : X.A.units + 64 < cLine) : CallD X 1 k (.builtin "min") fMin := fun pins s σ H xs us Q I r h => by
  obtain ⟨ex, ds, d, ext, rs, e, q⟩ := h
  unfold fMin at e
  split at e
  · cases e
    cases rs with
    | cons r1 t =>
      cases t with
      | cons r2 t =>
        cases t
        rw [RB.int r1, RB.int r2] at *
        exact call_min2 hc pins s σ H _ us Q I r ⟨_, _, rfl, q.int⟩
  · split at e
    · rename_i b bs hb
      cases e
      cases rs with
      | cons r1 t =>
        cases t
        obtain ⟨a, ys, rfl, h1, _, h3⟩ := RB.lst r1
        rw [nums_vals h3 hb] at h1
        rw [Vals.ref1 r]
        exact min_data_ok hd hu I (.inl h1) q.int
    · cases e
  · split at e
    · rename_i b bs hb
      cases e
      cases rs with
      | cons r1 t =>
        cases t
        obtain ⟨a, ys, rfl, h1, _, h3⟩ := RB.tup r1
        rw [nums_vals (n := 0) h3 hb] at h1
        rw [Vals.ref1 r]
        exact min_data_ok hd hu I (.inr h1) q.int
    · cases e
  · cases e
theorem c_max (hc : X.calm = true) (hd : X.A.handled = none) (hu : X.A.units + 64 < cLine) : CallD X 1 k (.builtin "max") fMax := fun pins s σ H xs us Q I r h => by
  obtain ⟨ex, ds, d, ext, rs, e, q⟩ := h
  unfold fMax at e
  split at e
  · cases e
    cases rs with
    | cons r1 t =>
      cases t with
      | cons r2 t =>
        cases t
        rw [RB.int r1, RB.int r2] at *
        exact call_max2 hc pins s σ H _ us Q I r ⟨_, _, rfl, q.int⟩
  · split at e
    · rename_i b bs hb
      cases e
      cases rs with
      | cons r1 t =>
        cases t
        obtain ⟨a, ys, rfl, h1, _, h3⟩ := RB.lst r1
        rw [nums_vals h3 hb] at h1
        rw [Vals.ref1 r]
        exact max_data_ok hd hu I (.inl h1) q.int
    · cases e
  · split at e
    · rename_i b bs hb
      cases e
      cases rs with
      | cons r1 t =>
        cases t
        obtain ⟨a, ys, rfl, h1, _, h3⟩ := RB.tup r1
        rw [nums_vals (n := 0) h3 hb] at h1
        rw [Vals.ref1 r]
        exact max_data_ok hd hu I (.inr h1) q.int
    · cases e
  · cases e
end
end Px

namespace Px
open PySem PySem.Spec PyProof.Rows L2

/-! ### slices -/
abbrev TOf (X : Cx) (W : WX) (L : List Nat) (f : Env → Res (Option Int)) : TO := fun σ H Q => ∃ ex ρ fp, SI X.K ex L ρ σ H fp ∧ Out X W σ H (f ρ) fun o => ∀ H', Same H H' → Q o H'
abbrev EP (X : Cx) (W : WX) (L : List Nat) (e : Option Expr) (f : Env → Res (Option Int)) : Prop := PO X e (TOf X W L f)
def oNone : Env → Res (Option Int) := fun _ => .ok none
def oSome (f : EF) : Env → Res (Option Int) := fun ρ => f ρ >>= fun d => match d with
  | .int i => .ok (some i)
  | _ => .err
theorem PO.imp {X : Cx} {e : Option Expr} {t t' : TO} (h : PO X e t) (m : ∀ σ H Q, t' σ H Q → t σ H Q) : PO X e t' := ⟨fun pins s σ H Q I q => h.run pins s σ H Q I (m σ H Q q)⟩
/-- the places lo .. hi of a list -/
def cut {α : Type} (xs : List α) (lo hi : Option Int) : List α := (xs.drop (HT.sIx xs.length 0 lo)).take (HT.sIx xs.length xs.length hi - HT.sIx xs.length 0 lo)
theorem cut_length {α : Type} (xs : List α) (lo hi : Option Int) : (cut xs lo hi).length ≤ xs.length := by
  unfold cut
  rw [List.length_take, List.length_drop]
  omega
def dSl : D → Option Int → Option Int → Res D
  | .lst xs, lo, hi => .ok (.lst (cut xs lo hi))
  | .tup xs, lo, hi => .ok (.tup (cut xs lo hi))
  | .str s, lo, hi => if s.length ≤ sizeLine then .ok (.str ⟨(cut s.cps.toList lo hi).toArray⟩) else .err
  | _, _, _ => .err
def eSl (f : EF) (lo hi : Env → Res (Option Int)) : EF := fun ρ => f ρ >>= fun d => lo ρ >>= fun a => hi ρ >>= fun b => dSl d a b
def dRev : D → Res D
  | .lst xs => .ok (.lst xs.reverse)
  | .tup xs => .ok (.tup xs.reverse)
  | .str s => if s.length ≤ sizeLine then .ok (.str ⟨s.cps.toList.reverse.toArray⟩) else .err
  | _ => .err
theorem dRev_nx : NoX1 dRev := fun a c h => by
  unfold dRev at h
  split at h <;> first | cases h | (split at h <;> cases h)
theorem slice_rev (n : Nat) : Builtin.Str.strSliceIndices none none (-1) n = (List.range n).reverse := by
  have h1 : ¬ ((-1 : Int) > 0) := by omega
  simp only [Builtin.Str.strSliceIndices, sliceRange, h1, if_false]
  have e : (if (n : Int) - 1 > -1 then ((n : Int) - 1 - -1 - -1 - 1) / (- -1) else 0).toNat = n := by
    split
    · rw [Int.neg_neg, Int.ediv_one]; omega
    · simp; omega
  rw [e]
  apply List.ext_getElem
  · simp
  · intro i h2 h3
    simp at h2
    simp
    omega
theorem pick_revS (z : Str) : ((List.range z.length).reverse.filterMap (z.cps[·]?)).toArray = z.cps.toList.reverse.toArray := by
  congr 1
  rw [List.filterMap_reverse]
  congr 1
  obtain ⟨⟨l⟩⟩ := z
  show (List.range l.length).filterMap (fun i => (l.toArray)[i]?) = l
  have key : ∀ k, k ≤ l.length → (List.range k).filterMap (fun i => (l.toArray)[i]?) = l.take k := fun k => by
    induction k with
    | zero => intro _; simp
    | succ k ih =>
      intro hk
      rw [List.range_succ, List.filterMap_append, ih (by omega), List.take_add_one]
      congr 1
      simp [List.getElem?_eq_getElem (show k < l.length by omega)]
  have := key l.length (Nat.le_refl _)
  rw [List.take_length] at this
  exact this
section
variable {prog : Program} {w : World} {A : Around} {E : Value → Shared → Prop} {s : Shared}
theorem sliceApplied_rev {sl : Addr} {vl vu : Value} {t : Tok} {n : Nat} {Q : Int × Int × Nat → Shared → Prop} (hs : s.heap.IsSliceOf sl vl vu (.int (-1) t)) (pl : IsPart vl none) (pu : IsPart vu none) (h : Q ((n : Int) - 1, -1, n) s) :
    wpAny (model prog w) A (Builtin.Slice.sliceApplied (.ref sl) (pure (n : Int))) Q E s := by
  obtain ⟨os, hos, hcs, hds⟩ := id hs
  unfold Builtin.Slice.sliceApplied Builtin.Slice.sliceFields
  refine wpAny_bind (wpAny_bind (wpAny_field hos hds (x := vl) rfl (wpAny_bind (wpAny_field hos hds (x := vu) rfl (wpAny_bind (wpAny_field hos hds (x := .int (-1) t) rfl (wpAny_pure ?_)))))))
  refine wpAny_bind (slicePart_int ?_)
  show wpAny _ _ (if ((-1 : Int) == 0) = true then _ else _) _ _ s
  rw [if_neg (by decide)]
  refine wpAny_bind (HT.slicePart_ pl (wpAny_bind (HT.slicePart_ pu (wpAny_bind (wpAny_pure ?_)))))
  have e : Builtin.Slice.slicePlaces ((n : Int) - 1) (-1) (-1) = n := by
    unfold Builtin.Slice.slicePlaces
    have h1 : ¬ ((-1 : Int) > 0) := by omega
    simp only [h1, if_false, Int.neg_neg, Int.ediv_one]
    split <;> omega
  show wpAny _ _ (pure ((n : Int) - 1, (-1 : Int), Builtin.Slice.slicePlaces ((n : Int) - 1) (-1) (-1))) _ _ s
  rw [e]
  exact wpAny_pure h
theorem pick_rev (xs : Array Value) : ((List.range xs.size).filterMap fun (m : Nat) => xs[(((xs.size : Nat) : Int) - 1 + (m : Int) * (-1)).toNat]?).toArray = xs.toList.reverse.toArray := by
  congr 1
  obtain ⟨l⟩ := xs
  have key : ∀ (k : Nat), k ≤ l.length → ((List.range k).filterMap fun (m : Nat) => l[((l.length : Int) - 1 + (m : Int) * (-1)).toNat]?) = l.reverse.take k := by
    intro k
    induction k with
    | zero => intro _; simp
    | succ k ih =>
      intro hk
      rw [List.range_succ, List.filterMap_append, ih (by omega), List.take_add_one]
      congr 1
      have e1 : ((l.length : Int) - 1 + (k : Int) * (-1)).toNat = l.length - 1 - k := by omega
      have e2 : l.reverse[k]? = l[l.length - 1 - k]? := by rw [List.getElem?_reverse (by omega)]
      simp only [List.filterMap_cons, List.filterMap_nil, e1, e2]
      cases q : l[l.length - 1 - k]? <;> simp
  have := key l.length (Nat.le_refl _)
  rw [List.take_of_length_le (by rw [List.length_reverse]; exact Nat.le_refl _)] at this
  simpa using this
theorem getItem_tuple_rev {t sl : Addr} {items : Array Value} {vl vu : Value} {k : Tok} {Q : Value → Shared → Prop} (ht : IsTup s.heap t items) (hs : s.heap.IsSliceOf sl vl vu (.int (-1) k)) (pl : IsPart vl none) (pu : IsPart vu none)
    (h : Q (.ref s.heap.objs.size) { s with heap := s.heap.push { cls := .type "tuple", data := .seq items.toList.reverse.toArray } })
    (hsz : items.size ≤ sizeLine) : wpAny (model prog w) A (getItem (.ref t) (.ref sl)) Q E s := by
  have htake : sizeOk (.seq items.toList.reverse.toArray) := by
    show items.toList.reverse.toArray.size ≤ sizeLine
    rw [List.size_toArray, List.length_reverse, Array.length_toList]
    exact hsz
  obtain ⟨os, hos, hcs, hds⟩ := id hs
  have hTs : s.TypeIs (.ref sl) "slice" := ⟨os, hos, hcs⟩
  unfold getItem
  try with_reducible refine wpAny_holding ?_
  first | refine wpAny_bind (wpAny_pure ?_) | skip
  refine wpAny_bind (wpAny_sequenceKey ht.typeIs (by decide) ?_)
  refine wpAny_bind (wpAny_callSpecial?_slot (name := Str.ofString "__getitem__") ht.typeIs PyProof.Rows.slot_tuple_getitem
    (wpAny_call_entry PyProof.Rows.slot_tuple_getitem ht.typeIs entry_tuple_getitem ?_ (args_tuple_getitem _ _)))
  show wpAny _ _ (Builtin.Tuple.tupleItemsOf (.ref t) >>= _) _ _ s
  refine wpAny_bind (tupleItemsOf_ ht ?_)
  refine wpAny_bind (wpAny_typeOf hTs ?_)
  rw [if_pos (by decide)]
  refine wpAny_bind (sliceApplied_rev hs pl pu ?_)
  have hno : ¬ (((((items.size : Nat) : Int) - 1 == 0 && (-1 : Int) == 1) && items.size == items.size) = true) := by
    intro q
    rw [Bool.and_eq_true, Bool.and_eq_true] at q
    exact absurd q.1.2 (by decide)
  show wpAny _ _ (if (((((items.size : Nat) : Int) - 1 == 0 && (-1 : Int) == 1) && items.size == items.size) = true) then _ else _) _ _ s
  rw [if_neg hno, pick_rev]
  first
    | exact wpAny_bind (m := Builtin.Tuple.tupleExact _) (wpAny_newObj_type (wpAny_pure ⟨_, rfl, wpAny_pure h⟩) htake)
    | exact wpAny_bind (m := Builtin.Tuple.tupleExact _) (wpAny_newObj_type (wpAny_bind (wpAny_pure (wpAny_pure ⟨_, rfl, wpAny_pure h⟩))) htake)
    | exact wpAny_bind (wpAny_bind (m := Builtin.Tuple.tupleExact _) (wpAny_newObj_type (wpAny_pure (wpAny_pure ⟨_, rfl, wpAny_pure h⟩)) htake))
    | exact wpAny_bind (wpAny_bind (m := Builtin.Tuple.tupleExact _) (wpAny_newObj_type (wpAny_pure ⟨_, rfl, wpAny_pure h⟩) htake))
end
section
variable {X : Cx} {W : WX} {L : List Nat} {n k : Nat} {pos p2 : Pos} {e : Expr} {lo hi : Option Expr} {f : EF} {fl fh : Env → Res (Option Int)}
theorem ep_none : EP X W L none oNone := PO.imp po_none fun σ H Q ⟨ex, ρ, fp, I, o⟩ => o H (Same.refl H)
theorem ep_some (h : EB X W L n e f) : EP X W L (some e) (oSome f) := PO.imp (po_some h) fun σ H Q ⟨ex, ρ, fp, I, o⟩ => ⟨ex, ρ, fp, I, o.bind.mono fun d q v H1 e1 r1 => by
  cases d with
  | int i => exact ⟨i, r1.int, q H1 e1⟩
  | _ => exact q.elim⟩
theorem eo_sl (he : EB X W L 1 e f) (hl : EP X W L lo fl) (hu : EP X W L hi fh) : EO X W L 1 (.Subscript e (.Slice lo hi none p2) pos) (eSl f fl fh) :=
  PE.imp (pe_slice (SlR.or sl_list (SlR.or sl_tupA sl_str)) he hl hu) fun σ H Q ⟨ex, ρ, fp, I, o⟩ => by
    refine ⟨ex, ρ, fp, I, o.bind.mono fun d q1 v H1 e1 r1 => ⟨ex, ρ, fp, I.same e1, (q1.bind.later e1).mono fun a q2 H2 e2 => ⟨ex, ρ, fp, (I.same e1).same e2, ((q2.bind.later (e1.trans e2))).mono fun b q3 H3 e3 => ?_⟩⟩⟩
    have r3 := (r1.same e2).same e3
    have e4 := (e1.trans e2).trans e3
    cases d with
    | lst xs =>
      obtain ⟨p, ys, rfl, h1, h2, h3⟩ := r3.lst
      have hc : Paired (R X.K ex H3) (cut xs a b) (cutV ys a b) := by
        unfold cut cutV
        rw [← h3.length]
        exact Paired.takeP _ (Paired.dropP _ h3)
      exact .inl ⟨p, ys, rfl, h1, fun l hl => QO.lst (K := X.K) (ex := ex) (fun v H5 fq e5 ro nd nw => q3 v H5 fq (e4.trans e5) ro nd fun a ha => e4.free (nw a ha)) hc hl (Nat.le_trans (cutV_length ys a b) h2)⟩
    | tup xs =>
      obtain ⟨p, ys, rfl, hx1, h2, h3⟩ := r3.tupX
      have h1 : SqT X.K H3 p ys := .inl (.inl hx1)
      have hc : Paired (R X.K ex H3) (cut xs a b) (cutV ys a b) := by
        unfold cut cutV
        rw [← h3.length]
        exact Paired.takeP _ (Paired.dropP _ h3)
      have q4 : QO X.K ex H3 1 Q (.tup (cut xs a b)) := fun v H5 fq e5 ro nd nw => q3 v H5 fq (e4.trans e5) ro nd fun a ha => e4.free (nw a ha)
      refine .inr (.inl ⟨p, ys, rfl, h1, fun hw => q4.flat ?_ rfl, fun _ l hl => q4.tup hc hl (Nat.le_trans (cutV_length ys a b) h2)⟩)
      have ew : cut xs a b = xs := by
        unfold cut
        rw [h3.length, hw.1, hw.2, List.drop_zero, Nat.sub_zero, ← h3.length, List.take_length]
      rw [ew, R]
      exact ⟨p, ys, rfl, ⟨hx1, h2⟩, RL.of h3⟩
    | str z =>
      by_cases hz : z.length ≤ sizeLine
      · have e5 : dSl (.str z) a b = .ok (.str ⟨(cut z.cps.toList a b).toArray⟩) := if_pos hz
        rw [e5] at q3
        have q4 : QO X.K ex H3 1 Q _ := fun v H5 fq e5 ro nd nw => q3 v H5 fq (e4.trans e5) ro nd fun a ha => e4.free (nw a ha)
        refine .inr (.inr ⟨z, r3.str, hz, ?_⟩)
        have := q4.str
        unfold cutS
        unfold cut at this
        rw [Array.length_toList] at this
        exact this
      · have e5 : dSl (.str z) a b = .err := if_neg hz
        rw [e5] at q3
        exact q3.elim
    | _ => exact q3.elim
theorem eo_rev {kk : Nat} {p1 p3 : Pos} (he : EB X W L 1 e f) : EO X W L 1 (.Subscript e (.Slice none none (some (.UnaryOp .USub (.Constant (.int 1) kk p1) p2)) p3) pos) (eUn dRev f) := by
  refine ⟨fun pins s σ H Q I ⟨ex, ρ, fp, S, o⟩ => ?_⟩
  refine Subscript_ (thn (he.run pins s σ H (fun x H1 => ∃ d, Same H H1 ∧ RB X.K ex H1 1 d x ∧ Out X W σ H (dRev d) fun d => QO X.K ex H1 1 Q d) I
    ⟨ex, ρ, fp, S, o.bind.mono fun d q v H1 e1 r1 => ⟨d, e1, r1, q.mono fun z q2 v H5 fq e5 ro nd nw => q2 v H5 fq (e1.trans e5) ro nd fun a ha => e1.free (nw a ha)⟩⟩) fun v s1 ⟨x, H1, I1, r1, d, e1, rb, q1⟩ => ?_)
  have hst : PO X (some (.UnaryOp .USub (.Constant (.int 1) kk p1) p2)) (tPart (tUn (rU fun i => .int (-i)) (tC (.int 1)))) := po_some (pe_un un_neg pe_int)
  refine wpAny_Slice (thn (po_none.run pins s1 σ H1 (fun o H2 => o = none ∧ H2 = H1) I1 ⟨rfl, rfl⟩) fun vl s2 ⟨l, H2, I2, pl, el, e2⟩ => ?_)
  subst el e2
  refine thn (po_none.run pins s2 σ H2 (fun o H3 => o = none ∧ H3 = H2) I2 ⟨rfl, rfl⟩) fun vu s3 ⟨u, H3, I3, pu, eu, e3⟩ => ?_
  subst eu e3
  refine thn (hst.run pins s3 σ H3 (fun o H4 => o = some (-1) ∧ H4 = H3) I3 ⟨1, rfl, -1, rfl, rfl, rfl⟩) fun vs s4 ⟨o, H4, I4, ps, eo, e4⟩ => ?_
  subst eo e4
  have I5 : Inv X pins σ H4 { s4 with heap := s4.heap.push { cls := .type "slice", data := .fields #[vl, vu, vs] } } := I4.kept (t' := s4.toks) fun b ob q => Heap.get?_push_of_some _ q
  show wpAny (model X.prog X.w) X.A (subscriptTail e (.Slice none none (some (.UnaryOp .USub (.Constant (.int 1) kk p1) p2)) p3) v (.ref s4.heap.objs.size)) (L2.EP X pins σ Q) X.xe { s4 with heap := s4.heap.push { cls := .type "slice", data := .fields #[vl, vu, vs] } }
  obtain ⟨z, ez, qz⟩ := no_exc q1 (dRev_nx d)
  cases d with
  | lst xs =>
    cases ez
    obtain ⟨a, ys, rfl, hx, hl, h3⟩ := rb.lst
    cases r1
    obtain ⟨its, r, ht, hz⟩ := I5.list hx
    have hlen := r.length
    refine tail_any (ops := [.ref a, .ref s4.heap.objs.size]) ht.isList.typeIs (PySem.slot_list_getitem.lookup) ?_ (by with_unfolding_all rfl)
    refine wpAny_getItem_list_slice ht.isList (Heap.IsSliceOf.new _ vl vu vs) pl pu ps (by decide) ?_ (by rw [List.size_toArray]; omega)
    rw [PySem.W.krv_pick]
    refine ⟨.ref _, _, I5.laid (t' := s4.toks) (o := .lst ys.reverse) (fun b ob q => Heap.get?_push_of_some _ q) (Nat.le_refl _) ?_, rfl, qz.lst (Paired.revP h3) (I5.hok.fresh (Nat.le_refl _)) (by rw [List.length_reverse]; exact hl)⟩
    exact ⟨by rw [List.length_reverse]; exact hz, _, 0, r.reverse, Heap.get?_push_size _ rfl⟩
  | tup xs =>
    cases ez
    obtain ⟨a, ys, rfl, hx, hl, h3⟩ := rb.tup
    cases r1
    obtain ⟨its, r, ht, hz⟩ := I5.tuple hx
    have hlen := r.length
    refine tail_any (ops := [.ref a, .ref s4.heap.objs.size]) ht.typeIs (PyProof.Rows.slot_tuple_getitem.lookup) ?_ (by with_unfolding_all rfl)
    cases ps with
    | int i t =>
      refine getItem_tuple_rev ht (Heap.IsSliceOf.new _ vl vu (.int (-1) t)) pl pu ?_ (by rw [List.size_toArray]; omega)
      refine ⟨.ref _, _, I5.laid (t' := s4.toks) (o := .tup ys.reverse) (fun b ob q => Heap.get?_push_of_some _ q) (Nat.le_refl _) ?_, rfl, qz.tup (Paired.revP h3) (I5.hok.fresh (Nat.le_refl _)) (by rw [List.length_reverse]; exact hl)⟩
      exact ⟨by rw [List.length_reverse]; exact hz, its.reverse, r.reverse, IsTup.new _ _⟩
  | str z =>
    by_cases hz : z.length ≤ sizeLine
    · have e5 : dRev (.str z) = .ok (.str ⟨z.cps.toList.reverse.toArray⟩) := if_pos hz
      rw [e5] at ez
      have ez := Res.ok.inj ez
      subst ez
      have hx := rb.str
      subst hx
      obtain ⟨tk, rfl⟩ := r1
      cases pl with
      | none =>
        cases pu with
        | none =>
          cases ps with
          | int i t =>
            refine tail_any (ops := [.str z tk, .ref s4.heap.objs.size]) (PySem.typeIs_str _ z tk) PySem.F.slot_str_getitem.lookup ?_ (by with_unfolding_all rfl)
            refine wpAny_getItem_str_slice (l := none) (u := none) (st := some (-1, t)) (Heap.IsSliceOf.new _ .none .none (.int (-1) t)) rfl ?_
            show Made.post (if ((-1 : Int) == 1 && (Builtin.Str.strSliceIndices none none (-1) z.length).length == z.length) = true then Made.val (.str z tk)
              else Made.str ⟨((Builtin.Str.strSliceIndices none none (-1) z.length).filterMap (z.cps[·]?)).toArray⟩) _ _
            rw [if_neg (by simp), slice_rev, pick_revS]
            refine ⟨?_, .str _, H4, I5.tok _, ⟨_, rfl⟩, qz.str⟩
            show z.cps.toList.reverse.toArray.size ≤ sizeLine
            rw [List.size_toArray, List.length_reverse, Array.length_toList]
            exact hz
    · have e5 : dRev (.str z) = .err := if_neg hz
      rw [e5] at ez
      cases ez
  | _ => cases ez
end
end Px

namespace Px
open PySem PySem.Spec PyProof.Rows L2

/-! ### walks -/
/-- what a walk leans on: two things that stand -/
def HR (K : PySem.W.Frag) (ex : AS) (H : Hp) (n : Nat) (g : (D × V) × (D × V)) : Prop := RB K ex H n g.1.1 g.1.2 ∧ RB K ex H n g.2.1 g.2.2
theorem HR.one {K : PySem.W.Frag} {ex : AS} {H : Hp} {n : Nat} {d : D} {v : V} (h : RB K ex H n d v) : HR K ex H n ((d, v), (.non, .non)) := ⟨h, RB.of (by rw [R])⟩
theorem HR.nil {K : PySem.W.Frag} {ex : AS} {H : Hp} {n : Nat} : HR K ex H n ((.non, .non), (.non, .non)) := ⟨RB.of (by rw [R]), RB.of (by rw [R])⟩
/-- an iterator that yields ds one by one, while g is held -/
structure Itn (K : PySem.W.Frag) (n : Nat) (J : It) (g : (D × V) × (D × V)) (ds : List D) : Prop where
  len : ds.length ≤ sizeLine
  go : ∀ ex H i, HR K ex H n g → i < ds.length → J.go i H
  stop : ∀ ex H, HR K ex H n g → J.stop ds.length H
  item : ∀ ex H i d x H', HR K ex H n g → ds[i]? = some d → J.yld i H x H' → Same H H' ∧ RB K ex H' (n - 1) d x
def tI (X : Cx) (W : WX) (L : List Nat) (n : Nat) (f : Env → Res (List D)) : TI := fun σ H R => ∃ ex ρ fp, SI X.K ex L ρ σ H fp ∧ Out X W σ H (f ρ) fun ds => ∀ J H' g, Same H H' → HR X.K ex H' n g → Itn X.K n J g ds → R J H'
abbrev EI (X : Cx) (W : WX) (L : List Nat) (n : Nat) (tg e : Expr) (f : Env → Res (List D)) : Prop := PI X tg e (tI X W L n f)
theorem PI.imp {X : Cx} {tg e : Expr} {t t' : TI} (h : PI X tg e t) (m : ∀ σ H Q, t' σ H Q → t σ H Q) : PI X tg e t' := ⟨fun pins s σ H R I q => h.run pins s σ H R I (m σ H R q)⟩
def signs (s : Str) : List D := s.cps.toList.map fun c => .str ⟨#[c]⟩
def dItems : D → Res (List D)
  | .lst xs => .ok xs
  | .tup xs => .ok xs
  | .str s => if s.length ≤ sizeLine then .ok (signs s) else .err
  | _ => .err
theorem dItems_nx : NoX1 dItems := fun a c h => by
  unfold dItems at h
  split at h <;> first | cases h | (split at h <;> cases h)
theorem itn_list {K : PySem.W.Frag} {n : Nat} {ds : List D} {a : Addr} (hl : ds.length ≤ sizeLine) : Itn K n (Itl K a) ((.lst ds, .ref a), (.non, .non)) ds := by
  have ob : ∀ ex H, RB K ex H n (.lst ds) (.ref a) → ∃ xs, SqL K H a xs ∧ Paired (RB K ex H (n - 1)) ds xs := fun ex H h => by
    cases n with
    | zero =>
      rw [RB, R] at h
      obtain ⟨b, xs, e, h1, h2⟩ := h
      cases e
      exact ⟨xs, h1.r.sq.1, RL.pair h2⟩
    | succ n =>
      obtain ⟨b, xs, e, h1, h2, h3⟩ := RB.lst h
      cases e
      exact ⟨xs, h1, h3⟩
  refine ⟨hl, fun ex H i h hi => ?_, fun ex H h => ?_, fun ex H i d x H' h hd hy => ?_⟩
  · obtain ⟨xs, h1, h2⟩ := ob ex H h.1
    obtain ⟨x, hx, _⟩ := Paired.get h2 (List.getElem?_eq_getElem hi)
    exact ⟨xs, x, h1, hx⟩
  · obtain ⟨xs, h1, h2⟩ := ob ex H h.1
    exact ⟨xs, h1, by rw [h2.length]; exact Nat.le_refl _⟩
  · obtain ⟨xs, h1, h2⟩ := ob ex H h.1
    obtain ⟨y, hy1, ry⟩ := Paired.get h2 hd
    obtain ⟨rfl, hy2⟩ := hy
    have := hy2 xs h1
    rw [hy1] at this
    cases this
    exact ⟨Same.refl _, ry⟩
theorem itn_tup {K : PySem.W.Frag} {n : Nat} {ds : List D} {a : Addr} (hl : ds.length ≤ sizeLine) : Itn K n (Itt K a) ((.tup ds, .ref a), (.non, .non)) ds := by
  have ob : ∀ ex H, RB K ex H n (.tup ds) (.ref a) → ∃ xs, SqT K H a xs ∧ Paired (R K ex H) ds xs := fun ex H h => by
    obtain ⟨b, xs, e, h1, h2, h3⟩ := RB.tup h
    cases e
    exact ⟨xs, h1, h3⟩
  refine ⟨hl, fun ex H i h hi => ?_, fun ex H h => ?_, fun ex H i d x H' h hd hy => ?_⟩
  · obtain ⟨xs, h1, h2⟩ := ob ex H h.1
    obtain ⟨x, hx, _⟩ := Paired.get h2 (List.getElem?_eq_getElem hi)
    exact ⟨xs, x, h1, hx⟩
  · obtain ⟨xs, h1, h2⟩ := ob ex H h.1
    exact ⟨xs, h1, by rw [h2.length]; exact Nat.le_refl _⟩
  · obtain ⟨xs, h1, h2⟩ := ob ex H h.1
    obtain ⟨y, hy1, ry⟩ := Paired.get h2 hd
    obtain ⟨rfl, hy2⟩ := hy
    have := hy2 xs h1
    rw [hy1] at this
    cases this
    exact ⟨Same.refl _, RB.of ry⟩
theorem itn_str {K : PySem.W.Frag} {n : Nat} {x : Str} (hl : x.length ≤ sizeLine) : Itn K n (Its x) ((.non, .non), (.non, .non)) (signs x) := by
  have el : (signs x).length = x.cps.size := by
    unfold signs
    rw [List.length_map, Array.length_toList]
  refine ⟨by rw [el]; exact hl, fun ex H i h hi => ?_, fun ex H h => ?_, fun ex H i d v H' h hd hy => ?_⟩
  · show i < x.cps.size
    rw [← el]
    exact hi
  · show x.cps.size ≤ (signs x).length
    rw [el]
    exact Nat.le_refl _
  · obtain ⟨rfl, c, hc, rfl⟩ := hy
    unfold signs at hd
    rw [List.getElem?_map, Array.getElem?_toList, hc] at hd
    cases hd
    exact ⟨Same.refl _, RB.of (by rw [R])⟩
def rng (lo : Int) (n : Nat) : List D := (List.range n).map fun i => .int (lo + (i : Nat))
def rngC (lo c : Int) (n : Nat) : List D := (List.range n).map fun i => .int (lo + (i : Nat) * c)
theorem itn_rng {K : PySem.W.Frag} {n k : Nat} {lo : Int} (hl : k ≤ sizeLine) : Itn K n (Itr lo k) ((.non, .non), (.non, .non)) (rng lo k) := by
  have el : (rng lo k).length = k := by
    unfold rng
    rw [List.length_map, List.length_range]
  refine ⟨by rw [el]; exact hl, fun ex H i h hi => ?_, fun ex H h => ?_, fun ex H i d v H' h hd hy => ?_⟩
  · show i < k
    rw [← el]
    exact hi
  · show k ≤ _
    rw [el]
    exact Nat.le_refl _
  · obtain ⟨rfl, rfl⟩ := hy
    have hi : i < k := by
      obtain ⟨h1, _⟩ := List.getElem?_eq_some_iff.mp hd
      rw [el] at h1
      exact h1
    unfold rng at hd
    rw [List.getElem?_map, List.getElem?_range hi] at hd
    cases hd
    exact ⟨Same.refl _, RB.of (by rw [R])⟩
theorem itn_rngC {K : PySem.W.Frag} {n k : Nat} {lo c : Int} (hl : k ≤ sizeLine) : Itn K n (Itc lo c k) ((.non, .non), (.non, .non)) (rngC lo c k) := by
  have el : (rngC lo c k).length = k := by
    unfold rngC
    rw [List.length_map, List.length_range]
  refine ⟨by rw [el]; exact hl, fun ex H i h hi => ?_, fun ex H h => ?_, fun ex H i d v H' h hd hy => ?_⟩
  · show i < k
    rw [← el]
    exact hi
  · show k ≤ _
    rw [el]
    exact Nat.le_refl _
  · obtain ⟨rfl, rfl⟩ := hy
    have hi : i < k := by
      obtain ⟨h1, _⟩ := List.getElem?_eq_some_iff.mp hd
      rw [el] at h1
      exact h1
    unfold rngC at hd
    rw [List.getElem?_map, List.getElem?_range hi] at hd
    cases hd
    exact ⟨Same.refl _, RB.of (by rw [R])⟩
def iSeq (f : EF) : Env → Res (List D) := eUn dItems f
def dRng1 : List D → Res (List D)
  | [.int j] => if j ≤ 16777216 ∧ -(2 ^ 62) ≤ j then .ok (rng 0 j.toNat) else .err
  | _ => .err
def dRng2 : List D → Res (List D)
  | [.int i, .int j] => if j - i ≤ 16777216 ∧ -(2 ^ 62) ≤ i ∧ i < 2 ^ 62 ∧ -(2 ^ 62) ≤ j ∧ j < 2 ^ 62 then .ok (rng i (j - i).toNat) else .err
  | _ => .err
def dRng3 : List D → Res (List D)
  | [.int i, .int j, .int c] => if c = -1 ∧ i - j ≤ 16777216 ∧ -(2 ^ 62) ≤ i ∧ i < 2 ^ 62 ∧ -(2 ^ 62) ≤ j ∧ j < 2 ^ 62 then .ok (rngC i (-1) (i - j).toNat) else .err
  | _ => .err
def iCall (o : List D → Res (List D)) (fs : Env → Res (List D)) : Env → Res (List D) := fun ρ => fs ρ >>= o
section
variable {X : Cx} {W : WX} {L : List Nat} {n k m n2 : Nat} {pos p : Pos} {e tg a b c : Expr} {f : EF} {fs : Env → Res (List D)}
theorem line_eq : (sizeLine : Nat) = 16777216 := by decide
theorem ei_seq (he : EB X W L n e f) : EI X W L n tg e (iSeq f) := by
  refine ⟨fun pins s σ H Rr I ⟨ex, ρ, fp, S, o⟩ => ?_⟩
  refine thn (he.run pins s σ H (fun x H1 => ∃ d, Same H H1 ∧ RB X.K ex H1 n d x ∧ Out X W σ H (dItems d) fun ds => ∀ J H' g, Same H H' → HR X.K ex H' n g → Itn X.K n J g ds → Rr J H') I
    ⟨ex, ρ, fp, S, o.bind.mono fun d q v H1 e1 r1 => ⟨d, e1, r1, q⟩⟩) fun v s1 ⟨x, H1, I1, r1, d, e1, rb, q⟩ => ?_
  obtain ⟨ds, ed, qd⟩ := no_exc q (dItems_nx d)
  cases d with
  | lst xs =>
    cases ed
    obtain ⟨a, ys, rfl, h1, h2, h3⟩ := rb.up.lst
    cases r1
    obtain ⟨its, rv, p, hz⟩ := I1.list h1
    refine wpAny_pyIter_list p.isList (pi_one (tk := s1.toks) I1 _ (turn_list a _) ⟨_, Heap.get?_push_size _ rfl, rfl, rfl⟩ (qd _ H1 ((_, .ref a), (.non, .non)) e1 (HR.one rb) (itn_list (by rw [h3.length]; exact h2))))
  | tup xs =>
    cases ed
    obtain ⟨a, ys, rfl, h1, h2, h3⟩ := rb.tup
    cases r1
    obtain ⟨its, rv, p, hz⟩ := I1.tuple h1
    refine wpAny_pyIter_tuple (show s1.heap.IsTuple a its.toArray from p) (pi_one (tk := s1.toks) I1 _ (turn_tuple a _) ⟨_, Heap.get?_push_size _ rfl, rfl, rfl⟩ (qd _ H1 ((_, .ref a), (.non, .non)) e1 (HR.one rb) (itn_tup (by rw [h3.length]; exact h2))))
  | str z =>
    have eq : dItems (.str z) = if z.length ≤ sizeLine then .ok (signs z) else .err := rfl
    rw [eq] at ed
    split at ed
    · rename_i hz
      cases ed
      rw [rb.str] at r1
      obtain ⟨t, rfl⟩ := r1
      cases ha : z.cps.all (· < 128)
      · exact wpAny_pyIter_wide ha (pi_one (tk := s1.toks) I1 _ (turn_str _ z t "str_iterator" (.inr rfl)) ⟨_, Heap.get?_push_size _ rfl, rfl, rfl⟩ (qd _ H1 ((.non, .non), (.non, .non)) e1 HR.nil (itn_str hz)))
      · exact wpAny_pyIter_ascii ha (pi_one (tk := s1.toks) I1 _ (turn_str _ z t "str_ascii_iterator" (.inl rfl)) ⟨_, Heap.get?_push_size _ rfl, rfl, rfl⟩ (qd _ H1 ((.non, .non), (.non, .non)) e1 HR.nil (itn_str hz)))
    · cases ed
  | _ => cases ed
theorem ei_range1 (hg : Gl X "range") (hm : X.mg "range" = none) (ha : EA X W L n2 m [a] fs) (hs : starEach [a] X.env = [(false, eval a X.env)] := by rfl) : EI X W L n tg (.Call (.Name "range" p) [a] [] pos) (iCall dRng1 fs) :=
  PI.imp (pi_range1 hg hm ha hs) fun σ H Q ⟨ex, ρ, fp, I, o⟩ => ⟨ex, ρ, fp, I, o.bind.mono fun ds q vs H1 e1 r1 _ => by
    unfold dRng1 at q
    split at q
    · split at q
      · rename_i j hj
        cases r1 with
        | cons r t =>
          cases t
          rw [RB.int r]
          have hj' := hj
          exact ⟨j, rfl, hj.2, by omega, q (Itr 0 j.toNat) H1 ((.non, .non), (.non, .non)) e1 HR.nil (itn_rng (by rw [line_eq]; omega))⟩
      · exact q.elim
    · exact q.elim⟩
theorem ei_range2 (hg : Gl X "range") (hm : X.mg "range" = none) (ha : EA X W L n2 m [a, b] fs) (hs : starEach [a, b] X.env = [(false, eval a X.env), (false, eval b X.env)] := by rfl) (hs2 : starEach [b] X.env = [(false, eval b X.env)] := by rfl) :
    EI X W L n tg (.Call (.Name "range" p) [a, b] [] pos) (iCall dRng2 fs) :=
  PI.imp (pi_range2 hg hm ha hs hs2) fun σ H Q ⟨ex, ρ, fp, I, o⟩ => ⟨ex, ρ, fp, I, o.bind.mono fun ds q vs H1 e1 r1 _ => by
    unfold dRng2 at q
    split at q
    · split at q
      · rename_i i j hj
        cases r1 with
        | cons r t =>
          cases t with
          | cons r2 t =>
            cases t
            rw [RB.int r, RB.int r2]
            exact ⟨i, j, rfl, hj.2, q (Itr i (j - i).toNat) H1 ((.non, .non), (.non, .non)) e1 HR.nil (itn_rng (by rw [line_eq]; omega))⟩
      · exact q.elim
    · exact q.elim⟩
theorem ei_range3 (hg : Gl X "range") (hm : X.mg "range" = none) (ha : EA X W L n2 m [a, b, c] fs) (hs : starEach [a, b, c] X.env = (false, eval a X.env) :: starEach [b, c] X.env := by rfl) (hpl : (backTo pos (starEach [b, c] X.env)).any (·.1) = false := by rfl) :
    EI X W L n tg (.Call (.Name "range" p) [a, b, c] [] pos) (iCall dRng3 fs) :=
  PI.imp (pi_range3 hg hm ha hs hpl) fun σ H Q ⟨ex, ρ, fp, I, o⟩ => ⟨ex, ρ, fp, I, o.bind.mono fun ds q vs H1 e1 r1 _ => by
    unfold dRng3 at q
    split at q
    · split at q
      · rename_i i j c hj
        obtain ⟨hc, hj⟩ := hj
        subst hc
        cases r1 with
        | cons r t =>
          cases t with
          | cons r2 t =>
            cases t with
            | cons r3 t =>
              cases t
              rw [RB.int r, RB.int r2, RB.int r3]
              exact ⟨i, j, -1, (i - j).toNat, rfl, RgC.neg hj.2.1 hj.2.2.1 hj.2.2.2.1 hj.2.2.2.2, q (Itc i (-1) (i - j).toNat) H1 ((.non, .non), (.non, .non)) e1 HR.nil (itn_rngC (by rw [line_eq]; omega))⟩
      · exact q.elim
    · exact q.elim⟩
end

/-! ### targets -/
abbrev Sets := List (Nat × D × V)
def setE (ρ : Env) (l : Sets) : Env := l.foldl (fun ρ t => ρ.set t.1 (some t.2.1)) ρ
def setS (σ : L2.St) (l : Sets) : L2.St := l.foldl (fun σ t => σ.set t.1 (some t.2.2)) σ
/-- a target does what a function over data does; it sets the slots is -/
def GSem (K : PySem.W.Frag) (g : TG) (gf : Env → D → Res Env) (is : List Nat) : Prop :=
  ∀ ex v σ H Q d ρ ρ', R K ex H d v → gf ρ d = .ok ρ' → (∀ l : Sets, (∀ t ∈ l, R K ex H t.2.1 t.2.2 ∧ t.1 ∈ is) → ρ' = setE ρ l → Q (setS σ l) H) → g v σ H Q
def gfName (i : Nat) : Env → D → Res Env := fun ρ d => .ok (ρ.set i (some d))
theorem gs_name {K : PySem.W.Frag} (i : Nat) : GSem K (gName i) (gfName i) [i] := fun ex v σ H Q d ρ ρ' r e h => by
  cases e
  exact h [(i, d, v)] (fun t ht => by
    rw [List.mem_singleton.mp ht]
    exact ⟨r, List.mem_singleton.mpr rfl⟩) rfl
def setL (ρ : Env) : List Nat → List D → Env
  | i :: is, d :: ds => setL (ρ.set i (some d)) is ds
  | _, _ => ρ
def gfTup (is : List Nat) : Env → D → Res Env := fun ρ d => match d with
  | .tup ds => if ds.length = is.length then .ok (setL ρ is ds) else .err
  | _ => .err
def gNames : List Nat → TGs
  | [] => gNil
  | i :: is => gCons (gName i) (gNames is)
theorem gNames_ok {K : PySem.W.Frag} {ex : AS} {H : Hp} {Q : L2.St → Hp → Prop} : ∀ (is : List Nat) (ds : List D) (vs : List V) (σ : L2.St) (ρ : Env), ds.length = is.length → Paired (R K ex H) ds vs →
    (∀ l : Sets, (∀ t ∈ l, R K ex H t.2.1 t.2.2 ∧ t.1 ∈ is) → setL ρ is ds = setE ρ l → Q (setS σ l) H) → gNames is vs σ H Q
  | [], [], _, σ, ρ, _, .nil, h => ⟨rfl, h [] (fun t ht => nomatch ht) rfl⟩
  | [], _ :: _, _, _, _, e, _, _ => by simp at e
  | _ :: _, [], _, _, _, e, _, _ => by simp at e
  | i :: is, d :: ds, _, σ, ρ, e, .cons (b := v) r t, h => by
    refine ⟨v, _, rfl, ?_⟩
    refine gNames_ok is ds _ (σ.set i (some v)) (ρ.set i (some d)) (by simpa using e) t fun l hl e2 => ?_
    exact h ((i, d, v) :: l) (fun t ht => by
      rcases List.mem_cons.mp ht with rfl | ht
      · exact ⟨r, List.mem_cons_self⟩
      · exact ⟨(hl t ht).1, List.mem_cons_of_mem _ (hl t ht).2⟩) e2
theorem gs_tup {K : PySem.W.Frag} (is : List Nat) : GSem K (gTup K is.length (gNames is)) (gfTup is) is := fun ex v σ H Q d ρ ρ' r e h => by
  unfold gfTup at e
  split at e
  · split at e
    · rename_i ds hl
      cases e
      rw [R] at r
      obtain ⟨a, xs, rfl, h1, h2⟩ := r
      exact ⟨a, xs, rfl, .inl (.inl h1.1), by rw [← RL.length h2]; exact hl, gNames_ok is ds xs σ ρ hl (RL.pair h2) h⟩
    · cases e
  · cases e
def wipeE (ρ : Env) : List Nat → Env
  | [] => ρ
  | v :: vs => (wipeE ρ vs).set v none
theorem wipeE_length (ρ : Env) : ∀ vs : List Nat, (wipeE ρ vs).length = ρ.length
  | [] => rfl
  | v :: vs => by rw [wipeE, List.length_set, wipeE_length ρ vs]
theorem wipeE_some {ρ : Env} {i : Nat} {d : D} : ∀ {vs : List Nat}, (wipeE ρ vs)[i]? = some (some d) → ρ[i]? = some (some d) ∧ i ∉ vs
  | [], h => ⟨h, fun q => nomatch q⟩
  | v :: vs, h => by
    rw [wipeE] at h
    by_cases e : v = i
    · subst e
      by_cases hl : v < (wipeE ρ vs).length
      · rw [List.getElem?_set_self hl] at h
        cases h
      · rw [List.getElem?_eq_none (by rw [List.length_set]; omega)] at h
        cases h
    · rw [List.getElem?_set_ne e] at h
      obtain ⟨h1, h2⟩ := wipeE_some h
      exact ⟨h1, fun q => by
        rcases List.mem_cons.mp q with q | q
        · exact e q.symm
        · exact h2 q⟩
section
variable {K : PySem.W.Frag} {ex ex' : AS} {H H' : Hp} {L : List Nat} {ρ : Env} {σ : L2.St} {fp : Nat → List Addr}
theorem SI.wipe (I : SI K ex L ρ σ H fp) (vs : List Nat) : SI K ex L (wipeE ρ vs) (L2.wipe σ vs) H fp where
  len := by rw [wipeE_length, L2.wipe_length]; exact I.len
  val := fun i d h => by
    obtain ⟨h1, h2⟩ := wipeE_some h
    obtain ⟨v, h3, h4⟩ := I.val i d h1
    exact ⟨v, by rw [L2.wipe_out h2]; exact h3, h4⟩
  nod := I.nod
  dis := I.dis
  sub := I.sub
  ext := I.ext
/-- a slot that is shared is stored -/
theorem SI.set (I : SI K ex L ρ σ H fp) {i : Nat} {d : D} {v : V} (r : R K ex H d v) (hL : L.getD i 0 = 0) : ∃ fp', SI K ex L (ρ.set i (some d)) (σ.set i (some v)) H fp' ∧ (∀ j a, a ∈ fp' j → a ∈ fp j) := by
  refine ⟨fun j => if j = i then [] else fp j, ⟨?_, fun j d' h => ?_, fun j => ?_, fun j k a h1 h2 => ?_, fun j a h => ?_, I.ext⟩, fun j a h => ?_⟩
  · rw [List.length_set, List.length_set]
    exact I.len
  · by_cases e : i = j
    · subst e
      by_cases hl : i < ρ.length
      · rw [List.getElem?_set_self hl] at h
        cases h
        refine ⟨v, List.getElem?_set_self (by rw [← I.len]; exact hl), ?_⟩
        rw [hL, if_pos rfl]
        exact ⟨rfl, r⟩
      · rw [List.getElem?_eq_none (by rw [List.length_set]; omega)] at h
        cases h
    · rw [List.getElem?_set_ne e] at h
      obtain ⟨u, h1, h2⟩ := I.val j d' h
      refine ⟨u, by rw [List.getElem?_set_ne e]; exact h1, ?_⟩
      show RO K ex H _ d' u (if j = i then [] else fp j)
      rw [if_neg (fun q => e q.symm)]
      exact h2
  · show (if j = i then [] else fp j).Nodup
    split
    · exact List.nodup_nil
    · exact I.nod j
  · have h1 : a ∈ (if j = i then [] else fp j) := h1
    have h2 : a ∈ (if k = i then [] else fp k) := h2
    split at h1
    · cases h1
    · split at h2
      · cases h2
      · exact I.dis j k a h1 h2
  · have h : a ∈ (if j = i then [] else fp j) := h
    split at h
    · cases h
    · exact I.sub j a h
  · have h : a ∈ (if j = i then [] else fp j) := h
    split at h
    · cases h
    · exact h
theorem SI.sets : ∀ (l : Sets) {ρ : Env} {σ : L2.St} {fp : Nat → List Addr}, SI K ex L ρ σ H fp → (∀ t ∈ l, R K ex H t.2.1 t.2.2 ∧ L.getD t.1 0 = 0) → ∃ fp', SI K ex L (setE ρ l) (setS σ l) H fp' ∧ (∀ j a, a ∈ fp' j → a ∈ fp j)
  | [], _, _, fp, I, _ => ⟨fp, I, fun _ _ h => h⟩
  | t :: l, _, _, _, I, h => by
    obtain ⟨fp1, I1, m1⟩ := I.set (h t List.mem_cons_self).1 (h t List.mem_cons_self).2
    obtain ⟨fp2, I2, m2⟩ := SI.sets l I1 fun u hu => h u (List.mem_cons_of_mem _ hu)
    exact ⟨fp2, I2, fun j a q => m1 j a (m2 j a q)⟩
/-- more is owned (by others), all of it new to H -/
theorem SI.more (I : SI K ex L ρ σ H fp) (e : Same H H') (h1 : ∀ a, ex' a → ex a ∨ H a = none) (h2 : ∀ a, ex a → ex' a) (h3 : ∀ a, ex' a → H' a ≠ none) : SI K ex' L ρ σ H' fp where
  len := I.len
  val := fun i d h => by
    obtain ⟨v, q1, q2⟩ := I.val i d h
    exact ⟨v, q1, RO.keep (Keep.same e) h1 (fun a _ o q => e a o q) q2⟩
  nod := I.nod
  dis := I.dis
  sub := fun i a h => h2 a (I.sub i a h)
  ext := h3
end
end Px

namespace Px
open PySem PySem.Spec PyProof.Rows L2

/-! ### list comprehensions -/
def noX {α : Type} : Res α → Res α
  | .ok a => .ok a
  | _ => .err
theorem noX_ok {α : Type} {r : Res α} {a : α} (h : noX r = .ok a) : r = .ok a := by
  cases r with
  | ok b => exact h
  | exc c => cases h
  | err => cases h
@[simp] theorem noX_is {α : Type} (a : α) : noX (.ok a) = .ok a := id rfl
def lcE (gf : Env → D → Res Env) (tt : Env → Res Bool) (f : EF) (ρ : Env) : List D → Res (List D)
  | [] => .ok []
  | d :: ds => noX (gf ρ d) >>= fun ρ1 => noX (tt ρ1) >>= fun b => if b = true then noX (f ρ1) >>= fun y => lcE gf tt f ρ ds >>= fun ys => .ok (y :: ys) else lcE gf tt f ρ ds
theorem lcE_nx {gf : Env → D → Res Env} {tt : Env → Res Bool} {f : EF} {ρ : Env} : ∀ (ds : List D) (c : Str), lcE gf tt f ρ ds ≠ .exc c
  | [], c, h => by cases h
  | d :: ds, c, h => by
    rw [lcE] at h
    cases h1 : noX (gf ρ d) with
    | ok ρ1 =>
      rw [h1, Res.bind_ok] at h
      cases h2 : noX (tt ρ1) with
      | ok b =>
        rw [h2, Res.bind_ok] at h
        split at h
        · cases h3 : noX (f ρ1) with
          | ok y =>
            rw [h3, Res.bind_ok] at h
            cases h4 : lcE gf tt f ρ ds with
            | ok ys =>
              rw [h4] at h
              cases h
            | exc c2 => exact lcE_nx ds c2 h4
            | err =>
              rw [h4] at h
              cases h
          | exc c2 =>
            cases q : f ρ1 <;> rw [q] at h3 <;> cases h3
          | err =>
            rw [h3] at h
            cases h
        · exact lcE_nx ds c h
      | exc c2 =>
        cases q : tt ρ1 <;> rw [q] at h2 <;> cases h2
      | err =>
        rw [h2] at h
        cases h
    | exc c2 =>
      cases q : gf ρ d <;> rw [q] at h1 <;> cases h1
    | err =>
      rw [h1] at h
      cases h
def eLc (fI : Env → Res (List D)) (own : List Nat) (gf : Env → D → Res Env) (tt : Env → Res Bool) (f : EF) : EF := fun ρ => fI ρ >>= fun ds => lcE gf tt f (wipeE ρ own) ds >>= fun ys => .ok (.lst ys)
abbrev W0 : WX := fun _ _ _ _ => False
theorem P3.app {α β γ : Type} {F : α → β → γ → Prop} : ∀ {as as2 : List α} {bs bs2 : List β} {cs cs2 : List γ}, P3 F as bs cs → P3 F as2 bs2 cs2 → P3 F (as ++ as2) (bs ++ bs2) (cs ++ cs2)
  | _, _, _, _, _, _, .nil, h => h
  | _, _, _, _, _, _, .cons x t, h => .cons x (P3.app t h)
theorem P3.length {α β γ : Type} {F : α → β → γ → Prop} : ∀ {as : List α} {bs : List β} {cs : List γ}, P3 F as bs cs → as.length = bs.length
  | _, _, _, .nil => rfl
  | _, _, _, .cons x t => by rw [List.length_cons, List.length_cons, P3.length t]
theorem wipe_set {σ : L2.St} : ∀ {vs : List Nat} {i : Nat} {x : Option V}, i ∈ vs → wipe (σ.set i x) vs = wipe σ vs
  | v :: vs, i, x, h => by
    rw [wipe, wipe]
    by_cases hi : i ∈ vs
    · rw [wipe_set hi]
    · have e : v = i := by
        rcases List.mem_cons.mp h with q | q
        · exact q.symm
        · exact absurd q hi
      subst e
      have : ∀ {vs : List Nat}, v ∉ vs → wipe (σ.set v x) vs = (wipe σ vs).set v x := by
        intro vs
        induction vs with
        | nil => intro _; rfl
        | cons u us ih =>
          intro h
          have h1 : v ≠ u := fun q => h (by rw [q]; exact List.mem_cons_self)
          rw [wipe, wipe, ih (fun q => h (List.mem_cons_of_mem _ q)), List.set_comm _ _ h1]
      rw [this hi, List.set_set]
theorem wipe_idem {σ : L2.St} : ∀ vs : List Nat, wipe (wipe σ vs) vs = wipe σ vs := by
  have key : ∀ (us vs : List Nat), (∀ u ∈ us, u ∈ vs) → ∀ σ : L2.St, wipe (wipe σ us) vs = wipe σ vs := by
    intro us
    induction us with
    | nil => intro vs _ σ; rfl
    | cons u us ih =>
      intro vs h σ
      rw [wipe, wipe_set (h u List.mem_cons_self), ih vs fun x hx => h x (List.mem_cons_of_mem _ hx)]
  exact fun vs => key vs vs (fun _ h => h) σ
theorem wipe_sets {vs : List Nat} : ∀ (l : Sets) {σ : L2.St}, (∀ t ∈ l, t.1 ∈ vs) → wipe (setS σ l) vs = wipe σ vs
  | [], _, _ => rfl
  | t :: l, σ, h => by
    have : setS σ (t :: l) = setS (σ.set t.1 (some t.2.2)) l := rfl
    rw [this, wipe_sets l fun u hu => h u (List.mem_cons_of_mem _ hu), wipe_set (h t List.mem_cons_self)]
section
variable {K : PySem.W.Frag} {ex ex' : AS} {H H' : Hp}
theorem RB.more (e : Same H H') (m : ∀ a, ex' a → ex a ∨ H a = none) : ∀ {n : Nat} {d : Px.D} {v : V}, RB K ex H n d v → RB K ex' H' n d v
  | 0, d, _, h => R.keep (Keep.same e) m d h
  | n + 1, d, v, h => by
    cases c : isC d with
    | true =>
      obtain ⟨a, xs, q, h1, h2⟩ := (RB.cn c).mp h
      exact (RB.cn c).mpr ⟨a, xs, q, Same.cnR e h1, h2.mono fun _ _ q => RB.more e m q⟩
    | false => exact (RB.nc c).mpr (R.keep (Keep.same e) m _ ((RB.nc c).mp h))
theorem P3.there {k : Nat} {a : Addr} : ∀ {ys : List Px.D} {vs : List V} {gps : List (List Addr)}, P3 (RO K ex H k) ys vs gps → a ∈ gps.flatten → H a ≠ none
  | _, _, _, .nil, h => by simp at h
  | _, _, _, .cons r t, h => by
    rw [List.flatten_cons] at h
    rcases List.mem_append.mp h with h | h
    · exact RO.there r a h
    · exact P3.there t h
theorem P3.keep {k : Nat} (kp : Keep ex H H') (m : ∀ a, ex' a → ex a ∨ H a = none) : ∀ {ys : List Px.D} {vs : List V} {gps : List (List Addr)}, (∀ a ∈ gps.flatten, ∀ o, H a = some o → H' a = some o) → P3 (RO K ex H k) ys vs gps → P3 (RO K ex' H' k) ys vs gps
  | _, _, _, _, .nil => .nil
  | _, _, _, h, .cons r t => by
    rw [List.flatten_cons] at h
    exact .cons (RO.keep kp m (fun a ha => h a (List.mem_append_left _ ha)) r) (P3.keep kp m (fun a ha => h a (List.mem_append_right _ ha)) t)
end
section
variable {X : Cx} {W : WX} {L : List Nat} {k : Nat} {fI : Env → Res (List D)} {own : List Nat} {gf : Env → D → Res Env} {ft : Env → Res Bool} {f : EF} {g : TG} {is : List Nat}
theorem HR.more {K : PySem.W.Frag} {ex ex' : AS} {H H' : Hp} (e : Same H H') (m : ∀ a, ex' a → ex a ∨ H a = none) {n : Nat} {g : (Px.D × V) × (Px.D × V)} (h : HR K ex H n g) : HR K ex' H' n g := ⟨RB.more e m h.1, RB.more e m h.2⟩
/-- what a list comprehension asks follows from its meaning -/
theorem lc_imp (gs : GSem X.K g gf is) (hs : ∀ i ∈ is, i ∈ own) (hL : ∀ i ∈ is, L.getD i 0 = 0) {σ : L2.St} {H : Hp} {Q : VK} (h : tO X W L (k + 1) (eLc fI own gf ft f) σ H Q) : tLc (tI X W L 1 fI) g (tT X W0 L ft) (tO X W0 L k f) own σ H Q := by
  obtain ⟨ex, ρ, fp, I, o⟩ := h
  refine ⟨ex, ρ, fp, I, o.bind.mono fun ds q J H1 gh e1 rg itn D hD => ?_⟩
  obtain ⟨all, hall, q⟩ := no_exc q.bind (lcE_nx ds)
  have hDH : H D = none := e1.free hD
  refine ⟨fun i m Hi => i + m = ds.length ∧ Same H1 Hi ∧ ∃ (vs : List V) (fps : List (List Addr)) (ys rest : List Px.D), Hi D = some (.lst vs) ∧ P3 (RO X.K (fun a => a ∈ fps.flatten ∨ a = D ∨ ex a) Hi k) ys vs fps ∧ fps.flatten.Nodup ∧
    (∀ a ∈ fps.flatten, H1 a = none ∧ a ≠ D) ∧ ys.length ≤ i ∧ all = ys ++ rest ∧ lcE gf ft f (wipeE ρ own) (ds.drop i) = .ok rest, ⟨ds.length, by omega, same_upd hD, [], [], [], all, upd_same, .nil, List.nodup_nil, ⟨fun a ha => (by simp at ha), Nat.zero_le _, rfl, hall⟩⟩, fun i m Hi hW => ?_⟩
  obtain ⟨em, e2, vs, fps, ys, rest, hDi, hP, nod, fr, hlen, eall, erest⟩ := hW
  by_cases hi : i < ds.length
  · refine .inr ⟨itn.go ex Hi i ⟨rg.1.same e2, rg.2.same e2⟩ hi, fun H' => ∃ m', m' < m ∧ (i + 1 + m' = ds.length ∧ Same H1 H' ∧ ∃ (vs : List V) (fps : List (List Addr)) (ys rest : List Px.D), H' D = some (.lst vs) ∧ P3 (RO X.K (fun a => a ∈ fps.flatten ∨ a = D ∨ ex a) H' k) ys vs fps ∧ fps.flatten.Nodup ∧
      (∀ a ∈ fps.flatten, H1 a = none ∧ a ≠ D) ∧ ys.length ≤ i + 1 ∧ all = ys ++ rest ∧ lcE gf ft f (wipeE ρ own) (ds.drop (i + 1)) = .ok rest), fun H' h => h, fun x H' hy => ?_⟩
    obtain ⟨d, hd⟩ : ∃ d, ds[i]? = some d := ⟨_, List.getElem?_eq_getElem hi⟩
    obtain ⟨e3, rx⟩ := itn.item (fun a => a ∈ fps.flatten ∨ a = D ∨ ex a) Hi i d x H' (HR.more e2 (fun a h => by
      rcases h with h | h | h
      · exact .inr (fr a h).1
      · rw [h]
        exact .inr hD
      · exact .inl h) rg) hd hy
    have ed : ds.drop i = d :: ds.drop (i + 1) := by
      rw [List.drop_eq_getElem_cons hi]
      congr 1
      rw [List.getElem?_eq_getElem hi] at hd
      exact Option.some.inj hd
    rw [ed, lcE] at erest
    cases hg : noX (gf (wipeE ρ own) d) with
    | exc c => rw [hg] at erest; cases erest
    | err => rw [hg] at erest; cases erest
    | ok ρ1 =>
      rw [hg, Res.bind_ok] at erest
      have esame : Same H H' := (e1.trans e2).trans e3
      -- what is owned while the element is reckoned
      have hDex : ∀ a, (a ∈ fps.flatten ∨ a = D ∨ ex a) → ex a ∨ H a = none := fun a h => by
        rcases h with h | h | h
        · exact .inr (e1.free (fr a h).1)
        · rw [h]
          exact .inr hDH
        · exact .inl h
      have hthere : ∀ a, (a ∈ fps.flatten ∨ a = D ∨ ex a) → H' a ≠ none := fun a h q => by
        rcases h with h | h | h
        · exact P3.there hP h (e3.free q)
        · rw [h] at q
          have := e3 D _ hDi
          rw [q] at this
          cases this
        · exact I.ext a h (esame.free q)
      have I' : SI X.K (fun a => a ∈ fps.flatten ∨ a = D ∨ ex a) L (wipeE ρ own) (wipe σ own) H' fp := (I.wipe own).more esame hDex (fun a h => .inr (.inr h)) hthere
      refine gs (fun a => a ∈ fps.flatten ∨ a = D ∨ ex a) x (wipe σ own) H' _ d (wipeE ρ own) ρ1 rx (noX_ok hg) fun l hl e4 => ?_
      obtain ⟨fp1, I1, _⟩ := SI.sets l I' fun t ht => ⟨(hl t ht).1, hL _ (hl t ht).2⟩
      rw [← e4] at I1
      refine ⟨by rw [wipe_sets l fun t ht => hs _ (hl t ht).2, wipe_idem], ?_⟩
      cases ht : noX (ft ρ1) with
      | exc c => rw [ht] at erest; cases erest
      | err => rw [ht] at erest; cases erest
      | ok b =>
        rw [ht, Res.bind_ok] at erest
        refine ⟨_, ρ1, fp1, I1, ?_⟩
        rw [noX_ok ht]
        intro H3 e5
        cases b with
        | false =>
          rw [if_neg Bool.false_ne_true] at erest ⊢
          refine ⟨m - 1, by omega, by omega, (e2.trans e3).trans e5, vs, fps, ys, rest, e5 _ _ (e3 _ _ hDi), ?_, nod, fr, by omega, eall, erest⟩
          exact P3.keep (Keep.same (e3.trans e5)) (fun a h => .inl h) (fun a _ o q => (e3.trans e5) a o q) hP
        | true =>
          rw [if_pos rfl] at erest ⊢
          cases hf : noX (f ρ1) with
          | exc c => rw [hf] at erest; cases erest
          | err => rw [hf] at erest; cases erest
          | ok y =>
            rw [hf, Res.bind_ok] at erest
            refine ⟨_, ρ1, fp1, I1.same e5, ?_⟩
            rw [noX_ok hf]
            intro v H4 fq e6 ro nd nw
            have hD4 : H4 D = some (.lst vs) := e6 _ _ (e5 _ _ (e3 _ _ hDi))
            have hvl : ys.length = vs.length := P3.length hP
            have hsz : vs.length < sizeLine := by
              have := itn.len
              omega
            refine ⟨vs, hD4, hsz, ?_⟩
            cases hr : lcE gf ft f (wipeE ρ own) (ds.drop (i + 1)) with
            | exc c => rw [hr] at erest; cases erest
            | err => rw [hr] at erest; cases erest
            | ok rest' =>
              rw [hr, Res.bind_ok] at erest
              have er : rest = y :: rest' := by cases erest; rfl
              have e36 : Same Hi H4 := (e3.trans e5).trans e6
              have fqD : ∀ a ∈ fq, a ≠ D := fun a ha q => by
                have h1 := nw a ha
                rw [q] at h1
                have h2 := e5 _ _ (e3 _ _ hDi)
                rw [h1] at h2
                cases h2
              have fqI : ∀ a ∈ fq, Hi a = none := fun a ha => (e3.trans e5).free (nw a ha)
              have kp : Keep (fun a => a ∈ fps.flatten ∨ a = D ∨ ex a) Hi (upd H4 D (.lst (vs ++ [v]))) := by
                exact Keep.upd e36 hDi (fun _ q => nomatch q) (.inr (.inl rfl))
              have kp2 : Keep (fun a => a ∈ fq ∨ (a ∈ fps.flatten ∨ a = D ∨ ex a)) H4 (upd H4 D (.lst (vs ++ [v]))) := by
                exact Keep.upd (Same.refl _) hD4 (fun _ q => nomatch q) (.inr (.inr (.inl rfl)))
              have mem : ∀ a, a ∈ (fps ++ [fq]).flatten ↔ a ∈ fps.flatten ∨ a ∈ fq := fun a => by
                rw [List.flatten_append, List.mem_append]
                simp
              refine ⟨m - 1, by omega, by omega, fun b o h => ?_, vs ++ [v], fps ++ [fq], ys ++ [y], rest', upd_same, P3.app ?_ (.cons ?_ .nil), ?_, fun a ha => ?_, by rw [List.length_append]; simp; omega, by rw [eall, er, List.append_assoc]; rfl, rfl⟩
              · have hb : b ≠ D := fun q => by
                  rw [q, hD] at h
                  cases h
                rw [upd_ne hb]
                exact e36 _ _ (e2 _ _ h)
              · refine P3.keep kp (fun a h => ?_) (fun a ha o q => ?_) hP
                · rcases h with h | h
                  · rcases (mem a).mp h with h | h
                    · exact .inl (.inl h)
                    · exact .inr (fqI a h)
                  · exact .inl (.inr h)
                · rw [upd_ne (fr a ha).2]
                  exact e36 _ _ q
              · refine RO.keep kp2 (fun a h => ?_) (fun a ha o q => ?_) ro
                · rcases h with h | h
                  · rcases (mem a).mp h with h | h
                    · exact .inl (.inr (.inl h))
                    · exact .inl (.inl h)
                  · exact .inl (.inr (.inr h))
                · rw [upd_ne (fqD a ha)]
                  exact q
              · rw [List.flatten_append]
                refine List.nodup_append.mpr ⟨nod, by simpa using nd, fun a ha b hb q => ?_⟩
                have hb : b ∈ fq := by simpa using hb
                rw [← q] at hb
                exact P3.there hP ha (fqI a hb)
              · rcases (mem a).mp ha with ha | ha
                · exact fr a ha
                · exact ⟨e2.free (fqI a ha), fqD a ha⟩
  · have ei : i = ds.length := by omega
    rw [ei, List.drop_length, lcE] at erest
    have er : rest = [] := by cases erest; rfl
    rw [er, List.append_nil] at eall
    have hm : m = 0 := by omega
    refine .inl ⟨by rw [ei]; exact itn.stop ex Hi ⟨rg.1.same e2, rg.2.same e2⟩, ?_⟩
    have hvl : ys.length = vs.length := P3.length hP
    have hln := itn.len
    refine q (.ref D) Hi (D :: fps.flatten) (e1.trans e2) ?_ (List.nodup_cons.mpr ⟨fun h => (fr D h).2 rfl, nod⟩) fun a ha => ?_
    · rw [eall]
      refine (RO.cn rfl).mpr ⟨D, vs, fps, _, rfl, ⟨⟨rfl, by omega⟩, hDi⟩, rfl, P3.keep (Keep.same (Same.refl Hi)) (fun a h => .inl ?_) (fun _ _ _ h => h) hP⟩
      rcases h with h | h
      · rcases List.mem_cons.mp h with h | h
        · exact .inr (.inl h)
        · exact .inl h
      · exact .inr (.inr h)
    · rcases List.mem_cons.mp ha with h | h
      · rw [h]
        exact hDH
      · exact e1.free (fr a h).1
end
end Px

namespace Px
open PySem PySem.Spec PyProof.Rows L2

section
variable {X : Cx} {W : WX} {L : List Nat} {k : Nat} {fI : Env → Res (List D)} {gf : Env → D → Res Env} {ft : Env → Res Bool} {f : EF} {g : TG} {is : List Nat} {elt tg iter c : Expr} {ifs : List Expr} {scope : Scope} {own : List (Str × Nat)} {pos : Pos}
abbrev ETs (X : Cx) (W : WX) (L : List Nat) (ifs : List Expr) (f : Env → Res Bool) : Prop := PTs X ifs (tT X W L f)
def bYes : Env → Res Bool := fun _ => .ok true
theorem PTs.imp {X : Cx} {ifs : List Expr} {t t' : TT} (h : PTs X ifs t) (m : ∀ σ H Q, t' σ H Q → t σ H Q) : PTs X ifs t' := ⟨fun pins s σ H Q I q => h.run pins s σ H Q I (m σ H Q q)⟩
theorem ets_nil : ETs X W L [] bYes := PTs.imp pts_nil fun σ H Q ⟨ex, ρ, fp, I, o⟩ => o H (Same.refl H)
theorem ets_one (h : ET X W L c ft) : ETs X W L [c] ft := pts_one h
theorem eo_lc (hc : X.calm = true) (hN : X.N.Nodup) (hi : EI X W L 1 tg iter fI) (ok : BlkOk X.N X.env.scope scope own)
    (hg : ∀ (s : Shared) (H : Hp) (C : Addr) (cl : List (Str × Addr)) (fp : List Addr), PG (X.blk s H scope (compEnvC scope cl C X.env) fp) tg g)
    (ht : ∀ (s : Shared) (H : Hp) (C : Addr) (cl : List (Str × Addr)) (fp : List Addr), ETs (X.blk s H scope (compEnvC scope cl C X.env) fp) W0 L ifs ft)
    (he : ∀ (s : Shared) (H : Hp) (C : Addr) (cl : List (Str × Addr)) (fp : List Addr), EO (X.blk s H scope (compEnvC scope cl C X.env) fp) W0 L k elt f)
    (gs : GSem X.K g gf is) (hs : ∀ i ∈ is, i ∈ own.map (·.2)) (hL : ∀ i ∈ is, L.getD i 0 = 0) (hfs : ∀ x, foldedSetIterable iter X.env x = pure x := by intro _; rfl) :
    EO X W L (k + 1) (.ListComp elt [⟨tg, iter, ifs, 0⟩] scope pos) (eLc fI (own.map (·.2)) gf ft f) :=
  PE.imp (pe_lc hc hN hi ok hg ht he hfs) fun σ H Q h => lc_imp gs hs hL h
end

/-! ### a def's names -/
section
variable {K : PySem.W.Frag} {H0 H H1 H2 : Hp} {mb : Bool} {ex0 : CS mb} {G : List (D × V)} {L : List Nat} {ρ : Env} {σ : L2.St} {fp : Nat → List Addr}
abbrev exOf {mb : Bool} (fp : Nat → List Addr) (ex0 : CS mb) : AS := fun a => (∃ i, a ∈ fp i) ∨ ex0 a
/-- the object whose method it is stays in its slot -/
theorem h0_of {kr : RM} {i : Nat} (ex0 : CS kr.b) (h : kr.b = false ∨ i ≠ 0) : ex0.sv = none ∨ i ≠ 0 := by
  rcases h with h | h
  · exact .inl (ex0.hb h)
  · exact .inr h
theorem h0_all {kr : RM} {is : List Nat} (ex0 : CS kr.b) (h : kr.b = false ∨ ∀ i ∈ is, i ≠ 0) : ∀ i ∈ is, ex0.sv = none ∨ i ≠ 0 := by
  rcases h with h | h
  · exact fun _ _ => .inl (ex0.hb h)
  · exact fun i hi => .inr (h i hi)
theorem SS.up (S : SS K H0 ex0 G L ρ σ H fp) (e : Same H H1) : SS K H0 ex0 G L ρ σ H1 fp := ⟨S.si.same e, S.own, S.old, S.same.trans (Keep.same e), S.slf, fun g hg => (S.held g hg).same e⟩
theorem SS.tail {g : D × V} (S : SS K H0 ex0 (g :: G) L ρ σ H fp) : SS K H0 ex0 G L ρ σ H fp := ⟨S.si, S.own, S.old, S.same, S.slf, fun g hg => S.held g (List.mem_cons_of_mem _ hg)⟩
theorem SS.hold {g : D × V} (S : SS K H0 ex0 G L ρ σ H fp) (r : R K (exOf fp ex0) H g.1 g.2) : SS K H0 ex0 (g :: G) L ρ σ H fp := ⟨S.si, S.own, S.old, S.same, S.slf, fun h hg => by
  rcases List.mem_cons.mp hg with rfl | hg
  · exact r
  · exact S.held h hg⟩
theorem SS.ex_ne (S : SS K H0 ex0 G L ρ σ H fp) {i : Nat} {a : Addr} (h : a ∈ fp i) : ¬ ex0 a := fun q => by
  rcases S.own i a h with z | z
  · exact (S.old a q).1 z
  · exact (S.old a q).2 z
theorem SS.own2 (S : SS K H0 ex0 G L ρ σ H fp) {a : Addr} (h : H a = none) : H0 a = none ∨ ex0.io a := .inl (S.same.free h)
/-- another division of what is owned; nothing in the heap changes -/
theorem SS.re (S : SS K H0 ex0 G L ρ σ H fp) {L' : List Nat} {ρ' : Env} {σ' : L2.St} {fp' : Nat → List Addr} (e : Same H H1) (len : ρ'.length = σ'.length)
    (val : ∀ i d, ρ'[i]? = some (some d) → ∃ v, σ'[i]? = some (some v) ∧ RO K (exOf fp' ex0) H1 (L'.getD i 0) d v (fp' i)) (nod : ∀ i, (fp' i).Nodup) (dis : ∀ i j a, a ∈ fp' i → a ∈ fp' j → i = j)
    (new : ∀ i a, a ∈ fp' i → a ∈ fp i ∨ H a = none) (there : ∀ i a, a ∈ fp' i → H1 a ≠ none) (slf : ∀ v, ex0.sv = some v → σ'[0]? = some (some v)) : SS K H0 ex0 G L' ρ' σ' H1 fp' where
  si := ⟨len, val, nod, dis, fun i a h => .inl ⟨i, h⟩, fun a h q => by
    rcases h with ⟨i, h⟩ | h
    · exact there i a h q
    · exact S.si.ext a (.inr h) (e.free q)⟩
  own := fun i a h => by
    rcases new i a h with q | q
    · exact S.own i a q
    · exact S.own2 q
  old := S.old
  same := S.same.trans (Keep.same e)
  slf := slf
  held := fun g hg => R.keep (Keep.same e) (fun a h => by
    rcases h with ⟨i, h⟩ | h
    · rcases new i a h with q | q
      · exact .inl (.inl ⟨i, q⟩)
      · exact .inr q
    · exact .inl (.inr h)) _ (S.held g hg)
theorem getD_set_eq {L : List Nat} {i k : Nat} (h : i < L.length) : (L.set i k).getD i 0 = k := by
  rw [List.getD_eq_getElem?_getD, List.getElem?_set_self h]
  rfl
theorem getD_set_ne {L : List Nat} {i j k : Nat} (h : i ≠ j) : (L.set i k).getD j 0 = L.getD j 0 := by
  rw [List.getD_eq_getElem?_getD, List.getElem?_set_ne h, List.getD_eq_getElem?_getD]
theorem slf_set (S : SS K H0 ex0 G L ρ σ H fp) {i : Nat} {u : Option V} (h0 : ex0.sv = none ∨ i ≠ 0) : ∀ v, ex0.sv = some v → (σ.set i u)[0]? = some (some v) := fun v e => by
  rcases h0 with h | h
  · rw [h] at e
    cases e
  · rw [List.getElem?_set_ne h]
    exact S.slf v e
/-- a value, new or shared, is stored -/
theorem SS.put (S : SS K H0 ex0 G L ρ σ H fp) (e : Same H H1) {i k : Nat} {d : D} {v : V} {fq : List Addr} (r : RO K (fun a => a ∈ fq ∨ exOf fp ex0 a) H1 k d v fq) (nd : fq.Nodup) (nw : ∀ a ∈ fq, H a = none) (hi : i < L.length) (h0 : ex0.sv = none ∨ i ≠ 0) :
    ∃ fp', SS K H0 ex0 G (L.set i k) (ρ.set i (some d)) (σ.set i (some v)) H1 fp' := by
  have nd2 : ∀ j a, a ∈ fq → a ∈ fp j → False := fun j a h1 h2 => S.si.ext a (.inl ⟨j, h2⟩) (nw a h1)
  refine ⟨fun j => if j = i then fq else fp j, S.re e ?_ (fun j d' h => ?_) (fun j => ?_) (fun j l a h1 h2 => ?_) (fun j a h => ?_) (fun j a h => ?_) (slf_set S h0)⟩
  · rw [List.length_set, List.length_set]
    exact S.si.len
  · by_cases ej : i = j
    · subst ej
      by_cases hl : i < ρ.length
      · rw [List.getElem?_set_self hl] at h
        cases h
        refine ⟨v, List.getElem?_set_self (by rw [← S.si.len]; exact hl), ?_⟩
        rw [getD_set_eq hi, if_pos rfl]
        refine r.less fun a h => .inl ?_
        rcases h with ⟨l, h⟩ | h
        · have h : a ∈ (if l = i then fq else fp l) := h
          split at h
          · exact .inl h
          · exact .inr (.inl ⟨l, h⟩)
        · exact .inr (.inr h)
      · rw [List.getElem?_eq_none (by rw [List.length_set]; omega)] at h
        cases h
    · rw [List.getElem?_set_ne ej] at h
      obtain ⟨u, h1, h2⟩ := S.si.val j d' h
      refine ⟨u, by rw [List.getElem?_set_ne ej]; exact h1, ?_⟩
      rw [getD_set_ne ej]
      show RO K _ H1 _ d' u (if j = i then fq else fp j)
      rw [if_neg (fun q => ej q.symm)]
      refine RO.keep (Keep.same e) (fun a h => ?_) (fun a _ o q => e a o q) h2
      rcases h with ⟨l, h⟩ | h
      · have h : a ∈ (if l = i then fq else fp l) := h
        split at h
        · exact .inr (nw a h)
        · exact .inl (.inl ⟨l, h⟩)
      · exact .inl (.inr h)
  · show (if j = i then fq else fp j).Nodup
    split
    · exact nd
    · exact S.si.nod j
  · have h1 : a ∈ (if j = i then fq else fp j) := h1
    have h2 : a ∈ (if l = i then fq else fp l) := h2
    split at h1
    · split at h2
      · rename_i a1 a2
        rw [a1, a2]
      · exact (nd2 _ _ h1 h2).elim
    · split at h2
      · exact (nd2 _ _ h2 h1).elim
      · exact S.si.dis j l a h1 h2
  · have h : a ∈ (if j = i then fq else fp j) := h
    split at h
    · exact .inr (nw a h)
    · exact .inl h
  · have h : a ∈ (if j = i then fq else fp j) := h
    split at h
    · exact r.there a h
    · exact fun q => S.si.ext a (.inl ⟨j, h⟩) (e.free q)
/-- what a slot owns is given up: others may know it from now on -/
theorem SS.drop (S : SS K H0 ex0 G L ρ σ H fp) (i : Nat) : ∃ fp', SS K H0 ex0 G (L.set i 0) ρ σ H fp' := by
  refine ⟨fun j => if j = i then [] else fp j, S.re (Same.refl H) S.si.len (fun j d' h => ?_) (fun j => ?_) (fun j l a h1 h2 => ?_) (fun j a h => ?_) (fun j a h => ?_) S.slf⟩
  · obtain ⟨u, h1, h2⟩ := S.si.val j d' h
    refine ⟨u, h1, ?_⟩
    have le : ∀ a, exOf (fun j => if j = i then [] else fp j) ex0 a → exOf fp ex0 a := fun a h => by
      rcases h with ⟨l, h⟩ | h
      · have h : a ∈ (if l = i then [] else fp l) := h
        split at h
        · cases h
        · exact .inl ⟨l, h⟩
      · exact .inr h
    by_cases ej : i = j
    · subst ej
      have e0 : (L.set i 0).getD i 0 = 0 := by
        by_cases hl : i < L.length
        · exact getD_set_eq hl
        · rw [List.getD_eq_getElem?_getD, List.getElem?_eq_none (by rw [List.length_set]; omega)]
          rfl
      rw [e0, if_pos rfl]
      refine ⟨rfl, h2.shared le fun a ha q => ?_⟩
      rcases q with ⟨l, q⟩ | q
      · have q : a ∈ (if l = i then [] else fp l) := q
        split at q
        · cases q
        · rename_i hl
          exact hl (S.si.dis l i a q ha)
      · exact S.ex_ne ha q
    · rw [getD_set_ne ej]
      show RO K _ H _ d' u (if j = i then [] else fp j)
      rw [if_neg (fun q => ej q.symm)]
      exact h2.less fun a h => .inl (le a h)
  · show (if j = i then [] else fp j).Nodup
    split
    · exact List.nodup_nil
    · exact S.si.nod j
  · have h1 : a ∈ (if j = i then [] else fp j) := h1
    have h2 : a ∈ (if l = i then [] else fp l) := h2
    split at h1
    · cases h1
    · split at h2
      · cases h2
      · exact S.si.dis j l a h1 h2
  · have h : a ∈ (if j = i then [] else fp j) := h
    split at h
    · cases h
    · exact .inl h
  · have h : a ∈ (if j = i then [] else fp j) := h
    split at h
    · cases h
    · exact S.si.ext a (.inl ⟨j, h⟩)
/-- all is given up -/
theorem SS.dropAll (S : SS K H0 ex0 G L ρ σ H fp) : SS K H0 ex0 G [] ρ σ H fun _ => [] := by
  refine S.re (Same.refl H) S.si.len (fun j d' h => ?_) (fun j => List.nodup_nil) (fun j l a h1 h2 => nomatch h1) (fun j a h => nomatch h) (fun j a h => nomatch h) S.slf
  obtain ⟨u, h1, h2⟩ := S.si.val j d' h
  refine ⟨u, h1, rfl, h2.shared (fun a h => ?_) fun a ha q => ?_⟩
  · rcases h with ⟨l, h⟩ | h
    · cases h
    · exact .inr h
  · rcases q with ⟨l, q⟩ | q
    · cases q
    · exact S.ex_ne ha q
theorem SS.kill (S : SS K H0 ex0 G L ρ σ H fp) (is : List Nat) : SS K H0 ex0 G L (wipeE ρ is) σ H fp :=
  ⟨⟨by rw [wipeE_length]; exact S.si.len, fun i d h => S.si.val i d (wipeE_some h).1, S.si.nod, S.si.dis, S.si.sub, S.si.ext⟩, S.own, S.old, S.same, S.slf, S.held⟩
theorem slf_sets : ∀ (l : Sets) {σ : L2.St}, (∀ v, ex0.sv = some v → σ[0]? = some (some v)) → (∀ t ∈ l, ex0.sv = none ∨ t.1 ≠ 0) → ∀ v, ex0.sv = some v → (setS σ l)[0]? = some (some v)
  | [], _, h, _ => h
  | t :: l, σ, h, h0 => by
    refine slf_sets l (σ := σ.set t.1 (some t.2.2)) (fun v e => ?_) (fun u hu => h0 u (List.mem_cons_of_mem _ hu))
    rcases h0 t List.mem_cons_self with z | z
    · rw [z] at e
      cases e
    · rw [List.getElem?_set_ne z]
      exact h v e
/-- shared values are stored in shared slots -/
theorem SS.sets (S : SS K H0 ex0 G L ρ σ H fp) (l : Sets) (h : ∀ t ∈ l, R K (exOf fp ex0) H t.2.1 t.2.2 ∧ L.getD t.1 0 = 0) (h0 : ∀ t ∈ l, ex0.sv = none ∨ t.1 ≠ 0) : ∃ fp', SS K H0 ex0 G L (setE ρ l) (setS σ l) H fp' := by
  obtain ⟨fp', I', m⟩ := SI.sets l S.si h
  refine ⟨fp', S.re (Same.refl H) I'.len (fun i d hd => ?_) I'.nod I'.dis (fun i a h => .inl (m i a h)) (fun i a h => I'.ext a (I'.sub i a h)) (slf_sets l S.slf h0)⟩
  obtain ⟨v, h1, h2⟩ := I'.val i d hd
  refine ⟨v, h1, h2.less fun a q => .inl ?_⟩
  rcases q with ⟨j, q⟩ | q
  · exact .inl ⟨j, m j a q⟩
  · exact .inr q
/-- what the slot i owns is changed -/
theorem SS.mut (S : SS K H0 ex0 G L ρ σ H fp) {i : Nat} {g : AS} (hg : ∀ b, g b → b ∈ fp i) (kp : Keep g H H2) {dN : D} {vN : V} {fqN : List Addr} (hσ : σ[i]? = some (some vN))
    (r : RO K (exOf (fun j => if j = i then fqN else fp j) ex0) H2 (L.getD i 0) dN vN fqN) (nd : fqN.Nodup) (nw : ∀ b ∈ fqN, b ∈ fp i ∨ H b = none) :
    SS K H0 ex0 G L (ρ.set i (some dN)) σ H2 fun j => if j = i then fqN else fp j := by
  have kp1 : Keep (exOf fp ex0) H H2 := kp.more fun b h => .inl ⟨i, hg b h⟩
  have le : ∀ b, exOf (fun j => if j = i then fqN else fp j) ex0 b → exOf fp ex0 b ∨ H b = none := fun b h => by
    rcases h with ⟨l, h⟩ | h
    · have h : b ∈ (if l = i then fqN else fp l) := h
      split at h
      · rcases nw b h with q | q
        · exact .inl (.inl ⟨i, q⟩)
        · exact .inr q
      · exact .inl (.inl ⟨l, h⟩)
    · exact .inl (.inr h)
  have nd2 : ∀ j b, j ≠ i → b ∈ fqN → b ∈ fp j → False := fun j b hj h1 h2 => by
    rcases nw b h1 with q | q
    · exact hj (S.si.dis j i b h2 q)
    · exact S.si.ext b (.inl ⟨j, h2⟩) q
  refine ⟨⟨by rw [List.length_set]; exact S.si.len, fun j d' h => ?_, fun j => ?_, fun j l b h1 h2 => ?_, fun j b h => .inl ⟨j, h⟩, fun b h q => ?_⟩, fun j b h => ?_, S.old, ?_, S.slf, fun g hg => R.keep kp1 le _ (S.held g hg)⟩
  · by_cases ej : i = j
    · subst ej
      by_cases hl : i < ρ.length
      · rw [List.getElem?_set_self hl] at h
        cases h
        refine ⟨_, hσ, ?_⟩
        rw [if_pos rfl]
        exact r
      · rw [List.getElem?_eq_none (by rw [List.length_set]; omega)] at h
        cases h
    · rw [List.getElem?_set_ne ej] at h
      obtain ⟨u, h1, h2⟩ := S.si.val j d' h
      refine ⟨u, h1, ?_⟩
      show RO K _ _ _ d' u (if j = i then fqN else fp j)
      rw [if_neg (fun q => ej q.symm)]
      refine RO.keep kp1 le (fun b hb o q => ?_) h2
      exact kp.obj b o (fun z => ej (S.si.dis i j b (hg b z) hb)) q
  · show (if j = i then fqN else fp j).Nodup
    split
    · exact nd
    · exact S.si.nod j
  · have h1 : b ∈ (if j = i then fqN else fp j) := h1
    have h2 : b ∈ (if l = i then fqN else fp l) := h2
    split at h1
    · split at h2
      · rename_i a1 a2
        rw [a1, a2]
      · rename_i hl
        exact (nd2 _ _ hl h1 h2).elim
    · split at h2
      · rename_i hj _
        exact (nd2 _ _ hj h2 h1).elim
      · exact S.si.dis j l b h1 h2
  · rcases h with ⟨l, h⟩ | h
    · have h : b ∈ (if l = i then fqN else fp l) := h
      split at h
      · exact r.there b h q
      · exact S.si.ext b (.inl ⟨l, h⟩) (kp.free q)
    · exact S.si.ext b (.inr h) (kp.free q)
  · have h : b ∈ (if j = i then fqN else fp j) := h
    split at h
    · rcases nw b h with q | q
      · exact S.own i b q
      · exact S.own2 q
    · exact S.own j b h
  · refine ⟨fun a xs h => kp.tup a xs (S.same.tup a xs h), fun a o n h => kp.obj a o (fun z => ?_) (S.same.obj a o n h), fun a h => kp.there a (S.same.there a h)⟩
    rcases S.own i a (hg a z) with q | q
    · rw [q] at h
      cases h
    · exact n q
/-- the object at a, owned by the slot i, is changed -/
theorem SS.upd (S : SS K H0 ex0 G L ρ σ H fp) (e : Same H H1) {i : Nat} {a : Addr} {o o' : HO} {dN : D} {vN : V} {fqN : List Addr} (hσ : σ[i]? = some (some vN)) (ha : a ∈ fp i) (hH : H a = some o) (nt : ∀ ys, o ≠ .tup ys)
    (r : RO K (exOf (fun j => if j = i then fqN else fp j) ex0) (L2.upd H1 a o') (L.getD i 0) dN vN fqN) (nd : fqN.Nodup) (nw : ∀ b ∈ fqN, b ∈ fp i ∨ H b = none) :
    SS K H0 ex0 G L (ρ.set i (some dN)) σ (L2.upd H1 a o') fun j => if j = i then fqN else fp j :=
  S.mut (g := fun b => b = a) (fun b h => by rw [h]; exact ha) (Keep.upd e hH nt rfl) hσ r nd nw
end
end Px

namespace Px
open PySem PySem.Spec PyProof.Rows L2

/-! ### statements -/
/-- an outcome's wish -/
def FOut (X : Cx) (W : WX) (kr : RM) (Lb L' : List Nat) (ex0 : CS kr.b) (G : List (D × V)) (Dn : Ends) (r : Flow) : Prop := match r with
  | .next ρ' => ∀ σ' H' fp', SS X.K X.H_0 ex0 G L' ρ' σ' H' fp' → Dn.nx σ' H'
  | .brk ρ' => ∀ σ' H' fp', SS X.K X.H_0 ex0 G Lb ρ' σ' H' fp' → Dn.bk σ' H'
  | .cont ρ' => ∀ σ' H' fp', SS X.K X.H_0 ex0 G Lb ρ' σ' H' fp' → Dn.ct σ' H'
  | .ret d => match kr with
    | .r kr => ∀ v H' fq, Keep ex0.io X.H_0 H' → RO X.K (fun a => a ∈ fq ∨ ex0 a) H' kr d v fq → fq.Nodup → (∀ a ∈ fq, X.H_0 a = none) → Dn.rt v H'
    | .m kr km => ∃ d1 s1, d = .tup [d1, s1] ∧ ∀ v u H' fq fs, ex0.sv = some u → Keep ex0.io X.H_0 H' → RO X.K (fun a => a ∈ fq ∨ a ∈ fs ∨ ex0 a) H' kr d1 v fq → RO X.K (fun a => a ∈ fq ∨ a ∈ fs ∨ ex0 a) H' km s1 u fs → fq.Nodup → fs.Nodup → (∀ a ∈ fq, X.H_0 a = none ∧ a ∉ fs) → (∀ a ∈ fs, X.H_0 a = none ∨ ex0.io a) → Dn.rt v H'
  | .exc c ρ' => ∀ C, X.mg c = some (.ref C) → ∀ σ' H' fp', SS X.K X.H_0 ex0 G [] ρ' σ' H' fp' → W (.ref C) none σ' H'
  | .err => False
def tS (X : Cx) (W : WX) (kr : RM) (Lb L L' : List Nat) (F : SF) : TS := fun Dn σ H => ∃ (ex0 : CS kr.b) (G : List (D × V)) (ρ : Px.Env) (fp : Nat → List Addr), SS X.K X.H_0 ex0 G L ρ σ H fp ∧ FOut X W kr Lb L' ex0 G Dn (F ρ)
abbrev SJ (X : Cx) (W : WX) (kr : RM) (Lb L L' : List Nat) (st : Stmt) (F : SF) : Prop := PS X st (tS X W kr Lb L L' F)
abbrev SJs (X : Cx) (W : WX) (kr : RM) (Lb L L' : List Nat) (st : List Stmt) (F : SF) : Prop := PSs X st (tS X W kr Lb L L' F)
def sNext : SF := fun ρ => .next ρ
def sSeq (F G : SF) : SF := fun ρ => match F ρ with
  | .next ρ' => G ρ'
  | r => r
/-- an expression's outcome, then a statement's -/
def Res.flow {α : Type} (r : Res α) (ρ : Env) (k : α → Flow) : Flow := match r with
  | .ok a => k a
  | .exc c => .exc c ρ
  | .err => .err
@[simp] theorem flow_ok {α : Type} (a : α) (ρ : Env) (k : α → Flow) : (Res.ok a).flow ρ k = k a := id rfl
@[simp] theorem flow_exc {α : Type} (c : Str) (ρ : Env) (k : α → Flow) : (Res.exc c : Res α).flow ρ k = .exc c ρ := id rfl
@[simp] theorem flow_err {α : Type} (ρ : Env) (k : α → Flow) : (Res.err : Res α).flow ρ k = .err := id rfl
section
variable {X : Cx} {W : WX} {kr : RM} {n m k : Nat} {Lb L L1 Lc : List Nat} {st : Stmt} {sts a b : List Stmt} {F G : SF} {e c : Expr} {f : EF} {ft : Env → Res Bool} {pos : Pos}
theorem FOut.nx {L' : List Nat} {ex0 : CS kr.b} {Gs : List (D × V)} {Dn : Ends} {nx : L2.St → Hp → Prop} {r : Flow} (h : FOut X W kr Lb L' ex0 Gs Dn r) (hn : ∀ ρ', r ≠ .next ρ') : FOut X W kr Lb L1 ex0 Gs { Dn with nx := nx } r := by
  cases r with
  | next ρ' => exact absurd rfl (hn ρ')
  | _ => exact h
/-- an expression ahead of the rest of a statement -/
theorem flow_out {α : Type} {r : Res α} {ρ : Env} {σ : L2.St} {H : Hp} {fp : Nat → List Addr} {L' : List Nat} {ex0 : CS kr.b} {Gs : List (D × V)} {Dn : Ends} {kk : α → Flow} (S : SS X.K X.H_0 ex0 Gs L ρ σ H fp) (h : FOut X W kr Lb L' ex0 Gs Dn (r.flow ρ kk)) :
    Out X W σ H r fun a => FOut X W kr Lb L' ex0 Gs Dn (kk a) := by
  cases r with
  | ok a => exact h
  | exc c => exact fun C hC H' e => h C hC σ H' _ (S.dropAll.up e)
  | err => exact h
theorem sjs_nil : SJs X W kr Lb L L [] sNext := PSs.imp pss_nil fun Dn σ H ⟨ex0, Gs, ρ, fp, S, o⟩ => o σ H fp S
theorem sjs_cons (h1 : SJ X W kr Lb L L1 st F) (h2 : SJs X W kr Lb L1 Lc sts G) : SJs X W kr Lb L Lc (st :: sts) (sSeq F G) := PSs.imp (pss_cons h1 h2) fun Dn σ H ⟨ex0, Gs, ρ, fp, S, o⟩ => by
  refine ⟨ex0, Gs, ρ, fp, S, ?_⟩
  unfold sSeq at o
  cases q : F ρ with
  | next ρ' =>
    rw [q] at o
    exact fun σ' H' fp' S' => ⟨ex0, Gs, ρ', fp', S', o⟩
  | _ =>
    rw [q] at o
    exact o
theorem sjs_one (h1 : SJ X W kr Lb L L1 st F) : SJs X W kr Lb L L1 [st] F := pss_one h1
/-- a slot's list is known to others from here on -/
theorem sjs_drop (i : Nat) (h : SJs X W kr Lb (L.set i 0) L1 sts F) : SJs X W kr Lb L L1 sts F := PSs.imp h fun Dn σ H ⟨ex0, Gs, ρ, fp, S, o⟩ => by
  obtain ⟨fp', S'⟩ := S.drop i
  exact ⟨ex0, Gs, ρ, fp', S', o⟩
/-- slots are forgotten -/
def sKill (is : List Nat) (F : SF) : SF := fun ρ => F (wipeE ρ is)
theorem sjs_kill (is : List Nat) (h : SJs X W kr Lb L L1 sts F) : SJs X W kr Lb L L1 sts (sKill is F) := PSs.imp h fun Dn σ H ⟨ex0, Gs, ρ, fp, S, o⟩ => ⟨ex0, Gs, _, fp, S.kill is, o⟩
theorem sj_pass : SJ X W kr Lb L L (.Pass pos) sNext := PS.imp ps_pass fun Dn σ H ⟨ex0, Gs, ρ, fp, S, o⟩ => o σ H fp S
def sBreak : SF := fun ρ => .brk ρ
def sCont : SF := fun ρ => .cont ρ
theorem sj_break : SJ X W kr L L L1 (.Break pos) sBreak := PS.imp ps_break fun Dn σ H ⟨ex0, Gs, ρ, fp, S, o⟩ => o σ H fp S
theorem sj_cont : SJ X W kr L L L1 (.Continue pos) sCont := PS.imp ps_continue fun Dn σ H ⟨ex0, Gs, ρ, fp, S, o⟩ => o σ H fp S
def sRet (f : EF) : SF := fun ρ => (f ρ).flow ρ fun d => .ret d
theorem sj_ret (h : EO X W L k e f) : SJ X W (.r k) Lb L L1 (.Return (some e) pos) (sRet f) := PS.imp (ps_ret h) fun Dn σ H ⟨ex0, Gs, ρ, fp, S, o⟩ =>
  ⟨_, ρ, fp, S.si, (flow_out S o).mono fun d q v H' fq e r nd nw => q v H' fq (S.same.trans (Keep.same e)) (r.less fun a h => .inl (by
    rcases h with h | h
    · exact .inl h
    · exact .inr (.inr h))) nd fun a ha => S.same.free (nw a ha)⟩
def sRetN : SF := fun _ => .ret .non
theorem sj_retN : SJ X W (.r k) Lb L L1 (.Return none pos) sRetN := PS.imp ps_retN fun Dn σ H ⟨ex0, Gs, ρ, fp, S, o⟩ =>
  o .non H [] S.same (RO.flat (by rw [R]) rfl) List.nodup_nil fun a h => nomatch h
/-- a method hands back a value, and its object as it stands -/
def retM (ρ : Px.Env) (d : D) : Flow := match ρ.getD 0 none with
  | some s => .ret (.tup [d, s])
  | none => .err
def sRetM (f : EF) : SF := fun ρ => (f ρ).flow ρ (retM ρ)
theorem retM_out {km : Nat} {ex0 : CS (RM.m k km).b} {Gs : List (D × V)} {ρ : Px.Env} {σ : L2.St} {H H' : Hp} {fp : Nat → List Addr} {Dn : Ends} {d : D} {v : V} {fq : List Addr} (S : SS X.K X.H_0 ex0 Gs L ρ σ H fp) (hL : L.getD 0 0 = km)
    (q : FOut X W (.m k km) Lb L1 ex0 Gs Dn (retM ρ d)) (e : Same H H') (r : RO X.K (fun a => a ∈ fq ∨ exOf fp ex0 a) H' k d v fq) (nd : fq.Nodup) (nw : ∀ a ∈ fq, H a = none) : Dn.rt v H' := by
  unfold retM at q
  cases hρ : ρ.getD 0 none with
  | none =>
    rw [hρ] at q
    exact q.elim
  | some s =>
    rw [hρ] at q
    obtain ⟨d1, s1, ed, q⟩ := q
    cases ed
    obtain ⟨u, h1, h2⟩ := S.si.val 0 s (getD_some hρ)
    rw [hL] at h2
    cases hs : ex0.sv with
    | none =>
      exact absurd hs (ex0.hv rfl)
    | some w =>
      have := S.slf w hs
      rw [h1] at this
      cases this
      exact q v u H' fq (fp 0) hs (S.same.trans (Keep.same e)) (r.less fun a h => .inl (by
        rcases h with h | h | h
        · exact .inl h
        · exact .inr (.inl ⟨0, h⟩)
        · exact .inr (.inr h))) (RO.keep (Keep.same e) (fun a h => by
        rcases h with h | h | h
        · exact .inr (nw a h)
        · exact .inl (.inl ⟨0, h⟩)
        · exact .inl (.inr h)) (fun a _ o z => e a o z) h2) nd (S.si.nod 0) (fun a ha => ⟨S.same.free (nw a ha), fun z => S.si.ext a (.inl ⟨0, z⟩) (nw a ha)⟩) (fun a ha => S.own 0 a ha)
theorem sj_retM {km : Nat} (h : EO X W L k e f) (hL : L.getD 0 0 = km := by rfl) : SJ X W (.m k km) Lb L L1 (.Return (some e) pos) (sRetM f) := PS.imp (ps_ret h) fun Dn σ H ⟨ex0, Gs, ρ, fp, S, o⟩ =>
  ⟨_, ρ, fp, S.si, (flow_out S o).mono fun d q v H' fq e r nd nw => retM_out S hL q e r nd nw⟩
def sRetNM : SF := fun ρ => retM ρ .non
theorem sj_retNM {km : Nat} (hL : L.getD 0 0 = km := by rfl) : SJ X W (.m k km) Lb L L1 (.Return none pos) sRetNM := PS.imp ps_retN fun Dn σ H ⟨ex0, Gs, ρ, fp, S, o⟩ =>
  retM_out S hL o (Same.refl H) (RO.flat (by rw [R]) rfl) List.nodup_nil fun a h => nomatch h
def sDrop (f : EF) : SF := fun ρ => (f ρ).flow ρ fun _ => .next ρ
theorem sj_expr (h : EB X W L n e f) (hs : swapsWith e none pos.line X.env = pure false := by rfl) : SJ X W kr Lb L L (.Expr e pos) (sDrop f) := PS.imp (ps_expr h hs) fun Dn σ H ⟨ex0, Gs, ρ, fp, S, o⟩ =>
  ⟨_, ρ, fp, S.si, (flow_out S o).mono fun d q v H' e r => q σ H' fp (S.up e)⟩
def sIf (t : Env → Res Bool) (F G : SF) : SF := fun ρ => (t ρ).flow ρ fun b => if b = true then F ρ else G ρ
theorem sj_if (hc : ET X W L c ft) (ha : SJs X W kr Lb L L1 a F) (hb : SJs X W kr Lb L L1 b G) : SJ X W kr Lb L L1 (.If c a b pos) (sIf ft F G) := PS.imp (ps_if hc ha hb) fun Dn σ H ⟨ex0, Gs, ρ, fp, S, o⟩ =>
  ⟨_, ρ, fp, S.si, (flow_out S o).mono fun t q H' e => by
    cases t with
    | true => exact ⟨ex0, Gs, ρ, fp, S.up e, q⟩
    | false => exact ⟨ex0, Gs, ρ, fp, S.up e, q⟩⟩
/-- x = e -/
def sSet (i : Nat) (f : EF) : SF := fun ρ => (f ρ).flow ρ fun d => .next (ρ.set i (some d))
theorem asg_imp {i k : Nat} (hi : i < L.length) (h0 : kr.b = false ∨ i ≠ 0) {Dn : Ends} {σ : L2.St} {H : Hp} (h : tS X W kr Lb L (L.set i k) (sSet i f) Dn σ H) : tAsg (tO X W L k f) (gName i) Dn σ H := by
  obtain ⟨ex0, Gs, ρ, fp, S, o⟩ := h
  refine ⟨_, ρ, fp, S.si, (flow_out S o).mono fun d q v H' fq e r nd nw => ?_⟩
  obtain ⟨fp', S'⟩ := S.put e r nd nw hi (h0_of ex0 h0)
  exact q _ _ _ S'
theorem sj_set {i k : Nat} {x : Str} {pos' : Pos} (hN : X.N.Nodup) (hx' : X.N[i]? = some x) (hx : Loc X.env.scope x) (he : EO X W L k e f) (hi : i < L.length) (hs : swapsWith e (some (.Name x pos')) pos.line X.env = pure false := by rfl) (h0 : kr.b = false ∨ i ≠ 0 := by first | exact .inl rfl | exact .inr (by decide))
    (hf : X.fn x = true ∨ X.env.scope.names.lookup x = some .local := by first | exact .inl rfl | exact .inr rfl | assumption) : SJ X W kr Lb L (L.set i k) (.Assign [.Name x pos'] e pos) (sSet i f) :=
  PS.imp (ps_set hN hx' hx he hs hf) fun Dn σ H h => asg_imp hi h0 h
/-- x = [.. for ..] where the model stores within the comprehension -/
theorem sj_setLc {i k : Nat} {y : Str} {py spos : Pos} {elt tg iter : Expr} {ifs : List Expr} {scope : Scope} {own : List (Str × Nat)} {fI : Env → Res (List D)} {gf : Env → D → Res Env} {g : TG} {is : List Nat}
    (hc : X.calm = true) (hN : X.N.Nodup) (hy : X.N[i]? = some y) (hyl : X.env.scope.names.lookup y = some .local) (hi' : i < L.length)
    (hsw : swapsWith (.ListComp elt [⟨tg, iter, ifs, 0⟩] scope pos) (some (.Name y py)) spos.line X.env = pure true) (hi : EI X W L 1 tg iter fI) (ok : BlkOk X.N X.env.scope scope own)
    (hg : ∀ (s : Shared) (H : Hp) (C : Addr) (cl : List (Str × Addr)) (fp : List Addr), PG (X.blk s H scope (compEnvC scope cl C X.env) fp) tg g)
    (ht : ∀ (s : Shared) (H : Hp) (C : Addr) (cl : List (Str × Addr)) (fp : List Addr), ETs (X.blk s H scope (compEnvC scope cl C X.env) fp) W0 L ifs ft)
    (he : ∀ (s : Shared) (H : Hp) (C : Addr) (cl : List (Str × Addr)) (fp : List Addr), EO (X.blk s H scope (compEnvC scope cl C X.env) fp) W0 L k elt f)
    (gs : GSem X.K g gf is) (hs : ∀ i ∈ is, i ∈ own.map (·.2)) (hL : ∀ i ∈ is, L.getD i 0 = 0) (hfs : ∀ x, foldedSetIterable iter X.env x = pure x := by intro _; rfl) (h0 : kr.b = false ∨ i ≠ 0 := by first | exact .inl rfl | exact .inr (by decide)) :
    SJ X W kr Lb L (L.set i (k + 1)) (.Assign [.Name y py] (.ListComp elt [⟨tg, iter, ifs, 0⟩] scope pos) spos) (sSet i (eLc fI (own.map (·.2)) gf ft f)) :=
  PS.imp (ps_setLc (te := tO X W0 L k f) (tt := tT X W0 L ft) hc hN hy hyl hsw hi ok hg ht he hfs) fun Dn σ H h => by
    have h2 := asg_imp hi' h0 h
    exact lc_imp gs hs hL h2
/-- a target that unpacks: shared values to shared slots -/
def sUnp (gf : Env → D → Res Env) (f : EF) : SF := fun ρ => (f ρ).flow ρ fun d => (noX' (gf ρ d)) where
  noX' : Res Env → Flow
    | .ok ρ' => .next ρ'
    | _ => .err
theorem sj_unp {tg : Expr} {g : TG} {gf : Env → D → Res Env} {is : List Nat} (hg : PG X tg g) (gs : GSem X.K g gf is) (he : EB X W L 0 e f) (hL : ∀ i ∈ is, L.getD i 0 = 0) (hs : swapsWithSole [tg] e pos.line X.env = pure false := by rfl) (hw : swappedStores [tg] e X.env = pure none := by rfl)
    (h1 : (assignEach [tg] X.env).map (·.2) = [assign tg X.env] := by rfl) (h0 : kr.b = false ∨ ∀ i ∈ is, i ≠ 0 := by first | exact .inl rfl | exact .inr (by decide)) : SJ X W kr Lb L L (.Assign [tg] e pos) (sUnp gf f) :=
  PS.imp (ps_asg he hg hs hw h1) fun Dn σ H ⟨ex0, Gs, ρ, fp, S, o⟩ => ⟨_, ρ, fp, S.si, (flow_out S o).mono fun d q v H' e r => by
    cases hg : gf ρ d with
    | ok ρ' =>
      rw [hg] at q
      refine gs _ v σ H' _ d ρ ρ' r hg fun l hl e2 => ?_
      obtain ⟨fp', S'⟩ := (S.up e).sets l (fun t ht => ⟨(hl t ht).1, hL _ (hl t ht).2⟩) fun t ht => h0_all ex0 h0 _ (hl t ht).2
      rw [← e2] at S'
      exact q _ _ _ S'
    | exc c =>
      rw [hg] at q
      exact q.elim
    | err =>
      rw [hg] at q
      exact q.elim⟩
/-- x += e, of ints and texts -/
def sAug (o : D → D → Res D) (i : Nat) (f : EF) : SF := fun ρ => (eVar i ρ).flow ρ fun a => (f ρ).flow ρ fun b => match o a b with
  | .ok d => .next (ρ.set i (some d))
  | _ => .err
theorem sj_aug {op : Operator} {o : D → D → Res D} {i : Nat} {x : Str} {pos' : Pos} (hN : X.N.Nodup) (hx' : X.N[i]? = some x) (hx : Loc X.env.scope x) (ho : Op2 X 0 0 0 (inplaceOp op) o) (he : EB X W L 0 e f) (hi : i < L.length) (hL : L.getD i 0 = 0)
    (h0 : kr.b = false ∨ i ≠ 0 := by first | exact .inl rfl | exact .inr (by decide)) (hf : X.fn x = true ∨ X.env.scope.names.lookup x = some .local := by first | exact .inl rfl | exact .inr rfl | assumption) : SJ X W kr Lb L (L.set i 0) (.AugAssign (.Name x pos') op e pos) (sAug o i f) :=
  PS.imp (ps_aug hN hx' hx he ho hf) fun Dn σ H ⟨ex0, Gs, ρ, fp, S, q⟩ => by
    unfold sAug at q
    cases ev : eVar i ρ with
    | exc c =>
      unfold eVar at ev
      split at ev <;> cases ev
    | err =>
      rw [ev] at q
      exact q.elim
    | ok d0 =>
      rw [ev, flow_ok] at q
      have hρ : ρ.getD i none = some d0 := by
        unfold eVar at ev
        split at ev
        · rename_i d hd
          cases ev
          exact hd
        · cases ev
      obtain ⟨v0, h1, h2⟩ := S.si.val i d0 (getD_some hρ)
      rw [hL] at h2
      refine ⟨v0, h1, _, ρ, fp, S.si, (flow_out S q).mono fun d1 q1 v1 H1 e1 r1 => ?_⟩
      cases ed : o d0 d1 with
      | ok d =>
        rw [ed] at q1
        refine ⟨_, d0, d1, d, (S.si.same e1).ext, (show R X.K _ H1 d0 v0 from h2.2.same e1), r1, ed, fun v H2 fq e2 ro nd nw => ?_⟩
        obtain ⟨fp', S'⟩ := (S.up e1).put e2 ro nd nw hi (h0_of ex0 h0)
        exact q1 _ _ _ S'
      | exc c =>
        rw [ed] at q1
        exact q1.elim
      | err =>
        rw [ed] at q1
        exact q1.elim

/-! ### loops -/
/-- behind a turn of a loop -/
def loopK (r : Flow) (k : Env → Flow) : Flow := match r with
  | .next ρ => k ρ
  | .cont ρ => k ρ
  | .brk ρ => .next ρ
  | .ret d => .ret d
  | .exc c ρ => .exc c ρ
  | .err => .err
@[simp] theorem loopK_next (ρ : Env) (k : Env → Flow) : loopK (.next ρ) k = k ρ := id rfl
@[simp] theorem loopK_cont (ρ : Env) (k : Env → Flow) : loopK (.cont ρ) k = k ρ := id rfl
@[simp] theorem loopK_brk (ρ : Env) (k : Env → Flow) : loopK (.brk ρ) k = .next ρ := id rfl
@[simp] theorem loopK_ret (d : D) (k : Env → Flow) : loopK (.ret d) k = .ret d := id rfl
@[simp] theorem loopK_exc (c : Str) (ρ : Env) (k : Env → Flow) : loopK (.exc c ρ) k = .exc c ρ := id rfl
@[simp] theorem loopK_err (k : Env → Flow) : loopK .err k = .err := id rfl
/-- what may not raise -/
def Res.must {α : Type} (r : Res α) (k : α → Flow) : Flow := match r with
  | .ok a => k a
  | _ => .err
@[simp] theorem must_ok {α : Type} (a : α) (k : α → Flow) : (Res.ok a).must k = k a := id rfl
@[simp] theorem must_exc {α : Type} (c : Str) (k : α → Flow) : (Res.exc c : Res α).must k = .err := id rfl
@[simp] theorem must_err {α : Type} (k : α → Flow) : (Res.err : Res α).must k = .err := id rfl
def forE (gf : Env → D → Res Env) (F : SF) : List D → Env → Flow
  | [], ρ => .next ρ
  | d :: ds, ρ => (gf ρ d).must fun ρ1 => loopK (F ρ1) (forE gf F ds)
def sFor (fI : Env → Res (List D)) (gf : Env → D → Res Env) (F : SF) : SF := fun ρ => (fI ρ).flow ρ fun ds => forE gf F ds ρ
theorem sj_for {tg iter : Expr} {g : TG} {gf : Env → D → Res Env} {is : List Nat} {fI : Env → Res (List D)} {body : List Stmt} (hp : PassesOwn (model X.prog X.w) X.A X.env X.xe) (hc : X.calm = true) (hi : EI X W L 0 tg iter fI) (hg : PG X tg g) (gs : GSem X.K g gf is) (hL : ∀ i ∈ is, L.getD i 0 = 0)
    (hb : SJs X W kr L L L body F) (hs : ∀ x, foldedSetIterable iter X.env x = pure x := by intro _; rfl) (h0 : kr.b = false ∨ ∀ i ∈ is, i ≠ 0 := by first | exact .inl rfl | exact .inr (by decide)) : SJ X W kr Lb L L (.For tg iter body [] pos) (sFor fI gf F) :=
  PS.imp (ps_for hp hc hi hg hb hs) fun Dn σ H ⟨ex0, Gs, ρ, fp, S, o⟩ => by
    refine ⟨_, ρ, fp, S.si, (flow_out S o).mono fun ds q J H1 gh e1 rg itn => ?_⟩
    refine ⟨fun i m σi Hi => i + m = ds.length ∧ ∃ ρi fpi, SS X.K X.H_0 ex0 (gh.2 :: gh.1 :: Gs) L ρi σi Hi fpi ∧ FOut X W kr Lb L ex0 Gs Dn (forE gf F (ds.drop i) ρi), ⟨ds.length, by omega, ρ, fp, ((S.up e1).hold rg.1).hold rg.2, q⟩, fun i m σi Hi hW => ?_⟩
    obtain ⟨em, ρi, fpi, Si, qi⟩ := hW
    have hold : HR X.K (exOf fpi ex0) Hi 0 gh := ⟨Si.held gh.1 (List.mem_cons_of_mem _ List.mem_cons_self), Si.held gh.2 List.mem_cons_self⟩
    by_cases hi : i < ds.length
    · refine .inr ⟨itn.go _ Hi i hold hi, fun σ' H' => ∃ m', m' < m ∧ i + 1 + m' = ds.length ∧ ∃ ρi fpi, SS X.K X.H_0 ex0 (gh.2 :: gh.1 :: Gs) L ρi σ' H' fpi ∧ FOut X W kr Lb L ex0 Gs Dn (forE gf F (ds.drop (i + 1)) ρi), fun σ' H' h => h, fun x H' hy => ?_⟩
      obtain ⟨d, hd⟩ : ∃ d, ds[i]? = some d := ⟨_, List.getElem?_eq_getElem hi⟩
      obtain ⟨e3, rx⟩ := itn.item _ Hi i d x H' hold hd hy
      have ed : ds.drop i = d :: ds.drop (i + 1) := by
        rw [List.drop_eq_getElem_cons hi]
        congr 1
        rw [List.getElem?_eq_getElem hi] at hd
        exact Option.some.inj hd
      rw [ed, forE] at qi
      cases hgf : gf ρi d with
      | exc c => rw [hgf] at qi; exact qi.elim
      | err => rw [hgf] at qi; exact qi.elim
      | ok ρ1 =>
        rw [hgf, must_ok] at qi
        refine gs _ x σi H' _ d ρi ρ1 rx hgf fun l hl e4 => ?_
        obtain ⟨fp', S'⟩ := (Si.up e3).sets l (fun t ht => ⟨(hl t ht).1, hL _ (hl t ht).2⟩) fun t ht => h0_all ex0 h0 _ (hl t ht).2
        rw [← e4] at S'
        refine ⟨ex0, gh.2 :: gh.1 :: Gs, ρ1, fp', S', ?_⟩
        cases hF : F ρ1 with
        | next ρ2 =>
          rw [hF] at qi
          exact fun σ2 H2 fp2 S2 => ⟨m - 1, by omega, by omega, ρ2, fp2, S2, qi⟩
        | cont ρ2 =>
          rw [hF] at qi
          exact fun σ2 H2 fp2 S2 => ⟨m - 1, by omega, by omega, ρ2, fp2, S2, qi⟩
        | brk ρ2 =>
          rw [hF] at qi
          exact fun σ2 H2 fp2 S2 => qi σ2 H2 fp2 S2.tail.tail
        | ret d =>
          rw [hF] at qi
          exact qi
        | exc c ρ2 =>
          rw [hF] at qi
          exact fun C hC σ2 H2 fp2 S2 => qi C hC σ2 H2 fp2 S2.tail.tail
        | err =>
          rw [hF] at qi
          exact qi.elim
    · have ei : i = ds.length := by omega
      rw [ei, List.drop_length, forE] at qi
      exact .inl ⟨by rw [ei]; exact itn.stop _ Hi hold, qi σi Hi fpi Si.tail.tail⟩
def whileE (t : Env → Res Bool) (F : SF) : Nat → Env → Flow
  | 0, _ => .err
  | n + 1, ρ => (t ρ).flow ρ fun b => if b = true then loopK (F ρ) (whileE t F n) else .next ρ
def sWhile (n : Nat) (t : Env → Res Bool) (F : SF) : SF := whileE t F n
theorem sj_while {body : List Stmt} (n : Nat) (hp : PassesOwn (model X.prog X.w) X.A X.env X.xe) (hc : ET X W L c ft) (hb : SJs X W kr L L L body F) : SJ X W kr Lb L L (.While c body [] pos) (sWhile n ft F) :=
  PS.imp (ps_while hp hc hb) fun Dn σ H ⟨ex0, Gs, ρ, fp, S, o⟩ => by
    refine ⟨fun m σi Hi => ∃ ρi fpi, SS X.K X.H_0 ex0 Gs L ρi σi Hi fpi ∧ FOut X W kr Lb L ex0 Gs Dn (whileE ft F m ρi), ⟨n, ρ, fp, S, o⟩, fun m σi Hi hW => ?_⟩
    obtain ⟨ρi, fpi, Si, qi⟩ := hW
    cases m with
    | zero => exact qi.elim
    | succ m =>
      rw [whileE] at qi
      refine ⟨_, ρi, fpi, Si.si, (flow_out Si qi).mono fun t q H' e => ?_⟩
      cases t with
      | false =>
        rw [if_neg Bool.false_ne_true] at q ⊢
        exact q σi H' fpi (Si.up e)
      | true =>
        rw [if_pos rfl] at q ⊢
        refine ⟨fun σ2 H2 => ∃ ρ2 fp2, SS X.K X.H_0 ex0 Gs L ρ2 σ2 H2 fp2 ∧ FOut X W kr Lb L ex0 Gs Dn (whileE ft F m ρ2), fun σ2 H2 h => ⟨m, Nat.lt_succ_self m, h⟩, ex0, Gs, ρi, fpi, Si.up e, ?_⟩
        cases hF : F ρi with
        | next ρ2 =>
          rw [hF] at q
          exact fun σ2 H2 fp2 S2 => ⟨ρ2, fp2, S2, q⟩
        | cont ρ2 =>
          rw [hF] at q
          exact fun σ2 H2 fp2 S2 => ⟨ρ2, fp2, S2, q⟩
        | brk ρ2 =>
          rw [hF] at q
          exact q
        | ret d =>
          rw [hF] at q
          exact q
        | exc c ρ2 =>
          rw [hF] at q
          exact q
        | err =>
          rw [hF] at q
          exact q.elim
end
end Px

namespace Px
open PySem PySem.Spec PyProof.Rows L2

/-! ### defs -/
/-- the promise of a def that does C -/
def Spec (K : PySem.W.Frag) (mg : Str → Option Value) (ar kr : Nat) (C : List D → Res D) : Sp := fun vs H Q E => vs.length = ar ∧ ∃ ex ds, (∀ a, ex a → H a ≠ none) ∧ Paired (R K ex H) ds vs ∧ match C ds with
  | .ok d => QO K ex H kr Q d
  | .exc c => ∀ Cl, mg c = some (.ref Cl) → ∀ H', Same H H' → E (.ref Cl) none H'
  | .err => False
def startE (n : Nat) (ds : List D) : Env := ds.map some ++ List.replicate (n - ds.length) none
/-- a body's meaning as a function of its arguments -/
def fnE (n : Nat) (F : SF) (ds : List D) : Res D := match F (startE n ds) with
  | .ret d => .ok d
  | .next _ => .ok .non
  | .exc c _ => .exc c
  | _ => .err
theorem start_val {K : PySem.W.Frag} {ex : AS} {H : Hp} {N : List Str} {ds : List D} {vs : List V} (h : Paired (R K ex H) ds vs) : ∀ (i : Nat) (d : D), (startE N.length ds)[i]? = some (some d) → ∃ v : V, (L2.start N vs)[i]? = some (some v) ∧ R K ex H d v := by
  intro i d e
  unfold startE at e
  unfold L2.start
  by_cases hi : i < ds.length
  · rw [List.getElem?_append_left (by rw [List.length_map]; exact hi), List.getElem?_map] at e
    cases q : ds[i]? with
    | none => rw [q] at e; cases e
    | some d' =>
      rw [q] at e
      cases e
      obtain ⟨v, h1, h2⟩ := Paired.get h q
      refine ⟨v, ?_, h2⟩
      rw [List.getElem?_append_left (by rw [List.length_map, ← h.length]; exact hi), List.getElem?_map, h1]
      rfl
  · rw [List.getElem?_append_right (by rw [List.length_map]; omega), List.getElem?_replicate] at e
    split at e <;> cases e
theorem getD_rep0 (n i : Nat) : (List.replicate n 0).getD i 0 = 0 := by
  rw [List.getD_eq_getElem?_getD, List.getElem?_replicate]
  split <;> rfl
section
variable {P : Program} {w : World} {K : PySem.W.Frag} {mg : Str → Option Value} {base : Heap}
theorem fn_ok {x qual : Str} {st : Stmt} {f : Addr} {fd : FuncData} {N ps : List Str} {k kr ar nN : Nat} {L L' : List Nat} {FF : SF} {C : List D → Res D} (F : Fun K x qual st f fd) (S : FnScope N ps (defScope st)) (hn : nN = N.length) (har : ar = ps.length) (hL0 : L = List.replicate nN 0) (hC : C = fnE nN FF)
    (h : ∀ (cdv : Value) (A : Around) (outer : List PySem.Env) (s : Shared) (H : Hp) (E : XK), Room k (A.deeper (envOfC qual (defScope st) s.heap.objs.size f cdv)) →
      SJs (cxOf (L2.CX P w) P w K mg base N qual (defScope st) f cdv A outer s H E) (fun cls d _ H => E cls d H) (.r kr) [] L L' (defBody st) FF) :
    FnOk P w K mg base (L2.CX P w) (k + 1) f fd ps (Spec K mg ar kr C) := by
  subst hn har hL0 hC
  refine F.okX S (fun vs H Q E h => h.1) (fun cdv A outer s H vs Q E hr hsp => ⟨_, h cdv A outer s H E hr, ?_⟩)
  obtain ⟨hl, ex, ds, ext, r, q⟩ := hsp
  let c0 : CS (RM.r kr).b := ⟨ex, fun _ => False, none, fun _ => rfl, fun q => nomatch q⟩
  have e0 : ∀ a, exOf (fun _ => []) c0 a → ex a := fun a z => by
    rcases z with ⟨_, z⟩ | z
    · cases z
    · exact z
  have hlen := r.length
  have SSi : SS K H c0 [] (List.replicate N.length 0) (startE N.length ds) (L2.start N vs) H fun _ => [] := by
    refine ⟨⟨?_, fun i d e => ?_, fun i => List.nodup_nil, fun i j a z => (nomatch z), fun i a z => (nomatch z), fun a z => ext a (e0 a z)⟩, fun i a z => (nomatch z), fun a z => ⟨ext a z, fun q => q⟩, Keep.same (Same.refl H), fun v z => (nomatch z), fun g z => (nomatch z)⟩
    · unfold startE L2.start
      simp [hlen]
    · obtain ⟨v, h1, h2⟩ := start_val r i d e
      exact ⟨v, h1, by rw [getD_rep0]; exact ⟨rfl, h2.less fun a z => .inl (e0 a z)⟩⟩
  refine ⟨c0, [], startE N.length ds, fun _ => [], SSi, ?_⟩
  unfold fnE at q
  unfold FOut
  cases hF : FF (startE N.length ds) with
  | next ρ' =>
    rw [hF] at q
    intro σ' H' fp' S'
    exact q .non H' [] S'.same.toSame (RO.flat (by rw [R]) rfl) List.nodup_nil fun a z => nomatch z
  | ret d =>
    rw [hF] at q
    exact fun v H' fq kp r nd nw => q v H' fq kp.toSame r nd nw
  | exc c ρ' =>
    rw [hF] at q
    exact fun C hC σ' H' fp' S' => q C hC H' S'.same.toSame
  | brk ρ' =>
    rw [hF] at q
    exact q.elim
  | cont ρ' =>
    rw [hF] at q
    exact q.elim
  | err =>
    rw [hF] at q
    exact q.elim
end
section
variable {X : Cx} {W : WX} {L : List Nat} {n m k kr : Nat} {pos p : Pos} {e : Expr} {es : List Expr} {f : Addr} {fd : FuncData} {ps : List Str} {x : Str} {C : List D → Res D} {fs : Env → Res (List D)}
theorem eo_call (F : FnOk X.prog X.w X.K X.mg X.base (L2.CX X.prog X.w) k f fd ps (Spec X.K X.mg m kr C)) (hr : Room k X.A) (hg : Gl X x) (hm : X.mg x = some (.ref f)) (hk : PySem.W.keepIn X.K (.ref f) = true) (hb : Binds X.K fd ps []) (tk : Takes X W)
    (ha : EA X W L 0 m (e :: es) fs) (hdb : (x == ("__debug__" : Str)) = false := by decide) (he : starEach (e :: es) X.env = (false, eval e X.env) :: starEach es X.env := by rfl) (hpl : (backTo pos (starEach es X.env)).any (·.1) = false := by rfl) :
    EO X W L kr (.Call (.Name x p) (e :: es) [] pos) (eCall C fs) :=
  PE.imp (pe_callS F hr hg hm hk hb (fun σ => passAt tk σ) ha hdb he hpl) fun σ H Q ⟨ex, ρ, fp, I, o⟩ => ⟨ex, ρ, fp, I, o.bind.mono fun ds q vs H1 e1 r1 hl => by
    refine ⟨hl, ex, ds, (I.same e1).ext, r1, ?_⟩
    cases hC : C ds with
    | ok d =>
      rw [hC] at q
      exact fun v H2 fq e2 ro nd nw => q v H2 fq (e1.trans e2) ro nd fun a ha => e1.free (nw a ha)
    | exc c =>
      rw [hC] at q
      exact fun Cl hCl H' e2 => q Cl hCl H' (e1.trans e2)
    | err =>
      rw [hC] at q
      exact q.elim⟩
mutual
/-- no list within -/
def noL : D → Bool
  | .non => true
  | .bl _ => true
  | .int _ => true
  | .str _ => true
  | .tup xs => noLL xs
  | .lst _ => false
  | .dic _ _ _ => false
  | .ins _ _ _ => false
  | .set _ => false
  | .exc _ => false
  | .oth => false
def noLL : List D → Bool
  | [] => true
  | d :: ds => noL d && noLL ds
end
theorem noLL_all : ∀ xs : List D, noLL xs = xs.all noL
  | [] => by rw [noLL, List.all_nil]
  | x :: xs => by rw [noLL, List.all_cons, noLL_all xs]
mutual
theorem R.any {K : PySem.W.Frag} {ex ex' : AS} {H : Hp} : ∀ (d : D) {v : V}, noL d = true → R K ex H d v → R K ex' H d v
  | .non, _, _, h => by
    rw [R] at h ⊢
    exact h
  | .bl _, _, _, h => by
    rw [R] at h ⊢
    exact h
  | .int _, _, _, h => by
    rw [R] at h ⊢
    exact h
  | .str _, _, _, h => by
    rw [R] at h ⊢
    exact h
  | .tup ds, _, n, h => by
    rw [R] at h ⊢
    rw [noL] at n
    obtain ⟨a, xs, e, h1, h2⟩ := h
    exact ⟨a, xs, e, h1, RL.any ds n h2⟩
  | .lst _, _, n, _ => by
    rw [noL] at n
    cases n
  | .dic _ _ _, _, n, _ => by
    rw [noL] at n
    cases n
  | .ins _ _ _, _, n, _ => by
    rw [noL] at n
    cases n
  | .set _, _, n, _ => by
    rw [noL] at n
    cases n
  | .exc _, _, n, _ => by
    rw [noL] at n
    cases n
  | .oth, _, n, _ => by
    rw [noL] at n
    cases n
theorem RL.any {K : PySem.W.Frag} {ex ex' : AS} {H : Hp} : ∀ (ds : List D) {vs : List V}, noLL ds = true → RL K ex H ds vs → RL K ex' H ds vs
  | [], _, _, h => by
    rw [RL] at h ⊢
    exact h
  | d :: ds, _, n, h => by
    rw [RL] at h ⊢
    rw [noLL, Bool.and_eq_true] at n
    obtain ⟨v, r, e, h1, h2⟩ := h
    exact ⟨v, r, e, R.any d n.1 h1, RL.any ds n.2 h2⟩
end
/-- borrowed for a look: nothing is owned by anyone -/
theorem RB.look {K : PySem.W.Frag} {ex : AS} {H : Hp} : ∀ {n : Nat} {d : D} {v : V}, RB K ex H n d v → R K (fun _ => False) H d v
  | 0, _, _, h => R.less (fun a q => q.elim) h
  | n + 1, d, v, h => by
    cases c : isC d with
    | true =>
      obtain ⟨a, xs, e, h1, h2⟩ := (RB.cn c).mp h
      exact (R.cn c).mpr ⟨a, xs, e, h1.x fun q => q, RL.of (h2.mono fun _ _ q => RB.look q)⟩
    | false => exact R.less (fun a q => q.elim) ((RB.nc c).mp h)
/-- of its own to the depth k, no list below -/
def okP : Nat → D → Bool
  | 0, d => noL d
  | k + 1, d => if isC d = true then (kids d).all (okP k) else noL d
theorem P3.mapL {α β γ : Type} {F G : α → β → γ → Prop} : ∀ {as : List α} {bs : List β} {cs : List γ}, P3 F as bs cs → (∀ a ∈ as, ∀ b c, F a b c → G a b c) → P3 G as bs cs
  | _, _, _, .nil, _ => .nil
  | _, _, _, .cons x t, h => .cons (h _ List.mem_cons_self _ _ x) (P3.mapL t fun a ha => h a (List.mem_cons_of_mem _ ha))
theorem RO.any {K : PySem.W.Frag} {ex ex' : AS} {H : Hp} : ∀ (k : Nat) {d : D} {v : V} {fq : List Addr}, okP k d = true → RO K ex H k d v fq → RO K ex' H k d v fq
  | 0, d, _, _, h, r => by
    rw [RO] at r ⊢
    exact ⟨r.1, R.any d h r.2⟩
  | k + 1, d, v, fq, h, r => by
    cases c : isC d with
    | true =>
      rw [okP, if_pos c, List.all_eq_true] at h
      obtain ⟨a, xs, fps, o, e, h1, e2, h2⟩ := (RO.cn c).mp r
      exact (RO.cn c).mpr ⟨a, xs, fps, o, e, h1, e2, P3.mapL h2 fun x hx y z q => RO.any k (h x hx) q⟩
    | false =>
      rw [okP, if_neg (by rw [c]; decide)] at h
      obtain ⟨e, r⟩ := (RO.nc c).mp r
      exact (RO.nc c).mpr ⟨e, R.any d h r⟩
/-- a call that only looks at what is owned here: what it hands back is new to the depth k, no list below -/
def eCallP (k : Nat) (C : List D → Res D) (fs : Env → Res (List D)) : EF := fun ρ => fs ρ >>= fun ds => C ds >>= fun d => if okP k d = true then .ok d else .err
theorem look_out {W : WX} {σ : L2.St} {H H1 : Hp} {ex : AS} {ds : List D} {kr : Nat} {C : List D → Res D} {Q : VK} (e1 : Same H H1) (q : Out X W σ H (C ds >>= fun d => if okP kr d = true then .ok d else .err) fun d => ∀ v H' fq, Same H H' → RO X.K (fun a => a ∈ fq ∨ ex a) H' kr d v fq → fq.Nodup → (∀ a ∈ fq, H a = none) → Q v H') :
    match C ds with
    | .ok d => QO X.K (fun _ => False) H1 kr Q d
    | .exc c => ∀ Cl, X.mg c = some (.ref Cl) → ∀ H', Same H1 H' → W (.ref Cl) none σ H'
    | .err => False := by
  cases hC : C ds with
  | ok d =>
    rw [hC, Res.bind_ok] at q
    split at q
    · rename_i hn
      intro v H2 fq e2 ro nd nw
      exact q v H2 fq (e1.trans e2) (RO.any kr hn ro) nd fun a ha => e1.free (nw a ha)
    · exact q.elim
  | exc c =>
    rw [hC] at q
    exact fun Cl hCl H' e2 => q Cl hCl H' (e1.trans e2)
  | err =>
    rw [hC] at q
    exact q.elim
theorem eo_callP (F : FnOk X.prog X.w X.K X.mg X.base (L2.CX X.prog X.w) k f fd ps (Spec X.K X.mg m kr C)) (hr : Room k X.A) (hg : Gl X x) (hm : X.mg x = some (.ref f)) (hk : PySem.W.keepIn X.K (.ref f) = true) (hb : Binds X.K fd ps []) (tk : Takes X W)
    (ha : EA X W L n m (e :: es) fs) (hdb : (x == ("__debug__" : Str)) = false := by decide) (he : starEach (e :: es) X.env = (false, eval e X.env) :: starEach es X.env := by rfl) (hpl : (backTo pos (starEach es X.env)).any (·.1) = false := by rfl) :
    EO X W L kr (.Call (.Name x p) (e :: es) [] pos) (eCallP kr C fs) :=
  PE.imp (pe_callS F hr hg hm hk hb (fun σ => passAt tk σ) ha hdb he hpl) fun σ H Q ⟨ex, ρ, fp, I, o⟩ => ⟨ex, ρ, fp, I, o.bind.mono fun ds q vs H1 e1 r1 hl =>
    ⟨hl, fun _ => False, ds, fun a z => z.elim, r1.mono fun _ _ z => RB.look z, look_out e1 q⟩⟩
end

/-! ### kinds -/
def tyS : D → Option String
  | .non => some "NoneType"
  | .bl _ => some "bool"
  | .int _ => some "int"
  | .str _ => some "str"
  | .tup _ => some "tuple"
  | .lst _ => some "list"
  | _ => none
def isInt : D → Bool
  | .int _ => true
  | .bl _ => true
  | _ => false
def isBool : D → Bool
  | .bl _ => true
  | _ => false
def isStr : D → Bool
  | .str _ => true
  | _ => false
def isTup : D → Bool
  | .tup _ => true
  | _ => false
def isLst : D → Bool
  | .lst _ => true
  | _ => false
def Kind (T : String) (p : D → Bool) : Prop := ∀ d ty, tyS d = some ty → kitB ty T = some (p d)
theorem kind_int : Kind "int" isInt := fun d ty h => by
  cases d <;> cases h
  · exact (show kitB "NoneType" "int" = some false by decide +kernel)
  · exact (show kitB "bool" "int" = some true by decide +kernel)
  · exact (show kitB "int" "int" = some true by decide +kernel)
  · exact (show kitB "str" "int" = some false by decide +kernel)
  · exact (show kitB "tuple" "int" = some false by decide +kernel)
  · exact (show kitB "list" "int" = some false by decide +kernel)
theorem kind_bool : Kind "bool" isBool := fun d ty h => by
  cases d <;> cases h
  · exact (show kitB "NoneType" "bool" = some false by decide +kernel)
  · exact (show kitB "bool" "bool" = some true by decide +kernel)
  · exact (show kitB "int" "bool" = some false by decide +kernel)
  · exact (show kitB "str" "bool" = some false by decide +kernel)
  · exact (show kitB "tuple" "bool" = some false by decide +kernel)
  · exact (show kitB "list" "bool" = some false by decide +kernel)
theorem kind_str : Kind "str" isStr := fun d ty h => by
  cases d <;> cases h
  · exact (show kitB "NoneType" "str" = some false by decide +kernel)
  · exact (show kitB "bool" "str" = some false by decide +kernel)
  · exact (show kitB "int" "str" = some false by decide +kernel)
  · exact (show kitB "str" "str" = some true by decide +kernel)
  · exact (show kitB "tuple" "str" = some false by decide +kernel)
  · exact (show kitB "list" "str" = some false by decide +kernel)
theorem kind_tup : Kind "tuple" isTup := fun d ty h => by
  cases d <;> cases h
  · exact (show kitB "NoneType" "tuple" = some false by decide +kernel)
  · exact (show kitB "bool" "tuple" = some false by decide +kernel)
  · exact (show kitB "int" "tuple" = some false by decide +kernel)
  · exact (show kitB "str" "tuple" = some false by decide +kernel)
  · exact (show kitB "tuple" "tuple" = some true by decide +kernel)
  · exact (show kitB "list" "tuple" = some false by decide +kernel)
theorem kind_lst : Kind "list" isLst := fun d ty h => by
  cases d <;> cases h
  · exact (show kitB "NoneType" "list" = some false by decide +kernel)
  · exact (show kitB "bool" "list" = some false by decide +kernel)
  · exact (show kitB "int" "list" = some false by decide +kernel)
  · exact (show kitB "str" "list" = some false by decide +kernel)
  · exact (show kitB "tuple" "list" = some false by decide +kernel)
  · exact (show kitB "list" "list" = some true by decide +kernel)
theorem RB.ty {K : PySem.W.Frag} {ex : AS} {H : Hp} {n : Nat} {d : D} {v : V} {ty : String} (h : RB K ex H n d v) (e : tyS d = some ty) : TyX K H v (.type ty) := by
  cases d with
  | non =>
    cases e
    rw [h.non]
    exact .base .non
  | bl b =>
    cases e
    rw [h.bl]
    exact .base (.bl b)
  | int b =>
    cases e
    rw [h.int]
    exact .base (.int b)
  | str b =>
    cases e
    rw [h.str]
    exact .base (.str b)
  | tup xs =>
    cases e
    obtain ⟨a, ys, rfl, h1, _⟩ := h.tup
    rcases h1 with (h1 | ⟨o, h1⟩) | ⟨o, its, m, h1, h2, _⟩
    · exact .base (.tup h1)
    · exact .fTuple h1
    · exact .kTuple h1 h2
  | lst xs =>
    cases e
    obtain ⟨a, ys, rfl, h1, _⟩ := h.up.lst
    rcases h1 with (h1 | ⟨o, h1⟩) | ⟨o, its, m, h1, h2, _⟩
    · exact .base (.lst h1)
    · exact .base (.frz h1)
    · exact .kList h1 h2
  | _ => cases e
def dIsi (p : D → Bool) (d : D) : Res D := match tyS d with
  | some _ => .ok (.bl (p d))
  | none => .err
theorem dIsi_nx {p : D → Bool} : NoX1 (dIsi p) := fun a c h => by
  unfold dIsi at h
  split at h <;> cases h
section
variable {X : Cx} {W : WX} {L : List Nat} {n m k kr : Nat} {pos p p2 : Pos} {e : Expr} {f : EF}
theorem eo_isi {T : String} {pr : D → Bool} {t : Str} (hT : Kind T pr) (hg : Gl X "isinstance") (hm : X.mg "isinstance" = none) (hg2 : Gl X t) (hm2 : X.mg t = none) (hv2 : bootBuiltins t = some (.type T)) (he : EB X W L n e f)
    (hn2 : t ≠ "__name__" := by decide) (hdb2 : (t == ("__debug__" : Str)) = false := by decide)
    (hs1 : starEach [e, .Name t p2] X.env = (false, eval e X.env) :: starEach [.Name t p2] X.env := by rfl) (hs2 : starEach [.Name t p2] X.env = (false, eval (.Name t p2) X.env) :: starEach [] X.env := by rfl) (hpl : (backTo pos (starEach [.Name t p2] X.env)).any (·.1) = false := by rfl) :
    EO X W L k (.Call (.Name "isinstance" p) [e, .Name t p2] [] pos) (eUn (dIsi pr) f) :=
  PE.imp (pe_callB call_isi hg hm (by decide +kernel) (pa_cons he (pa_cons (pe_bltn (v := .ty T) hg2 hm2 hv2 rfl hn2 hdb2) pa_nil hs2) hs1) (by decide) (by decide) hs1 hpl) fun σ H Q ⟨ex, ρ, fp, I, o⟩ =>
    ⟨ex, ρ, fp, I, o.bind.mono fun d q v H1 e1 r1 => by
      obtain ⟨z, ez, qz⟩ := no_exc q (dIsi_nx d)
      unfold dIsi at ez
      split at ez
      · rename_i ty hty
        cases ez
        refine ⟨v, .ty T, .type ty, .type T, pr d, rfl, .ty T, r1.ty hty, kit_ty (hT d ty hty), ?_⟩
        exact QO.bl (K := X.K) (ex := ex) (k := k) fun v H2 fq e2 ro nd nw => qz v H2 fq (e1.trans e2) ro nd fun a ha => e1.free (nw a ha)
      · cases ez⟩
end

/-! ### lists that change -/
section
variable {X : Cx} {W : WX} {kr : RM} {n k : Nat} {Lb L : List Nat} {e : Expr} {f g : EF} {pos apos cpos npos : Pos} {x : Str} {i : Nat}
theorem own_list {K : PySem.W.Frag} {H0 H : Hp} {mb : Bool} {ex0 : CS mb} {G : List (D × V)} {ρ : Env} {σ : L2.St} {fp : Nat → List Addr} (S : SS K H0 ex0 G L ρ σ H fp) {xs : List D} (hρ : ρ.getD i none = some (.lst xs)) (hL : L.getD i 0 = k + 1) :
    ∃ a vs fps, σ[i]? = some (some (.ref a)) ∧ H a = some (.lst vs) ∧ vs.length ≤ sizeLine ∧ fp i = a :: fps.flatten ∧ P3 (RO K (exOf fp ex0) H k) xs vs fps := by
  obtain ⟨v, h1, h2⟩ := S.si.val i _ (getD_some hρ)
  rw [hL] at h2
  obtain ⟨a, vs, fps, o, rfl, ⟨⟨rfl, h3⟩, h4⟩, h5, h6⟩ := (RO.cn rfl).mp h2
  exact ⟨a, vs, fps, h1, h4, h3, h5, h6⟩
def sAppend (i : Nat) (f : EF) : SF := fun ρ => match ρ.getD i none with
  | some (.lst xs) => (f ρ).flow ρ fun d => if xs.length < sizeLine then .next (ρ.set i (some (.lst (xs ++ [d])))) else .err
  | _ => .err
theorem sj_append (hx' : X.N[i]? = some x) (hv : Vis X.env.scope x) (hL : L.getD i 0 = k + 1) (he : EO X W L k e f) (hd : (x == ("__debug__" : Str)) = false := by decide) (hcd : (x == ("__classdict__" : Str)) = false := by decide)
    (hbase : attributeBase (.Name x npos) "append" X.env (eval (.Name x npos) X.env) = eval (.Name x npos) X.env := by rfl)
    (hfew : ((backTo cpos (starEach [e] X.env)).all (fun x => !x.1) && (backToKw cpos (keywordEach [] X.env)).all (fun x => x.1.isSome)
      && decide ([e].length + ([] : List Keyword).length + (if ([] : List Keyword).isEmpty then 0 else 1) < 30)) = true := by rfl)
    (hline : (apos.endLine == cpos.line) = true := by rfl) (hs : starEach [e] X.env = (false, eval e X.env) :: starEach [] X.env := by rfl) (hplain : (backTo cpos (starEach [] X.env)).any (·.1) = false := by rfl)
    (hsw : swapsWith (.Call (.Attribute (.Name x npos) "append" apos) [e] [] cpos) none pos.line X.env = pure false := by rfl) :
    SJ X W kr Lb L L (.Expr (.Call (.Attribute (.Name x npos) "append" apos) [e] [] cpos) pos) (sAppend i f) :=
  PS.imp (ps_expr (pe_bm PySem.F.plainAttrs_list PySem.F.slot_list_append PySem.F.type_list_append mt_append (pe_var hx' hv hd hcd) (pa_cons he pa_nil hs) hbase hfew hline hs hplain) hsw) fun Dn σ H ⟨ex0, Gs, ρ, fp, S, o⟩ => by
    unfold sAppend at o
    cases hρ : ρ.getD i none with
    | none => rw [hρ] at o; exact o.elim
    | some d0 =>
      rw [hρ] at o
      cases d0 with
      | lst xs =>
        obtain ⟨a, vs, fps, h1, h2, h3, h4, h5⟩ := own_list S hρ hL
        refine ⟨.ref a, h1, .inl ⟨rfl, vs, .inl (.inl h2)⟩, _, ρ, fp, S.si, (flow_out S o).mono fun d q v H1 fq e1 ro nd nw => ?_⟩
        split at q
        · rename_i hz
          have hlv : xs.length = vs.length := P3.length h5
          have hH1 : H1 a = some (.lst vs) := e1 _ _ h2
          refine ⟨a, vs, v, rfl, rfl, hH1, by omega, ?_⟩
          have ha : a ∈ fp i := by rw [h4]; exact List.mem_cons_self
          have hafq : a ∉ fq := fun z => by
            have := nw a z
            rw [h2] at this
            cases this
          have hnod := S.si.nod i
          rw [h4] at hnod
          obtain ⟨ha2, hnod2⟩ := List.nodup_cons.mp hnod
          have hfq : ∀ b ∈ fps.flatten, b ∉ fq := fun b hb z => P3.there h5 hb (nw b z)
          have mem : ∀ b, b ∈ (fps ++ [fq]).flatten ↔ b ∈ fps.flatten ∨ b ∈ fq := fun b => by
            rw [List.flatten_append, List.mem_append]
            simp
          have kp : Keep (exOf fp ex0) H (L2.upd H1 a (.lst (vs ++ [v]))) := Keep.upd e1 h2 (fun _ q => nomatch q) (.inl ⟨i, ha⟩)
          have kp2 : Keep (fun b => b ∈ fq ∨ exOf fp ex0 b) H1 (L2.upd H1 a (.lst (vs ++ [v]))) := Keep.upd (Same.refl _) hH1 (fun _ q => nomatch q) (.inr (.inl ⟨i, ha⟩))
          refine q _ _ _ (S.upd e1 (i := i) (a := a) (o' := .lst (vs ++ [v])) (dN := .lst (xs ++ [d])) (fqN := a :: (fps ++ [fq]).flatten) h1 ha h2 (fun _ q => nomatch q) ?_ ?_ ?_)
          · have le1 : ∀ b, exOf (fun j => if j = i then a :: (fps ++ [fq]).flatten else fp j) ex0 b → b ∈ fq ∨ exOf fp ex0 b := fun b h => by
              rcases h with ⟨l, h⟩ | h
              · have h : b ∈ (if l = i then a :: (fps ++ [fq]).flatten else fp l) := h
                split at h
                · rcases List.mem_cons.mp h with h | h
                  · exact .inr (.inl ⟨i, by rw [h]; exact ha⟩)
                  · rcases (mem b).mp h with h | h
                    · exact .inr (.inl ⟨i, by rw [h4]; exact List.mem_cons_of_mem _ h⟩)
                    · exact .inl h
                · exact .inr (.inl ⟨l, h⟩)
              · exact .inr (.inr h)
            rw [hL]
            refine (RO.cn rfl).mpr ⟨a, vs ++ [v], fps ++ [fq], _, rfl, ⟨⟨rfl, by rw [List.length_append]; simp; omega⟩, upd_same⟩, rfl, P3.app ?_ (.cons ?_ .nil)⟩
            · refine P3.keep kp (fun b h => ?_) (fun b hb o q => ?_) h5
              · rcases le1 b h with h | h
                · exact .inr (nw b h)
                · exact .inl h
              · have hba : b ≠ a := fun z => ha2 (by rw [← z]; exact hb)
                rw [upd_ne hba]
                exact e1 _ _ q
            · refine RO.keep kp2 (fun b h => .inl (le1 b h)) (fun b hb o q => ?_) ro
              have hba : b ≠ a := fun z => hafq (by rw [← z]; exact hb)
              rw [upd_ne hba]
              exact q
          · refine List.nodup_cons.mpr ⟨fun z => ?_, ?_⟩
            · rcases (mem a).mp z with z | z
              · exact ha2 z
              · exact hafq z
            · rw [List.flatten_append]
              refine List.nodup_append.mpr ⟨hnod2, by simpa using nd, fun b hb c hc z => ?_⟩
              have hc : c ∈ fq := by simpa using hc
              exact hfq b hb (by rw [z]; exact hc)
          · intro b hb
            rcases List.mem_cons.mp hb with h | h
            · rw [h]
              exact .inl ha
            · rcases (mem b).mp h with h | h
              · exact .inl (by rw [h4]; exact List.mem_cons_of_mem _ h)
              · exact .inr (nw b h)
        · exact q.elim
      | _ => exact o.elim

/-! ### raise -/
def sRaise (c : Str) : SF := fun ρ => .exc c ρ
theorem sj_raise {L1 : List Nat} {y msg : Str} {j : Nat} {C : Addr} {p2 pos2 : Pos} {newId initId B : String} {bmB : List Value} (hc : X.calm = true) (tk : Takes X W) (F : ExcBaseFacts B newId initId bmB) (q : PySem.W.excIn X.K C bmB newId = true)
    (gC : X.mg y = some (.ref C)) (kC : PySem.W.keepIn X.K (.ref C) = true) (r : Raises X (.ref C)) (hg : Gl X y) (hdb : (y == ("__debug__" : Str)) = false := by decide) :
    SJ X W kr Lb L L1 (.Raise (some (.Call (.Name y npos) [.Constant (.str msg) j p2] [] pos)) none pos2) (sRaise y) :=
  PS.imp (ps_raise hc tk (pmk_own F q gC kC r hg hdb)) fun Dn σ H ⟨ex0, Gs, ρ, fp, S, o⟩ => o C gC σ H _ S.dropAll
end
end Px

namespace Px
open PySem PySem.Spec PyProof.Rows L2

/-! ### comparisons as tests -/
def asB : D → Res Bool
  | .bl b => .ok b
  | _ => .err
section
variable {X : Cx} {W : WX} {L : List Nat} {n n1 n2 m k kr : Nat} {pos p p2 : Pos} {a b c e : Expr} {f g h : EF} {o o' : D → D → Res D}
theorem PT.ofV {X : Cx} {e : Expr} {t : TE} {t' : TT} (h : PT X e (tTest t)) (m : ∀ σ H Q, t' σ H Q → tTest t σ H Q) : PT X e t' := PT.imp h m
theorem et_cmp {op : CmpOp} (ho : Op2 X n1 n2 0 (compareOp op) o) (nx : NoX2 o) (ha : EB X W L n1 a f) (hb : EB X W L n2 b g) (hm : behindInMarks op b = false) : ET X W L (.Compare a [op] [b] pos) (eUn asB (eOp o f g)) :=
  PT.imp (pt_cmpR ho ha hb hm) fun σ H Q ⟨ex, ρ, fp, I, q⟩ => by
    refine ⟨ex, ρ, fp, I, q.bind.bind.mono fun d1 q1 v1 H1 e1 r1 => ⟨ex, ρ, fp, I.same e1, (q1.bind.later e1).mono fun d2 q2 v2 H2 e2 r2 => ?_⟩⟩
    obtain ⟨d, ed, qd⟩ := no_exc q2 (nx d1 d2)
    refine ⟨ex, d1, d2, d, ((I.same e1).same e2).ext, r1.same e2, r2, ed, fun v H3 fq e3 ro nd nw => ?_⟩
    have r3 : RB X.K (fun a => a ∈ fq ∨ ex a) H3 0 d v := ro.borrow
    cases d with
    | bl t => exact ⟨t, r3.bl, qd H3 ((e1.trans e2).trans e3)⟩
    | _ => exact qd.elim
theorem et_chain {op op' : CmpOp} (ho : Op2 X 0 0 0 (compareOp op) o) (nx : NoX2 o) (ho' : Op2 X 0 0 0 (compareOp op') o') (nx' : NoX2 o') (ha : EB X W L 0 a f) (hb : EB X W L 0 b g) (hc : EB X W L 0 c h)
    (hm : lastMarks [op, op'] [b, c] = false := by with_unfolding_all rfl) : ET X W L (.Compare a [op, op'] [b, c] pos) (eUn asB (eChain o o' f g h)) :=
  PT.imp (pt_chain ho ho' ha hb hc hm) fun σ H Q ⟨ex, ρ, fp, I, q⟩ => by
    refine ⟨ex, ρ, fp, I, q.bind.bind.mono fun d1 q1 v1 H1 e1 r1 => ⟨ex, ρ, fp, I.same e1, (q1.bind.later e1).mono fun d2 q2 v2 H2 e2 r2 => ?_⟩⟩
    obtain ⟨d, ed, qd⟩ := no_exc q2.bind (nx d1 d2)
    refine ⟨ex, d1, d2, d, ((I.same e1).same e2).ext, r1.same e2, r2, ed, fun v H3 fq e3 ro nd nw => ?_⟩
    have r3 : RB X.K (fun a => a ∈ fq ∨ ex a) H3 0 d v := ro.borrow
    cases d with
    | bl t =>
      cases t with
      | true =>
        refine ⟨true, r3.bl, ?_⟩
        rw [if_pos rfl]
        refine ⟨ex, ρ, fp, ((I.same e1).same e2).same e3, ((Out.bind qd).later ((e1.trans e2).trans e3)).mono fun d3 q3 v4 H4 e4 r4 => ?_⟩
        obtain ⟨z, ez, qz⟩ := no_exc q3 (nx' d2 d3)
        refine ⟨ex, d2, d3, z, ((((I.same e1).same e2).same e3).same e4).ext, (r2.same e3).same e4, r4, ez, fun v H5 fq e5 ro nd nw => ?_⟩
        have r5 : RB X.K (fun a => a ∈ fq ∨ ex a) H5 0 z v := ro.borrow
        cases z with
        | bl t => exact ⟨t, r5.bl, qz H5 ((((e1.trans e2).trans e3).trans e4).trans e5)⟩
        | _ => exact qz.elim
      | false =>
        refine ⟨false, r3.bl, ?_⟩
        rw [if_neg Bool.false_ne_true]
        exact ⟨false, rfl, qd H3 ((e1.trans e2).trans e3)⟩
    | _ => exact qd.elim

/-! ### constants of the module -/
theorem eo_gint {x : Str} {i : Int} {t : Tok} (hg : Gl X x) (hm : X.mg x = some (.int i t)) (hd : (x == ("__debug__" : Str)) = false := by decide) : EO X W L k (.Name x pos) (eC (.int i)) :=
  PE.imp (pe_glob (v := .int i) hg hm ⟨t, rfl⟩ hd) fun σ H Q ⟨ex, ρ, fp, I, o⟩ => QO.int o
theorem eo_gstr {x i : Str} {t : Tok} (hg : Gl X x) (hm : X.mg x = some (.str i t)) (hd : (x == ("__debug__" : Str)) = false := by decide) : EO X W L k (.Name x pos) (eC (.str i)) :=
  PE.imp (pe_glob (v := .str i) hg hm ⟨t, rfl⟩ hd) fun σ H Q ⟨ex, ρ, fp, I, o⟩ => QO.str o

/-! ### {k: v, ..}[i] -/
def keyD : D → Option Key
  | .int i => some (.inl i)
  | .str s => some (.inr s)
  | _ => none
theorem keyD_v {K : PySem.W.Frag} {ex : AS} {H : Hp} {d : D} {v : V} {kk : Key} (r : RB K ex H n d v) (e : keyD d = some kk) : v = kV kk := by
  unfold keyD at e
  split at e
  · cases e
    exact r.int
  · cases e
    exact r.str
  · cases e
def evPairs : List (EF × EF) → Env → Res (List (Key × D))
  | [], _ => .ok []
  | p :: r, ρ => p.1 ρ >>= fun a => p.2 ρ >>= fun b => match keyD a with
    | some kk => evPairs r ρ >>= fun l => .ok ((kk, b) :: l)
    | none => .err
/-- the last one wins -/
def lookLast (l : List (Key × D)) (kk : Key) : Option D := (l.reverse.find? fun q => decide (q.1 = kk)).map (·.2)
def eDLit (ps : List (EF × EF)) (f : EF) : EF := fun ρ => evPairs ps ρ >>= fun l => f ρ >>= fun d => match keyD d with
  | some kk => (match lookLast l kk with
    | some r => .ok r
    | none => .err)
  | none => .err
abbrev trsOf (X : Cx) (W : WX) (L : List Nat) (ps : List (EF × EF)) : List (TE × TE) := ps.map fun q => (tB X W L 0 q.1, tB X W L 0 q.2)
abbrev EPs (X : Cx) (W : WX) (L : List Nat) (pos : Pos) (keys : List (Option Expr)) (values : List Expr) (ps : List (EF × EF)) : Prop := PPs X pos keys values (trsOf X W L ps)
theorem eps_nil : EPs X W L pos [] [] [] := pps_nil
theorem eps_cons {kx v : Expr} {ks : List (Option Expr)} {vs : List Expr} {ps : List (EF × EF)} (hk : EB X W L 0 kx f) (hv : EB X W L 0 v g) (hr : EPs X W L pos ks vs ps) : EPs X W L pos (some kx :: ks) (v :: vs) ((f, g) :: ps) := pps_cons hk hv hr
abbrev KR (K : PySem.W.Frag) (ex : AS) (H : Hp) (l : List (Key × D)) (kvs : List (Key × V)) : Prop := Paired (fun q z => q.1 = z.1 ∧ R K ex H q.2 z.2) l kvs
theorem pairs_imp {σ : L2.St} {ex : AS} {ρ : Env} {fp : Nat → List Addr} : ∀ (ps : List (EF × EF)) {H : Hp} {Q : List (V × V) → Hp → Prop}, SI X.K ex L ρ σ H fp →
    Out X W σ H (evPairs ps ρ) (fun l => ∀ kvs H', Same H H' → KR X.K ex H' l kvs → kvs.length = ps.length → Q (kvs.map fun kv => (kV kv.1, kv.2)) H') → tPairs (trsOf X W L ps) σ H Q
  | [], H, Q, I, o => o [] H (Same.refl H) .nil rfl
  | p :: r, H, Q, I, o => by
    refine ⟨ex, ρ, fp, I, o.bind.mono fun d1 q1 v1 H1 e1 r1 => ⟨ex, ρ, fp, I.same e1, (q1.bind.later e1).mono fun d2 q2 v2 H2 e2 r2 => ?_⟩⟩
    cases hk : keyD d1 with
    | none => rw [hk] at q2; exact q2.elim
    | some kk =>
      rw [hk] at q2
      refine pairs_imp r ((I.same e1).same e2) ((Out.later (Out.bind q2) (e1.trans e2)).mono fun l q3 kvs H3 e3 kr hl => ?_)
      have := q3 ((kk, v2) :: kvs) H3 ((e1.trans e2).trans e3) (.cons ⟨rfl, R.same e3 r2⟩ kr) (by rw [List.length_cons, List.length_cons, hl])
      rw [keyD_v r1 hk]
      exact this
theorem merge_val (kk : Key) : ∀ (kvs acc : List (Key × V)), valV (mergeK acc kvs) kk = match (kvs.reverse.find? fun q => decide (q.1 = kk)).map (·.2) with
    | some v => some v
    | none => valV acc kk
  | [], acc => rfl
  | p :: r, acc => by
    have e : mergeK acc (p :: r) = mergeK (putK acc p.1 p.2) r := rfl
    rw [e, merge_val kk r, List.reverse_cons, List.find?_append, valV_put]
    cases q : r.reverse.find? (fun q => decide (q.1 = kk)) with
    | some z => simp
    | none =>
      simp only [Option.map_none, Option.none_or, List.find?_cons, List.find?_nil]
      by_cases hp : p.1 = kk
      · simp [hp]
      · have : ¬ kk = p.1 := fun z => hp z.symm
        simp [hp, this]
theorem find_kr {K : PySem.W.Frag} {ex : AS} {H : Hp} {kk : Key} {d : D} : ∀ {l : List (Key × D)} {kvs : List (Key × V)}, KR K ex H l kvs → (l.find? fun q => decide (q.1 = kk)).map (·.2) = some d → ∃ v, (kvs.find? fun q => decide (q.1 = kk)).map (·.2) = some v ∧ R K ex H d v
  | _, _, .nil, h => by simp at h
  | a :: l, b :: kvs, .cons r t, h => by
    rw [List.find?_cons] at h ⊢
    by_cases hq : a.1 = kk
    · have hq2 : b.1 = kk := r.1 ▸ hq
      rw [decide_eq_true hq] at h
      rw [decide_eq_true hq2]
      have e : a.2 = d := by simpa using h
      rw [← e]
      exact ⟨b.2, rfl, r.2⟩
    · have hq2 : ¬ b.1 = kk := r.1 ▸ hq
      rw [decide_eq_false hq] at h
      rw [decide_eq_false hq2]
      exact find_kr t h
theorem eb_dlit {keys : List (Option Expr)} {values : List Expr} {ps : List (EF × EF)} {i : Expr} {dpos : Pos} (hu : X.A.units + 1 < cLine) (h : EPs X W L dpos keys values ps) (hi : EB X W L 0 i f) (hall : keys.all (·.isSome) = true := by rfl) (hl : keys.length = values.length := by rfl) (h0 : keys ≠ [] := by exact fun h => nomatch h) (h15 : keys.length ≤ 15 := by decide) (p15 : ps.length ≤ 15 := by decide)
    (hs : NoSl i := by intro _ _; rfl) : EB X W L 0 (.Subscript (.Dict keys values dpos) i pos) (eDLit ps f) :=
  PE.imp (pe_dget hu (pe_disp h hall hl h0 h15) hi hs) fun σ H Q ⟨ex, ρ, fp, I, o⟩ => fun pp hp => by
    have e0 : Same H (upd H pp (.dK [])) := same_upd hp
    have I0 : SI X.K (fun a => a = pp ∨ ex a) L ρ σ (upd H pp (.dK [])) fp := I.more e0 (fun a h => h.elim (fun z => .inr (by rw [z]; exact hp)) .inl) (fun a h => .inr h) (fun a h => h.elim (fun z => by rw [z, upd_same]; exact fun q => nomatch q) fun z q => I.ext a z (e0.free q))
    refine pairs_imp ps I0 ((Out.later o.bind e0).mono fun l q kvs H2 e2 kr hkl => ?_)
    have hp2 : H2 pp = some (.dK []) := e2 _ _ upd_same
    refine ⟨hp2, kvs, rfl, by omega, ?_⟩
    have e3 : Same H (upd H2 pp (.dK (mergeK [] kvs))) := fun b o hb => by
      have hne : b ≠ pp := fun z => by
        rw [z, hp] at hb
        cases hb
      rw [upd_ne hne]
      exact e2 _ _ (by rw [upd_ne hne]; exact hb)
    have kp : Keep (fun a => a = pp ∨ ex a) H2 (upd H2 pp (.dK (mergeK [] kvs))) := Keep.upd (Same.refl _) hp2 (fun _ q => nomatch q) (.inl rfl)
    refine ⟨ex, ρ, fp, I.same e3, ((Out.later (Out.bind q) e3)).mono fun d q2 y H4 e4 ry => ?_⟩
    cases hk : keyD d with
    | none => rw [hk] at q2; exact q2.elim
    | some kk =>
      rw [hk] at q2
      cases hf : lookLast l kk with
      | none =>
        simp only [hf] at q2
        exact q2.elim
      | some r =>
        simp only [hf] at q2
        obtain ⟨v, hv, rv⟩ := find_kr (Paired.revP kr) hf
        have hm : valV (mergeK [] kvs) kk = some v := by rw [merge_val, hv]
        refine ⟨pp, v, rfl, ?_, q2 v H4 (e3.trans e4) (R.same e4 (R.keep kp (fun _ z => .inl (.inr z)) r rv))⟩
        rw [keyD_v ry hk, ← hm]
        exact DGet.k (e4 _ _ upd_same)
end
end Px

namespace Px
open PySem PySem.Spec PyProof.Rows L2

theorem gl_of {X : Cx} {x : Str} (h : X.env.scope.names.lookup x = some .globalImplicit) : Gl X x := h
theorem hu65 {k : Nat} {A : Around} (hr : Room k A) : A.units + 65 < cLine := by
  have := hr.un
  omega
section
variable {X : Cx} {W : WX} {L : List Nat} {n n1 n2 m k : Nat} {kr : RM} {Lb : List Nat} {pos p : Pos} {a b e : Expr} {f g : EF}
theorem o_mul : Op2 X n m k (binaryOp .Mult) dMul := fun pins s σ H x y v u Q I rx ry h => by
  obtain ⟨ex, d1, d2, d, ext, r1, r2, e, q⟩ := h
  unfold dMul at e
  split at e
  · split at e
    · rename_i hm
      cases e
      exact L2.op_mul pins s σ H x y v u Q I rx ry ⟨_, _, r1.int, r2.int, by unfold mulOk at hm; rw [decide_eq_true_eq] at hm; exact hm, q.int⟩
    · cases e
  · cases e
/-- [..] * n of a new list -/
def dRep : D → D → Res D
  | .lst a, .int j => if a.length * j.toNat ≤ sizeLine ∧ j < 2 ^ 62 ∧ -(2 ^ 62) < j then .ok (.lst (List.replicate j.toNat a).flatten) else .err
  | _, _ => .err
theorem dRep_nx : NoX2 dRep := fun a b c h => by
  unfold dRep at h
  split at h <;> first | cases h | (split at h <;> cases h)
theorem shared_of1 {K : PySem.W.Frag} {ex : AS} {H : Hp} {ds : List D} {v : V} {fq : List Addr} (h : RO K ex H 1 (.lst ds) v fq) : ∃ a xs, v = .ref a ∧ H a = some (.lst xs) ∧ xs.length ≤ sizeLine ∧ fq = [a] ∧ Paired (R K ex H) ds xs := by
  obtain ⟨a, xs, fps, o, rfl, ⟨⟨rfl, hz⟩, hH⟩, rfl, h2⟩ := (RO.cn rfl).mp h
  obtain ⟨e, p⟩ := p3_zero h2
  exact ⟨a, xs, rfl, hH, hz, by rw [e], p⟩
theorem eo_rep (ha : EO X W L 1 a f) (hb : EB X W L 0 b g) : EO X W L 1 (.BinOp a .Mult b pos) (eOp dRep f g) :=
  PE.imp (pe_op op_rep ha hb) fun σ H Q ⟨ex, ρ, fp, I, q⟩ => by
    refine ⟨ex, ρ, fp, I, q.bind.mono fun d1 q1 v1 H1 fq e1 r1 nd nw => ?_⟩
    have e12 : ∀ {c : Addr}, (c ∈ fq ∨ ex c) → ex c ∨ H c = none := fun {c} h => h.elim (fun z => .inr (nw c z)) .inl
    have I' : SI X.K (fun c => c ∈ fq ∨ ex c) L ρ σ H1 fp := I.more e1 (fun c h => e12 h) (fun c h => .inr h) (fun c h => h.elim (fun z => r1.there c z) fun z q => I.ext c z (e1.free q))
    refine ⟨_, ρ, fp, I', (q1.bind.later e1).mono fun d2 q2 v2 H2 e2 r2 => ?_⟩
    obtain ⟨d, ed, qd⟩ := no_exc q2 (dRep_nx d1 d2)
    unfold dRep at ed
    split at ed
    · split at ed
      · rename_i xs j hc
        cases ed
        obtain ⟨c, ys, rfl, h1, h2, rfl, h3⟩ := shared_of1 (r1.same e2)
        have hl : xs.length = ys.length := h3.length
        refine ⟨c, j, ys, rfl, r2.int, h1, by omega, by omega, by rw [← hl]; exact hc.1, fun p hp => ?_⟩
        have h4 : Paired (R X.K ex H2) xs ys := h3.mono fun _ _ z => R.less (fun a h => .inl (.inr h)) z
        refine QO.lst (K := X.K) (ex := ex) (fun v H5 fr e5 ro nd nw => qd v H5 fr ((e1.trans e2).trans e5) ro nd fun a ha => (e1.trans e2).free (nw a ha)) (Paired.flattenP h4 j.toNat) hp ?_
        rw [PyProof.Rows.lm_len_rep_flat, Nat.mul_comm, ← hl]
        exact hc.1
      · cases ed
    · cases ed

/-! ### a, b = e1, e2 -/
def evL : List EF → Env → Res (List D)
  | [], _ => .ok []
  | f :: r, ρ => f ρ >>= fun d => evL r ρ >>= fun ds => .ok (d :: ds)
def sPar (is : List Nat) (fs : List EF) : SF := fun ρ => (evL fs ρ).flow ρ fun ds => .next (setL ρ is ds)
/-- values, each owned to a depth of its own -/
def AOs (K : PySem.W.Frag) (ex : AS) (H : Hp) : List Nat → List D → List V → List (List Addr) → Prop
  | [], [], [], [] => True
  | k :: ks, d :: ds, v :: vs, fq :: fqs => RO K ex H k d v fq ∧ AOs K ex H ks ds vs fqs
  | _, _, _, _ => False
def tAO (X : Cx) (W : WX) (L : List Nat) (ks : List Nat) (fs : List EF) : TA := fun σ H Q => ∃ ex ρ fp, SI X.K ex L ρ σ H fp ∧ Out X W σ H (evL fs ρ) fun ds => ∀ vs fqs H', Same H H' → AOs X.K (fun a => a ∈ fqs.flatten ∨ ex a) H' ks ds vs fqs → fqs.flatten.Nodup → (∀ a ∈ fqs.flatten, H a = none) → Q vs H'
abbrev EAO (X : Cx) (W : WX) (L : List Nat) (ks : List Nat) (es : List Expr) (fs : List EF) : Prop := PA X es (tAO X W L ks fs)
theorem AOs.keep {K : PySem.W.Frag} {ex ex' : AS} {H H' : Hp} (e : Same H H') (m : ∀ a, ex' a → ex a ∨ H a = none) : ∀ {ks : List Nat} {ds : List D} {vs : List V} {fqs : List (List Addr)}, AOs K ex H ks ds vs fqs → AOs K ex' H' ks ds vs fqs
  | [], [], [], [], _ => trivial
  | _ :: _, _ :: _, _ :: _, _ :: _, h => ⟨RO.keep (Keep.same e) m (fun a _ o q => e a o q) h.1, AOs.keep e m h.2⟩
variable {es : List Expr} {fs : List EF} {ks : List Nat}
theorem eas_nil : EAO X W L [] [] [] := PA.imp pa_nil fun σ H Q ⟨ex, ρ, fp, I, o⟩ => o [] [] H (Same.refl H) trivial List.nodup_nil fun a h => (by simp at h)
theorem eas_cons (h : EO X W L k e f) (t : EAO X W L ks es fs) (hs : starEach (e :: es) X.env = (false, eval e X.env) :: starEach es X.env := by rfl) : EAO X W L (k :: ks) (e :: es) (f :: fs) :=
  PA.imp (pa_cons h t hs) fun σ H Q ⟨ex, ρ, fp, I, o⟩ => ⟨ex, ρ, fp, I, (show Out X W σ H (f ρ >>= fun d => evL fs ρ >>= fun ds => .ok (d :: ds)) _ from o).bind.mono fun d1 q1 v1 H1 fq e1 r1 nd1 nw1 => by
    have I' : SI X.K (fun c => c ∈ fq ∨ ex c) L ρ σ H1 fp := I.more e1 (fun c h => h.elim (fun z => .inr (nw1 c z)) .inl) (fun c h => .inr h) (fun c h => h.elim (fun z => r1.there c z) fun z q => I.ext c z (e1.free q))
    refine ⟨_, ρ, fp, I', (q1.bind.later e1).mono fun ds q2 vs fqs H2 e2 r2 nd2 nw2 => ?_⟩
    refine q2 (v1 :: vs) (fq :: fqs) H2 (e1.trans e2) ⟨?_, r2.keep (Same.refl H2) fun a h => .inl ?_⟩ ?_ fun a ha => ?_
    · refine RO.keep (Keep.same e2) (fun a h => ?_) (fun a _ o q => e2 a o q) r1
      rw [List.flatten_cons, List.mem_append] at h
      rcases h with (h | h) | h
      · exact .inl (.inl h)
      · exact .inr (nw2 a h)
      · exact .inl (.inr h)
    · rw [List.flatten_cons, List.mem_append] at h
      rcases h with (h | h) | h
      · exact .inr (.inl h)
      · exact .inl h
      · exact .inr (.inr h)
    · rw [List.flatten_cons]
      refine List.nodup_append.mpr ⟨nd1, nd2, fun a ha b hb q => ?_⟩
      rw [← q] at hb
      exact r1.there a ha (nw2 a hb)
    · rw [List.flatten_cons, List.mem_append] at ha
      rcases ha with ha | ha
      · exact nw1 a ha
      · exact e1.free (nw2 a ha)⟩
/-- slots and what they own, over a fixed EX -/
structure VS (K : PySem.W.Frag) (EX : AS) (H : Hp) (L : List Nat) (ρ : Env) (σ : L2.St) (fp : Nat → List Addr) : Prop where
  len : ρ.length = σ.length
  val : ∀ i d, ρ[i]? = some (some d) → ∃ v, σ[i]? = some (some v) ∧ RO K EX H (L.getD i 0) d v (fp i)
  nod : ∀ i, (fp i).Nodup
  dis : ∀ i j a, a ∈ fp i → a ∈ fp j → i = j
def putF (fp : Nat → List Addr) (i : Nat) (fq : List Addr) : Nat → List Addr := fun j => if j = i then fq else fp j
theorem VS.put {K : PySem.W.Frag} {EX : AS} {H : Hp} {L : List Nat} {ρ : Env} {σ : L2.St} {fp : Nat → List Addr} (S : VS K EX H L ρ σ fp) {i k : Nat} {d : D} {v : V} {fq : List Addr} (r : RO K EX H k d v fq) (nd : fq.Nodup) (nw : ∀ a ∈ fq, ∀ j, a ∉ fp j) (hi : i < L.length) :
    VS K EX H (L.set i k) (ρ.set i (some d)) (σ.set i (some v)) (putF fp i fq) := by
  refine ⟨by rw [List.length_set, List.length_set]; exact S.len, fun j d' h => ?_, fun j => ?_, fun j l a h1 h2 => ?_⟩
  · unfold putF
    by_cases ej : i = j
    · subst ej
      by_cases hl : i < ρ.length
      · rw [List.getElem?_set_self hl] at h
        cases h
        exact ⟨v, List.getElem?_set_self (by rw [← S.len]; exact hl), by rw [getD_set_eq hi, if_pos rfl]; exact r⟩
      · rw [List.getElem?_eq_none (by rw [List.length_set]; omega)] at h
        cases h
    · rw [List.getElem?_set_ne ej] at h
      obtain ⟨u, h1, h2⟩ := S.val j d' h
      exact ⟨u, by rw [List.getElem?_set_ne ej]; exact h1, by rw [getD_set_ne ej, if_neg (fun q => ej q.symm)]; exact h2⟩
  · unfold putF
    split
    · exact nd
    · exact S.nod j
  · unfold putF at h1 h2
    split at h1
    · split at h2
      · rename_i a1 a2
        rw [a1, a2]
      · exact absurd h2 (nw a h1 l)
    · split at h2
      · exact absurd h1 (nw a h2 j)
      · exact S.dis j l a h1 h2
def setLv : List Nat → List Nat → List Nat → List Nat
  | L, i :: is, k :: ks => setLv (L.set i k) is ks
  | L, _, _ => L
def setV (σ : L2.St) : List Nat → List V → L2.St
  | i :: is, v :: vs => setV (σ.set i (some v)) is vs
  | _, _ => σ
theorem setLv_length : ∀ (L is ks : List Nat), (setLv L is ks).length = L.length
  | L, [], _ => by rw [setLv]; intro _ _ _ _ h; cases h
  | L, _ :: _, [] => by rw [setLv]; intro _ _ _ _ _ h; cases h
  | L, i :: is, k :: ks => by rw [setLv, setLv_length, List.length_set]
theorem VS.puts {K : PySem.W.Frag} {EX : AS} {H : Hp} : ∀ (is ks : List Nat) (ds : List D) (vs : List V) (fqs : List (List Addr)) {L : List Nat} {ρ : Env} {σ : L2.St} {fp : Nat → List Addr}, VS K EX H L ρ σ fp → AOs K EX H ks ds vs fqs → fqs.flatten.Nodup → (∀ a ∈ fqs.flatten, ∀ j, a ∉ fp j) →
    is.length = ks.length → (∀ i ∈ is, i < L.length) → ∃ fp', VS K EX H (setLv L is ks) (setL ρ is ds) (setV σ is vs) fp' ∧ ∀ j a, a ∈ fp' j → a ∈ fp j ∨ a ∈ fqs.flatten
  | [], ks, ds, vs, fqs, L, ρ, σ, fp, S, _, _, _, _, _ => ⟨fp, by
      have e1 : setLv L [] ks = L := by cases ks <;> rfl
      have e2 : setL ρ [] ds = ρ := by cases ds <;> rfl
      have e3 : setV σ [] vs = σ := by cases vs <;> rfl
      rw [e1, e2, e3]
      exact S, fun j a h => .inl h⟩
  | i :: is, [], _, _, _, _, _, _, _, _, _, _, _, hl, _ => by simp at hl
  | i :: is, k :: ks, [], _, _, _, _, _, _, _, h, _, _, _, _ => by simp [AOs] at h
  | i :: is, k :: ks, d :: ds, [], _, _, _, _, _, _, h, _, _, _, _ => by simp [AOs] at h
  | i :: is, k :: ks, d :: ds, v :: vs, [], _, _, _, _, _, h, _, _, _, _ => by simp [AOs] at h
  | i :: is, k :: ks, d :: ds, v :: vs, fq :: fqs, L, ρ, σ, fp, S, h, nd, nw, hl, hi => by
    rw [List.flatten_cons] at nd nw
    obtain ⟨n1, n2, n3⟩ := List.nodup_append.mp nd
    have S1 := S.put (i := i) h.1 n1 (fun a ha => nw a (List.mem_append_left _ ha)) (hi i List.mem_cons_self)
    obtain ⟨fp', S2, m⟩ := VS.puts is ks ds vs fqs S1 h.2 n2 (fun a ha j q => by
      unfold putF at q
      split at q
      · exact n3 a q a ha rfl
      · exact nw a (List.mem_append_right _ ha) j q) (by simpa using hl) (fun l hl => by
        rw [List.length_set]
        exact hi l (List.mem_cons_of_mem _ hl))
    refine ⟨fp', S2, fun j a q => ?_⟩
    rw [List.flatten_cons, List.mem_append]
    rcases m j a q with q | q
    · unfold putF at q
      split at q
      · exact .inr (.inl q)
      · exact .inl q
    · exact .inr (.inr q)
theorem AOs.there {K : PySem.W.Frag} {ex : AS} {H : Hp} {a : Addr} : ∀ {ks : List Nat} {ds : List D} {vs : List V} {fqs : List (List Addr)}, AOs K ex H ks ds vs fqs → a ∈ fqs.flatten → H a ≠ none
  | [], [], [], [], _, h => by simp at h
  | _ :: _, _ :: _, _ :: _, _ :: _, h, m => by
    rw [List.flatten_cons, List.mem_append] at m
    rcases m with m | m
    · exact h.1.there a m
    · exact AOs.there h.2 m
theorem slf_setV {mb : Bool} {ex0 : CS mb} : ∀ (is : List Nat) (vs : List V) {σ : L2.St}, (∀ v, ex0.sv = some v → σ[0]? = some (some v)) → (∀ i ∈ is, ex0.sv = none ∨ i ≠ 0) → ∀ v, ex0.sv = some v → (setV σ is vs)[0]? = some (some v)
  | [], _, _, h, _ => h
  | _ :: _, [], _, h, _ => h
  | i :: is, u :: vs, σ, h, h0 => by
    refine slf_setV is vs (σ := σ.set i (some u)) (fun v e => ?_) fun j hj => h0 j (List.mem_cons_of_mem _ hj)
    rcases h0 i List.mem_cons_self with z | z
    · rw [z] at e
      cases e
    · rw [List.getElem?_set_ne z]
      exact h v e
theorem SS.puts {K : PySem.W.Frag} {H0 H H1 : Hp} {mb : Bool} {ex0 : CS mb} {G : List (D × V)} {L : List Nat} {ρ : Env} {σ : L2.St} {fp : Nat → List Addr} (S : SS K H0 ex0 G L ρ σ H fp) (e : Same H H1) {is ks : List Nat} {ds : List D} {vs : List V} {fqs : List (List Addr)}
    (r : AOs K (fun a => a ∈ fqs.flatten ∨ exOf fp ex0 a) H1 ks ds vs fqs) (nd : fqs.flatten.Nodup) (nw : ∀ a ∈ fqs.flatten, H a = none) (hl : is.length = ks.length) (hi : ∀ i ∈ is, i < L.length) (h0 : ∀ i ∈ is, ex0.sv = none ∨ i ≠ 0) :
    ∃ fp', SS K H0 ex0 G (setLv L is ks) (setL ρ is ds) (setV σ is vs) H1 fp' := by
  have V0 : VS K (fun a => a ∈ fqs.flatten ∨ exOf fp ex0 a) H1 L ρ σ fp := ⟨S.si.len, fun i d h => by
    obtain ⟨v, h1, h2⟩ := S.si.val i d h
    refine ⟨v, h1, RO.keep (Keep.same e) (fun a q => ?_) (fun a _ o q => e a o q) h2⟩
    rcases q with q | q
    · exact .inr (nw a q)
    · exact .inl q, S.si.nod, S.si.dis⟩
  obtain ⟨fp', V1, m⟩ := VS.puts is ks ds vs fqs V0 r nd (fun a ha j q => S.si.ext a (.inl ⟨j, q⟩) (nw a ha)) hl hi
  refine ⟨fp', S.re e V1.len (fun i d h => ?_) V1.nod V1.dis (fun i a h => ?_) (fun i a h => ?_) (slf_setV is vs S.slf h0)⟩
  · obtain ⟨v, h1, h2⟩ := V1.val i d h
    refine ⟨v, h1, h2.less fun a q => .inl ?_⟩
    rcases q with ⟨j, q⟩ | q
    · rcases m j a q with q | q
      · exact .inr (.inl ⟨j, q⟩)
      · exact .inl q
    · exact .inr (.inr q)
  · rcases m i a h with q | q
    · exact .inl q
    · exact .inr (nw a q)
  · rcases m i a h with q | q
    · exact fun z => S.si.ext a (.inl ⟨i, q⟩) (e.free z)
    · exact r.there q
theorem AOs.lens {K : PySem.W.Frag} {ex : AS} {H : Hp} : ∀ {ks : List Nat} {ds : List D} {vs : List V} {fqs : List (List Addr)}, AOs K ex H ks ds vs fqs → vs.length = ks.length
  | [], [], [], [], _ => rfl
  | _ :: _, _ :: _, _ :: _, _ :: _, h => by rw [List.length_cons, List.length_cons, AOs.lens h.2]
theorem sj_par2 {i j k1 k2 : Nat} {x y : Str} {px py pt : Pos} {kt kt2 : Nat} {pt2 : Pos} (hc : X.calm = true) (hN : X.N.Nodup) (hi : X.N[i]? = some x) (hj : X.N[j]? = some y) (hij : i ≠ j) (hx : X.env.scope.names.lookup x = some .local) (hy : X.env.scope.names.lookup y = some .local)
    (h1 : EO X W L k1 a f) (h2 : EO X W L k2 b g) (li : i < L.length) (lj : j < L.length)
    (hw : swappedStores [.Tuple [.Name x px, .Name y py] kt pt] (.Tuple [a, b] kt2 pt2) X.env = pure (some [x, y])) (hs : swapsWithSole [.Tuple [.Name x px, .Name y py] kt pt] (.Tuple [a, b] kt2 pt2) pos.line X.env = pure false := by rfl)
    (hs1 : starEach [a, b] X.env = (false, eval a X.env) :: starEach [b] X.env := by rfl) (hs2 : starEach [b] X.env = (false, eval b X.env) :: starEach [] X.env := by rfl) (h0 : kr.b = false ∨ ∀ q ∈ [i, j], q ≠ 0 := by first | exact .inl rfl | exact .inr (by decide)) :
    SJ X W kr Lb L (setLv L [i, j] [k1, k2]) (.Assign [.Tuple [.Name x px, .Name y py] kt pt] (.Tuple [a, b] kt2 pt2) pos) (sPar [i, j] [f, g]) :=
  PS.imp (ps_par hc hN hi hj hij hx hy (eas_cons h1 (eas_cons h2 eas_nil hs2) hs1) hw hs) fun Dn σ H ⟨ex0, Gs, ρ, fp, S, o⟩ => by
    refine ⟨_, ρ, fp, S.si, (flow_out S o).mono fun ds q vs fqs H1 e1 r nd nw => ?_⟩
    obtain ⟨fp', S'⟩ := S.puts (is := [i, j]) e1 r nd nw rfl (fun l hl => by
      rcases List.mem_cons.mp hl with rfl | hl
      · exact li
      · rw [List.mem_singleton.mp hl]
        exact lj) (h0_all ex0 h0)
    have hl := r.lens
    clear nd nw r
    match vs, hl with
    | [v1, v2], _ => exact ⟨v1, v2, rfl, q _ _ _ S'⟩
/-- .. where the model makes a tuple and unpacks it -/
theorem gNames_vs {Q : L2.St → Hp → Prop} {H : Hp} : ∀ (is : List Nat) (vs : List V) (σ : L2.St), is.length = vs.length → Q (setV σ is vs) H → gNames is vs σ H Q
  | [], [], _, _, h => ⟨rfl, h⟩
  | [], _ :: _, _, e, _ => by simp at e
  | _ :: _, [], _, e, _ => by simp at e
  | i :: is, v :: vs, σ, e, h => ⟨v, vs, rfl, gNames_vs is vs _ (by simpa using e) h⟩
theorem sj_parT {is : List Nat} {tg : Expr} {tn : Nat} {tpos : Pos} (hg : PG X tg (gTup X.K is.length (gNames is))) (ha : EAO X W L ks es fs) (hl : is.length = ks.length) (hi : ∀ i ∈ is, i < L.length) (hz : ks.length ≤ sizeLine := by decide) (hs : swapsWithSole [tg] (.Tuple es tn tpos) pos.line X.env = pure false := by rfl) (hw : swappedStores [tg] (.Tuple es tn tpos) X.env = pure none := by with_unfolding_all rfl)
    (h1 : (assignEach [tg] X.env).map (·.2) = [assign tg X.env] := by rfl) (h0 : kr.b = false ∨ ∀ q ∈ is, q ≠ 0 := by first | exact .inl rfl | exact .inr (by decide)) : SJ X W kr Lb L (setLv L is ks) (.Assign [tg] (.Tuple es tn tpos) pos) (sPar is fs) :=
  PS.imp (ps_asg (pe_tup ha) hg hs hw h1) fun Dn σ H ⟨ex0, Gs, ρ, fp, S, o⟩ => by
    refine ⟨_, ρ, fp, S.si, (flow_out S o).mono fun ds q vs fqs H1 e1 r nd nw => ⟨by rw [r.lens]; exact hz, fun p hp => ?_⟩⟩
    have e2 : Same H1 (L2.upd H1 p (.tup vs)) := same_upd hp
    obtain ⟨fp', S'⟩ := S.puts (is := is) (e1.trans e2) (r.keep e2 fun a h => .inl h) nd nw hl hi (h0_all ex0 h0)
    exact ⟨p, vs, rfl, .inl (.inl upd_same), by rw [r.lens, hl], gNames_vs is vs σ (by rw [r.lens, hl]) (q _ _ _ S')⟩
end
end Px

namespace Px
open PySem PySem.Spec PyProof.Rows L2
/-! ### the end -/
theorem rl_ints {K : PySem.W.Frag} {ex : AS} {H : Hp} : ∀ ns : List Int, RL K ex H (ns.map .int) (ns.map V.int)
  | [] => by rw [List.map_nil, List.map_nil, RL]
  | n :: ns => by
    rw [List.map_cons, List.map_cons, RL]
    exact ⟨_, _, rfl, by rw [R], rl_ints ns⟩
/-- a law's promise: handed a list of ints it answers True -/
theorem spec_law {K : PySem.W.Frag} {mg : Str → Option Value} {C : List D → Res D} {H : Hp} {a : Addr} {ns : List Int} (h : C [.lst (ns.map .int)] = .ok (.bl true)) (hl : ns.length ≤ sizeLine) (hS : SqL K H a (ns.map V.int)) :
    Spec K mg 1 0 C [.ref a] H (fun v _ => v = .bl true) (fun _ _ _ => False) := by
  refine ⟨rfl, fun _ => False, [.lst (ns.map .int)], fun _ z => z.elim, .cons ?_ .nil, ?_⟩
  · rw [R]
    exact ⟨a, _, rfl, (CnR.of hS (by rw [List.length_map]; exact hl)).x (fun z => z), rl_ints ns⟩
  · rw [h]
    intro v H' fq e r nd nw
    obtain ⟨_, r⟩ := r
    rw [R] at r
    exact r
/-- how a def without defaults binds -/
def BA (fd : FuncData) (ps : List Str) : Prop := ∀ (s : Shared) (us : List Value), us.length = ps.length → BindsTo s fd ⟨us, []⟩ (ps.zip us)
theorem BA.b {K : PySem.W.Frag} {fd : FuncData} {ps : List Str} (h : BA fd ps) : Binds K fd ps [] := fun s us _ hl => by
  rw [List.append_nil] at hl ⊢
  exact h s us hl
theorem txt_fun {K : PySem.W.Frag} {fa : List He.Fa} {fn : List He.FnD} (c : He.SaysE fa fn K) (i j : Nat) {x : Str} {ps : List Str} {st : Stmt} (h : fn[i]? = some ⟨(x, none), x, x, defArgs st, defBody st, defScope st⟩) (hk : fa[j]? = some (.keep x))
    (hb : ∀ (kV doc pm : Value) (an : Option Addr) (cdv ct : Value) (us : List Value), us.length = ps.length → bindArgs (PySem.W.fnOf x x (defArgs st) (defBody st) (defScope st) .none kV doc pm an cdv ct) ⟨us, []⟩ = pure (ps.zip us)) :
    ∃ fd, Fun K x x st (He.ga K x) fd ∧ BA fd ps := by
  obtain ⟨oc, od, osl, kV, doc, pm, an, cdv, ct, l, q⟩ := c.def_ i h
  have F := fun_mk (K := K) (st := st) (x := x) (qual := x) l q (He.keep_ok (c.fact j hk))
  exact ⟨_, F, fun s us hl => .of_eq (hb kV doc pm an cdv ct us hl)⟩
theorem txt_exc {K : PySem.W.Frag} {fa : List He.Fa} {fn : List He.FnD} {h : Heap} {mg : Str → Option Value} (X : K.In h) (G : h.Ns mainGlobals mg) (c : He.SaysE fa fn K) (i j : Nat) {x : Str} (h1 : fa[i]? = some (.glo x)) (h2 : fa[j]? = some (.exc x)) :
    mg x = some (.ref (He.ga K x)) ∧ PySem.W.excIn K (He.ga K x) He.veBase "ValueError.__new__" = true ∧ PySem.W.keepIn K (.ref (He.ga K x)) = true ∧ PySem.W.subIn K (.ref (He.ga K x)) (.type "BaseException") = some true ∧ PySem.W.typeIn K (.ref (He.ga K x)) = some (.type "type") :=
  ⟨He.glo_ok X G (c.fact i h1), He.exc_ok (c.fact j h2)⟩
/-- a law over a head by facts, exceptions let -/
theorem walk_px {l : PySem.W.OpenLaw} {n k : Nat} {q : Program} {loose : List Str} {XP : (Str → Option Value) → Heap → Prop} {YP : World → Heap → Prop} {d : DefRec} {x : Str}
    (hn : l.most = some n) (hn2 : n ≤ sizeLine) (hdf : d.params.defaults = []) (hr : Room k callerA)
    (F : ∀ (w : World) (mg : Str → Option Value) (fa : Addr) (h : Heap), YP w h → h.Ns mainGlobals mg → mg d.name = some (.ref fa) →
      ∃ (K : PySem.W.Frag) (fd : FuncData) (sp : Sp), K.In h ∧ (∀ (s : Shared) (u : Value), BindsTo s fd ⟨[u], []⟩ [(x, u)]) ∧
        (∀ (H : Hp) (a : Addr) (ns : List Int), ns.length ≤ n → (∀ z ∈ ns, Builtin.Int.intBits z ≤ 1048576) → Only H → SqL K H a (ns.map V.int) → sp [.ref a] H (fun v _ => v = .bl true) fun _ _ _ => False) ∧
        ∀ base : Heap, K.In base → base.Ns mainGlobals mg → FnOk l.prog w K mg base (L2.CX l.prog w) k fa fd [x] sp) :
    PySem.W.WalkO q loose XP YP l.row.toRowW d [] (fun f vs => PySem.call f vs) := by
  refine Att.attach_callB hn hdf fun w s₀ s₁ mg mb fa o pm cd doc a vs ns G Y ho hd hcd hmg hobj hints hlen hbits hg => ?_
  obtain ⟨K, fd, sp, KX, hb, hsp, hF⟩ := F w mg fa _ Y G.T.g hmg
  exact law_call KX G.T.g G.T.b G.T.builtins G.T.nolimit hg hobj hints (Nat.le_trans hlen hn2) hr hF hb (fun H hO hS => hsp H a ns hlen hbits hO hS) fun H e s' ⟨_, _, _, _, _, _, _, _, _, _, _, _, z⟩ => z
end Px

namespace Px
open PySem PySem.Spec PyProof.Rows L2
/-! ### plain reading: tools -/
@[simp] theorem x_eC (d : D) (ρ : Env) : eC d ρ = .ok d := id rfl
@[simp] theorem x_aNil (ρ : Env) : aNil ρ = .ok [] := id rfl
@[simp] theorem x_aCons (f : EF) (g : Env → Res (List D)) (ρ : Env) : aCons f g ρ = f ρ >>= fun d => g ρ >>= fun ds => .ok (d :: ds) := id rfl
@[simp] theorem x_eTup (fs : Env → Res (List D)) (ρ : Env) : eTup fs ρ = fs ρ >>= fun ds => .ok (.tup ds) := id rfl
@[simp] theorem x_eLst (fs : Env → Res (List D)) (ρ : Env) : eLst fs ρ = fs ρ >>= fun ds => .ok (.lst ds) := id rfl
@[simp] theorem x_eOp (o : D → D → Res D) (f g : EF) (ρ : Env) : eOp o f g ρ = f ρ >>= fun a => g ρ >>= fun b => o a b := id rfl
@[simp] theorem x_eUn {α : Type} (o : D → Res α) (f : EF) (ρ : Env) : eUn o f ρ = f ρ >>= o := id rfl
@[simp] theorem x_eCall (o : List D → Res D) (f : Env → Res (List D)) (ρ : Env) : eCall o f ρ = f ρ >>= o := id rfl
@[simp] theorem x_eIf (t : Env → Res Bool) (f g : EF) (ρ : Env) : eIf t f g ρ = t ρ >>= fun b => if b = true then f ρ else g ρ := id rfl
@[simp] theorem x_eNot (f : EF) (ρ : Env) : eNot f ρ = f ρ >>= fun d => dTru d >>= fun b => .ok (.bl (!b)) := id rfl
@[simp] theorem x_eAnd (f g : EF) (ρ : Env) : eAnd f g ρ = f ρ >>= fun d => dTru d >>= fun b => if b = true then g ρ else .ok d := id rfl
@[simp] theorem x_eOr (f g : EF) (ρ : Env) : eOr f g ρ = f ρ >>= fun d => dTru d >>= fun b => if b = true then .ok d else g ρ := id rfl
@[simp] theorem x_bAnd (f g : Env → Res Bool) (ρ : Env) : bAnd f g ρ = f ρ >>= fun b => if b = true then g ρ else .ok false := id rfl
@[simp] theorem x_bOr (f g : Env → Res Bool) (ρ : Env) : bOr f g ρ = f ρ >>= fun b => if b = true then .ok true else g ρ := id rfl
@[simp] theorem x_bNot (f : Env → Res Bool) (ρ : Env) : bNot f ρ = f ρ >>= fun b => .ok (!b) := id rfl
@[simp] theorem x_bYes (ρ : Env) : bYes ρ = .ok true := id rfl
@[simp] theorem x_iSeq (f : EF) (ρ : Env) : iSeq f ρ = f ρ >>= dItems := id rfl
@[simp] theorem x_iCall (o : List D → Res (List D)) (fs : Env → Res (List D)) (ρ : Env) : iCall o fs ρ = fs ρ >>= o := id rfl
@[simp] theorem x_sNext (ρ : Env) : sNext ρ = .next ρ := id rfl
@[simp] theorem x_sRet (f : EF) (ρ : Env) : sRet f ρ = (f ρ).flow ρ fun d => .ret d := id rfl
@[simp] theorem x_sRetN (ρ : Env) : sRetN ρ = .ret .non := id rfl
@[simp] theorem x_sDrop (f : EF) (ρ : Env) : sDrop f ρ = (f ρ).flow ρ fun _ => .next ρ := id rfl
@[simp] theorem x_sIf (t : Env → Res Bool) (F G : SF) (ρ : Env) : sIf t F G ρ = (t ρ).flow ρ fun b => if b = true then F ρ else G ρ := id rfl
@[simp] theorem x_sSet (i : Nat) (f : EF) (ρ : Env) : sSet i f ρ = (f ρ).flow ρ fun d => .next (ρ.set i (some d)) := id rfl
def resF (r : Res Env) : Flow := match r with
  | .ok ρ' => .next ρ'
  | _ => .err
@[simp] theorem resF_ok (ρ : Env) : resF (.ok ρ) = .next ρ := id rfl
@[simp] theorem x_sUnp (gf : Env → D → Res Env) (f : EF) (ρ : Env) : sUnp gf f ρ = (f ρ).flow ρ fun d => resF (gf ρ d) := by
  unfold sUnp
  cases f ρ with
  | ok d =>
    show sUnp.noX' _ = resF _
    cases gf ρ d <;> rfl
  | _ => rfl
@[simp] theorem x_sBreak (ρ : Env) : sBreak ρ = .brk ρ := id rfl
@[simp] theorem x_sCont (ρ : Env) : sCont ρ = .cont ρ := id rfl
@[simp] theorem x_sPar (is : List Nat) (fs : List EF) (ρ : Env) : sPar is fs ρ = (evL fs ρ).flow ρ fun ds => .next (setL ρ is ds) := id rfl
@[simp] theorem x_sRaise (c : Str) (ρ : Env) : sRaise c ρ = .exc c ρ := id rfl
@[simp] theorem x_gfName (i : Nat) (ρ : Env) (d : D) : gfName i ρ d = .ok (ρ.set i (some d)) := id rfl
@[simp] theorem x_gfTup (is : List Nat) (ρ : Env) (ds : List D) : gfTup is ρ (.tup ds) = if ds.length = is.length then .ok (setL ρ is ds) else .err := id rfl
@[simp] theorem x_setL0 (ρ : Env) (ds : List D) : setL ρ [] ds = ρ := by unfold setL; rfl
@[simp] theorem x_setL1 (ρ : Env) (i : Nat) (is : List Nat) (d : D) (ds : List D) : setL ρ (i :: is) (d :: ds) = setL (ρ.set i (some d)) is ds := id rfl
@[simp] theorem x_evL0 (ρ : Env) : evL [] ρ = .ok [] := id rfl
@[simp] theorem x_evL1 (f : EF) (r : List EF) (ρ : Env) : evL (f :: r) ρ = f ρ >>= fun d => evL r ρ >>= fun ds => .ok (d :: ds) := id rfl
@[simp] theorem x_wipe0 (ρ : Env) : wipeE ρ [] = ρ := id rfl
@[simp] theorem x_wipe1 (ρ : Env) (v : Nat) (vs : List Nat) : wipeE ρ (v :: vs) = (wipeE ρ vs).set v none := id rfl
theorem x_sFor (fI : Px.Env → Res (List D)) (gf : Px.Env → D → Res Px.Env) (F : SF) (ρ : Px.Env) : sFor fI gf F ρ = (fI ρ).flow ρ fun ds => forE gf F ds ρ := id rfl
@[simp] theorem x_oNone (ρ : Env) : oNone ρ = .ok none := id rfl
def asI : D → Res (Option Int)
  | .int i => .ok (some i)
  | _ => .err
@[simp] theorem asI_int (i : Int) : asI (.int i) = .ok (some i) := id rfl
@[simp] theorem x_oSome (f : EF) (ρ : Env) : oSome f ρ = f ρ >>= asI := by
  unfold oSome
  cases f ρ with
  | ok d => cases d <;> rfl
  | _ => rfl
@[simp] theorem x_eSl (f : EF) (lo hi : Env → Res (Option Int)) (ρ : Env) : eSl f lo hi ρ = f ρ >>= fun d => lo ρ >>= fun a => hi ρ >>= fun b => dSl d a b := id rfl
@[simp] theorem x_dSl_l (xs : List D) (a b : Option Int) : dSl (.lst xs) a b = .ok (.lst (cut xs a b)) := id rfl
@[simp] theorem x_dSl_t (xs : List D) (a b : Option Int) : dSl (.tup xs) a b = .ok (.tup (cut xs a b)) := id rfl
def vD (o : Option D) : Res D := match o with
  | some d => .ok d
  | none => .err
@[simp] theorem vD_some (d : D) : vD (some d) = .ok d := id rfl
@[simp] theorem x_eVar (i : Nat) (ρ : Env) : eVar i ρ = vD (ρ.getD i none) := id rfl
@[simp] theorem x_asB (b : Bool) : asB (.bl b) = .ok b := id rfl
@[simp] theorem x_tru_n : dTru .non = .ok false := id rfl
@[simp] theorem x_tru_b (b : Bool) : dTru (.bl b) = .ok b := id rfl
@[simp] theorem x_tru_i (i : Int) : dTru (.int i) = .ok (i != 0) := id rfl
@[simp] theorem x_tru_t (xs : List D) : dTru (.tup xs) = .ok (!xs.isEmpty) := id rfl
@[simp] theorem x_tru_l (xs : List D) : dTru (.lst xs) = .ok (!xs.isEmpty) := id rfl
@[simp] theorem x_add (i j : Int) : dAdd (.int i) (.int j) = .ok (.int (i + j)) := id rfl
@[simp] theorem x_add_l (a b : List D) : dAdd (.lst a) (.lst b) = if a.length + b.length ≤ sizeLine then .ok (.lst (a ++ b)) else .err := id rfl
@[simp] theorem x_add_t (a b : List D) : dAdd (.tup a) (.tup b) = if a.length + b.length ≤ sizeLine then .ok (.tup (a ++ b)) else .err := id rfl
@[simp] theorem x_sub (i j : Int) : dSub (.int i) (.int j) = .ok (.int (i - j)) := id rfl
@[simp] theorem x_mod (i j : Int) (h : 0 < j) : dMod (.int i) (.int j) = .ok (.int (i % j)) := by
  show (if _ then _ else _) = _
  rw [if_pos h]
@[simp] theorem x_cmp (p : Int → Int → Bool) (i j : Int) : dCmpI p (.int i) (.int j) = .ok (.bl (p i j)) := id rfl
@[simp] theorem x_len_t (xs : List D) : fLen [.tup xs] = .ok (.int xs.length) := id rfl
@[simp] theorem x_len_l (xs : List D) : fLen [.lst xs] = .ok (.int xs.length) := id rfl
@[simp] theorem x_tup_t (xs : List D) : fTuple [.tup xs] = .ok (.tup xs) := id rfl
@[simp] theorem x_tup_l (xs : List D) : fTuple [.lst xs] = .ok (.tup xs) := id rfl
@[simp] theorem x_list_t (xs : List D) : fList [.tup xs] = .ok (.lst xs) := id rfl
@[simp] theorem x_list_l (xs : List D) : fList [.lst xs] = .ok (.lst xs) := id rfl
@[simp] theorem x_int_i (i : Int) : fInt [.int i] = .ok (.int i) := id rfl
@[simp] theorem x_abs (i : Int) : fAbs [.int i] = .ok (.int (if i < 0 then -i else i)) := id rfl
@[simp] theorem x_items_t (xs : List D) : dItems (.tup xs) = .ok xs := id rfl
@[simp] theorem x_items_l (xs : List D) : dItems (.lst xs) = .ok xs := id rfl
@[simp] theorem x_pow (i : Int) (j : Int) (h : 0 ≤ j ∧ j ≤ 1000000 ∧ i.natAbs < 2 ^ 64) : dPow (.int i) (.int j) = .ok (.int (i ^ j.toNat)) := by
  show (if _ then _ else _) = _
  rw [if_pos h]
theorem sl_eq : sizeLine = 16777216 := sizeLine_eq
@[simp] theorem sKill_x (is : List Nat) (F : SF) (ρ : Env) : sKill is F ρ = F (wipeE ρ is) := id rfl
theorem sSeq_of {F G : SF} {ρ ρ' : Env} (h : F ρ = .next ρ') : sSeq F G ρ = G ρ' := by
  unfold sSeq
  rw [h]
theorem sSeq_ret {F G : SF} {ρ : Env} {d : D} (h : F ρ = .ret d) : sSeq F G ρ = .ret d := by
  unfold sSeq
  rw [h]
@[simp] theorem sSeq_set (i : Nat) (f : EF) (G : SF) (ρ : Env) : sSeq (sSet i f) G ρ = (f ρ).flow ρ fun d => G (ρ.set i (some d)) := by
  unfold sSeq sSet
  cases f ρ <;> rfl
theorem sSeq_def (F G : SF) (ρ : Env) : sSeq F G ρ = match F ρ with
  | .next ρ' => G ρ'
  | r => r := rfl
def seqK (r : Flow) (k : Env → Flow) : Flow := match r with
  | .next ρ' => k ρ'
  | r => r
@[simp] theorem seqK_next (ρ : Env) (k : Env → Flow) : seqK (.next ρ) k = k ρ := id rfl
@[simp] theorem seqK_ret (d : D) (k : Env → Flow) : seqK (.ret d) k = .ret d := id rfl
@[simp] theorem seqK_cont (ρ : Env) (k : Env → Flow) : seqK (.cont ρ) k = .cont ρ := id rfl
@[simp] theorem seqK_brk (ρ : Env) (k : Env → Flow) : seqK (.brk ρ) k = .brk ρ := id rfl
@[simp] theorem seqK_exc (c : Str) (ρ : Env) (k : Env → Flow) : seqK (.exc c ρ) k = .exc c ρ := id rfl
@[simp] theorem sSeq_x (F G : SF) (ρ : Env) : sSeq F G ρ = seqK (F ρ) G := by
  unfold sSeq seqK
  rfl
@[simp] theorem seqK_ite {c : Prop} [Decidable c] (a b : Flow) (k : Env → Flow) : seqK (if c then a else b) k = if c then seqK a k else seqK b k := by split <;> rfl
@[simp] theorem loopK_ite {c : Prop} [Decidable c] (a b : Flow) (k : Env → Flow) : loopK (if c then a else b) k = if c then loopK a k else loopK b k := by split <;> rfl
@[simp] theorem dMul_i (i j : Int) (h : mulOk i j = true) : dMul (.int i) (.int j) = .ok (.int (i * j)) := by
  show (if _ then _ else _) = _
  rw [if_pos h]
@[simp] theorem dDiv_i (i j : Int) (h : 0 < j ∧ j < 1073741824) : dDiv (.int i) (.int j) = .ok (.int (i / j)) := by
  show (if _ then _ else _) = _
  rw [if_pos h]
theorem mulOk_r (i j : Int) (h : -(2 ^ 64) < j ∧ j < 2 ^ 64) : mulOk i j = true := decide_eq_true (.inr h)
theorem mulOk_l (i j : Int) (h : -(2 ^ 64) < i ∧ i < 2 ^ 64) : mulOk i j = true := decide_eq_true (.inl h)
theorem app_ok {i : Nat} {f : EF} {ρ : Env} {xs : List D} {d : D} (h : ρ.getD i none = some (.lst xs)) (hf : f ρ = .ok d) (hl : xs.length < sizeLine) : sAppend i f ρ = .next (ρ.set i (some (.lst (xs ++ [d])))) := by
  unfold sAppend
  rw [h]
  dsimp only
  rw [hf]
  dsimp only [Res.flow]
  rw [if_pos hl]
/-- a walk that neither ends nor leaves -/
theorem for_inv {gf : Env → D → Res Env} {F : SF} {P : Nat → Env → Prop} : ∀ {ds : List D} {n : Nat} {ρ : Env}, P n ρ →
    (∀ i d, ds[i]? = some d → ∀ ρ, P (n + i) ρ → ∃ ρ1 ρ', gf ρ d = .ok ρ1 ∧ (F ρ1 = .next ρ' ∨ F ρ1 = .cont ρ') ∧ P (n + i + 1) ρ') → ∃ ρ', forE gf F ds ρ = .next ρ' ∧ P (n + ds.length) ρ'
  | [], n, ρ, h, _ => ⟨ρ, rfl, h⟩
  | d :: ds, n, ρ, h, st => by
    obtain ⟨ρ1, ρ', e1, e2, p⟩ := st 0 d rfl ρ h
    obtain ⟨ρ2, e3, p2⟩ := for_inv (ds := ds) (n := n + 1) p fun i d' hi ρ hp => by
      have := st (i + 1) d' hi ρ (by rw [show n + (i + 1) = n + 1 + i by omega]; exact hp)
      rw [show n + (i + 1) + 1 = n + 1 + i + 1 by omega] at this
      exact this
    refine ⟨ρ2, ?_, by rw [List.length_cons, show n + (ds.length + 1) = n + 1 + ds.length by omega]; exact p2⟩
    unfold forE
    rw [e1]
    dsimp only [Res.must]
    rcases e2 with e2 | e2 <;> (rw [e2]; exact e3)
/-- a walk that looks for the first that ends it -/
def Scan (P : Env → Prop) (o : Option D) (fl : Flow) : Prop := match o with
  | some r => fl = .ret r
  | none => ∃ ρ, (fl = .next ρ ∨ fl = .cont ρ) ∧ P ρ
theorem for_scan {gf : Env → D → Res Env} {F : SF} {P : Env → Prop} {bad : D → Option D} : ∀ {ds : List D} {ρ : Env}, P ρ →
    (∀ d ∈ ds, ∀ ρ, P ρ → ∃ ρ1, gf ρ d = .ok ρ1 ∧ Scan P (bad d) (F ρ1)) → match ds.findSome? bad with
      | some r => forE gf F ds ρ = .ret r
      | none => ∃ ρ', forE gf F ds ρ = .next ρ' ∧ P ρ'
  | [], ρ, h, _ => ⟨ρ, rfl, h⟩
  | d :: ds, ρ, h, st => by
    obtain ⟨ρ1, e1, sc⟩ := st d List.mem_cons_self ρ h
    unfold forE
    rw [e1]
    dsimp only [Res.must]
    rw [List.findSome?_cons]
    cases e : bad d with
    | some r =>
      rw [e] at sc
      have sc : F ρ1 = .ret r := sc
      rw [sc]
      rfl
    | none =>
      rw [e] at sc
      obtain ⟨ρ', e2, p⟩ := sc
      have ih := for_scan (ds := ds) p fun d' hd => st d' (List.mem_cons_of_mem _ hd)
      dsimp only
      rcases e2 with e2 | e2 <;> (rw [e2]; exact ih)
theorem lc_map {i : Nat} {f : EF} {ρ : Env} {g : D → D} : ∀ {ds : List D}, (∀ d ∈ ds, f (ρ.set i (some d)) = .ok (g d)) → lcE (gfName i) bYes f ρ ds = .ok (ds.map g)
  | [], _ => rfl
  | d :: ds, h => by
    have := lc_map (ds := ds) fun d' hd => h d' (List.mem_cons_of_mem _ hd)
    simp [lcE, h d List.mem_cons_self, this]
@[simp] theorem atI_nat {α : Type} (xs : List α) (n : Nat) : atI xs (n : Int) = xs[n]? := by
  unfold atI ixN
  by_cases h : n < xs.length
  · have : ((n : Int) < xs.length) := by omega
    simp [this]
  · have : ¬ ((n : Int) < xs.length) := by omega
    simp [this]
    omega
theorem dIx_lst {xs : List D} {n : Nat} {d : D} (h : xs[n]? = some d) : dIx (.lst xs) (.int n) = .ok d := by
  simp [dIx, h]
theorem dIx_tup {xs : List D} {n : Nat} {d : D} (h : xs[n]? = some d) : dIx (.tup xs) (.int n) = .ok d := by
  simp [dIx, h]
@[simp] theorem rng_zero (n : Nat) : rng 0 n = (List.range n).map fun i => .int (i : Nat) := by
  simp [rng]
theorem dRng1_nat (n : Nat) (h : n ≤ 16777216) : dRng1 [.int n] = .ok ((List.range n).map fun i => .int (i : Nat)) := by
  have : ((n : Int) ≤ 16777216 ∧ -(2 ^ 62) ≤ (n : Int)) := ⟨by omega, by omega⟩
  simp only [dRng1]
  rw [if_pos this]
  simp
@[simp] theorem x_eq_ii (i j : Int) : dEq (.int i) (.int j) = .ok (.bl (i == j)) := by
  simp [dEq, okN, eqD]
@[simp] theorem x_ne_ii (i j : Int) : dNe (.int i) (.int j) = .ok (.bl (!(i == j))) := by
  simp [dNe, okN, eqD]
theorem x_eq_ss (a b : Str) (h : PyData.strOk a = true) (h2 : PyData.strOk b = true) : dEq (.str a) (.str b) = .ok (.bl (a == b)) := by
  simp [dEq, okN, eqD, h, h2]
theorem x_ne_ss (a b : Str) (h : PyData.strOk a = true) (h2 : PyData.strOk b = true) : dNe (.str a) (.str b) = .ok (.bl (!(a == b))) := by
  simp [dNe, okN, eqD, h, h2]
@[simp] theorem x_is_n (d : D) : dIs d .non = .ok (.bl (isNon d)) := by
  cases d <;> rfl
@[simp] theorem x_isNot_n (d : D) : dIsNot d .non = .ok (.bl (!isNon d)) := by
  cases d <;> rfl
@[simp] theorem isNon_n : isNon .non = true := id rfl
@[simp] theorem isNon_i (i : Int) : isNon (.int i) = false := id rfl
@[simp] theorem isNon_s (i : Str) : isNon (.str i) = false := id rfl
@[simp] theorem isNon_t (i : List D) : isNon (.tup i) = false := id rfl
@[simp] theorem isNon_l (i : List D) : isNon (.lst i) = false := id rfl
@[simp] theorem isNon_b (i : Bool) : isNon (.bl i) = false := id rfl
@[simp] theorem isi_n (p : D → Bool) : dIsi p .non = .ok (.bl (p .non)) := id rfl
@[simp] theorem isi_b (p : D → Bool) (b : Bool) : dIsi p (.bl b) = .ok (.bl (p (.bl b))) := id rfl
@[simp] theorem isi_i (p : D → Bool) (b : Int) : dIsi p (.int b) = .ok (.bl (p (.int b))) := id rfl
@[simp] theorem isi_s (p : D → Bool) (b : Str) : dIsi p (.str b) = .ok (.bl (p (.str b))) := id rfl
@[simp] theorem isi_t (p : D → Bool) (b : List D) : dIsi p (.tup b) = .ok (.bl (p (.tup b))) := id rfl
@[simp] theorem isi_l (p : D → Bool) (b : List D) : dIsi p (.lst b) = .ok (.bl (p (.lst b))) := id rfl
@[simp] theorem k_ii (i : Int) : isInt (.int i) = true := id rfl
@[simp] theorem k_ib (i : Bool) : isInt (.bl i) = true := id rfl
@[simp] theorem k_in : isInt .non = false := id rfl
@[simp] theorem k_is (i : Str) : isInt (.str i) = false := id rfl
@[simp] theorem k_it (i : List D) : isInt (.tup i) = false := id rfl
@[simp] theorem k_il (i : List D) : isInt (.lst i) = false := id rfl
@[simp] theorem k_bi (i : Int) : isBool (.int i) = false := id rfl
@[simp] theorem k_bb (i : Bool) : isBool (.bl i) = true := id rfl
@[simp] theorem k_bn : isBool .non = false := id rfl
@[simp] theorem k_bs (i : Str) : isBool (.str i) = false := id rfl
@[simp] theorem k_bt (i : List D) : isBool (.tup i) = false := id rfl
@[simp] theorem k_bl (i : List D) : isBool (.lst i) = false := id rfl
@[simp] theorem k_si (i : Int) : isStr (.int i) = false := id rfl
@[simp] theorem k_sb (i : Bool) : isStr (.bl i) = false := id rfl
@[simp] theorem k_sn : isStr .non = false := id rfl
@[simp] theorem k_ss (i : Str) : isStr (.str i) = true := id rfl
@[simp] theorem k_st (i : List D) : isStr (.tup i) = false := id rfl
@[simp] theorem k_sl (i : List D) : isStr (.lst i) = false := id rfl
@[simp] theorem k_ti (i : Int) : isTup (.int i) = false := id rfl
@[simp] theorem k_tb (i : Bool) : isTup (.bl i) = false := id rfl
@[simp] theorem k_tn : isTup .non = false := id rfl
@[simp] theorem k_ts (i : Str) : isTup (.str i) = false := id rfl
@[simp] theorem k_tt (i : List D) : isTup (.tup i) = true := id rfl
@[simp] theorem k_tl (i : List D) : isTup (.lst i) = false := id rfl
@[simp] theorem k_li (i : Int) : isLst (.int i) = false := id rfl
@[simp] theorem k_lb (i : Bool) : isLst (.bl i) = false := id rfl
@[simp] theorem k_ln : isLst .non = false := id rfl
@[simp] theorem k_ls (i : Str) : isLst (.str i) = false := id rfl
@[simp] theorem k_lt (i : List D) : isLst (.tup i) = false := id rfl
@[simp] theorem k_ll (i : List D) : isLst (.lst i) = true := id rfl
theorem isi_ok {n : Nat} {p : D → Bool} {d : D} (h : okN n d = true) : dIsi p d = .ok (.bl (p d)) := by
  cases d with
  | dic _ _ _ => rw [okN] at h <;> first | cases h | (intro q; cases q)
  | ins _ _ _ => rw [okN] at h <;> first | cases h | (intro q; cases q)
  | set _ => rw [okN] at h <;> first | cases h | (intro q; cases q)
  | exc _ => rw [okN] at h <;> first | cases h | (intro q; cases q)
  | oth => rw [okN] at h <;> first | cases h | (intro q; cases q)
  | _ => rfl
@[simp] theorem x_min2 (i j : Int) : fMin [.int i, .int j] = .ok (.int (if j < i then j else i)) := id rfl
@[simp] theorem x_max2 (i j : Int) : fMax [.int i, .int j] = .ok (.int (if j > i then j else i)) := id rfl
theorem x_min_l (b : Int) (bs : List Int) : fMin [.lst ((b :: bs).map .int)] = .ok (.int (bs.foldl min b)) := by
  simp only [fMin, nums_map]
theorem x_min_t (b : Int) (bs : List Int) : fMin [.tup ((b :: bs).map .int)] = .ok (.int (bs.foldl min b)) := by
  simp only [fMin, nums_map]
theorem x_all (bs : List Bool) : fAll [.lst (bs.map .bl)] = .ok (.bl (bs.all fun z => z)) := by
  simp only [fAll, bools_map]
theorem x_any (bs : List Bool) : fAny [.lst (bs.map .bl)] = .ok (.bl (bs.any fun z => z)) := by
  simp only [fAny, bools_map]
/-- a comprehension: what holds of each -/
theorem lc_ex {gf : Px.Env → D → Res Px.Env} {f : EF} {ρ : Px.Env} {Q : D → Prop} : ∀ {ds : List D}, (∀ d ∈ ds, ∃ ρ1 y, gf ρ d = .ok ρ1 ∧ f ρ1 = .ok y ∧ Q y) → ∃ ys, lcE gf bYes f ρ ds = .ok ys ∧ ys.length = ds.length ∧ ∀ y ∈ ys, Q y
  | [], _ => ⟨[], rfl, rfl, fun y h => nomatch h⟩
  | d :: ds, h => by
    obtain ⟨ρ1, y, e1, e2, q⟩ := h d List.mem_cons_self
    obtain ⟨ys, e3, hl, hq⟩ := lc_ex (ds := ds) fun d' hd => h d' (List.mem_cons_of_mem _ hd)
    refine ⟨y :: ys, ?_, by simp [hl], fun z hz => ?_⟩
    · simp [lcE, e1, e2, e3]
    · rcases List.mem_cons.mp hz with rfl | hz
      · exact q
      · exact hq z hz
/-- a comprehension of bools -/
theorem lc_bools {gf : Px.Env → D → Res Px.Env} {f : EF} {ρ : Px.Env} {p : D → Bool} : ∀ {ds : List D}, (∀ d ∈ ds, ∃ ρ1, gf ρ d = .ok ρ1 ∧ f ρ1 = .ok (.bl (p d))) → lcE gf bYes f ρ ds = .ok ((ds.map p).map .bl)
  | [], _ => rfl
  | d :: ds, h => by
    obtain ⟨ρ1, e1, e2⟩ := h d List.mem_cons_self
    have := lc_bools (ds := ds) fun d' hd => h d' (List.mem_cons_of_mem _ hd)
    simp [lcE, e1, e2, this]
theorem imin_lt (a b x : Int) : min a b < x ↔ a < x ∨ b < x := by omega
theorem cut_hi {α : Type} (xs : List α) (n : Nat) : cut xs none (some (n : Int)) = xs.take n := by
  unfold cut
  rw [HT.sIx_none, HT.sIx_nat, List.drop_zero, Nat.sub_zero]
  apply List.take_eq_take_iff.mpr
  omega
theorem cut_lo {α : Type} (xs : List α) (n : Nat) : cut xs (some (n : Int)) none = xs.drop n := by
  unfold cut
  rw [HT.sIx_none, HT.sIx_nat]
  rw [List.take_of_length_le (by simp)]
  apply List.drop_eq_drop_iff.mpr
  omega
theorem cut_lh {α : Type} (xs : List α) (a b : Nat) : cut xs (some (a : Int)) (some (b : Int)) = (xs.drop a).take (b - a) := by
  unfold cut
  rw [HT.sIx_nat, HT.sIx_nat]
  have e : xs.drop (min a xs.length) = xs.drop a := List.drop_eq_drop_iff.mpr (by omega)
  rw [e]
  apply List.take_eq_take_iff.mpr
  simp
  omega
end Px

namespace Px
open PySem PySem.Spec PyProof.Rows L2
/-! ### nested targets -/
def GSems (K : PySem.W.Frag) (g : TGs) (gfs : Px.Env → List D → Res Px.Env) (is : List Nat) : Prop :=
  ∀ ex vs σ H Q ds ρ ρ', Paired (R K ex H) ds vs → gfs ρ ds = .ok ρ' → (∀ l : Sets, (∀ t ∈ l, R K ex H t.2.1 t.2.2 ∧ t.1 ∈ is) → ρ' = setE ρ l → Q (setS σ l) H) → g vs σ H Q
def gfN : Px.Env → List D → Res Px.Env := fun ρ ds => match ds with
  | [] => .ok ρ
  | _ => .err
def gfC (gf : Px.Env → D → Res Px.Env) (gfs : Px.Env → List D → Res Px.Env) : Px.Env → List D → Res Px.Env := fun ρ ds => match ds with
  | d :: r => (match gf ρ d with
    | .ok ρ1 => gfs ρ1 r
    | _ => .err)
  | _ => .err
def gfT (n : Nat) (gfs : Px.Env → List D → Res Px.Env) : Px.Env → D → Res Px.Env := fun ρ d => match d with
  | .tup ds => if ds.length = n then gfs ρ ds else .err
  | _ => .err
@[simp] theorem x_gfN (ρ : Px.Env) : gfN ρ [] = .ok ρ := id rfl
@[simp] theorem x_gfT (n : Nat) (gfs : Px.Env → List D → Res Px.Env) (ρ : Px.Env) (ds : List D) : gfT n gfs ρ (.tup ds) = if ds.length = n then gfs ρ ds else .err := id rfl
@[simp] theorem x_gfCn (i : Nat) (gfs : Px.Env → List D → Res Px.Env) (ρ : Px.Env) (d : D) (ds : List D) : gfC (gfName i) gfs ρ (d :: ds) = gfs (ρ.set i (some d)) ds := id rfl
theorem setE_append (ρ : Px.Env) (l1 l2 : Sets) : setE (setE ρ l1) l2 = setE ρ (l1 ++ l2) := by
  unfold setE
  rw [List.foldl_append]
theorem setS_append (σ : L2.St) (l1 l2 : Sets) : setS (setS σ l1) l2 = setS σ (l1 ++ l2) := by
  unfold setS
  rw [List.foldl_append]
theorem gs_n {K : PySem.W.Frag} : GSems K gNil gfN [] := fun ex vs σ H Q ds ρ ρ' p e h => by
  cases p with
  | nil =>
    cases e
    exact ⟨rfl, h [] (fun t ht => nomatch ht) rfl⟩
  | cons r t => cases e
theorem gs_c {K : PySem.W.Frag} {g : TG} {gs : TGs} {gf : Px.Env → D → Res Px.Env} {gfs : Px.Env → List D → Res Px.Env} {is js : List Nat} (h1 : GSem K g gf is) (h2 : GSems K gs gfs js) : GSems K (gCons g gs) (gfC gf gfs) (is ++ js) := fun ex vs σ H Q ds ρ ρ' p e h => by
  cases p with
  | nil => cases e
  | cons r t =>
    rename_i d v ds vs
    simp only [gfC] at e
    cases e1 : gf ρ d with
    | ok ρ1 =>
      rw [e1] at e
      refine ⟨v, vs, rfl, h1 ex v σ H _ d ρ ρ1 r e1 fun l hl q => ?_⟩
      refine h2 ex vs _ H Q ds ρ1 ρ' t e fun l2 hl2 q2 => ?_
      rw [setS_append]
      refine h (l ++ l2) (fun z hz => ?_) (by rw [← setE_append, ← q, q2])
      rcases List.mem_append.mp hz with hz | hz
      · exact ⟨(hl z hz).1, List.mem_append.mpr (.inl (hl z hz).2)⟩
      · exact ⟨(hl2 z hz).1, List.mem_append.mpr (.inr (hl2 z hz).2)⟩
    | exc c => rw [e1] at e; cases e
    | err => rw [e1] at e; cases e
theorem gs_t {K : PySem.W.Frag} {n : Nat} {gs : TGs} {gfs : Px.Env → List D → Res Px.Env} {is : List Nat} (h1 : GSems K gs gfs is) : GSem K (gTup K n gs) (gfT n gfs) is := fun ex v σ H Q d ρ ρ' r e h => by
  unfold gfT at e
  split at e
  · split at e
    · rename_i ds hl
      rw [R] at r
      obtain ⟨a, xs, rfl, h1', h2⟩ := r
      exact ⟨a, xs, rfl, .inl (.inl h1'.1), by rw [← RL.length h2]; exact hl, h1 ex xs σ H Q ds ρ ρ' (RL.pair h2) e h⟩
    · cases e
  · cases e
end Px

/-! enumerate over what begins an iterator -/
namespace PySem
open Sem (wp)
theorem px_enum_new {v : Value} {o : Obj} {H : Heap → Prop} (B : Begins v o H) :
    Meets (Builtin.«enumerate.__new__» ⟨[.type "enumerate", v], []⟩) (fun _ R s => H s.heap ∧
      R (.ok (.ret (.ref (s.heap.push o).objs.size))) { s with heap := (s.heap.push o).push { cls := .type "enumerate", data := .fields #[.none, .bool false, .ref s.heap.objs.size, rawInt 0, .none, .none] } }) :=
  .of_wp fun prog w A R s h => by
    obtain ⟨hp, g, d, tk, os⟩ := s; obtain ⟨h1, h⟩ := h
    have hsub := sub_enumerate
    have q1 : ∀ {A' : Around} {E : Value → Shared → Prop} {Q : Value → Shared → Prop}, Q (.ref hp.objs.size) ⟨hp.push o, g, d, tk, os⟩ → wpAny (model prog w) A' (pyIter v) Q E ⟨hp, g, d, tk, os⟩ :=
      fun q => B.iter prog w _ _ ⟨hp, g, d, tk, os⟩ _ h1 q
    wp_walk using q1
    refine wpAny_stack_any fun st => wpAny_pure ?_
    split
    · rename_i c _ _ _ _ _
      cases (c == Value.type "enumerate")
      · wp_walk using q1
        exact ⟨_, rfl, h⟩
      · wp_walk using q1
        exact ⟨_, rfl, h⟩
    · wp_walk using q1
      exact ⟨_, rfl, h⟩
theorem px_call_enum {prog : Program} {w : World} {A : Around} {E : Value → Shared → Prop} {s : Shared} {v : Value} {o : Obj} {H : Heap → Prop} {Q : Value → Shared → Prop} (B : Begins v o H) (h1 : H s.heap)
    (h : ∀ h', IsEnum h' (s.heap.objs.size + 1) s.heap.objs.size 0 .none → h'.get? s.heap.objs.size = some o → h'.objs.size = s.heap.objs.size + 2 →
      (∀ b o, s.heap.get? b = some o → h'.get? b = some o) → Q (.ref (s.heap.objs.size + 1)) { s with heap := h' }) :
    wpAny (model prog w) A (call (.type "enumerate") [v]) Q E s := by
  refine callType_new F.called_enumerate (by decide) (F.typeCall_enumerate_1 _) (F.newCall_enumerate_1 _) (fun obj => F.args_object_init_2 obj _) F.entry_enumerate_new
    (px_enum_new B) ⟨h1, ?_⟩
  have hz : (s.heap.push o).objs.size = s.heap.objs.size + 1 := Heap.size_push ..
  show _ ∧ _
  rw [hz]
  have he : IsEnum ((s.heap.push o).push { cls := .type "enumerate", data := .fields #[.none, .bool false, .ref s.heap.objs.size, rawInt 0, .none, .none] }) (s.heap.objs.size + 1) s.heap.objs.size 0 .none := by
    have := Heap.get?_push_size (s.heap.push o) (o := { cls := .type "enumerate", data := .fields #[.none, .bool false, .ref s.heap.objs.size, rawInt 0, .none, .none] }) rfl
    rw [hz] at this; exact this
  refine ⟨⟨_, he, rfl⟩, h _ he (Heap.get?_push_of_some _ (Heap.get?_push_size _ B.free)) (by rw [Heap.size_push, hz]) fun b o x => Heap.get?_push_of_some _ (Heap.get?_push_of_some _ x)⟩
theorem wpAny_pyNext_enum_endT {prog : Program} {w : World} {A : Around} {E : Value → Shared → Prop} {s : Shared} {e it l : Addr} {i : Nat} {items : Array Value} {old : Value} {Q : Option Value → Shared → Prop} (hh : A.handled = none)
    (he : IsEnum s.heap e it i old) (hit : s.heap.IsTupleIter it l i) (hl : s.heap.IsTuple l items) (hx : items[i]? = none)
    (hQ : ∀ h', Heap.ExtBut it s.heap h' → Q none { s with heap := h' }) : wpAny (model prog w) A (pyNext (.ref e)) Q E s := by
  have hT : s.TypeIs (.ref e) "enumerate" := ⟨_, he, rfl⟩
  unfold pyNext
  refine wpAny_bind (wpAny_attempt (wpAny_callSpecial?_slot (name := Str.ofString "__next__") hT F.slot_enumerate_next
    (wpAny_call_entry F.slot_enumerate_next hT F.entry_enumerate_next ?_ (F.args_enumerate_next_1 _))))
  show wpAny _ _ (field (.ref e) 2 >>= _) _ _ _
  refine wpAny_bind (wpAny_field he rfl (x := .ref it) rfl ?_)
  refine wpAny_bind (wpAny_nextOf_tuple_end hh hit hl hx fun h' x he' hx' => ?_)
  obtain ⟨o, ho, hc⟩ := hx'
  refine wpAny_bind (wpAny_isInstance (T := "StopIteration") (b := true) ⟨o, ho, hc⟩ isSubtype_stop ?_)
  exact wpAny_pure (hQ _ he')
end PySem
namespace Px
open PySem PySem.Spec PyProof.Rows L2
/-- the tuple at a, each item in a new pair -/
def IteT (K : PySem.W.Frag) (a : Addr) : It :=
  ⟨fun i H => ∃ (xs : List V) (x : V), SqT K H a xs ∧ xs[i]? = some x, fun i H v H' => ∃ T x, v = .ref T ∧ H T = none ∧ H' = upd H T (.tup [.int (i : Nat), x]) ∧ ∀ xs, SqT K H a xs → xs[i]? = some x, fun i H => ∃ xs : List V, SqT K H a xs ∧ xs.length ≤ i⟩
theorem turn_enumT {P : Program} {w : World} {K : PySem.W.Frag} {elts : List Expr} {kk : Nat} {tpos : Pos} (a e it : Addr) :
    Turn P w K (.Tuple elts kk tpos) (IteT K a) [e, it] e (fun i h => (∃ old, IsEnum h e it ((i : Nat) : Int) old) ∧ h.IsTupleIter it a i ∧ e ≠ it ∧ a ≠ it ∧ a ≠ e) where
  mem := by simp
  obj := fun i h st b hb => by
    obtain ⟨⟨old, he⟩, ⟨o, ho, hc, hd⟩, _⟩ := st
    have e' : b = e ∨ b = it := by simpa using hb
    rcases e' with z | z
    · rw [z]; exact ⟨_, he, fun v q => nomatch q⟩
    · rw [z]; exact ⟨o, ho, fun v q => by rw [hd] at q; cases q⟩
  keep := fun i h h' st k => let ⟨⟨old, he⟩, hi, hne⟩ := st; ⟨⟨old, k e (by simp) _ he⟩, hi.at fun o q => k it (by simp) o q, hne⟩
  item := by
    intro X hP hw hK hc i pins s σ H E I hf st hg
    subst hP hw hK
    obtain ⟨⟨old, he⟩, hit, hne, ha1, ha2⟩ := st
    obtain ⟨xs, x, hq, hx⟩ := hg
    obtain ⟨its, rv, p, hz⟩ := I.tuple hq
    obtain ⟨u, hu, ru⟩ := rv.get hx
    have hel : e < s.heap.objs.size := Heap.lt_size he
    have hil : it < s.heap.objs.size := by obtain ⟨_, q, _⟩ := hit; exact Heap.lt_size q
    have hlt : i < its.toArray.size := by
      have := (List.getElem?_eq_some_iff.mp hu).1
      simpa using this
    refine wpAny_pyNext_enum_itemD (Draws.tuple (prog := X.prog) (w := X.w) (A := X.A.in1) (show X.A.in1.handled = none from I.ok.hd hc) it a ha1 its.toArray) he ⟨hit, p⟩ hlt hne (by simp [hne, Ne.symm ha2]) fun u' h' tk hu' ho hit' hT hsz hk => ?_
    have eu : u' = u := by
      have h1 : its[i]? = some u' := by simpa using hu'
      exact Option.some.inj (h1.symm.trans hu)
    subst eu
    refine ⟨_, rfl, wpAny_letOwnedTupleGo_enum (s := { s with heap := h', toks := tk + 1 }) ho fun h'' he' sb => ?_⟩
    have hT2 : h''.get? s.heap.objs.size = some { cls := .type "tuple", data := .seq #[.int i tk, u'] } := (sb.2 _ (Nat.ne_of_gt hel)).trans hT
    have new : ObjOk X.prog X.w (upd H s.heap.objs.size (.tup [.int (i : Nat), x])) h'' s.heap.objs.size (.tup [.int (i : Nat), x]) :=
      ⟨by show 2 ≤ sizeLine; decide, [.int i tk, u'], .cons ⟨_, rfl⟩ (.cons ru .nil), ⟨_, hT2, rfl, _, rfl⟩⟩
    have I1 : Inv X pins σ (upd H s.heap.objs.size (.tup [.int (i : Nat), x])) { s with heap := h'', toks := tk + 1 } :=
      I.turnedNew (ch := [e, it]) (fun b ob hb q => (sb.2 b (fun z => hb (by simp [z]))).trans (hk b ob (fun z => hb (by simp [z])) (fun z => hb (by simp [z])) q)) hf (Nat.le_refl _) new
    refine ⟨.ref s.heap.objs.size, _, I1, rfl, ⟨_, x, rfl, I.hok.fresh (Nat.le_refl _), rfl, fun ys hy => by rw [I.tuple_inj hy hq]; exact hx⟩, ⟨⟨u', ?_⟩, hit'.1.at fun o q => (sb.2 it (Ne.symm hne)).trans q, hne, ha1, ha2⟩, fun b hb => ?_⟩
    · have e1 : ((i + 1 : Nat) : Int) = (i : Int) + 1 := by omega
      rw [e1]; exact he'
    · have hb' : b < s.heap.objs.size := by
        have e' : b = e ∨ b = it := by simpa using hb
        rcases e' with z | z
        · rw [z]; exact hel
        · rw [z]; exact hil
      rw [upd_ne (Nat.ne_of_lt hb')]
      exact (hf b hb).1
  done := by
    intro X hP hw hK hc i pins s σ H E I hf st hg
    subst hP hw hK
    obtain ⟨⟨old, he⟩, hit, hne, ha1, ha2⟩ := st
    obtain ⟨xs, hq, hx⟩ := hg
    obtain ⟨its, rv, p, hz⟩ := I.tuple hq
    obtain ⟨f0, f1, f2, f3, f4, f5⟩ := hf it (by simp)
    have hl := rv.length
    have hit2 : s.heap.IsTupleIter it a i := hit
    exact wpAny_pyNext_enum_endT (I.ok.hd hc) he hit (show s.heap.IsTuple a its.toArray from p) (by simp; omega) fun h' eb => ⟨rfl, I.turned (t' := s.toks) (fun b o hb q => eb b o hb q) f0 f1 f3 f4 f5⟩
  self := fun A i s Q E st h => let ⟨⟨_, he⟩, _⟩ := st; wpAny_pyIter_enum he h
end Px
namespace Px
open PySem PySem.Spec PyProof.Rows L2
def enumL (xs : List D) : List D := xs.zipIdx.map fun p => .tup [.int (p.2 : Nat), p.1]
theorem enumL_len (xs : List D) : (enumL xs).length = xs.length := by simp [enumL]
theorem enumL_get {xs : List D} {i : Nat} {d : D} (h : (enumL xs)[i]? = some d) : ∃ x, xs[i]? = some x ∧ d = .tup [.int (i : Nat), x] := by
  simp only [enumL, List.getElem?_map, List.getElem?_zipIdx, Nat.zero_add] at h
  cases e : xs[i]? with
  | none => rw [e] at h; cases h
  | some x =>
    rw [e] at h
    cases h
    exact ⟨x, rfl, rfl⟩
theorem itn_enumT {K : PySem.W.Frag} {n : Nat} {ds : List D} {a : Addr} (hl : ds.length ≤ sizeLine) : Itn K n (IteT K a) ((.tup ds, .ref a), (.non, .non)) (enumL ds) := by
  have ob : ∀ ex H, RB K ex H n (.tup ds) (.ref a) → ∃ xs, SqT K H a xs ∧ Paired (R K ex H) ds xs := fun ex H h => by
    obtain ⟨b, xs, e, h1, h2, h3⟩ := RB.tup h
    cases e
    exact ⟨xs, h1, h3⟩
  refine ⟨by rw [enumL_len]; exact hl, fun ex H i h hi => ?_, fun ex H h => ?_, fun ex H i d x H' h hd hy => ?_⟩
  · rw [enumL_len] at hi
    obtain ⟨xs, h1, h2⟩ := ob ex H h.1
    obtain ⟨x, hx, _⟩ := Paired.get h2 (List.getElem?_eq_getElem hi)
    exact ⟨xs, x, h1, hx⟩
  · obtain ⟨xs, h1, h2⟩ := ob ex H h.1
    exact ⟨xs, h1, by rw [enumL_len, h2.length]; exact Nat.le_refl _⟩
  · obtain ⟨xs, h1, h2⟩ := ob ex H h.1
    obtain ⟨z, hz, rfl⟩ := enumL_get hd
    obtain ⟨y, hy1, ry⟩ := Paired.get h2 hz
    obtain ⟨T, x', rfl, hT, rfl, hy2⟩ := hy
    have e := hy2 xs h1
    rw [hy1] at e
    cases e
    have sm : Same H (upd H T (.tup [.int (i : Nat), y])) := same_upd hT
    refine ⟨sm, RB.of ?_⟩
    rw [R]
    refine ⟨T, [.int (i : Nat), y], rfl, ⟨upd_same, (by decide : (2 : Nat) ≤ sizeLine)⟩, RL.of (.cons (by rw [R]) (.cons (R.same sm ry) .nil))⟩
def dEnum : List D → Res (List D)
  | [.tup xs] => .ok (enumL xs)
  | _ => .err
@[simp] theorem x_dEnum (xs : List D) : dEnum [.tup xs] = .ok (enumL xs) := id rfl
def iEnumT (K : PySem.W.Frag) (ta : TA) : TI := fun σ H R => ta σ H fun vs H1 => ∃ a xs, vs = [.ref a] ∧ SqT K H1 a xs ∧ R (IteT K a) H1
theorem pi_enumT {X : Cx} {e : Expr} {ta : TA} {p pos tpos : Pos} {elts : List Expr} {kk : Nat} (hg : Gl X "enumerate") (hm : X.mg "enumerate" = none) (ha : PA X [e] ta) (hs : starEach [e] X.env = [(false, eval e X.env)] := by rfl) :
    PI X (.Tuple elts kk tpos) (.Call (.Name "enumerate" p) [e] [] pos) (iEnumT X.K ta) := by
  refine ⟨fun pins s σ H R I h => ?_⟩
  refine Call_ (ld_blt I hg hm boot_enumerate (PyProof.Rows.callWith_type1 (thn (ha.run pos pins s σ H _ I h) fun us s1 ⟨vs, H1, I1, r1, q1⟩ => ?_) hs rfl))
  obtain ⟨a, xs, ex, hq, q⟩ := q1
  subst ex
  cases r1 with
  | cons r rr =>
    cases rr
    cases r
    obtain ⟨its, rv, p', hz⟩ := I1.tuple hq
    refine px_call_enum (begins_tuple a its.toArray) (show s1.heap.IsTuple a its.toArray from p') fun h' he hit hsz hk => wpAny_pyIter_enum he ?_
    have hal : a < s1.heap.objs.size := by
      obtain ⟨o, ho, _⟩ := (show s1.heap.IsTuple a its.toArray from p')
      exact Heap.lt_size ho
    have I2 : Inv X pins σ H1 { s1 with heap := h' } := I1.kept (t' := s1.toks) hk
    refine ⟨s1.heap.objs.size + 1, [s1.heap.objs.size + 1, s1.heap.objs.size], _, _, H1, rfl, I2, turn_enumT a (s1.heap.objs.size + 1) s1.heap.objs.size, ⟨⟨.none, he⟩, ⟨_, hit, rfl, rfl⟩, Nat.succ_ne_self _, Nat.ne_of_lt hal, Nat.ne_of_lt (Nat.lt_succ_of_lt hal)⟩, fun b hb => ?_, q⟩
    have e' : b = s1.heap.objs.size + 1 ∨ b = s1.heap.objs.size := by simpa using hb
    have hle : s1.heap.objs.size ≤ b := by
      rcases e' with z | z
      · rw [z]; exact Nat.le_add_right _ _
      · rw [z]; exact Nat.le_refl _
    exact I1.fpOk hle (I1.hok.fresh hle)
section
variable {X : Cx} {W : WX} {L : List Nat} {n kk : Nat} {elts : List Expr} {tpos p pos : Pos} {e : Expr} {fs : Px.Env → Res (List D)}
theorem ei_enum (hg : Gl X "enumerate") (hm : X.mg "enumerate" = none) (ha : EA X W L n 1 [e] fs) (hs : starEach [e] X.env = [(false, eval e X.env)] := by rfl) : EI X W L n (.Tuple elts kk tpos) (.Call (.Name "enumerate" p) [e] [] pos) (iCall dEnum fs) :=
  PI.imp (pi_enumT hg hm ha hs) fun σ H Q ⟨ex, ρ, fp, I, o⟩ => ⟨ex, ρ, fp, I, o.bind.mono fun ds q vs H1 e1 r1 _ => by
    unfold dEnum at q
    split at q
    · rename_i xs
      cases r1 with
      | cons r t =>
        cases t
        have r' := r
        obtain ⟨a, ys, rfl, h1, h2, h3⟩ := RB.tup r
        exact ⟨a, ys, rfl, h1, q (IteT X.K a) H1 ((.tup xs, .ref a), (.non, .non)) e1 (HR.one r') (itn_enumT (by rw [h3.length]; exact h2))⟩
    · exact q.elim⟩
end
end Px

namespace Px
open PySem PySem.Spec PyProof.Rows L2
/-! ### try: body; except x: .. -/
def pick : List (List Str × SF) → Str → Px.Env → Px.Flow
  | [], c, ρ => .exc c ρ
  | h :: r, c, ρ => if c ∈ h.1 then h.2 ρ else pick r c ρ
/-- us: the classes that the clauses are known for -/
def sTry (us : List Str) (F : SF) (hs : List (List Str × SF)) : SF := fun ρ => match F ρ with
  | .exc c ρ' => if c ∈ us then pick hs c ρ' else .err
  | r => r
section
variable {X : Cx} {W : WX} {kr : RM} {Lb L L' : List Nat}
theorem wMany_ok {Dn : Ends} {c : Str} {ρ' : Px.Env} {ex0 : CS kr.b} {G : List (D × V)} : ∀ (hs : List (Value × List Str × SF)), (∀ h ∈ hs, ∀ C, X.mg c = some (.ref C) → PySem.W.exmOne X.K (.ref C) h.1 = some (decide (c ∈ h.2.1))) →
    FOut X W kr Lb L' ex0 G Dn (pick (hs.map (·.2)) c ρ') → ∀ C, X.mg c = some (.ref C) → ∀ σ' H' fp', SS X.K X.H_0 ex0 G [] ρ' σ' H' fp' →
    wMany X.K W Dn (hs.map fun h => (h.1, fun _ _ _ => tS X W kr Lb [] L' h.2.2)) (.ref C) none σ' H'
  | [], _, o, C, hC, σ', H', fp', S => o C hC σ' H' fp' S
  | h :: r, hm, o, C, hC, σ', H', fp', S => by
    refine ⟨_, hm h List.mem_cons_self C hC, fun hb a ha => ?_, fun hb => ?_⟩
    · have hb := of_decide_eq_true hb
      simp only [List.map_cons, pick, if_pos hb] at o
      exact ⟨ex0, G, ρ', fp', S, o⟩
    · have hb := of_decide_eq_false hb
      simp only [List.map_cons, pick, if_neg hb] at o
      exact wMany_ok r (fun h' hh => hm h' (List.mem_cons_of_mem _ hh)) o C hC σ' H' fp' S
theorem sj_try {body : List Stmt} {h₀ : ExceptHandler} {hds : List ExceptHandler} {pos : Pos} {F : SF} {us : List Str} (hs : List (Value × List Str × SF)) (hst : X.stack = X.env :: X.outer) (hf : X.env.frame = some X.env.locals) (tk : Takes X W)
    (hm : ∀ c ∈ us, ∀ h ∈ hs, ∀ C, X.mg c = some (.ref C) → PySem.W.exmOne X.K (.ref C) h.1 = some (decide (c ∈ h.2.1)))
    (hb : ∀ (W' : WX) (pn : List (Addr × Obj)) (xe : Value → Shared → Prop), Takes (X.tr pn xe) W' → PassesOwn (model X.prog X.w) X.A X.env xe → SJs (X.tr pn xe) W' kr Lb L L' body F)
    (hh : HdsOk X (h₀ :: hds) (hs.map fun h => (h.1, fun _ _ _ => tS X W kr Lb [] L' h.2.2))) : SJ X W kr Lb L L' (.Try body (h₀ :: hds) [] [] pos) (sTry us F (hs.map (·.2))) :=
  PS.imp (ps_try_many (tb := fun W' => tS X W' kr Lb L L' F) hst hf tk hb hh) fun Dn σ H ⟨ex0, G, ρ, fp, S, o⟩ => by
    refine ⟨ex0, G, ρ, fp, S, ?_⟩
    unfold sTry at o
    cases q : F ρ with
    | exc c ρ' =>
      rw [q] at o
      dsimp only at o
      split at o
      · rename_i hc
        exact wMany_ok hs (fun h hh C hC => hm c hc h hh C hC) o
      · exact o.elim
    | next ρ' => rw [q] at o; exact o
    | brk ρ' => rw [q] at o; exact o
    | cont ρ' => rw [q] at o; exact o
    | ret d => rw [q] at o; exact o
    | err => rw [q] at o; exact o
end
/-- a clause's suite may not raise -/
def sNx (F : SF) : SF := fun ρ => match F ρ with
  | .exc _ _ => .err
  | r => r
theorem SS.zero {K : PySem.W.Frag} {H0 H : Hp} {mb : Bool} {ex0 : CS mb} {G : List (D × V)} {L L0 : List Nat} {ρ : Px.Env} {σ : L2.St} {fp : Nat → List Addr} (S : SS K H0 ex0 G L ρ σ H fp) (h : ∀ i, L0.getD i 0 = L.getD i 0) : SS K H0 ex0 G L0 ρ σ H fp :=
  ⟨⟨S.si.len, fun i d e => by rw [h i]; exact S.si.val i d e, S.si.nod, S.si.dis, S.si.sub, S.si.ext⟩, S.own, S.old, S.same, S.slf, S.held⟩
theorem zeros (n : Nat) (i : Nat) : (List.replicate n 0).getD i 0 = ([] : List Nat).getD i 0 := by
  rw [List.getD_eq_getElem?_getD, List.getElem?_replicate]
  split <;> rfl
abbrev HdsP (X : Cx) (W : WX) (kr : RM) (Lb L' : List Nat) (hds : List ExceptHandler) (hs : List (Value × List Str × SF)) : Prop := HdsOk X hds (hs.map fun h => (h.1, fun _ _ _ => tS X W kr Lb [] L' h.2.2))
section
variable {X : Cx} {W : WX} {kr : RM} {Lb L' : List Nat}
theorem hp_nil : HdsP X W kr Lb L' [] [] := HdsOk.nil
theorem hp_cons {x : Str} {c : Value} {l : List Str} {b₀ : Stmt} {suite : List Stmt} {np pos' : Pos} {hds : List ExceptHandler} {hs : List (Value × List Str × SF)} {F : SF} (n : Nat) (hc : Names X x c)
    (h : ∀ (a : Addr) (pn : List (Addr × Obj)), SJs (X.suite a pn) (fun _ _ _ _ => False) kr Lb (List.replicate n 0) L' (b₀ :: suite) F) (r : HdsP X W kr Lb L' hds hs) :
    HdsP X W kr Lb L' (.ExceptHandler (some (.Name x np)) none (b₀ :: suite) pos' :: hds) ((c, l, sNx F) :: hs) :=
  HdsOk.cons hc (fun a oe cls d pn _ _ => PSs.imp (h a _) fun Dn σ H ⟨ex0, G, ρ, fp, S, o⟩ => by
    refine ⟨ex0, G, ρ, fp, S.zero (zeros n), ?_⟩
    dsimp only at o
    unfold sNx at o
    cases q : F ρ with
    | exc c ρ' => rw [q] at o; exact o.elim
    | next ρ' => rw [q] at o; exact o
    | brk ρ' => rw [q] at o; exact o
    | cont ρ' => rw [q] at o; exact o
    | ret d => rw [q] at o; exact o
    | err => rw [q] at o; exact o) r
end
section
variable {X : Cx}
theorem names_g {x : Str} {c : Value} (hg : Gl X x) (hm : X.mg x = some c) (hd : (x == ("__debug__" : Str)) = false := by decide) : Names X x c := ⟨hg, hd, .inl hm⟩
def HC (X : Cx) (c : Str) (hs : List (Value × List Str × SF)) : Prop := ∀ h ∈ hs, ∀ C, X.mg c = some (.ref C) → PySem.W.exmOne X.K (.ref C) h.1 = some (decide (c ∈ h.2.1))
def HM (X : Cx) (us : List Str) (hs : List (Value × List Str × SF)) : Prop := ∀ c ∈ us, HC X c hs
theorem hc_n {c : Str} : HC X c [] := fun h hh => nomatch hh
theorem hc_c {c : Str} {A : Addr} {v : Value} {b : Bool} {l : List Str} {G : SF} {hs : List (Value × List Str × SF)} (he : X.mg c = some (.ref A)) (hx : PySem.W.exmOne X.K (.ref A) v = some b) (hb : b = decide (c ∈ l)) (r : HC X c hs) : HC X c ((v, l, G) :: hs) := fun h hh C hC => by
  rcases List.mem_cons.mp hh with rfl | hh
  · have e := he.symm.trans hC
    cases e
    rw [hx, hb]
  · exact r h hh C hC
theorem hm_n {hs : List (Value × List Str × SF)} : HM X [] hs := fun c hc => nomatch hc
theorem hm_c {c : Str} {us : List Str} {hs : List (Value × List Str × SF)} (h : HC X c hs) (r : HM X us hs) : HM X (c :: us) hs := fun c' hc => by
  rcases List.mem_cons.mp hc with rfl | hc
  · exact h
  · exact r c' hc
end
end Px

namespace Px
open PySem PySem.Spec PyProof.Rows L2
/-! ### augmented operators -/
def dAddI : D → D → Res D
  | .int i, .int j => .ok (.int (i + j))
  | .str a, .str b => if a.length + b.length ≤ sizeLine then .ok (.str (a ++ b)) else .err
  | _, _ => .err
@[simp] theorem x_addI (i j : Int) : dAddI (.int i) (.int j) = .ok (.int (i + j)) := id rfl
theorem o_iadd {X : Cx} : Op2 X 0 0 0 (inplaceOp .Add) dAddI := fun pins s σ H x y v u Q I rx ry h => by
  obtain ⟨ex, d1, d2, d, ext, r1, r2, e, q⟩ := h
  unfold dAddI at e
  split at e
  · cases e
    exact iop_add pins s σ H x y v u Q I rx ry ⟨_, _, r1.int, r2.int, q.int⟩
  · split at e
    · rename_i hc
      cases e
      exact iop_add_str pins s σ H x y v u Q I rx ry ⟨_, _, r1.str, r2.str, hc, q.str⟩
    · cases e
  · cases e
theorem o_isub {X : Cx} : Op2 X 0 0 0 (inplaceOp .Sub) dSub := fun pins s σ H x y v u Q I rx ry h => by
  obtain ⟨ex, d1, d2, d, ext, r1, r2, e, q⟩ := h
  unfold dSub at e
  split at e
  · cases e
    exact iop_sub pins s σ H x y v u Q I rx ry ⟨_, _, r1.int, r2.int, q.int⟩
  · cases e
end Px

namespace Px
open PySem PySem.Spec PyProof.Rows L2
/-! ### zip of two tuples -/
def zipL (xs ys : List D) : List D := (xs.zip ys).map fun p => .tup [p.1, p.2]
theorem zipL_len (xs ys : List D) : (zipL xs ys).length = min xs.length ys.length := by simp [zipL]
theorem zipL_get {xs ys : List D} {i : Nat} {d : D} (h : (zipL xs ys)[i]? = some d) : ∃ x y, xs[i]? = some x ∧ ys[i]? = some y ∧ d = .tup [x, y] := by
  simp only [zipL, List.getElem?_map] at h
  cases e : (xs.zip ys)[i]? with
  | none => rw [e] at h; cases h
  | some p =>
    rw [e] at h
    cases h
    obtain ⟨h1, h2⟩ := List.getElem?_zip_eq_some.mp e
    exact ⟨p.1, p.2, h1, h2, rfl⟩
def dZip : List D → Res (List D)
  | [.tup xs, .tup ys] => .ok (zipL xs ys)
  | _ => .err
@[simp] theorem x_dZip (xs ys : List D) : dZip [.tup xs, .tup ys] = .ok (zipL xs ys) := id rfl
theorem itn_zip {K : PySem.W.Frag} {n : Nat} {ds es : List D} {a b : Addr} (hl : ds.length ≤ sizeLine) : Itn K n (RZ.ItzT K a b) ((.tup ds, .ref a), (.tup es, .ref b)) (zipL ds es) := by
  have ob : ∀ {ex H d a}, RB K ex H n (.tup d) (.ref a) → ∃ xs, SqT K H a xs ∧ Paired (R K ex H) d xs := fun {ex H d a} h => by
    obtain ⟨b, xs, e, h1, h2, h3⟩ := RB.tup h
    cases e
    exact ⟨xs, h1, h3⟩
  refine ⟨by rw [zipL_len]; omega, fun ex H i h hi => ?_, fun ex H h => ?_, fun ex H i d x H' h hd hy => ?_⟩
  · rw [zipL_len] at hi
    obtain ⟨xs, h1, h2⟩ := ob h.1
    obtain ⟨ys, h3, h4⟩ := ob h.2
    obtain ⟨x, hx, _⟩ := Paired.get h2 (List.getElem?_eq_getElem (show i < ds.length by omega))
    obtain ⟨y, hy, _⟩ := Paired.get h4 (List.getElem?_eq_getElem (show i < es.length by omega))
    exact ⟨xs, ys, x, y, h1, h3, hx, hy⟩
  · obtain ⟨xs, h1, h2⟩ := ob h.1
    obtain ⟨ys, h3, h4⟩ := ob h.2
    refine ⟨xs, ys, h1, h3, ?_⟩
    rw [zipL_len, ← h2.length, ← h4.length]
    omega
  · obtain ⟨xs, h1, h2⟩ := ob h.1
    obtain ⟨ys, h3, h4⟩ := ob h.2
    obtain ⟨z1, z2, hz1, hz2, rfl⟩ := zipL_get hd
    obtain ⟨y1, hy1, ry1⟩ := Paired.get h2 hz1
    obtain ⟨y2, hy2, ry2⟩ := Paired.get h4 hz2
    obtain ⟨T, x1, x2, rfl, hT, rfl, q1, q2⟩ := hy
    have e1 := q1 xs h1
    have e2 := q2 ys h3
    rw [hy1] at e1
    rw [hy2] at e2
    cases e1
    cases e2
    have sm : Same H (upd H T (.tup [y1, y2])) := same_upd hT
    refine ⟨sm, RB.of ?_⟩
    rw [R]
    refine ⟨T, [y1, y2], rfl, ⟨upd_same, (by decide : (2 : Nat) ≤ sizeLine)⟩, RL.of (.cons (R.same sm ry1) (.cons (R.same sm ry2) .nil))⟩
section
variable {X : Cx} {W : WX} {L : List Nat} {n kk : Nat} {elts : List Expr} {tpos p pos : Pos} {e e2 : Expr} {fs : Px.Env → Res (List D)}
theorem ei_zip (hg : Gl X "zip") (hm : X.mg "zip" = none) (ha : EA X W L n 2 [e, e2] fs) (hs : starEach [e, e2] X.env = (false, eval e X.env) :: starEach [e2] X.env := by rfl) (hpl : (backTo pos (starEach [e2] X.env)).any (·.1) = false := by rfl) :
    EI X W L n (.Tuple elts kk tpos) (.Call (.Name "zip" p) [e, e2] [] pos) (iCall dZip fs) :=
  PI.imp (RZ.pi_zipA hg hm ha hs hpl) fun σ H Q ⟨ex, ρ, fp, I, o⟩ => ⟨ex, ρ, fp, I, o.bind.mono fun ds q vs H1 e1 r1 _ => by
    unfold dZip at q
    split at q
    · rename_i xs ys
      cases r1 with
      | cons r t =>
        cases t with
        | cons r2 t =>
          cases t
          have r' := r
          have r2' := r2
          obtain ⟨a, zs, rfl, h1, h2, h3⟩ := RB.tup r
          obtain ⟨b, ws, rfl, h4, h5, h6⟩ := RB.tup r2
          exact ⟨a, b, zs, ws, rfl, .inr ⟨h1, h4, q (RZ.ItzT X.K a b) H1 ((.tup xs, .ref a), (.tup ys, .ref b)) e1 ⟨r', r2'⟩ (itn_zip (by rw [h3.length]; exact h2))⟩⟩
    · exact q.elim⟩
end
end Px

namespace Px
open PySem PySem.Spec PyProof.Rows L2
/-! ### what is not walked: no claim -/
def eErr : EF := fun _ => .err
def sErr : SF := fun _ => .err
def bErr : Px.Env → Res Bool := fun _ => .err
def iErr : Px.Env → Res (List D) := fun _ => .err
section
variable {X : Cx} {W : WX} {L L' Lb : List Nat} {n k : Nat} {kr : RM} {e : Expr} {st : Stmt}
theorem eb_err : EB X W L n e eErr := ⟨fun pins s σ H Q I ⟨ex, ρ, fp, S, o⟩ => o.elim⟩
theorem eo_err : EO X W L k e eErr := ⟨fun pins s σ H Q I ⟨ex, ρ, fp, S, o⟩ => o.elim⟩
theorem et_err : ET X W L e bErr := ⟨fun pins s σ H Q I ⟨ex, ρ, fp, S, o⟩ => o.elim⟩
theorem sj_err : SJ X W kr Lb L L' st sErr := ⟨fun pins s σ H D I ⟨ex, G, ρ, fp, S, o⟩ => o.elim⟩
theorem sjs_err {sts : List Stmt} : SJs X W kr Lb L L' sts sErr := ⟨fun pins s σ H D I ⟨ex, G, ρ, fp, S, o⟩ => o.elim⟩
end
/-! ### methods of a str -/
def asStr : D → Res Str
  | .str s => .ok s
  | _ => .err
@[simp] theorem x_asStr (s : Str) : asStr (.str s) = .ok s := id rfl
def eMS (o : Str → List D → Res D) (f : EF) (fs : Px.Env → Res (List D)) : EF := fun ρ => f ρ >>= asStr >>= fun s => fs ρ >>= o s
@[simp] theorem x_eMS (o : Str → List D → Res D) (f : EF) (fs : Px.Env → Res (List D)) (ρ : Px.Env) : eMS o f fs ρ = f ρ >>= asStr >>= fun s => fs ρ >>= o s := id rfl
def NoXS (g : Str → List D → Res D) : Prop := ∀ s ds c, g s ds ≠ .exc c
def MethS (X : Cx) (id : String) (n k : Nat) (g : Str → List D → Res D) : Prop :=
  MtR X id fun x xs H Q => ∃ ex s ds d, (∀ a, ex a → H a ≠ none) ∧ x = .str s ∧ Paired (RB X.K ex H n) ds xs ∧ g s ds = .ok d ∧ QO X.K ex H k Q d
section
variable {X : Cx} {W : WX} {L : List Nat} {n n0 k m : Nat} {e e1 : Expr} {es : List Expr} {f : EF} {fs : Px.Env → Res (List D)} {o : Str → List D → Res D} {name : Str} {id : String} {apos cpos : Pos}
theorem eo_ms (hm : MethS X id n k o) (nx : NoXS o) (slot : Slot "str" name id) (hty : typeOf (.builtin id) = pure (.type "method_descriptor")) (hf : EB X W L n0 e f) (ha : EA X W L n m (e1 :: es) fs)
    (hbase : attributeBase e name X.env (eval e X.env) = eval e X.env := by rfl)
    (hfew : ((backTo cpos (starEach (e1 :: es) X.env)).all (fun x => !x.1) && (backToKw cpos (keywordEach [] X.env)).all (fun x => x.1.isSome)
      && decide ((e1 :: es).length + ([] : List Keyword).length + (if ([] : List Keyword).isEmpty then 0 else 1) < 30)) = true := by rfl)
    (hline : (apos.endLine == cpos.line) = true := by rfl) (hs : starEach (e1 :: es) X.env = (false, eval e1 X.env) :: starEach es X.env := by rfl) (hplain : (backTo cpos (starEach es X.env)).any (·.1) = false := by rfl) :
    EO X W L k (.Call (.Attribute e name apos) (e1 :: es) [] cpos) (eMS o f fs) :=
  PE.imp (pe_bm PySem.F.plainAttrs_str slot hty hm hf ha hbase hfew hline hs hplain) fun σ H Q ⟨ex, ρ, fp, I, q⟩ => by
    refine ⟨ex, ρ, fp, I, q.bind.bind.mono fun d1 q1 v1 H1 e1 r1 => ?_⟩
    cases d1 with
    | str s =>
      have hv := r1.str
      subst hv
      refine ⟨rfl, ex, ρ, fp, I.same e1, (Out.later (show Out X W σ H (fs ρ >>= o s) _ from q1) e1).bind.mono fun ds q2 vs H2 e2 r2 _ => ?_⟩
      obtain ⟨d, ed, qd⟩ := no_exc q2 (nx s ds)
      exact ⟨ex, s, ds, d, ((I.same e1).same e2).ext, rfl, r2, ed, fun v H3 fq e3 ro nd nw => qd v H3 fq ((e1.trans e2).trans e3) ro nd fun a ha => (e1.trans e2).free (nw a ha)⟩
    | _ => exact (show False from q1).elim
end
def txtsD : List D → Option (List Str)
  | [] => some []
  | .str b :: r => (txtsD r).map (b :: ·)
  | _ :: _ => none
theorem txtsD_vals {K : PySem.W.Frag} {ex : AS} {H : Hp} : ∀ {ds : List D} {vs : List V} {bs : List Str}, Paired (R K ex H) ds vs → txtsD ds = some bs → vs = bs.map V.str
  | [], _, _, .nil, h => by cases h; rfl
  | d :: ds, _, _, .cons r t, h => by
    cases d with
    | str b =>
      rw [txtsD] at h
      cases q : txtsD ds with
      | none => rw [q] at h; cases h
      | some bs =>
        rw [q] at h
        cases h
        rw [R] at r
        rw [r, txtsD_vals t q]
        rfl
    | _ => cases h
@[simp] theorem txtsD_map (bs : List Str) : txtsD (bs.map D.str) = some bs := by
  induction bs with
  | nil => rfl
  | cons b r ih => rw [List.map_cons, txtsD, ih]; rfl
def joinR (a : Str) (xs : List D) : Res D := match txtsD xs with
  | some ys => if (ys.map (·.length)).sum + ys.length * a.length ≤ 16777216 then .ok (.str (Txt.join a ys)) else .err
  | none => .err
def fJoin (a : Str) : List D → Res D
  | [.lst xs] => joinR a xs
  | [.tup xs] => joinR a xs
  | _ => .err
theorem fJoin_nx : NoXS fJoin := fun s ds c h => by
  unfold fJoin at h
  split at h <;> first | cases h | (unfold joinR at h; split at h <;> first | cases h | (split at h <;> cases h))
def fSIndex (a : Str) : List D → Res D
  | [.str b] => match Builtin.Str.occurrences a b 0 a.length 1 with
    | i :: _ => .ok (.int (i : Nat))
    | [] => .err
  | _ => .err
theorem fSIndex_nx : NoXS fSIndex := fun s ds c h => by
  unfold fSIndex at h
  split at h <;> first | cases h | (split at h <;> cases h)
def fStarts (a : Str) : List D → Res D
  | [.str b] => .ok (.bl (Txt.startswith a b))
  | _ => .err
theorem fStarts_nx : NoXS fStarts := fun s ds c h => by
  unfold fStarts at h
  split at h <;> cases h
def fSplit (a : Str) : List D → Res D
  | [.str b] => if b.length ≠ 0 ∧ a.length + 2 ≤ sizeLine ∧ (Txt.split a b).length ≤ sizeLine then .ok (.lst ((Txt.split a b).map .str)) else .err
  | _ => .err
theorem fSplit_nx : NoXS fSplit := fun s ds c h => by
  unfold fSplit at h
  split at h <;> first | cases h | (split at h <;> cases h)
def fLstrip (a : Str) : List D → Res D
  | [.str b] => if a.length ≤ sizeLine then .ok (.str (Txt.lstripChars a b)) else .err
  | _ => .err
theorem fLstrip_nx : NoXS fLstrip := fun s ds c h => by
  unfold fLstrip at h
  split at h <;> first | cases h | (split at h <;> cases h)
def fSCount (a : Str) : List D → Res D
  | [.str b] => .ok (.int (Txt.count a b))
  | _ => .err
theorem fSCount_nx : NoXS fSCount := fun s ds c h => by
  unfold fSCount at h
  split at h <;> cases h
section
variable {X : Cx} {k : Nat}
theorem m_join : MethS X "str.join" 1 k fJoin := fun pins s σ H x xs v us Q I rx r h => by
  obtain ⟨ex, a, ds, d, ext, rfl, rs, e, q⟩ := h
  unfold fJoin at e
  split at e
  · unfold joinR at e
    split at e
    · rename_i hb
      split at e
      · rename_i hc
        cases e
        cases rs with
        | cons r1 t =>
          cases t
          obtain ⟨p, zs, rfl, h1, h2, h3⟩ := r1.lst
          have ez := txtsD_vals h3 hb
          subst ez
          exact mt_join pins s σ H _ _ v us Q I rx r ⟨a, p, _, rfl, rfl, .inl h1, hc, q.str⟩
      · cases e
    · cases e
  · unfold joinR at e
    split at e
    · rename_i hb
      split at e
      · rename_i hc
        cases e
        cases rs with
        | cons r1 t =>
          cases t
          obtain ⟨p, zs, rfl, h1, h2, h3⟩ := r1.tup
          have ez := txtsD_vals h3 hb
          subst ez
          exact mt_join pins s σ H _ _ v us Q I rx r ⟨a, p, _, rfl, rfl, .inr h1, hc, q.str⟩
      · cases e
    · cases e
  · cases e
theorem m_sindex : MethS X "str.index" 0 k fSIndex := fun pins s σ H x xs v us Q I rx r h => by
  obtain ⟨ex, a, ds, d, ext, rfl, rs, e, q⟩ := h
  unfold fSIndex at e
  split at e
  · split at e
    · rename_i i rest ho
      cases e
      cases rs with
      | cons r1 t =>
        cases t
        have := r1.str
        subst this
        exact mt_sindex pins s σ H _ _ v us Q I rx r ⟨a, _, i, rest, rfl, rfl, ho, q.int⟩
    · cases e
  · cases e
theorem m_starts : MethS X "str.startswith" 0 k fStarts := fun pins s σ H x xs v us Q I rx r h => by
  obtain ⟨ex, a, ds, d, ext, rfl, rs, e, q⟩ := h
  unfold fStarts at e
  split at e
  · cases e
    cases rs with
    | cons r1 t =>
      cases t
      have := r1.str
      subst this
      exact mt_startswith pins s σ H _ _ v us Q I rx r ⟨a, _, rfl, rfl, q.bl⟩
  · cases e
theorem m_scount : MethS X "str.count" 0 k fSCount := fun pins s σ H x xs v us Q I rx r h => by
  obtain ⟨ex, a, ds, d, ext, rfl, rs, e, q⟩ := h
  unfold fSCount at e
  split at e
  · cases e
    cases rs with
    | cons r1 t =>
      cases t
      have := r1.str
      subst this
      exact mt_count pins s σ H _ _ v us Q I rx r ⟨a, _, rfl, rfl, q.int⟩
  · cases e
theorem m_lstrip : MethS X "str.lstrip" 0 k fLstrip := fun pins s σ H x xs v us Q I rx r h => by
  obtain ⟨ex, a, ds, d, ext, rfl, rs, e, q⟩ := h
  unfold fLstrip at e
  split at e
  · split at e
    · rename_i hc
      cases e
      cases rs with
      | cons r1 t =>
        cases t
        have := r1.str
        subst this
        exact mt_lstripChars pins s σ H _ _ v us Q I rx r ⟨a, _, rfl, rfl, hc, q.str⟩
    · cases e
  · cases e
theorem m_split : MethS X "str.split" 0 1 fSplit := fun pins s σ H x xs v us Q I rx r h => by
  obtain ⟨ex, a, ds, d, ext, rfl, rs, e, q⟩ := h
  unfold fSplit at e
  split at e
  · split at e
    · rename_i b hc
      cases e
      cases rs with
      | cons r1 t =>
        cases t
        have := r1.str
        subst this
        refine mt_split pins s σ H _ _ v us Q I rx r ⟨a, _, rfl, rfl, by simpa using hc.1, hc.2.1, fun p hp => q.lst ?_ hp (by rw [List.length_map]; exact hc.2.2)⟩
        generalize Txt.split a b = l
        induction l with
        | nil => exact .nil
        | cons z l ih => exact .cons (by rw [R]) ih
    · cases e
  · cases e
end
/-! ### str(i), int(s) -/
def fStr : List D → Res D
  | [.int i] => if i.natAbs.log2 < 1920 then .ok (.str (toString i)) else .err
  | [.str s] => .ok (.str s)
  | _ => .err
theorem fStr_nx : NoXL fStr := fun ds c h => by
  unfold fStr at h
  split at h <;> first | cases h | (split at h <;> cases h)
section
variable {X : Cx} {n k : Nat}
theorem c_str : CallD X n k (.type "str") fStr := fun pins s σ H xs us Q I r h => by
  obtain ⟨ex, ds, d, ext, rs, e, q⟩ := h
  unfold fStr at e
  split at e
  · split at e
    · rename_i hc
      cases e
      cases rs with
      | cons r1 t =>
        cases t
        rw [RB.int r1] at *
        exact call_str_int pins s σ H _ us Q I r ⟨_, rfl, hc, q.str⟩
    · cases e
  · cases e
    cases rs with
    | cons r1 t =>
      cases t
      rw [RB.str r1] at *
      exact SkE.call_str_str pins s σ H _ us Q I r ⟨_, rfl, q.str⟩
  · cases e
/-- int(x): also of a text of figures -/
def fIntS : List D → Res D
  | [.int i] => .ok (.int i)
  | [.bl b] => .ok (.int (if b then 1 else 0))
  | [.str a] => match PySem.intText? a with
    | some n => if a.length ≤ 640 then .ok (.int n) else .err
    | none => .err
  | _ => .err
theorem fIntS_nx : NoXL fIntS := fun ds c h => by
  unfold fIntS at h
  split at h <;> first | cases h | (split at h <;> first | cases h | (split at h <;> cases h))
theorem c_intS : CallD X n k (.type "int") fIntS := fun pins s σ H xs us Q I r h => by
  obtain ⟨ex, ds, d, ext, rs, e, q⟩ := h
  unfold fIntS at e
  split at e
  · cases e
    cases rs with
    | cons r1 t =>
      cases t
      rw [RB.int r1] at *
      exact call_int1 pins s σ H _ us Q I r (.inl ⟨_, rfl, q.int⟩)
  · cases e
    cases rs with
    | cons r1 t =>
      cases t
      rw [RB.bl r1] at *
      exact call_int1 pins s σ H _ us Q I r (.inr ⟨_, rfl, q.int⟩)
  · split at e
    · rename_i hi
      split at e
      · rename_i hc
        cases e
        cases rs with
        | cons r1 t =>
          cases t
          rw [RB.str r1] at *
          exact call_int_str pins s σ H _ us Q I r ⟨_, _, rfl, hi, hc, q.int⟩
      · cases e
    · cases e
  · cases e
end
/-! ### a tuple's augmented sum -/
section
variable {prog : Program} {w : World} {A : Around} {E : Value → Shared → Prop} {s : Shared}
theorem noI_tuple_add : typeLookup (.type "tuple") (dunderI "add") = pure none := by rw [typeLookup_type, builtinLookup_eq_fast]; kernel_rfl
theorem iconcat_meets {T id : String} {B : Builtin} {a b : Value} {S : PySem.Spec} {Q : Value → Shared → Prop} (ha : s.TypeIs a T) (hb : s.TypeIs b T) (hno : typeLookup (.type T) (dunderI "add") = pure none)
    (hfill : fillsNumberSlot (.type T) "add" = pure false) (hseq : seqSlot? (.type T) "__add__" = pure (some (.builtin id))) (slot : Slot T "__add__" id)
    (entry : entryFor table id = some B) (args : argsOk id ⟨[a, b], []⟩) (g : Meets (B ⟨[a, b], []⟩) S) (h : S A (wants Q E) s) : wpAny (model prog w) A (inplaceOp .Add a b) Q E s :=
  wpAny_inplaceOp_concat ha hb hno hfill hseq (call_meets slot ha entry args g h)
theorem icat_tup {t b : Addr} {vs ws : List Value} {Q : Value → Shared → Prop} (ht : IsTup s.heap t vs.toArray) (hb : IsTup s.heap b ws.toArray) (hv : vs ≠ [])
    (h1 : ws = [] → Q (.ref t) s) (h2 : ws ≠ [] → Q (.ref s.heap.objs.size) { s with heap := s.heap.push { cls := .type "tuple", data := .seq (vs ++ ws).toArray } })
    (hsz : vs.length + ws.length ≤ sizeLine) : wpAny (model prog w) A (inplaceOp .Add (.ref t) (.ref b)) Q E s := by
  obtain ⟨⟨cls, dd, data, sl⟩, ho, hc, n, hd⟩ := id ht
  obtain ⟨⟨cls2, dd2, data2, sl2⟩, ho2, hc2, n2, hd2⟩ := id hb
  simp only at hc hd hc2 hd2
  subst hc hd hc2 hd2
  have e : vs.toArray ++ ws.toArray = (vs ++ ws).toArray := by simp
  by_cases hw : ws = []
  · exact iconcat_meets ⟨_, ho, rfl⟩ ⟨_, ho2, rfl⟩ noI_tuple_add noFill_tuple_add seq_tuple_add PySem.F.slot_tuple_add PySem.F.entry_tuple_add (PySem.F.args_tuple_add_2 _ _)
      (tuple_addW1 t b vs.toArray ws.toArray n n2 dd dd2 sl sl2 (by simpa using hv) (by simp [hw])) ⟨ho, ho2, h1 hw⟩
  · refine iconcat_meets ⟨_, ho, rfl⟩ ⟨_, ho2, rfl⟩ noI_tuple_add noFill_tuple_add seq_tuple_add PySem.F.slot_tuple_add PySem.F.entry_tuple_add (PySem.F.args_tuple_add_2 _ _)
      (tuple_addW2 t b vs.toArray ws.toArray n n2 dd dd2 sl sl2 (by simpa using hv) (by simpa using hw) (by rw [List.size_toArray, List.size_toArray]; exact hsz)) ⟨ho, ho2, ?_⟩
    rw [e]
    exact h2 hw
theorem icat_tup0 {t b : Addr} {ws : List Value} {Q : Value → Shared → Prop} (ht : IsTup s.heap t ([] : List Value).toArray) (hb : IsTup s.heap b ws.toArray) (h : Q (.ref b) s) : wpAny (model prog w) A (inplaceOp .Add (.ref t) (.ref b)) Q E s := by
  obtain ⟨⟨cls, dd, data, sl⟩, ho, hc, n, hd⟩ := id ht
  obtain ⟨⟨cls2, dd2, data2, sl2⟩, ho2, hc2, n2, hd2⟩ := id hb
  simp only at hc hd hc2 hd2
  subst hc hd hc2 hd2
  exact iconcat_meets ⟨_, ho, rfl⟩ ⟨_, ho2, rfl⟩ noI_tuple_add noFill_tuple_add seq_tuple_add PySem.F.slot_tuple_add PySem.F.entry_tuple_add (PySem.F.args_tuple_add_2 _ _)
    (tuple_addW0 t b ([] : List Value).toArray ws.toArray n n2 dd dd2 sl sl2 (by simp)) ⟨ho, ho2, h⟩
end
section
variable {X : Cx}
theorem iop_catA : OpR X (inplaceOp .Add) (rCatA X.K) := by
  intro pins s σ H x y v u Q I rx ry h
  obtain ⟨a, b, xs, ys, rfl, rfl, ha, hb, hz, q0, q1, q2⟩ := h
  by_cases hx : xs = []
  · subst hx
    cases rx
    cases ry
    obtain ⟨its, r1, p1, _⟩ := I.tuple ha
    obtain ⟨its2, r2, p2, _⟩ := I.tuple hb
    cases r1
    exact icat_tup0 p1 p2 ⟨.ref b, H, I, rfl, q0 rfl⟩
  · cases rx
    cases ry
    obtain ⟨its, r1, p1, _⟩ := I.tuple ha
    obtain ⟨its2, r2, p2, _⟩ := I.tuple hb
    refine icat_tup p1 p2 (fun z => hx (r1.nil_iff.mp z)) (fun z => ⟨.ref a, H, I, rfl, q1 hx (r2.nil_iff.mp z)⟩) (fun z => ?_) (by rw [← r1.length, ← r2.length]; exact hz)
    refine ⟨.ref s.heap.objs.size, _, I.laid (t' := s.toks) (o := .tup (xs ++ ys)) (fun b ob q => Heap.get?_push_of_some _ q) (Nat.le_refl _) ?_, rfl, q2 hx (fun w => z (r2.nil_iff.mpr w)) _ (I.hok.fresh (Nat.le_refl _))⟩
    exact ⟨by rw [List.length_append]; exact hz, _, r1.append r2, IsTup.new _ _⟩
/-- x += y of ints, txtsD, tuples -/
def dAddT : D → D → Res D
  | .int i, .int j => .ok (.int (i + j))
  | .str a, .str b => if a.length + b.length ≤ sizeLine then .ok (.str (a ++ b)) else .err
  | .tup a, .tup b => if a.length + b.length ≤ sizeLine then .ok (.tup (a ++ b)) else .err
  | _, _ => .err
theorem o_iaddT : Op2 X 0 0 0 (inplaceOp .Add) dAddT := fun pins s σ H x y v u Q I rx ry h => by
  obtain ⟨ex, d1, d2, d, ext, r1, r2, e, q⟩ := h
  unfold dAddT at e
  split at e
  · cases e
    exact iop_add pins s σ H x y v u Q I rx ry ⟨_, _, r1.int, r2.int, q.int⟩
  · split at e
    · rename_i hc
      cases e
      exact iop_add_str pins s σ H x y v u Q I rx ry ⟨_, _, r1.str, r2.str, hc, q.str⟩
    · cases e
  · split at e
    · rename_i hc
      cases e
      obtain ⟨l, xs, rfl, h1, z1, p1⟩ := r1.tupX
      obtain ⟨b, ys, rfl, h2, z2, p2⟩ := r2.tupX
      have hl : xs.length + ys.length ≤ sizeLine := by rw [← p1.length, ← p2.length]; exact hc
      refine iop_catA pins s σ H _ _ v u Q I rx ry ⟨l, b, xs, ys, rfl, rfl, .inl (.inl h1), .inl (.inl h2), hl, fun e => ?_, fun _ e => ?_, fun _ _ p hp => q.tup (Paired.app p1 p2) hp (by rw [List.length_append]; exact hl)⟩
      · subst e
        cases p1
        exact q.flat (by rw [R]; exact ⟨b, ys, rfl, ⟨h2, z2⟩, RL.of p2⟩) rfl
      · subst e
        cases p2
        rw [List.append_nil] at q
        exact q.flat (by rw [R]; exact ⟨l, xs, rfl, ⟨h1, z1⟩, RL.of p1⟩) rfl
    · cases e
  · cases e
theorem o_imul : Op2 X 0 0 0 (inplaceOp .Mult) dMul := fun pins s σ H x y v u Q I rx ry h => by
  obtain ⟨ex, d1, d2, d, ext, r1, r2, e, q⟩ := h
  unfold dMul at e
  split at e
  · split at e
    · rename_i hm
      cases e
      exact iop_mul pins s σ H x y v u Q I rx ry ⟨_, _, r1.int, r2.int, by unfold mulOk at hm; rw [decide_eq_true_eq] at hm; exact hm, q.int⟩
    · cases e
  · cases e
theorem o_idiv : Op2 X 0 0 0 (inplaceOp .FloorDiv) dDiv := fun pins s σ H x y v u Q I rx ry h => by
  obtain ⟨ex, d1, d2, d, ext, r1, r2, e, q⟩ := h
  unfold dDiv at e
  split at e
  · split at e
    · rename_i hc
      cases e
      exact iop_fdiv pins s σ H x y v u Q I rx ry ⟨_, _, r1.int, r2.int, hc, q.int⟩
    · cases e
  · cases e
theorem o_imod : Op2 X 0 0 0 (inplaceOp .Mod) dMod := fun pins s σ H x y v u Q I rx ry h => by
  obtain ⟨ex, d1, d2, d, ext, r1, r2, e, q⟩ := h
  unfold dMod at e
  split at e
  · split at e
    · rename_i hc
      cases e
      exact iop_mod pins s σ H x y v u Q I rx ry ⟨_, _, r1.int, r2.int, hc, q.int⟩
    · cases e
  · cases e
end
/-! ### plain reading -/
@[simp] theorem x_addT_i (i j : Int) : dAddT (.int i) (.int j) = .ok (.int (i + j)) := id rfl
@[simp] theorem x_addT_t (a b : List D) : dAddT (.tup a) (.tup b) = if a.length + b.length ≤ sizeLine then .ok (.tup (a ++ b)) else .err := id rfl
@[simp] theorem x_addT_s (a b : Str) : dAddT (.str a) (.str b) = if a.length + b.length ≤ sizeLine then .ok (.str (a ++ b)) else .err := id rfl
end Px

namespace Px
open PySem PySem.Spec PyProof.Rows L2
/-! ### list(range(..)), tuple(range(..)) -/
def rgD (mk : List D → D) (i : Int) : D → Res D
  | .int j => if -(2 ^ 61) ≤ i ∧ i ≤ 2 ^ 61 ∧ -(2 ^ 61) ≤ j ∧ j ≤ 2 ^ 61 ∧ j - i ≤ 16777216 then .ok (mk (rng i (j - i).toNat)) else .err
  | _ => .err
def eRg1 (mk : List D → D) (f : EF) : EF := fun ρ => f ρ >>= fun d => rgD mk 0 d
def eRg2 (mk : List D → D) (f g : EF) : EF := fun ρ => f ρ >>= fun a => g ρ >>= fun b => match a with
  | .int i => rgD mk i b
  | _ => .err
@[simp] theorem x_eRg1 (mk : List D → D) (f : EF) (ρ : Px.Env) : eRg1 mk f ρ = f ρ >>= fun d => rgD mk 0 d := id rfl
theorem rgD_nat (mk : List D → D) (n : Nat) (h : n ≤ 16777216) : rgD mk 0 (.int n) = .ok (mk ((List.range n).map fun i => .int (i : Nat))) := by
  show (if _ then _ else _) = _
  rw [if_pos ⟨by omega, by omega, by omega, by omega, by omega⟩]
  simp
theorem rng_paired {K : PySem.W.Frag} {ex : AS} {H : Hp} (i j : Int) : Paired (R K ex H) (rng i (j - i).toNat) (rgV i j) := by
  unfold rng rgV
  generalize List.range (j - i).toNat = l
  induction l with
  | nil => exact .nil
  | cons a l ih => exact .cons (by rw [R]) ih
section
variable {X : Cx} {W : WX} {L : List Nat} {n m kk : Nat} {a b : Expr} {f g : EF} {p p2 p3 pos : Pos}
theorem eo_lrg1 (hc : X.calm = true) (hg : Gl X "list") (hm : X.mg "list" = none) (hg2 : Gl X "range") (hm2 : X.mg "range" = none) (ha : EB X W L n a f)
    (na : starEach [a] X.env = (false, eval a X.env) :: starEach [] X.env := by rfl)
    (nb : starEach [Expr.Call (.Name "range" p2) [a] [] p3] X.env = (false, eval (Expr.Call (.Name "range" p2) [a] [] p3) X.env) :: starEach [] X.env := by rfl) : EO X W L 1 (.Call (.Name "list" p) [.Call (.Name "range" p2) [a] [] p3] [] pos) (eRg1 .lst f) :=
  PE.imp (pe_listRg hc hg hm (prg_1 hg2 hm2 ha na) nb) fun σ H Q ⟨ex, ρ, fp, I, o⟩ => ⟨ex, ρ, fp, I, o.bind.mono fun d q v H1 e1 r1 => by
    unfold rgD at q
    split at q
    · rename_i j
      split at q
      · rename_i hj
        refine ⟨j, r1.int, ⟨by omega, by omega, by omega, by omega, by omega⟩, fun l hl => ?_⟩
        refine QO.lst (K := X.K) (ex := ex) (fun v H5 fq e5 ro nd nw => q v H5 fq (e1.trans e5) ro nd fun a ha => e1.free (nw a ha)) (rng_paired 0 j) hl ?_
        rw [rgV_length, sizeLine_eq]
        omega
      · exact q.elim
    · exact q.elim⟩
theorem eo_trg1 (hc : X.calm = true) (hg : Gl X "tuple") (hm : X.mg "tuple" = none) (hg2 : Gl X "range") (hm2 : X.mg "range" = none) (ha : EB X W L n a f)
    (na : starEach [a] X.env = (false, eval a X.env) :: starEach [] X.env := by rfl)
    (nb : starEach [Expr.Call (.Name "range" p2) [a] [] p3] X.env = (false, eval (Expr.Call (.Name "range" p2) [a] [] p3) X.env) :: starEach [] X.env := by rfl) : EO X W L kk (.Call (.Name "tuple" p) [.Call (.Name "range" p2) [a] [] p3] [] pos) (eRg1 .tup f) :=
  PE.imp (pe_tupRg hc hg hm (prg_1 hg2 hm2 ha na) nb) fun σ H Q ⟨ex, ρ, fp, I, o⟩ => ⟨ex, ρ, fp, I, o.bind.mono fun d q v H1 e1 r1 => by
    unfold rgD at q
    split at q
    · rename_i j
      split at q
      · rename_i hj
        refine ⟨j, r1.int, ⟨by omega, by omega, by omega, by omega, by omega⟩, fun l hl => ?_⟩
        refine QO.tup (K := X.K) (ex := ex) (fun v H5 fq e5 ro nd nw => q v H5 fq (e1.trans e5) ro nd fun a ha => e1.free (nw a ha)) (rng_paired 0 j) hl ?_
        rw [rgV_length, sizeLine_eq]
        omega
      · exact q.elim
    · exact q.elim⟩
theorem eo_lrg2 (hc : X.calm = true) (hg : Gl X "list") (hm : X.mg "list" = none) (hg2 : Gl X "range") (hm2 : X.mg "range" = none) (ha : EB X W L n a f) (hb : EB X W L m b g)
    (na : starEach [a, b] X.env = (false, eval a X.env) :: starEach [b] X.env := by rfl) (nb : starEach [b] X.env = (false, eval b X.env) :: starEach [] X.env := by rfl) (hp : (backTo p3 (starEach [b] X.env)).any (·.1) = false := by rfl)
    (nc : starEach [Expr.Call (.Name "range" p2) [a, b] [] p3] X.env = (false, eval (Expr.Call (.Name "range" p2) [a, b] [] p3) X.env) :: starEach [] X.env := by rfl) : EO X W L 1 (.Call (.Name "list" p) [.Call (.Name "range" p2) [a, b] [] p3] [] pos) (eRg2 .lst f g) :=
  PE.imp (pe_listRg hc hg hm (prg_2 hg2 hm2 ha hb na nb hp) nc) fun σ H Q ⟨ex, ρ, fp, I, o⟩ => ⟨ex, ρ, fp, I, o.bind.mono fun d q v H1 e1 r1 => ⟨ex, ρ, fp, I.same e1, (q.bind.later e1).mono fun d2 q2 v2 H2 e2 r2 => by
    cases d with
    | int i =>
      cases d2 with
      | int j =>
        have e9 : rgD .lst i (.int j) = if -(2 ^ 61) ≤ i ∧ i ≤ 2 ^ 61 ∧ -(2 ^ 61) ≤ j ∧ j ≤ 2 ^ 61 ∧ j - i ≤ 16777216 then .ok (.lst (rng i (j - i).toNat)) else .err := rfl
        dsimp only at q2
        rw [e9] at q2
        split at q2
        · rename_i hj
          refine ⟨i, j, r1.int, r2.int, ⟨by omega, by omega, by omega, by omega, by omega⟩, fun l hl => ?_⟩
          refine QO.lst (K := X.K) (ex := ex) (fun v H5 fq e5 ro nd nw => q2 v H5 fq ((e1.trans e2).trans e5) ro nd fun a ha => (e1.trans e2).free (nw a ha)) (rng_paired i j) hl ?_
          rw [rgV_length, sizeLine_eq]
          omega
        · exact q2.elim
      | _ => exact q2.elim
    | _ => exact q2.elim⟩⟩
end
/-! ### f() -/
section
variable {X : Cx} {W : WX} {L : List Nat} {k kr : Nat} {pos p : Pos} {f : Addr} {fd : FuncData} {ps : List Str} {x : Str} {C : List D → Res D}
theorem pe_callS0 {sp : Sp} {E : L2.St → XK} (F : FnOk X.prog X.w X.K X.mg X.base (L2.CX X.prog X.w) k f fd ps sp) (hr : Room k X.A) (hg : Gl X x) (hm : X.mg x = some (.ref f)) (hk : PySem.W.keepIn X.K (.ref f) = true) (hb : Binds X.K fd ps []) (hx : ∀ σ, PassesAt (L2.CX X.prog X.w) X σ (E σ))
    (hdb : (x == ("__debug__" : Str)) = false := by decide) : PE X (.Call (.Name x p) [] [] pos) (tCallS sp E tNil) := by
  refine ⟨fun pins s σ H Q I h => ?_⟩
  refine wpAny_Call_Name_kw (ld_glob I hg hm ?_ hdb)
  exact PySem.W.callWith_K0 I.kIn hk (run_fnS (us := []) F hr hb (hx σ) I .nil h)
theorem eo_call0 (F : FnOk X.prog X.w X.K X.mg X.base (L2.CX X.prog X.w) k f fd ps (Spec X.K X.mg 0 kr C)) (hr : Room k X.A) (hg : Gl X x) (hm : X.mg x = some (.ref f)) (hk : PySem.W.keepIn X.K (.ref f) = true) (hb : Binds X.K fd ps []) (tk : Takes X W)
    (hdb : (x == ("__debug__" : Str)) = false := by decide) : EO X W L kr (.Call (.Name x p) [] [] pos) (eCall C aNil) :=
  PE.imp (pe_callS0 F hr hg hm hk hb (fun σ => passAt tk σ) hdb) fun σ H Q ⟨ex, ρ, fp, I, o⟩ => by
    have o : Out X W σ H (C []) _ := o
    refine ⟨rfl, ex, [], I.ext, .nil, ?_⟩
    cases hC : C [] with
    | ok d =>
      rw [hC] at o
      exact fun v H2 fq e2 ro nd nw => o v H2 fq e2 ro nd nw
    | exc c =>
      rw [hC] at o
      exact fun Cl hCl H' e2 => o Cl hCl H' e2
    | err =>
      rw [hC] at o
      exact o.elim
end
/-! ### a, b, c = .. -/
section
variable {X : Cx} {W : WX} {kr : RM} {Lb L : List Nat} {a b c : Expr} {f g h : EF} {pos : Pos}
theorem sj_par3 {i j l k1 k2 k3 : Nat} {x y z : Str} {px py pz pt : Pos} {kt kt2 : Nat} {pt2 : Pos} (hc : X.calm = true) (hN : X.N.Nodup) (hi : X.N[i]? = some x) (hj : X.N[j]? = some y) (hl : X.N[l]? = some z) (hij : i ≠ j) (hil : i ≠ l) (hjl : j ≠ l)
    (hx : X.env.scope.names.lookup x = some .local) (hy : X.env.scope.names.lookup y = some .local) (hz : X.env.scope.names.lookup z = some .local)
    (h1 : EO X W L k1 a f) (h2 : EO X W L k2 b g) (h3 : EO X W L k3 c h) (li : i < L.length) (lj : j < L.length) (ll : l < L.length)
    (hw : swappedStores [.Tuple [.Name x px, .Name y py, .Name z pz] kt pt] (.Tuple [a, b, c] kt2 pt2) X.env = pure (some [x, y, z])) (hs : swapsWithSole [.Tuple [.Name x px, .Name y py, .Name z pz] kt pt] (.Tuple [a, b, c] kt2 pt2) pos.line X.env = pure false := by rfl)
    (hs1 : starEach [a, b, c] X.env = (false, eval a X.env) :: starEach [b, c] X.env := by rfl) (hs2 : starEach [b, c] X.env = (false, eval b X.env) :: starEach [c] X.env := by rfl) (hs3 : starEach [c] X.env = (false, eval c X.env) :: starEach [] X.env := by rfl) (h0 : kr.b = false ∨ ∀ q ∈ [i, j, l], q ≠ 0 := by first | exact .inl rfl | exact .inr (by decide)) :
    SJ X W kr Lb L (setLv L [i, j, l] [k1, k2, k3]) (.Assign [.Tuple [.Name x px, .Name y py, .Name z pz] kt pt] (.Tuple [a, b, c] kt2 pt2) pos) (sPar [i, j, l] [f, g, h]) :=
  PS.imp (ps_par3 hc hN hi hj hl hij hil hjl hx hy hz (eas_cons h1 (eas_cons h2 (eas_cons h3 eas_nil hs3) hs2) hs1) hw hs) fun Dn σ H ⟨ex0, Gs, ρ, fp, S, o⟩ => by
    refine ⟨_, ρ, fp, S.si, (flow_out S o).mono fun ds q vs fqs H1 e1 r nd nw => ?_⟩
    obtain ⟨fp', S'⟩ := S.puts (is := [i, j, l]) e1 r nd nw rfl (fun l' hl => by
      rcases List.mem_cons.mp hl with rfl | hl
      · exact li
      · rcases List.mem_cons.mp hl with rfl | hl
        · exact lj
        · rw [List.mem_singleton.mp hl]
          exact ll) (h0_all ex0 h0)
    have hl := r.lens
    clear nd nw r
    match vs, hl with
    | [v1, v2, v3], _ => exact ⟨v1, v2, v3, rfl, q _ _ _ S'⟩
end
end Px

namespace Px
open PySem PySem.Spec PyProof.Rows L2
/-! ### sep.join(a str) -/
section
open Builtin Builtin.Str
variable {prog : Program} {w : World} {A : Around} {E : Value → Shared → Prop} {s : Shared}
theorem join_tree_str (sep y : Str) (t u : Tok) : «str.join» ⟨[.str sep t, .str y u], []⟩ = (do
    let ty ← typeOf (.str y u)
    if (ty == .type "list" || ty == .type "tuple") = true then (do
      match ← seqItems? (.str y u) with
      | some xs => joinTail sep xs.toList
      | none => unsupported "internal:str.join")
    else (do
      let it ← (pyIter (.str y u)).tryCatch fun e => do
        if ← isInstance e (.type "TypeError") then rule "str.join.not-iterable"; raiseError "TypeError" "can only join an iterable" else throw e
      let items ← collect it
      joinTail sep items)) := rfl
def chs (y : Str) : List Str := y.cps.toList.map fun c => ⟨#[c]⟩
theorem join_str {x y : Str} {t u : Tok} {Q : Value → Shared → Prop} (hh : A.handled = none) (hsz : y.length ≤ sizeLine) (hok : y.length + y.length * x.length ≤ 16777216)
    (hq : ∀ h' k t', (∀ b o, s.heap.get? b = some o → h'.get? b = some o) → Q (.str (Txt.join x (chs y)) t') { s with heap := h', toks := k }) :
    wpAny (model prog w) A (call (.builtin "str.join") [.str x t, .str y u]) Q E s := by
  refine wpAny_call (codeAny_call_builtin F.slot_str_join.plain F.entry_str_join (F.slot_str_join.check _ _ _ _ _ _ _ _ (typeIs_str _ _ _) (F.args_str_join_2 _ _) ?_))
  rw [join_tree_str]
  refine wpAny_bind (wpAny_typeOf (typeIs_str _ y u) ?_)
  show wpAny _ A.in1 ((pyIter (.str y u)).tryCatch _ >>= fun it => collect it >>= fun items => joinTail x items) _ _ s
  refine wpAny_bind (wpAny_tryCatch (wpAny_pyIter_strU ?_))
  have hx : ∀ b o, s.heap.get? b = some o → (s.heap.push { cls := .type (strIterType y), data := .fields #[.str y u, .int 0 0] }).get? b = some o := fun b o e => Heap.get?_push_of_some _ e
  refine wpAny_bind (wpAny_collect_strIter (ty := strIterType y) (x := y) (t := u) hh (by unfold strIterType; split <;> simp) ⟨_, Heap.get?_push_size _ rfl, rfl, rfl⟩ (fun s' acc hk hg hd ho hacc => ?_) hsz)
  obtain ⟨l, hl⟩ := exists_strValues acc.toList fun v hv => by
    obtain ⟨j, hj, rfl⟩ := Array.mem_iff_getElem.mp (Array.mem_toList_iff.mp hv)
    obtain ⟨c, u, _, e⟩ := hacc.2 j _ (Array.getElem?_eq_getElem hj)
    exact ⟨_, u, e⟩
  have hlen : l.length = y.cps.size := by
    have := congrArg List.length hl
    have h2 : acc.toList.length = y.cps.size := by rw [Array.length_toList]; exact hacc.1
    rw [h2] at this
    rw [← this]
    simp [strValues]
  have hl1 : l.map (·.1) = chs y := by
    refine List.ext_getElem? fun j => ?_
    by_cases hj : j < l.length
    · have hj2 : j < y.cps.size := by omega
      have e1 : acc.toList[j]? = some (.str (l[j]).1 (l[j]).2) := by
        rw [← hl]
        simp [strValues, hj]
      rw [Array.getElem?_toList] at e1
      obtain ⟨c, u', hc, e2⟩ := hacc.2 j _ e1
      have h1 : (l[j]).1 = ⟨#[c]⟩ := (Value.str.inj e2).1
      rw [List.getElem?_map, List.getElem?_eq_getElem hj]
      unfold chs
      rw [List.getElem?_map, Array.getElem?_toList, hc]
      simp [h1]
    · rw [List.getElem?_eq_none (by rw [List.length_map]; omega), List.getElem?_eq_none (by unfold chs; rw [List.length_map, Array.length_toList]; omega)]
  have hsum : ∀ l : List Nat, ((l.map fun c => (⟨#[c]⟩ : Str)).map (·.length)).sum = l.length := fun l => by
    induction l with
    | nil => rfl
    | cons a l ih =>
      rw [List.map_cons, List.map_cons, List.sum_cons, ih, List.length_cons]
      show 1 + l.length = _
      omega
  have hok' : JoinOk x (l.map (·.1)) = true := by
    rw [hl1]
    refine joinOk_of ?_
    unfold chs
    rw [hsum, List.length_map, Array.length_toList]
    exact hok
  rw [← hl]
  unfold JoinOk at hok'
  rw [Bool.not_eq_true'] at hok'
  have g : Gives (joinTail x (strValues l)) (joinMade x l) := by
    have g0 := gives_joinTail x l hok'
    cases l with
    | nil => exact g0
    | cons p r => cases r with
      | nil => exact g0
      | cons q r' => exact g0
  refine g prog w A (wants Q E) s' (post_join l ⟨joinFit_length hok', fun t' k => ?_⟩)
  rw [hl1]
  obtain ⟨h', g', d', tk', os'⟩ := s'
  cases hg
  cases hd
  cases ho
  exact hq h' k t' fun b o e => hk b o (fun q => absurd (Heap.lt_size e) (by rw [q]; exact Nat.lt_irrefl _)) (hx b o e)
end
def fJoinS (a : Str) : List D → Res D
  | [.str y] => if y.length ≤ sizeLine ∧ y.length + y.length * a.length ≤ 16777216 then .ok (.str (Txt.join a (chs y))) else .err
  | [.lst xs] => joinR a xs
  | [.tup xs] => joinR a xs
  | _ => .err
theorem fJoinS_nx : NoXS fJoinS := fun s ds c h => by
  unfold fJoinS at h
  split at h <;> first | cases h | (split at h <;> cases h) | (unfold joinR at h; split at h <;> first | cases h | (split at h <;> cases h))
section
variable {X : Cx} {k : Nat}
theorem m_joinS (hc : X.calm = true) : MethS X "str.join" 1 k fJoinS := fun pins s σ H x xs v us Q I rx r h => by
  obtain ⟨ex, a, ds, d, ext, rfl, rs, e, q⟩ := h
  unfold fJoinS at e
  split at e
  · split at e
    · rename_i y hy
      cases e
      cases rs with
      | cons r1 t =>
        cases t
        have := r1.str
        subst this
        cases r with
        | cons r2 r3 =>
          cases r3
          obtain ⟨t1, rfl⟩ := rx
          obtain ⟨t2, rfl⟩ := r2
          exact join_str (I.ok.hd hc) hy.1 hy.2 fun h' kk t' hk => ⟨.str (Txt.join a (chs _)), H, I.kept (t' := kk) hk, ⟨t', rfl⟩, q.str⟩
    · cases e
  · exact m_join (k := k) pins s σ H _ xs v us Q I rx r ⟨ex, a, _, d, ext, rfl, rs, e, q⟩
  · exact m_join (k := k) pins s σ H _ xs v us Q I rx r ⟨ex, a, _, d, ext, rfl, rs, e, q⟩
  · cases e
end
end Px

namespace Px
open PySem PySem.Spec PyProof.Rows L2
/-! ### plain reading: more tools -/
abbrev dN (n : Nat) : D := .int (n : Int)
theorem dN_def (n : Nat) : dN n = .int (n : Int) := id rfl
mutual
theorem eqD_self : ∀ (k : Nat) (d : D), okN k d = true → eqD d d = true
  | k, .non, _ => by rw [eqD]
  | k, .bl b, _ => by rw [eqD]; simp
  | k, .int b, _ => by rw [eqD]; simp
  | k, .str b, _ => by rw [eqD]; simp
  | 0, .tup xs, h => by rw [okN] at h; cases h
  | k + 1, .tup xs, h => by rw [okN] at h; rw [eqD]; exact eqDL_self k xs h
  | 0, .lst xs, h => by rw [okN] at h; cases h
  | k + 1, .lst xs, h => by rw [okN] at h; rw [eqD]; exact eqDL_self k xs h
  | k, .dic _ _ _, h => by rw [okN] at h; cases h
  | k, .ins _ _ _, h => by rw [okN] at h; cases h
  | k, .set _, h => by rw [okN] at h; cases h
  | k, .exc _, h => by rw [okN] at h; cases h
  | k, .oth, h => by rw [okN] at h; cases h
theorem eqDL_self : ∀ (k : Nat) (xs : List D), okL k xs = true → eqDL xs xs = true
  | k, [], _ => by rw [eqDL]
  | k, x :: xs, h => by
    rw [okL, Bool.and_eq_true] at h
    rw [eqDL, eqD_self k x h.1, eqDL_self k xs h.2]
    rfl
end
theorem dEq_self {d : D} (h : okN 60 d = true) : dEq d d = .ok (.bl true) := by
  unfold dEq
  rw [h, eqD_self 60 d h]
  rfl
theorem dNe_self {d : D} (h : okN 60 d = true) : dNe d d = .ok (.bl false) := by
  unfold dNe
  rw [h, eqD_self 60 d h]
  rfl
mutual
theorem okN_mono : ∀ {k m : Nat} {d : D}, k ≤ m → okN k d = true → okN m d = true
  | k, m, .non, _, _ => by rw [okN]
  | k, m, .bl _, _, _ => by rw [okN]
  | k, m, .int _, _, _ => by rw [okN]
  | k, m, .str s, _, h => by rw [okN] at h ⊢; exact h
  | 0, m, .tup xs, _, h => by rw [okN] at h; cases h
  | k + 1, 0, .tup xs, hk, h => by omega
  | k + 1, m + 1, .tup xs, hk, h => by rw [okN] at h ⊢; exact okL_mono (by omega) h
  | 0, m, .lst xs, _, h => by rw [okN] at h; cases h
  | k + 1, 0, .lst xs, hk, h => by omega
  | k + 1, m + 1, .lst xs, hk, h => by rw [okN] at h ⊢; exact okL_mono (by omega) h
  | k, m, .dic _ _ _, _, h => by rw [okN] at h; cases h
  | k, m, .ins _ _ _, _, h => by rw [okN] at h; cases h
  | k, m, .set _, _, h => by rw [okN] at h; cases h
  | k, m, .exc _, _, h => by rw [okN] at h; cases h
  | k, m, .oth, _, h => by rw [okN] at h; cases h
theorem okL_mono : ∀ {k m : Nat} {xs : List D}, k ≤ m → okL k xs = true → okL m xs = true
  | k, m, [], _, _ => by rw [okL]
  | k, m, x :: xs, hk, h => by
    rw [okL, Bool.and_eq_true] at h ⊢
    exact ⟨okN_mono hk h.1, okL_mono hk h.2⟩
end
theorem okN_tup {k : Nat} {xs : List D} (h : ∀ x ∈ xs, okN k x = true) : okN (k + 1) (.tup xs) = true := by
  rw [okN, okL_all]
  exact List.all_eq_true.mpr h
theorem okN_lst {k : Nat} {xs : List D} (h : ∀ x ∈ xs, okN k x = true) : okN (k + 1) (.lst xs) = true := by
  rw [okN, okL_all]
  exact List.all_eq_true.mpr h
@[simp] theorem ok_non (k : Nat) : okN k .non = true := by rw [okN]
@[simp] theorem ok_bl (k : Nat) (b : Bool) : okN k (.bl b) = true := by rw [okN]
@[simp] theorem ok_int (k : Nat) (i : Int) : okN k (.int i) = true := by rw [okN]
@[simp] theorem ok_str (k : Nat) (s : Str) : okN k (.str s) = PyData.strOk s := by rw [okN]
theorem ok_ints (k : Nat) (l : List Nat) : okN (k + 1) (.tup (l.map dN)) = true := okN_tup fun x h => by
  obtain ⟨n, _, rfl⟩ := List.mem_map.mp h
  exact ok_int _ _
/-- equal exactly if the images are -/
theorem eqDL_map {α : Type} [DecidableEq α] {f : α → D} (h : ∀ a b, eqD (f a) (f b) = decide (a = b)) : ∀ (xs ys : List α), eqDL (xs.map f) (ys.map f) = decide (xs = ys)
  | [], [] => by rw [List.map_nil, eqDL]; simp
  | [], y :: ys => by rw [List.map_nil, List.map_cons, eqDL]; simp; all_goals (intros; contradiction)
  | x :: xs, [] => by rw [List.map_nil, List.map_cons, eqDL]; simp; all_goals (intros; contradiction)
  | x :: xs, y :: ys => by
    rw [List.map_cons, List.map_cons, eqDL, h, eqDL_map h xs ys]
    simp
theorem eqD_N (a b : Nat) : eqD (dN a) (dN b) = decide (a = b) := by
  rw [eqD]
  by_cases h : a = b
  · subst h; simp
  · rw [decide_eq_false h]
    exact beq_eq_false_iff_ne.mpr fun q => h (by omega)
theorem cut_map {α β : Type} (f : α → β) (xs : List α) (a b : Option Int) : cut (xs.map f) a b = (cut xs a b).map f := by
  unfold cut
  rw [List.length_map, List.map_take, List.map_drop]
theorem dIx_tm {α : Type} {f : α → D} {xs : List α} {n : Nat} {a : α} (h : xs[n]? = some a) : dIx (.tup (xs.map f)) (.int n) = .ok (f a) := dIx_tup (by rw [List.getElem?_map, h]; rfl)
theorem dIx_lm {α : Type} {f : α → D} {xs : List α} {n : Nat} {a : α} (h : xs[n]? = some a) : dIx (.lst (xs.map f)) (.int n) = .ok (f a) := dIx_lst (by rw [List.getElem?_map, h]; rfl)
theorem whileE_succ (t : Px.Env → Res Bool) (F : SF) (n : Nat) (ρ : Px.Env) : whileE t F (n + 1) ρ = (t ρ).flow ρ fun b => if b = true then loopK (F ρ) (whileE t F n) else .next ρ := id rfl
@[simp] theorem x_sWhile (n : Nat) (t : Px.Env → Res Bool) (F : SF) : sWhile n t F = whileE t F n := id rfl
@[simp] theorem forE_nil (gf : Px.Env → D → Res Px.Env) (F : SF) (ρ : Px.Env) : forE gf F [] ρ = .next ρ := id rfl
theorem forE_cons (gf : Px.Env → D → Res Px.Env) (F : SF) (d : D) (ds : List D) (ρ : Px.Env) : forE gf F (d :: ds) ρ = (gf ρ d).must fun ρ1 => loopK (F ρ1) (forE gf F ds) := id rfl
/-- x += e -/
def augK (r : Res D) (ρ : Px.Env) (i : Nat) : Px.Flow := match r with
  | .ok d => .next (ρ.set i (some d))
  | _ => .err
@[simp] theorem augK_ok (d : D) (ρ : Px.Env) (i : Nat) : augK (.ok d) ρ i = .next (ρ.set i (some d)) := id rfl
@[simp] theorem x_sAug (o : D → D → Res D) (i : Nat) (f : EF) (ρ : Px.Env) : sAug o i f ρ = (vD (ρ.getD i none)).flow ρ fun a => (f ρ).flow ρ fun b => augK (o a b) ρ i := by
  unfold sAug
  rw [x_eVar]
  rfl
@[simp] theorem flow_ite {α : Type} {c : Prop} [Decidable c] (a b : Res α) (ρ : Px.Env) (k : α → Px.Flow) : (if c then a else b).flow ρ k = if c then a.flow ρ k else b.flow ρ k := by split <;> rfl
@[simp] theorem bind_ite {α β : Type} {c : Prop} [Decidable c] (a b : Res α) (k : α → Res β) : ((if c then a else b) >>= k) = if c then a >>= k else b >>= k := by split <;> rfl
end Px

namespace Px
open PySem PySem.Spec PyProof.Rows L2
/-! ### texts by their signs -/
def sOf (l : List Nat) : Str := ⟨l.toArray⟩
abbrev dS (l : List Nat) : D := .str (sOf l)
theorem sOf_len (l : List Nat) : (sOf l).length = l.length := id rfl
theorem sOf_cps (l : List Nat) : (sOf l).cps.toList = l := id rfl
theorem sOf_one (c : Nat) : (⟨#[c]⟩ : Str) = sOf [c] := id rfl
theorem sOf_inj {a b : List Nat} (h : sOf a = sOf b) : a = b := by
  have := congrArg (fun s : Str => s.cps.toList) h
  exact this
theorem sOf_app (a b : List Nat) : sOf a ++ sOf b = sOf (a ++ b) := by
  show (⟨a.toArray ++ b.toArray⟩ : Str) = ⟨(a ++ b).toArray⟩
  rw [List.append_toArray]
theorem sOf_eta (s : Str) : sOf s.cps.toList = s := by
  obtain ⟨⟨l⟩⟩ := s
  rfl
theorem s_len (l : List Nat) (h : l.length ≤ 16777216) : fLen [.str (sOf l)] = .ok (.int l.length) := by
  show (if _ then _ else _) = _
  rw [sOf_len, if_pos (by rw [sizeLine_eq]; exact h)]
theorem s_ix (l : List Nat) (n c : Nat) (h : l[n]? = some c) (hl : l.length ≤ 16777216) : dIx (.str (sOf l)) (.int n) = .ok (.str (sOf [c])) := by
  show (if _ then _ else _) = _
  rw [sOf_len, if_pos (by rw [sizeLine_eq]; exact hl), sOf_cps, atI_nat, h]
  rfl
theorem s_items (l : List Nat) (h : l.length ≤ 16777216) : dItems (.str (sOf l)) = .ok (l.map fun c => .str (sOf [c])) := by
  show (if _ then _ else _) = _
  rw [sOf_len, if_pos (by rw [sizeLine_eq]; exact h)]
  rfl
theorem s_add (a b : List Nat) (h : a.length + b.length ≤ 16777216) : dAdd (.str (sOf a)) (.str (sOf b)) = .ok (.str (sOf (a ++ b))) := by
  show (if _ then _ else _) = _
  rw [sOf_len, sOf_len, if_pos (by rw [sizeLine_eq]; exact h), sOf_app]
theorem s_addT (a b : List Nat) (h : a.length + b.length ≤ 16777216) : dAddT (.str (sOf a)) (.str (sOf b)) = .ok (.str (sOf (a ++ b))) := by
  show (if _ then _ else _) = _
  rw [sOf_len, sOf_len, if_pos (by rw [sizeLine_eq]; exact h), sOf_app]
theorem s_sl (l : List Nat) (a b : Option Int) (h : l.length ≤ 16777216) : dSl (.str (sOf l)) a b = .ok (.str (sOf (cut l a b))) := by
  show (if _ then _ else _) = _
  rw [sOf_len, if_pos (by rw [sizeLine_eq]; exact h), sOf_cps]
  rfl
theorem s_rev (l : List Nat) (h : l.length ≤ 16777216) : dRev (.str (sOf l)) = .ok (.str (sOf l.reverse)) := by
  show (if _ then _ else _) = _
  rw [sOf_len, if_pos (by rw [sizeLine_eq]; exact h), sOf_cps]
  rfl
theorem s_in (c : Nat) (l : List Nat) : dIn (.str (sOf [c])) (.str (sOf l)) = .ok (.bl (decide (c ∈ l))) := by
  have e : (sOf [c]).cps.size = 1 := rfl
  show (if (sOf [c]).cps.size = 1 then Res.ok (D.bl (decide ((sOf [c]).cps.getD 0 0 ∈ (sOf l).cps.toList))) else .err) = _
  rw [if_pos e]
  rfl
theorem s_notIn (c : Nat) (l : List Nat) : dNotIn (.str (sOf [c])) (.str (sOf l)) = .ok (.bl (!decide (c ∈ l))) := by
  unfold dNotIn
  rw [s_in]
theorem s_ok (l : List Nat) : PyData.strOk (sOf l) = l.all (· < 0x110000) := by
  unfold PyData.strOk
  rw [← Array.all_toList]
  rfl
theorem s_eqD (a b : List Nat) : eqD (.str (sOf a)) (.str (sOf b)) = decide (a = b) := by
  rw [eqD]
  by_cases h : a = b
  · subst h; simp
  · rw [decide_eq_false h]
    exact beq_eq_false_iff_ne.mpr fun q => h (sOf_inj q)
theorem s_tru (l : List Nat) (h : l.length ≤ 16777216) : dTru (.str (sOf l)) = .ok (!l.isEmpty) := by
  show (if _ then _ else _) = _
  rw [sOf_len, if_pos (by rw [sizeLine_eq]; exact h)]
  congr 1
  cases l with
  | nil => rfl
  | cons a l =>
    rw [List.length_cons]
    simp
    omega
theorem s_sumlen : ∀ ps : List (List Nat), ((ps.map sOf).map (·.length)).sum = (ps.map (·.length)).sum
  | [] => rfl
  | p :: ps => by rw [List.map_cons, List.map_cons, List.map_cons, List.sum_cons, List.sum_cons, s_sumlen ps, sOf_len]
theorem s_txts : ∀ ps : List (List Nat), txtsD (ps.map fun l => .str (sOf l)) = some (ps.map sOf)
  | [] => rfl
  | p :: ps => by rw [List.map_cons, txtsD, s_txts ps]; rfl
theorem s_tl (ps : List (List Nat)) : (ps.map sOf).map TL.tl = ps := by
  induction ps with
  | nil => rfl
  | cons p ps ih => rw [List.map_cons, List.map_cons, ih]; rfl
theorem s_join (s : List Nat) (ps : List (List Nat)) (h : (ps.map (·.length)).sum + ps.length * s.length ≤ 16777216) : joinR (sOf s) (ps.map fun l => .str (sOf l)) = .ok (.str (sOf (TL.joinL s ps))) := by
  unfold joinR
  rw [s_txts]
  dsimp only
  rw [s_sumlen, List.length_map, sOf_len, if_pos h]
  congr 2
  have := TL.tl_join (sOf s) (ps.map sOf)
  rw [s_tl] at this
  rw [← sOf_eta (Txt.join (sOf s) (ps.map sOf))]
  congr 1
  rw [show Txt.join (sOf s) (ps.map sOf) = Str.join (sOf s) (ps.map sOf) from StrLaws.glued_eq_join _ _]
  exact this
theorem joinL_nil : ∀ ps : List (List Nat), TL.joinL [] ps = ps.flatten
  | [] => rfl
  | [p] => by rw [TL.joinL]; simp
  | p :: q :: r => by rw [TL.joinL, joinL_nil (q :: r)]; simp
@[simp] theorem x_all_c {α : Type} (p : α → Bool) (xs : List α) : fAll [.lst (xs.map (D.bl ∘ p))] = .ok (.bl (xs.all p)) := by
  rw [← List.map_map, x_all, List.all_map]
  rfl
@[simp] theorem x_any_c {α : Type} (p : α → Bool) (xs : List α) : fAny [.lst (xs.map (D.bl ∘ p))] = .ok (.bl (xs.any p)) := by
  rw [← List.map_map, x_any, List.any_map]
  rfl
@[simp] theorem x_all_f {α : Type} (p : α → Bool) (xs : List α) : fAll [.lst (xs.map fun x => D.bl (p x))] = .ok (.bl (xs.all p)) := x_all_c p xs
@[simp] theorem x_any_f {α : Type} (p : α → Bool) (xs : List α) : fAny [.lst (xs.map fun x => D.bl (p x))] = .ok (.bl (xs.any p)) := x_any_c p xs
/-- a comprehension over what comes of a list by a map -/
theorem lc_fun {α : Type} {gf : Px.Env → D → Res Px.Env} {f : EF} {ρ : Px.Env} {e : α → D} {g : α → D} : ∀ {xs : List α}, (∀ x ∈ xs, ∃ ρ1, gf ρ (e x) = .ok ρ1 ∧ f ρ1 = .ok (g x)) → lcE gf bYes f ρ (xs.map e) = .ok (xs.map g)
  | [], _ => rfl
  | x :: xs, h => by
    obtain ⟨ρ1, e1, e2⟩ := h x List.mem_cons_self
    have := lc_fun (xs := xs) fun y hy => h y (List.mem_cons_of_mem _ hy)
    simp [lcE, e1, e2, this]
end Px

namespace Px
open PySem PySem.Spec PySem.Calls PyProof.Rows L2
/-! ### sorted(xs) of a tuple (the kit has it of lists) -/
section
variable {prog : Program} {w : World} {A : Around} {E : Value → Shared → Prop} {s : Shared}
theorem collect_tuple {l : Addr} {vs : List Value} {Q : List Value → Shared → Prop} (hl : s.heap.IsTuple l vs.toArray)
    (h : Q vs { s with heap := (s.heap.push (seqObj "list" #[] 0)).update s.heap.objs.size (Obj.mapSeq (· ++ vs.toArray)) }) (hsz : vs.length ≤ sizeLine) :
    wpAny (model prog w) A (collect (.ref l)) Q E s := by
  obtain ⟨o, ho, hc, n, hd⟩ := id hl
  unfold collect
  refine wpAny_bind (wpAny_runValue (codeAny_builtin entry_proto_collect' ?_))
  show wpAny _ _ (do again (.builtin "list.__iadd__" ⟨[← newList [], .ref l], []⟩)) _ _ s
  refine wpAny_bind (wpAny_newList (wpAny_pure ⟨Code.quiet_builtin _ (by decide +kernel), codeAny_builtin entry_list_iadd' ?_⟩))
  show wpAny _ _ (Builtin.List.listExtendWith (.ref s.heap.objs.size) (.ref l) (.ref s.heap.objs.size)) _ _ { s with heap := s.heap.push (seqObj "list" #[] 0) }
  unfold Builtin.List.listExtendWith
  have ho' : (s.heap.push (seqObj "list" #[] 0)).get? l = some o := Heap.get?_push_of_some _ ho
  refine wpAny_bind (wpAny_typeOf (T := "tuple") ⟨o, ho', hc⟩ ?_)
  have ht : (Value.type "tuple" == Value.type "tuple") = true := by rfl
  rw [if_pos (by rw [ht]; simp)]
  refine wpAny_bind (listItems_at ho' hd ?_)
  refine wpAny_bind (listItems_at (xs := #[]) (n := 0) (Heap.get?_push_size _ rfl) rfl ?_)
  rw [if_neg (by simp)]
  refine wpAny_bind (listUpdate_at (xs := #[]) (n := 0) (Heap.get?_push_size _ rfl) rfl ?_ (Nat.zero_le _) (by show (#[] ++ vs.toArray).size ≤ sizeLine + 1; simp only [Array.size_append, List.size_toArray, List.length_nil]; omega))
  refine wpAny_pure ?_
  show wpAny (model prog w) A (do
      let o ← load s.heap.objs.size
      match o.data with
      | .seq xs _ => pure xs.toList
      | _ => unsupported "internal:collect") Q E { s with heap := (s.heap.push (seqObj "list" #[] 0)).update s.heap.objs.size (Obj.mapSeq (· ++ vs.toArray)) }
  refine wpAny_bind (wpAny_load (get?_update_seq (Heap.get?_push_size _ rfl) _) ?_)
  show wpAny _ _ (pure ((#[] : Array Value) ++ vs.toArray).toList) Q E _
  rw [show ((#[] : Array Value) ++ vs.toArray).toList = vs by simp]
  exact wpAny_pure h
theorem sorted_of_sort_t {l : Addr} {vs : List Value} {Q : Value → Shared → Prop} (hl : s.heap.IsTuple l vs.toArray) (hL : vs.length ≤ sizeLine)
    (body : ∀ E' : Value → Shared → Prop, wpAny (model prog w) A.in1.in1 (Builtin.«list.sort» ⟨[.ref (s.heap.objs.size + 1)], []⟩) (fun f s' => f = .done (.ret .none) ∧ Q (.ref (s.heap.objs.size + 1)) s') E' { s with heap := PySem.W.copyHeap s.heap vs }) :
    wpAny (model prog w) A (call (.builtin "sorted") [.ref l] []) Q E s := by
  refine call_function_entry_kw kind_sorted plain_sorted entry_sorted (args_sorted1 _) ?_
  unfold Builtin.«sorted»
  refine wpAny_bind (m := checkCount "sorted" 1 1 _) (wpAny_pure ?_)
  refine wpAny_bind (collect_tuple hl ?_ hL)
  refine wpAny_bind (wpAny_newList ?_ hL)
  have hsz : ((s.heap.push (seqObj "list" #[] 0)).update s.heap.objs.size (Obj.mapSeq (· ++ vs.toArray))).objs.size = s.heap.objs.size + 1 := by
    rw [Heap.size_update, size_push']
  show wpAny _ _ _ _ _ { s with heap := PySem.W.copyHeap s.heap vs }
  rw [hsz]
  refine wpAny_bind (wpAny_holding (wpAny_call_entry_kw slot_list_sort ⟨_, PySem.W.copyHeap_at s.heap vs, rfl⟩ entry_list_sort ?body (args_list_sort _)))
  case body =>
    show wpAny (model prog w) A.in1.in1 (Builtin.«list.sort» ⟨[.ref (s.heap.objs.size + 1)], []⟩) _ _ _
    refine wpAny_mono (body _) (fun f s' hf => ?_) fun _ _ e => e
    obtain ⟨rfl, hq⟩ := hf
    exact ⟨_, rfl, wpAny_pure ⟨_, rfl, hq⟩⟩
variable {β : Type} {vs : List Value} {bs : List β} {enc : β → PyData} {R : Value → β → Prop}
theorem sorted_data_t {l : Addr} {Q : Value → Shared → Prop} (hl : s.heap.IsTuple l vs.toArray) (e : PySem.W.EachIs R vs bs) (er : PySem.W.EachIs (fun v b => ∃ as, Reads s.heap v (enc b) as) vs bs) (hal : PySem.W.AllAlike (bs.map enc)) (hk : PySem.W.Sortable (bs.map enc)) (hL : bs.length ≤ sizeLine)
    (hu : ∀ b, b ∈ bs → A.units + 2 + (enc b).depth < cLine) (h : ∀ out, out.length = bs.length → PySem.W.EachIs R out (bs.mergeSort (PySem.W.dataLe false enc)) → Q (.ref (s.heap.objs.size + 1)) { s with heap := sortedAll s.heap vs (List.toArray out) }) :
    wpAny (model prog w) A (call (.builtin "sorted") [.ref l] []) Q E s := by
  have er' : PySem.W.EachIs (fun v b => ∃ as, Reads (PySem.W.sortingHeap (PySem.W.copyHeap s.heap vs) (s.heap.objs.size + 1) vs) v (enc b) as) vs bs := er.mono fun _ _ ⟨as, r⟩ => ⟨as, PyProof.Rows.Reads.keeps (fun _ _ => PySem.W.sorting_copy_old) r⟩
  exact sorted_of_sort_t hl (by rw [e.length]; exact hL) fun _ => PySem.W.list_sort_vals (s := { s with heap := PySem.W.copyHeap s.heap vs }) (PySem.W.copyHeap_at s.heap vs)
    (PySem.W.SortsAt.data (s := { s with heap := PySem.W.sortingHeap (PySem.W.copyHeap s.heap vs) (s.heap.objs.size + 1) vs }) (PySem.W.each_map (R := fun v d => ∃ as, Reads (PySem.W.sortingHeap (PySem.W.copyHeap s.heap vs) (s.heap.objs.size + 1) vs) v d as) enc er') hal hk (PySem.W.bound_map hu)) (by rw [e.length]; exact hL)
    ⟨rfl, h _ (by rw [PySem.W.sortVals_length false rfl]; exact e.length) (PySem.W.sortVals_data false e er' hal)⟩
end
/-! ### the rule -/
def tupAt : D → Bool
  | .tup (_ :: _) => true
  | _ => false
def noTup : D → Bool
  | .non => false
  | .tup _ => false
  | _ => true
def srtOk (xs : List D) : Bool := okL 60 xs && (xs.all fun a => xs.all fun b => PySem.W.alike (toP a) (toP b)) && (xs.all tupAt || xs.all noTup)
def dLe (a b : D) : Bool := PySem.W.dataLe false toP a b
def fSorted : List D → Res D
  | [.tup xs] => if srtOk xs = true then .ok (.lst (xs.mergeSort dLe)) else .err
  | [.lst xs] => if srtOk xs = true then .ok (.lst (xs.mergeSort dLe)) else .err
  | _ => .err
theorem fSorted_nx : NoXL fSorted := fun ds c h => by
  unfold fSorted at h
  split at h <;> first | cases h | (split at h <;> cases h)
theorem srt_facts {xs : List D} (h : srtOk xs = true) : (∀ b, b ∈ xs → (toP b).depth ≤ 60) ∧ PySem.W.AllAlike (xs.map toP) ∧ PySem.W.Sortable (xs.map toP) := by
  unfold srtOk at h
  rw [Bool.and_eq_true, Bool.and_eq_true, okL_all] at h
  obtain ⟨⟨h1, h2⟩, h3⟩ := h
  refine ⟨fun b hb => (ok_lay 60 b (List.all_eq_true.mp h1 b hb)).2, ?_, ?_⟩
  · intro d hd d' hd'
    obtain ⟨a, ha, rfl⟩ := List.mem_map.mp hd
    obtain ⟨b, hb, rfl⟩ := List.mem_map.mp hd'
    exact List.all_eq_true.mp (List.all_eq_true.mp h2 a ha) b hb
  · rw [Bool.or_eq_true] at h3
    rcases h3 with h3 | h3
    · refine .inl fun d hd => ?_
      obtain ⟨a, ha, rfl⟩ := List.mem_map.mp hd
      have := List.all_eq_true.mp h3 a ha
      cases a with
      | tup ys =>
        cases ys with
        | nil => cases this
        | cons y ys => exact ⟨toP y, toPL ys, by rw [toP, toPL]⟩
      | _ => cases this
    · refine .inr fun d hd => ?_
      obtain ⟨a, ha, rfl⟩ := List.mem_map.mp hd
      have := List.all_eq_true.mp h3 a ha
      have ok := List.all_eq_true.mp h1 a ha
      cases a with
      | tup ys => cases this
      | non => cases this
      | bl b => exact ⟨by rw [toP]; exact PyData.noConfusion, fun ys h => by rw [toP] at h; cases h⟩
      | int b => exact ⟨by rw [toP]; exact PyData.noConfusion, fun ys h => by rw [toP] at h; cases h⟩
      | str b => exact ⟨by rw [toP]; exact PyData.noConfusion, fun ys h => by rw [toP] at h; cases h⟩
      | lst b => exact ⟨by rw [toP]; exact PyData.noConfusion, fun ys h => by rw [toP] at h; cases h⟩
      | _ => exact absurd ok (by simp [okN])
section
variable {X : Cx}
/-- what a value stands for, by a plain datum -/
def Stands (K : PySem.W.Frag) (H : Hp) (v : Value) (d : D) : Prop := ∃ x, RelV x v ∧ R K (fun _ => False) H d x
theorem stands_of {K : PySem.W.Frag} {ex : AS} {H : Hp} (P : D → V → Prop) : ∀ {ds : List D} {xs : List V} {us : List Value}, Paired P ds xs → Vals xs us → PySem.W.EachIs (fun v d => ∃ x, RelV x v ∧ P d x) us ds
  | [], _, _, .nil, h => by cases h; exact .nil
  | d :: ds, _, _, .cons r t, h => by
    cases h with
    | cons h1 h2 => exact .cons ⟨_, h1, r⟩ (stands_of (K := K) (ex := ex) (H := H) P t h2)
theorem of_stands (P : D → V → Prop) : ∀ {ds : List D} {us : List Value}, PySem.W.EachIs (fun v d => ∃ x, RelV x v ∧ P d x) us ds → ∃ xs, Paired P ds xs ∧ Vals xs us
  | _, _, .nil => ⟨[], .nil, .nil⟩
  | _, _, .cons ⟨x, h1, r⟩ t => by
    obtain ⟨xs, p, q⟩ := of_stands P t
    exact ⟨x :: xs, .cons r p, .cons h1 q⟩
theorem Paired.also {α β : Type} {F : α → β → Prop} {p : α → Prop} : ∀ {as : List α} {bs : List β}, Paired F as bs → (∀ a ∈ as, p a) → Paired (fun a b => F a b ∧ p a) as bs
  | _, _, .nil, _ => .nil
  | _, _, .cons r t, h => .cons ⟨r, h _ List.mem_cons_self⟩ (Paired.also t fun a ha => h a (List.mem_cons_of_mem _ ha))
theorem c_sorted (hu : X.A.units + 64 < cLine) : CallD X 1 1 (.builtin "sorted") fSorted := fun pins s σ H xs us Q I r h => by
  obtain ⟨ex, ds, d, ext, rs, e, q⟩ := h
  have key : ∀ (zs : List D) (a : Addr) (ys : List V) (its : List Value), srtOk zs = true → d = .lst (zs.mergeSort dLe) → Paired (R X.K ex H) zs ys → Vals ys its → ys.length ≤ sizeLine → (s.heap.IsTuple a its.toArray ∨ s.heap.IsList a its.toArray) → wpAny (model X.prog X.w) X.A (call (.builtin "sorted") [.ref a] []) (L2.EP X pins σ Q) X.xe s := fun zs a ys its ok hd h3 rv hz hq => by
    subst hd
    obtain ⟨f1, f2, f3⟩ := srt_facts ok
    have e1 := stands_of (K := X.K) (ex := ex) (H := H) (R X.K ex H) h3 rv
    have hall : ∀ b ∈ zs, okN 60 b = true := by
      unfold srtOk at ok
      rw [Bool.and_eq_true, Bool.and_eq_true, okL_all] at ok
      exact List.all_eq_true.mp ok.1.1
    have e2 := stands_of (K := X.K) (ex := ex) (H := H) (fun d x => R X.K ex H d x ∧ okN 60 d = true) (Paired.also h3 hall) rv
    have er : PySem.W.EachIs (fun v b => ∃ as, Reads s.heap v (toP b) as) its zs := e2.mono fun v b ⟨x, h1, h2⟩ => Dp.reads I (toP b) x v (R.dp 60 b h2.2 h2.1) h1
    have hzl : zs.length ≤ sizeLine := by rw [← e1.length, ← rv.length]; exact hz
    have fin : ∀ out : List Value, out.length = zs.length → PySem.W.EachIs (fun v d => ∃ x, RelV x v ∧ R X.K ex H d x) out (zs.mergeSort (PySem.W.dataLe false toP)) → L2.EP X pins σ Q (.ref (s.heap.objs.size + 1)) { s with heap := sortedAll s.heap its (List.toArray out) } := fun out ho eo => by
      obtain ⟨ws, p, rw_⟩ := of_stands _ eo
      obtain ⟨ep, he'⟩ := PyProof.Rows.sortedAll_at s.heap its out.toArray
      have hlen : ws.length ≤ sizeLine := by rw [rw_.length, ho]; exact hzl
      exact ⟨.ref _, upd H (s.heap.objs.size + 1) (.lst ws), I.laid (t' := s.toks) (fun _ _ => PyProof.Rows.sortedAll_old) (Nat.le_succ _) ⟨hlen, out, ep, rw_, he'⟩, rfl, q.lst p (I.hok.fresh (Nat.le_succ _)) hlen⟩
    have hu2 : ∀ b, b ∈ zs → X.A.units + 2 + (toP b).depth < cLine := fun b hb => by have := f1 b hb; omega
    rcases hq with hq | hq
    · exact sorted_data_t hq e1 er f2 f3 hzl hu2 fin
    · exact PySem.W.sorted_data hq e1 er f2 f3 hzl hu2 fin
  unfold fSorted at e
  split at e
  · split at e
    · rename_i ok
      cases e
      cases rs with
      | cons r1 t =>
        cases t
        obtain ⟨a, ys, rfl, h1, h2, h3⟩ := RB.tup r1
        obtain ⟨its, rv, hl, hz⟩ := I.tuple h1
        rw [Vals.ref1 r]
        exact key _ a ys its ok rfl h3 rv hz (.inl hl)
    · cases e
  · split at e
    · rename_i ok
      cases e
      cases rs with
      | cons r1 t =>
        cases t
        obtain ⟨a, ys, rfl, h1, h2, h3⟩ := RB.lst r1
        obtain ⟨its, rv, hl, hz⟩ := I.list h1
        rw [Vals.ref1 r]
        exact key _ a ys its ok rfl h3 rv hz (.inr hl.isList)
    · cases e
  · cases e
end
end Px

namespace Px
open PySem PySem.Spec PyProof.Rows L2
/-! ### places within what a slot owns -/
abbrev Lens := D × (D → D)
abbrev PLF := Px.Env → Res Lens
def setKid : D → Nat → D → D
  | .lst xs, n, c => .lst (xs.set n c)
  | .dic t ks vs, n, c => .dic t ks (vs.set n c)
  | .ins k ns vs, n, c => .ins k ns (vs.set n c)
  | d, _, _ => d
def kidIx : D → D → Res Nat
  | .lst xs, .int z => match ixN xs.length z with
    | some n => .ok n
    | none => .err
  | .dic t ks _, k => match dFind t ks k with
    | .ok (some n) => .ok n
    | _ => .err
  | _, _ => .err
def nIdx : List Str → Str → Option Nat
  | [], _ => none
  | g :: r, f => if f = g then some 0 else (nIdx r f).map (· + 1)
def fldIx (c : Str) : D → Str → Res Nat
  | .ins c' ns _, f => if c' = c then (match nIdx ns f with
    | some n => .ok n
    | none => .err) else .err
  | _, _ => .err
def lensAt (l : Lens) (n : Nat) : Res Lens := match (kids l.1)[n]? with
  | some c => .ok (c, fun c' => l.2 (setKid l.1 n c'))
  | none => .err
def plVar (i : Nat) : PLF := fun ρ => match ρ.getD i none with
  | some d => .ok (d, fun x => x)
  | none => .err
def plIx (p : PLF) (f : EF) : PLF := fun ρ => p ρ >>= fun l => f ρ >>= fun j => kidIx l.1 j >>= lensAt l
def plFld (c : Str) (p : PLF) (f : Str) : PLF := fun ρ => p ρ >>= fun l => fldIx c l.1 f >>= lensAt l
theorem kids_setKid {d : D} (c : isC d = true) (n : Nat) (x : D) : kids (setKid d n x) = (kids d).set n x := by
  cases d <;> first | rfl | cases c
theorem isC_setKid {d : D} (c : isC d = true) (n : Nat) (x : D) : isC (setKid d n x) = true := by
  cases d <;> first | rfl | cases c
theorem CnO.setKid {K : PySem.W.Frag} {d : D} {xs : List V} {o : HO} (h : CnO K d xs o) (n : Nat) (x : D) : CnO K (setKid d n x) xs o := by
  cases d <;> exact h
section
theorem P3.at {α β γ : Type} {F : α → β → γ → Prop} : ∀ {as : List α} {bs : List β} {cs : List γ} {n : Nat} {a : α}, P3 F as bs cs → as[n]? = some a → ∃ b c, bs[n]? = some b ∧ cs[n]? = some c ∧ F a b c
  | _, _, _, _, _, .nil, h => by simp at h
  | _, _, _, 0, _, .cons x t, h => by simp at h; subst h; exact ⟨_, _, rfl, rfl, x⟩
  | _, _, _, n + 1, a, .cons x t, h => by
    obtain ⟨b, c, h1, h2, h3⟩ := P3.at (n := n) t (by simpa using h)
    exact ⟨b, c, by simpa using h1, by simpa using h2, h3⟩
theorem P3.setAt {α β γ : Type} {F G : α → β → γ → Prop} {a' : α} {b : β} {c' : γ} : ∀ {as : List α} {bs : List β} {cs : List γ} {n : Nat}, P3 F as bs cs → (∀ m a b c, m ≠ n → cs[m]? = some c → F a b c → G a b c) → bs[n]? = some b → G a' b c' → P3 G (as.set n a') bs (cs.set n c')
  | _, _, _, _, .nil, _, h, _ => by simp at h
  | _, _, _, 0, .cons x t, h, e, g => by
    simp at e
    subst e
    refine .cons g ?_
    have key : ∀ {as : List α} {bs : List β} {cs : List γ} {k : Nat}, P3 F as bs cs → (∀ m a b c, m ≠ 0 → (∃ j, m = j + k + 1 ∧ cs[j]? = some c) → F a b c → G a b c) → P3 G as bs cs := by
      intro as bs cs k t
      induction t generalizing k with
      | nil => intro _; exact .nil
      | cons y u ih =>
        intro hh
        refine .cons (hh (k + 1) _ _ _ (by omega) ⟨0, by omega, rfl⟩ y) (ih (k := k + 1) fun m a b c hm ⟨j, e1, e2⟩ f => hh m a b c hm ⟨j + 1, by omega, by simpa using e2⟩ f)
    exact key (k := 0) t fun m a b c hm ⟨j, e1, e2⟩ f => h m a b c hm (by rw [e1]; simpa using e2) f
  | _, _, _, n + 1, .cons x t, h, e, g => by
    refine .cons (h 0 _ _ _ (by omega) rfl x) (P3.setAt t (fun m a b c hm e2 f => h (m + 1) a b c (by omega) (by simpa using e2) f) (by simpa using e) g)
theorem flat_disj : ∀ {cs : List (List Addr)} {m n : Nat} {c1 c2 : List Addr} {b : Addr}, cs.flatten.Nodup → cs[m]? = some c1 → cs[n]? = some c2 → m ≠ n → b ∈ c1 → b ∉ c2
  | [], _, _, _, _, _, _, h, _, _, _ => by simp at h
  | c :: cs, m, n, c1, c2, b, nd, h1, h2, hm, hb => fun hb2 => by
    rw [List.flatten_cons] at nd
    obtain ⟨n1, n2, n3⟩ := List.nodup_append.mp nd
    cases m with
    | zero =>
      cases n with
      | zero => exact hm rfl
      | succ n =>
        simp at h1 h2
        subst h1
        exact n3 _ hb _ (List.mem_flatten.mpr ⟨c2, List.mem_of_getElem? h2, hb2⟩) rfl
    | succ m =>
      cases n with
      | zero =>
        simp at h1 h2
        subst h2
        exact n3 _ hb2 _ (List.mem_flatten.mpr ⟨c1, List.mem_of_getElem? h1, hb⟩) rfl
      | succ n =>
        simp at h1 h2
        exact flat_disj n2 h1 h2 (by omega) hb hb2
theorem flat_set : ∀ {cs : List (List Addr)} {n : Nat} {c' : List Addr} {b : Addr}, b ∈ (cs.set n c').flatten → b ∈ c' ∨ b ∈ cs.flatten
  | [], _, _, _, h => by simp at h
  | c :: cs, 0, c', b, h => by
    rw [List.set_cons_zero, List.flatten_cons, List.mem_append] at h
    rcases h with h | h
    · exact .inl h
    · exact .inr (by rw [List.flatten_cons]; exact List.mem_append_right _ h)
  | c :: cs, n + 1, c', b, h => by
    rw [List.set_cons_succ, List.flatten_cons, List.mem_append] at h
    rcases h with h | h
    · exact .inr (by rw [List.flatten_cons]; exact List.mem_append_left _ h)
    · rcases flat_set h with h | h
      · exact .inl h
      · exact .inr (by rw [List.flatten_cons]; exact List.mem_append_right _ h)
theorem flat_set2 : ∀ {cs : List (List Addr)} {n : Nat} {c' : List Addr} {b : Addr}, b ∈ (cs.set n c').flatten → b ∈ c' ∨ ∃ m c, m ≠ n ∧ cs[m]? = some c ∧ b ∈ c
  | [], _, _, _, h => by simp at h
  | c :: cs, 0, c', b, h => by
    rw [List.set_cons_zero, List.flatten_cons, List.mem_append] at h
    rcases h with h | h
    · exact .inl h
    · obtain ⟨z, hz, hb⟩ := List.mem_flatten.mp h
      obtain ⟨m, hm⟩ := List.mem_iff_getElem?.mp hz
      exact .inr ⟨m + 1, z, by omega, by simpa using hm, hb⟩
  | c :: cs, n + 1, c', b, h => by
    rw [List.set_cons_succ, List.flatten_cons, List.mem_append] at h
    rcases h with h | h
    · exact .inr ⟨0, c, by omega, rfl, h⟩
    · rcases flat_set2 h with h | ⟨m, z, h1, h2, h3⟩
      · exact .inl h
      · exact .inr ⟨m + 1, z, by omega, by simpa using h2, h3⟩
theorem nodup_set : ∀ {cs : List (List Addr)} {n : Nat} {c c' : List Addr}, cs[n]? = some c → cs.flatten.Nodup → c'.Nodup → (∀ b ∈ c', b ∈ c ∨ b ∉ cs.flatten) → (cs.set n c').flatten.Nodup
  | [], _, _, _, h, _, _, _ => by simp at h
  | x :: cs, 0, c, c', h, nd, nd', hm => by
    simp at h
    subst h
    rw [List.flatten_cons] at nd
    obtain ⟨n1, n2, n3⟩ := List.nodup_append.mp nd
    rw [List.set_cons_zero, List.flatten_cons]
    refine List.nodup_append.mpr ⟨nd', n2, fun a ha b hb e => ?_⟩
    subst e
    rcases hm a ha with q | q
    · exact n3 a q a hb rfl
    · exact q (by rw [List.flatten_cons]; exact List.mem_append_right _ hb)
  | x :: cs, n + 1, c, c', h, nd, nd', hm => by
    simp at h
    rw [List.flatten_cons] at nd
    obtain ⟨n1, n2, n3⟩ := List.nodup_append.mp nd
    rw [List.set_cons_succ, List.flatten_cons]
    refine List.nodup_append.mpr ⟨n1, nodup_set h n2 nd' (fun b hb => ?_), fun a ha b hb e => ?_⟩
    · rcases hm b hb with q | q
      · exact .inl q
      · exact .inr fun z => q (by rw [List.flatten_cons]; exact List.mem_append_right _ z)
    · subst e
      rcases flat_set hb with q | q
      · rcases hm a q with z | z
        · exact n3 a ha a (List.mem_flatten.mpr ⟨c, List.mem_of_getElem? h, z⟩) rfl
        · exact z (by rw [List.flatten_cons]; exact List.mem_append_left _ ha)
      · exact n3 a ha a q rfl
end
/-- the place l, at v, of what the slot owns (at vi, in fpi), and how the whole is had again from what stands there later -/
structure Foc (K : PySem.W.Frag) (ex : AS) (H : Hp) (k0 : Nat) (vi : V) (fpi : List Addr) (k : Nat) (l : Lens) (v : V) (g : List Addr) : Prop where
  ro : RO K ex H k l.1 v g
  sub : ∀ b ∈ g, b ∈ fpi
  nd : g.Nodup
  re : ∀ (H2 : Hp) (ex' : AS) (c' : D) (g' : List Addr), Keep ex H H2 → (∀ a, ex' a → ex a ∨ H a = none) → (∀ b ∈ fpi, b ∉ g → ∀ o, H b = some o → H2 b = some o) → RO K ex' H2 k c' v g' → g'.Nodup → (∀ b ∈ g', b ∈ g ∨ b ∉ fpi) →
    ∃ fqN, RO K ex' H2 k0 (l.2 c') vi fqN ∧ fqN.Nodup ∧ ∀ b ∈ fqN, (b ∈ fpi ∧ b ∉ g) ∨ b ∈ g'
section
variable {K : PySem.W.Frag} {ex : AS} {H : Hp} {k0 : Nat} {vi : V} {fpi : List Addr} {k : Nat} {l : Lens} {v : V} {g : List Addr}
theorem Foc.base {d : D} (r : RO K ex H k0 d vi fpi) (nd : fpi.Nodup) : Foc K ex H k0 vi fpi k0 (d, fun x => x) vi fpi :=
  ⟨r, fun _ h => h, nd, fun H2 ex' c' g' _ _ _ r' nd' _ => ⟨g', r', nd', fun b h => .inr h⟩⟩
theorem Foc.kid (F : Foc K ex H k0 vi fpi (k + 1) l v g) (c : isC l.1 = true) {n : Nat} {d : D} (hn : (kids l.1)[n]? = some d) :
    ∃ a xs o u g2, v = .ref a ∧ CnO K l.1 xs o ∧ H a = some o ∧ xs[n]? = some u ∧ (kids l.1).length = xs.length ∧ Foc K ex H k0 vi fpi k (d, fun c' => l.2 (setKid l.1 n c')) u g2 := by
  obtain ⟨a, xs, fps, o, e, ⟨h1, h2⟩, eg, h3⟩ := (RO.cn c).mp F.ro
  obtain ⟨u, g2, hu, hg2, ru⟩ := h3.at hn
  have mg2 : ∀ b ∈ g2, b ∈ fps.flatten := fun b hb => List.mem_flatten.mpr ⟨g2, List.mem_of_getElem? hg2, hb⟩
  have nd := F.nd
  rw [eg] at nd
  obtain ⟨na, nf⟩ := List.nodup_cons.mp nd
  have nd2 : g2.Nodup := by
    have : List.Sublist g2 fps.flatten := List.sublist_flatten_of_mem (List.mem_of_getElem? hg2)
    exact nf.sublist this
  refine ⟨a, xs, o, u, g2, e, h1, h2, hu, h3.length, ⟨ru, fun b hb => F.sub b (by rw [eg]; exact List.mem_cons_of_mem _ (mg2 b hb)), nd2, fun H2 ex' c' g' kp m oth r' nd' nw => ?_⟩⟩
  have oth2 : ∀ b ∈ g, b ∉ g2 → ∀ o, H b = some o → H2 b = some o := fun b hb hn o q => oth b (F.sub b hb) hn o q
  have ha2 : a ∉ g2 := fun z => na (mg2 a z)
  have new' : ∀ b ∈ g', b ∈ g2 ∨ b ∉ fps.flatten := fun b hb => by
    rcases nw b hb with q | q
    · exact .inl q
    · exact .inr fun z => q (F.sub b (by rw [eg]; exact List.mem_cons_of_mem _ z))
  have rc : RO K ex' H2 (k + 1) (setKid l.1 n c') v (a :: (fps.set n g').flatten) := by
    refine (RO.cn (isC_setKid c n c')).mpr ⟨a, xs, fps.set n g', o, e, ⟨h1.setKid n c', oth2 a (by rw [eg]; exact List.mem_cons_self) ha2 o h2⟩, rfl, ?_⟩
    rw [kids_setKid c]
    refine h3.setAt (fun m' x y z hm hz f => RO.keep kp m (fun b hb o q => ?_) f) hu r'
    exact oth2 b (by rw [eg]; exact List.mem_cons_of_mem _ (List.mem_flatten.mpr ⟨z, List.mem_of_getElem? hz, hb⟩)) (flat_disj nf hz hg2 hm hb) o q
  obtain ⟨fqN, r2, n2, s2⟩ := F.re H2 ex' _ _ kp m (fun b hb hn o q => oth b hb (fun z => hn (by rw [eg]; exact List.mem_cons_of_mem _ (mg2 b z))) o q) rc
    (List.nodup_cons.mpr ⟨fun z => by
      rcases flat_set z with z | z
      · rcases nw a z with q | q
        · exact ha2 q
        · exact q (F.sub a (by rw [eg]; exact List.mem_cons_self))
      · exact na z, nodup_set hg2 nf nd' new'⟩)
    (fun b hb => by
      rcases List.mem_cons.mp hb with q | q
      · exact .inl (by rw [eg, q]; exact List.mem_cons_self)
      · rcases flat_set q with q | q
        · rcases nw b q with z | z
          · exact .inl (by rw [eg]; exact List.mem_cons_of_mem _ (mg2 b z))
          · exact .inr z
        · exact .inl (by rw [eg]; exact List.mem_cons_of_mem _ q))
  refine ⟨fqN, r2, n2, fun b hb => ?_⟩
  rcases s2 b hb with q | q
  · exact .inl ⟨q.1, fun z => q.2 (by rw [eg]; exact List.mem_cons_of_mem _ (mg2 b z))⟩
  · rcases List.mem_cons.mp q with q | q
    · exact .inl ⟨F.sub b (by rw [eg, q]; exact List.mem_cons_self), by rw [q]; exact ha2⟩
    · rcases flat_set2 q with q | ⟨m', z, h4, h5, h6⟩
      · exact .inr q
      · exact .inl ⟨F.sub b (by rw [eg]; exact List.mem_cons_of_mem _ (List.mem_flatten.mpr ⟨z, List.mem_of_getElem? h5, h6⟩)), flat_disj nf h5 hg2 h4 h6⟩
end
/-- .. as it stands later -/
theorem Foc.later {K : PySem.W.Frag} {ex ex1 : AS} {H H1 : Hp} {k0 : Nat} {vi : V} {fpi : List Addr} {k : Nat} {l : Lens} {v : V} {g : List Addr} (F : Foc K ex H k0 vi fpi k l v g) (e : Same H H1) (m : ∀ a, ex1 a → ex a ∨ H a = none) : Foc K ex1 H1 k0 vi fpi k l v g :=
  ⟨RO.keep (Keep.same e) m (fun a _ o q => e a o q) F.ro, F.sub, F.nd, fun H2 ex' c' g' kp m2 oth r nd nw =>
    F.re H2 ex' c' g' ⟨fun a xs h => kp.tup a xs (e _ _ h), fun a o n h => kp.obj a o (fun z => (m a z).elim n fun q => by rw [h] at q; cases q) (e _ _ h), fun a h => kp.there a fun q => h (e.free q)⟩
      (fun a h => (m2 a h).elim (m a) fun q => .inr (e.free q)) (fun b hb hn o q => oth b hb hn o (e _ _ q)) r nd nw⟩
def tPl (X : Cx) (W : WX) (L : List Nat) (i k : Nat) (pf : PLF) : TE := fun σ H Q => ∃ ex ρ fp, SI X.K ex L ρ σ H fp ∧ Out X W σ H (pf ρ) fun l => ∀ vi v g H1, σ[i]? = some (some vi) → Same H H1 → Foc X.K ex H (L.getD i 0) vi (fp i) k l v g → Q v H1
abbrev EPl (X : Cx) (W : WX) (L : List Nat) (i k : Nat) (e : Expr) (pf : PLF) : Prop := PE X e (tPl X W L i k pf)
section
variable {X : Cx} {W : WX} {L : List Nat} {i k n : Nat} {e ei : Expr} {f : EF} {pf : PLF} {pos : Pos} {x : Str}
theorem epl_var (hN : X.N[i]? = some x) (hv : Vis X.env.scope x) (hd : (x == ("__debug__" : Str)) = false := by decide) (hcd : (x == ("__classdict__" : Str)) = false := by decide) :
    EPl X W L i (L.getD i 0) (.Name x pos) (plVar i) := PE.imp (pe_var hN hv hd hcd) fun σ H Q ⟨ex, ρ, fp, I, o⟩ => by
  unfold plVar at o
  cases e : ρ.getD i none with
  | none => rw [e] at o; exact o.elim
  | some d =>
    rw [e] at o
    obtain ⟨v, h1, h2⟩ := I.val i d (getD_some e)
    exact ⟨v, h1, o v v (fp i) H h1 (Same.refl H) (Foc.base h2 (I.nod i))⟩
theorem kid_get {K : PySem.W.Frag} {ex : AS} {H H1 : Hp} {k0 : Nat} {vi v : V} {fpi g : List Addr} {l : Lens} {j : D} {vj : V} {m : Nat} {d : D} (F : Foc K ex H k0 vi fpi (k + 1) l v g) (e : Same H H1) (rj : RB K ex H1 n j vj) (hk : kidIx l.1 j = .ok m) (hd : (kids l.1)[m]? = some d) :
    ∃ a u g2, v = .ref a ∧ Foc K ex H k0 vi fpi k (d, fun c' => l.2 (setKid l.1 m c')) u g2 ∧
      ((∃ xs z, SqL K H1 a xs ∧ vj = .int z ∧ L2.atI xs z = some u) ∨ DGet H1 a vj (some u)) := by
  obtain ⟨l1, l2⟩ := l
  cases l1 with
  | lst xs =>
    cases j with
    | int z =>
      obtain ⟨a, vs, o, u, g2, rfl, h1, h2, h3, h4, F2⟩ := F.kid rfl hd
      obtain ⟨rfl, hz⟩ := h1
      refine ⟨a, u, g2, rfl, F2, .inl ⟨vs, z, .inl (.inl (e _ _ h2)), rj.int, ?_⟩⟩
      unfold kidIx at hk
      simp only at hk
      cases hq : ixN xs.length z with
      | none => rw [hq] at hk; cases hk
      | some m' =>
        rw [hq] at hk
        cases hk
        unfold L2.atI
        rw [← (show xs.length = vs.length from h4), hq]
        exact h3
    | _ => cases hk
  | dic t ks vs =>
    obtain ⟨a, xs, o, u, g2, rfl, h1, h2, h3, h4, F2⟩ := F.kid rfl hd
    have hk : (match dFind t ks j with
      | .ok (some n) => Res.ok n
      | _ => .err) = .ok m := by
      unfold kidIx at hk
      exact hk
    refine ⟨a, u, g2, rfl, F2, .inr ?_⟩
    cases hq : dFind t ks j with
    | ok o' =>
      rw [hq] at hk
      cases o' with
      | none => cases hk
      | some m' =>
        cases hk
        have := (dFind_get (.inl ⟨o, h1, .inl (e _ _ h2)⟩ : CnR K H1 a (.dic t ks vs) xs) rj hq).1
        rw [show ((some m).bind (xs[·]?)) = some u from h3] at this
        exact this
    | exc c => rw [hq] at hk; cases hk
    | err => rw [hq] at hk; cases hk
  | _ => cases hk
theorem kidIx_nx {d j : D} {c : Str} : kidIx d j ≠ .exc c := fun h => by
  unfold kidIx at h
  split at h <;> first | cases h | (split at h <;> cases h)
theorem lensAt_nx {l : Lens} {n : Nat} {c : Str} : lensAt l n ≠ .exc c := fun h => by
  unfold lensAt at h
  split at h <;> cases h
theorem epl_ix (hu : X.A.units + 1 < cLine) (hp : EPl X W L i (k + 1) e pf) (hj : EB X W L n ei f) (hs : PlainIx ei := by intro _ _; rfl) : EPl X W L i k (.Subscript e ei pos) (plIx pf f) :=
  PE.imp (pe_ix (IxR.or ix_seq (ix_dic hu)) hp hj hs) fun σ H Q ⟨ex, ρ, fp, I, o⟩ => ⟨ex, ρ, fp, I, o.bind.mono fun l q vi v g H1 hvi e1 F => ⟨ex, ρ, fp, I.same e1, (q.bind.later e1).mono fun j q2 vj H2 e2 rj => by
    cases hk : kidIx l.1 j with
    | exc c => exact absurd hk kidIx_nx
    | err => rw [hk] at q2; exact q2.elim
    | ok m =>
      rw [hk, Res.bind_ok] at q2
      unfold lensAt at q2
      cases hd : (kids l.1)[m]? with
      | none => simp only [hd] at q2; exact q2.elim
      | some d =>
        simp only [hd] at q2
        obtain ⟨a, u, g2, rfl, F2, h⟩ := kid_get F (e1.trans e2) rj hk hd
        have fin := q2 vi u g2 H2 hvi (e1.trans e2) F2
        rcases h with ⟨xs, z, h1, h2, h3⟩ | h
        · exact .inl (.inl ⟨a, xs, z, u, rfl, h2, h1, h3, fin⟩)
        · exact .inr ⟨a, u, rfl, h, fin⟩⟩⟩
theorem nIdx_lookup {f : Str} : ∀ {ns : List Str} {xs : List V} {m : Nat} {u : V}, nIdx ns f = some m → xs[m]? = some u → (ns.zip xs).lookup f = some u
  | [], _, _, _, h, _ => by cases h
  | g :: r, [], _, _, _, h => by simp at h
  | g :: r, x :: xs, m, u, h, hu => by
    rw [nIdx] at h
    rw [List.zip_cons_cons, List.lookup]
    by_cases e : f = g
    · rw [if_pos e] at h
      cases h
      simp at hu
      rw [beq_iff_eq.mpr e]
      rw [hu]
    · rw [if_neg e] at h
      rw [beq_eq_false_iff_ne.mpr e]
      cases q : nIdx r f with
      | none => rw [q] at h; cases h
      | some j =>
        rw [q] at h
        cases h
        exact nIdx_lookup q (by simpa using hu)
theorem fldIx_ok {c f : Str} {d : D} {m : Nat} (h : fldIx c d f = .ok m) : ∃ ns vs, d = .ins c ns vs ∧ nIdx ns f = some m := by
  cases d with
  | ins c' ns vs =>
    unfold fldIx at h
    simp only at h
    split at h
    · rename_i e
      subst e
      split at h
      · rename_i n hn
        cases h
        exact ⟨ns, vs, rfl, hn⟩
      · cases h
    · cases h
  | _ => cases h
theorem fldIx_nx {c f : Str} {d : D} {x : Str} : fldIx c d f ≠ .exc x := fun h => by
  unfold fldIx at h
  split at h
  · split at h
    · split at h <;> cases h
    · cases h
  · cases h
theorem epl_fld {c : Str} (hc : Cls X.K (He.ga X.K c)) (hn : NoAttr X.K (He.ga X.K c) x) (hp : EPl X W L i (k + 1) e pf) (hb : attributeBase e x X.env (eval e X.env) = eval e X.env := by rfl) : EPl X W L i k (.Attribute e x pos) (plFld c pf x) :=
  PE.imp (pe_fld hp hb) fun σ H Q ⟨ex, ρ, fp, I, o⟩ => ⟨ex, ρ, fp, I, o.bind.mono fun l q vi v g H1 hvi e1 F => by
    cases hk : fldIx c l.1 x with
    | exc c => exact absurd hk fldIx_nx
    | err => rw [hk] at q; exact q.elim
    | ok m =>
      rw [hk, Res.bind_ok] at q
      obtain ⟨ns, vs, hl, hm⟩ := fldIx_ok hk
      unfold lensAt at q
      cases hd : (kids l.1)[m]? with
      | none => simp only [hd] at q; exact q.elim
      | some d =>
        simp only [hd] at q
        obtain ⟨a, xs, o, u, g2, rfl, h1, h2, h3, h4, F2⟩ := F.kid (by rw [hl]; rfl) hd
        rw [hl] at h1
        obtain ⟨dx, rfl, hlen⟩ := h1
        exact ⟨a, _, dx, _, u, rfl, e1 _ _ h2, hc, hn, nIdx_lookup hm h3, q vi u g2 H1 hvi e1 F2⟩⟩
/-- an attribute, read -/
def dFld (c f : Str) (d : D) : Res D := fldIx c d f >>= fun m => match (kids d)[m]? with
  | some x => .ok x
  | none => .err
theorem eb_fld {c : Str} (hc : Cls X.K (He.ga X.K c)) (hn : NoAttr X.K (He.ga X.K c) x) (he : EB X W L (n + 1) e f) (hb : attributeBase e x X.env (eval e X.env) = eval e X.env := by rfl) : EB X W L n (.Attribute e x pos) (eUn (dFld c x) f) :=
  PE.imp (pe_fld he hb) fun σ H Q ⟨ex, ρ, fp, I, o⟩ => ⟨ex, ρ, fp, I, o.bind.mono fun d q v H1 e1 r => by
    unfold dFld at q
    cases hk : fldIx c d x with
    | exc c => exact absurd hk fldIx_nx
    | err => rw [hk] at q; exact q.elim
    | ok m =>
      rw [hk, Res.bind_ok] at q
      obtain ⟨ns, vs, rfl, hm⟩ := fldIx_ok hk
      cases hd : (kids (.ins c ns vs))[m]? with
      | none => simp only [hd] at q; exact q.elim
      | some y =>
        simp only [hd] at q
        obtain ⟨a, xs, rfl, h1, h2⟩ := RB.cnr rfl r
        obtain ⟨u, hu, ru⟩ := Paired.get h2 hd
        rcases h1 with ⟨o, ⟨dx, rfl, hlen⟩, h1⟩ | ⟨⟨_, h⟩, _⟩
        · rcases h1 with h1 | h1
          · exact ⟨a, _, dx, _, u, rfl, h1, hc, hn, nIdx_lookup hm hu, q u H1 e1 ru⟩
          · exact h1.elim
        · cases h⟩
end
end Px

namespace L2
open PySem PySem.Spec PyProof.Rows
/-- t * 1: the tuple itself -/
theorem tuple_mul1 (l : Addr) (items : Array Value) (n : Nat) (dd : Option Addr) (sl : Array (Option Value)) (u : Tok) :
    Meets (Builtin.«tuple.__mul__» ⟨[.ref l, .int 1 u], []⟩) (fun _ R s => s.heap.get? l = some { cls := .type "tuple", dict := dd, data := .seq items n, slots := sl } ∧ R (.ok (.ret (Value.ref l))) s) :=
  .of_wp fun prog w A R s h => by
    obtain ⟨hp, g, d, tk, os⟩ := s
    obtain ⟨hl, h⟩ := h
    have f1 := AutoSeq1.idx_int
    wp_walk using wpAny_loadPart' hl
    repeat (first
      | (refine wpAny_ite_false (decide_eq_false (by decide)) ?_; wp_walk using wpAny_loadPart' hl)
      | (refine wpAny_ite_true (decide_eq_true (by simp)) ?_; wp_walk using wpAny_loadPart' hl))
    exact ⟨_, rfl, h⟩
section
variable {X : Cx}
theorem op_repT1 : OpR X (binaryOp .Mult) (fun x y H Q => ∃ l xs, x = .ref l ∧ y = .int 1 ∧ SqT X.K H l xs ∧ Q (.ref l) H) := by
  intro pins s σ H x y v u Q I rx ry h
  obtain ⟨l, xs, rfl, rfl, hT, q⟩ := h
  cases rx
  obtain ⟨t, rfl⟩ := ry
  obtain ⟨its, r, ⟨⟨cls, dd, data, sl⟩, ho, hc, n, hd⟩, hs⟩ := I.tuple hT
  simp only at hc hd
  subst hc hd
  refine wpAny_binaryOp_repeat_ref (T := "tuple") (U := "int") (by decide) ⟨_, ho, rfl⟩ (fun s' => typeIs_int s' 1 t) noFill_tuple_mul F.fills_int_mul F.slot_int_rmul repeat_tuple F.slot_int_index.lookup
    (call_meets F.slot_int_rmul (typeIs_int s 1 t) F.entry_int_rmul (F.args_int_rmul_2 _ _) (int_rmul_tuple 1 t l its.toArray n dd sl)
      ⟨ho, rfl, ⟨_, ho, rfl⟩, call_meets F.slot_tuple_mul ⟨_, ho, rfl⟩ F.entry_tuple_mul (F.args_tuple_mul_2 _ _) (tuple_mul1 l its.toArray n dd sl t) ⟨ho, ?_⟩⟩)
  exact ⟨.ref l, H, I, rfl, q⟩
end
end L2
namespace Px
open PySem PySem.Spec PyProof.Rows L2
theorem paired_rep {α β : Type} {F : α → β → Prop} {as : List α} {bs : List β} (h : Paired F as bs) : ∀ n : Nat, Paired F (List.replicate n as).flatten (List.replicate n bs).flatten
  | 0 => .nil
  | n + 1 => by
    rw [List.replicate_succ, List.replicate_succ, List.flatten_cons, List.flatten_cons]
    exact Paired.app h (paired_rep h n)
theorem rep_len {α : Type} (as : List α) : ∀ n : Nat, (List.replicate n as).flatten.length = n * as.length
  | 0 => by simp
  | n + 1 => by rw [List.replicate_succ, List.flatten_cons, List.length_append, rep_len as n, Nat.succ_mul, Nat.add_comm]
/-- times: of ints, of a tuple and an int -/
def dMulT : D → D → Res D
  | .tup xs, .int j => if 0 < xs.length ∧ xs.length ≤ 1000 ∧ 1 ≤ j ∧ j ≤ 1000 then .ok (.tup (List.replicate j.toNat xs).flatten) else .err
  | .int i, .int j => dMul (.int i) (.int j)
  | _, _ => .err
theorem dMulT_nx : NoX2 dMulT := fun a b c h => by
  unfold dMulT at h
  split at h
  · split at h <;> cases h
  · exact dMul_nx _ _ _ h
  · cases h
section
variable {X : Cx} {n m k : Nat}
theorem o_mulT : Op2 X n m k (binaryOp .Mult) dMulT := fun pins s σ H x y v u Q I rx ry h => by
  obtain ⟨ex, d1, d2, d, ext, r1, r2, e, q⟩ := h
  unfold dMulT at e
  split at e
  · split at e
    · rename_i xs j hc
      cases e
      obtain ⟨l, vs, rfl, hx1, z1, p1⟩ := r1.tupX
      have h1 : SqT X.K H l vs := .inl (.inl hx1)
      have hl : xs.length = vs.length := p1.length
      by_cases h2 : 2 ≤ j
      · refine L2.op_repT pins s σ H _ _ v u Q I rx ry ⟨l, j, vs, rfl, r2.int, h1, fun e => ?_, h2, hc.2.2.2, by omega, fun p hp => q.tup (paired_rep p1 _) hp ?_⟩
        · rw [e] at hl
          have := hc.1
          simp at hl
          rw [hl] at this
          simp at this
        · rw [rep_len, line_eq, ← hl]
          have : j.toNat * xs.length ≤ 1000 * 1000 := Nat.mul_le_mul (by omega) hc.2.1
          omega
      · have hj : j = 1 := by omega
        subst hj
        have ee : (List.replicate ((1 : Int)).toNat xs).flatten = xs := by
          show (List.replicate 1 xs).flatten = xs
          simp
        rw [ee] at q
        exact L2.op_repT1 pins s σ H _ _ v u Q I rx ry ⟨l, vs, rfl, r2.int, h1, q.flat (by rw [R]; exact ⟨l, vs, rfl, ⟨hx1, z1⟩, RL.of p1⟩) rfl⟩
    · cases e
  · exact o_mul (n := n) (m := m) pins s σ H x y v u Q I rx ry ⟨ex, _, _, d, ext, r1, r2, e, q⟩
  · cases e
end
end Px

namespace Px
open PySem PySem.Spec PyProof.Rows L2
/-! ### tuple(range(a, b)) -/
section
variable {X : Cx} {W : WX} {L : List Nat} {n m kk : Nat} {a b : Expr} {f g : EF} {p p2 p3 pos : Pos}
theorem eo_trg2 (hc : X.calm = true) (hg : Gl X "tuple") (hm : X.mg "tuple" = none) (hg2 : Gl X "range") (hm2 : X.mg "range" = none) (ha : EB X W L n a f) (hb : EB X W L m b g)
    (na : starEach [a, b] X.env = (false, eval a X.env) :: starEach [b] X.env := by rfl) (nb : starEach [b] X.env = (false, eval b X.env) :: starEach [] X.env := by rfl) (hp : (backTo p3 (starEach [b] X.env)).any (·.1) = false := by rfl)
    (nc : starEach [Expr.Call (.Name "range" p2) [a, b] [] p3] X.env = (false, eval (Expr.Call (.Name "range" p2) [a, b] [] p3) X.env) :: starEach [] X.env := by rfl) : EO X W L kk (.Call (.Name "tuple" p) [.Call (.Name "range" p2) [a, b] [] p3] [] pos) (eRg2 .tup f g) :=
  PE.imp (pe_tupRg hc hg hm (prg_2 hg2 hm2 ha hb na nb hp) nc) fun σ H Q ⟨ex, ρ, fp, I, o⟩ => ⟨ex, ρ, fp, I, o.bind.mono fun d q v H1 e1 r1 => ⟨ex, ρ, fp, I.same e1, (q.bind.later e1).mono fun d2 q2 v2 H2 e2 r2 => by
    cases d with
    | int i =>
      cases d2 with
      | int j =>
        have e9 : rgD .tup i (.int j) = if -(2 ^ 61) ≤ i ∧ i ≤ 2 ^ 61 ∧ -(2 ^ 61) ≤ j ∧ j ≤ 2 ^ 61 ∧ j - i ≤ 16777216 then .ok (.tup (rng i (j - i).toNat)) else .err := rfl
        dsimp only at q2
        rw [e9] at q2
        split at q2
        · rename_i hj
          refine ⟨i, j, r1.int, r2.int, ⟨by omega, by omega, by omega, by omega, by omega⟩, fun l hl => ?_⟩
          refine QO.tup (K := X.K) (ex := ex) (fun v H5 fq e5 ro nd nw => q2 v H5 fq ((e1.trans e2).trans e5) ro nd fun a ha => (e1.trans e2).free (nw a ha)) (rng_paired i j) hl ?_
          rw [rgV_length, sizeLine_eq]
          omega
        · exact q2.elim
      | _ => exact q2.elim
    | _ => exact q2.elim⟩⟩
end
end Px

namespace L2
open PySem PySem.Spec PyProof.Rows
/-- what the clauses wish, each with a name or without -/
def wManyA (K : PySem.W.Frag) (Wout : WX) (D : Ends) : List (Value × Option Nat × (Addr → Value → Option Addr → TS)) → WX
  | [] => Wout
  | (c, none, ts) :: r => fun cls d σ H => ∃ b, PySem.W.exmOne K cls c = some b ∧ (b = true → ∀ a, H a = none → ts a cls d D σ H) ∧ (b = false → wManyA K Wout D r cls d σ H)
  | (c, some i, ts) :: r => fun cls d σ H => ∃ b, PySem.W.exmOne K cls c = some b ∧ (b = true → ∀ a, H a = none → ts a cls d { nx := fun σ' H' => D.nx (σ'.set i none) H', rt := D.rt, bk := fun σ' H' => D.bk (σ'.set i none) H', ct := fun σ' H' => D.ct (σ'.set i none) H' } (σ.set i (some (.ref a))) H) ∧ (b = false → wManyA K Wout D r cls d σ H)
inductive HdsA (X : Cx) : List ExceptHandler → List (Value × Option Nat × (Addr → Value → Option Addr → TS)) → Prop
  | nil : HdsA X [] []
  | cons {x : Str} {c : Value} {ts : Addr → Value → Option Addr → TS} {b₀ : Stmt} {suite : List Stmt} {np pos' : Pos} {hds : List ExceptHandler} {l : List (Value × Option Nat × (Addr → Value → Option Addr → TS))} (hc : Names X x c)
      (hsu : ∀ (a : Addr) (oe : Obj) (cls : Value) (d : Option Addr) (pn : List (Addr × Obj)), Zc cls d oe → (∃ vs, oe.data = .fields vs) → PSs (X.suite a ((a, oe) :: pn)) (b₀ :: suite) (ts a cls d)) (r : HdsA X hds l) :
      HdsA X (.ExceptHandler (some (.Name x np)) none (b₀ :: suite) pos' :: hds) ((c, none, ts) :: l)
  | consA {x n : Str} {c : Value} {i : Nat} {ts : Addr → Value → Option Addr → TS} {b₀ : Stmt} {suite : List Stmt} {np pos' : Pos} {hds : List ExceptHandler} {l : List (Value × Option Nat × (Addr → Value → Option Addr → TS))} (hN : X.N.Nodup) (hi : X.N[i]? = some n) (hln : X.env.kindOf n = some .local) (hc : Names X x c)
      (hsu : ∀ (a : Addr) (oe : Obj) (cls : Value) (d : Option Addr) (pn : List (Addr × Obj)), Zc cls d oe → (∃ vs, oe.data = .fields vs) → PSs (X.suite a ((a, oe) :: pn)) (b₀ :: suite) (ts a cls d)) (r : HdsA X hds l) :
      HdsA X (.ExceptHandler (some (.Name x np)) (some n) (b₀ :: suite) pos' :: hds) ((c, some i, ts) :: l)
section
variable {X : Cx} {body : List Stmt} {h₀ : ExceptHandler} {hds : List ExceptHandler} {l : List (Value × Option Nat × (Addr → Value → Option Addr → TS))} {pos : Pos} {tb : WX → TS} {Wout : WX}
theorem ps_try_manyA (hs : X.stack = X.env :: X.outer) (hf : X.env.frame = some X.env.locals) (tk : Takes X Wout)
    (hb : ∀ (W : WX) (pn : List (Addr × Obj)) (xe : Value → Shared → Prop), Takes (X.tr pn xe) W → PassesOwn (model X.prog X.w) X.A X.env xe → PSs (X.tr pn xe) body (tb W))
    (hh : HdsA X (h₀ :: hds) l) : PS X (.Try body (h₀ :: hds) [] [] pos) (fun D σ H => tb (wManyA X.K Wout D l) D σ H) := by
  refine ⟨fun pins s σ H D I h => ?_⟩
  have ok := I.ok
  have hfr : X.A.frames = some (X.env :: X.outer) := by rw [ok.frames, hs]
  refine wpAny_Try_except ?_
  refine wpAny_mono ((hb (wManyA X.K Wout D l) (X.pn ++ pins) (fun e s₁ => wpAny (model X.prog X.w) X.A (noteFrame e X.env) (fun _ s₂ => wpAny (model X.prog X.w) X.A (setFlight e none) (fun _ s₃ =>
    wpAny (model X.prog X.w) X.A (handleBy e X.env (h₀ :: hds)) (SP X pins D) X.xe s₃) X.xe s₂) X.xe s₁) (fun u s' xx => ?_) PassesOwn.looking).run [] s σ H D (I.toTry _) h) (fun f s1 hsp => ?_) (fun e s1 he => he)
  · -- the catch
    obtain ⟨a, B, sI, pins', σ', H', cls, d, rfl, J', nb, up, sky, na, os, ag, w⟩ := xx
    have J : Inv X pins σ' H' sI := J'.ofTry ok
    have sky' : Sky B (X.env :: X.outer) a (Zc cls d) X.env.locals s'.heap := by rw [← hs]; exact sky
    show wpAny (model X.prog X.w) X.A (noteFrame (.ref a) X.env) _ _ _
    refine Sky.land Zc.steady hfr hf sky' fun h3 fl3 up3 => ?_
    have J3 : Inv X pins σ' H' { s' with heap := h3 } := J.landed nb fl3.1 (up.trans up3) os ag
    obtain ⟨oe3, vs3, he3, hz3, hd3⟩ := fl3.there
    have notFr : ∀ {h : Heap} {o : Obj} {vs : Array Value}, h.FunFrames B (X.env :: X.outer) → h.get? a = some o → o.data = .fields vs → a ∉ frs (X.env :: X.outer) := fun {h o vs} ff e dd hm => by
      obtain ⟨_, o', e', hnf⟩ := ff.mem hm
      rw [e] at e'; cases e'
      exact hnf _ dd
    have nfr := notFr fl3.2.2.1 he3 hd3
    have nL : a ≠ X.env.locals := fun z => nfr (List.mem_filterMap.mpr ⟨X.env, List.mem_cons_self, by rw [hf, z]⟩)
    have nF : a ∉ X.fs := fun hm => by
      obtain ⟨e, he, q⟩ := List.mem_filterMap.mp hm
      exact nfr (List.mem_filterMap.mpr ⟨e, List.mem_cons_of_mem _ he, q⟩)
    have S3 := J3.suite he3 hd3 na nL nF
    have go : ∀ {hds' : List ExceptHandler} {l' : List (Value × Option Nat × (Addr → Value → Option Addr → TS))}, HdsA X hds' l' → wManyA X.K Wout D l' cls d σ' H' →
        wpAny (model X.prog X.w) X.A (handleBy (.ref a) X.env hds') (SP X pins D) X.xe { s' with heap := h3 } := by
      intro hds' l' hk
      induction hk with
      | nil =>
        intro w
        refine wpAny_handleBy_nil ?_
        obtain ⟨k1, k2, k3, oe, vs, T, oT, ts', he, hz, hd, h1, hr⟩ := id fl3
        unfold PySem.passOn
        refine wpAny_bind (wpAny_field he hd h1 ?_)
        rw [if_neg (show ¬ ((Value.ref T == Value.none) = true) from by simp)]
        have fin : wpAny (model X.prog X.w) X.A (setFlight (.ref a) X.env.frame) (fun _ s4 => wpAny (model X.prog X.w) X.A (throw (.ref a) : Sem Flow) (SP X pins D) X.xe s4) X.xe { s' with heap := h3 } := by
          rw [hf]
          refine HandSPX.setFlight_upZ fl3 fun h4 hh4 up4 => wpAny_throw (tk _ _ ?_)
          exact ⟨a, B, sI, pins, σ', H', cls, d, rfl, J, nb, (up.trans up3).trans up4, .inr (.inr (by rw [hs]; exact hh4)), na, os, ag, w⟩
        first
          | exact wpAny_bind (wpAny_pure (wpAny_bind fin))
          | exact wpAny_bind fin
      | @cons x c ts b₀ suite np pos' hds2 l2 hc hsu r ih =>
        intro w
        obtain ⟨b, hb1, hyes, hno⟩ := w
        refine wpAny_handleBy_cons (codeAny_handlers_test ?_) (by intro q; cases q)
        have LT : PySem.W.Looks (model X.prog X.w) h3 (typeOf (.ref a)) cls := fun A Q E s k q => wpAny_typeOf_ref (k _ _ he3) (by rw [hz3.1]; exact q)
        have LM := PySem.W.exm_one (M := model X.prog X.w) (J3.kIn) LT hb1
        have test : ∀ {Q : Value → Shared → Prop} {E : Value → Shared → Prop}, Q c { s' with heap := h3 } → wpAny (model X.prog X.w) (X.A.mark (some (.ref a))) (eval (.Name x np) X.env) Q E { s' with heap := h3 } := fun {Q E} q => by
          obtain ⟨hg, hdbg, hm | ⟨hm, hv, hnn⟩⟩ := hc
          · exact ld_glob (X := X.suite a ((a, oe3) :: (X.pn ++ pins))) S3 hg hm q hdbg
          · exact ld_blt (X := X.suite a ((a, oe3) :: (X.pn ++ pins))) S3 hg hm hv q hnn hdbg
        refine test (LM.here ?_)
        cases b with
        | true =>
          refine codeAny_handlers_suite ?_
          refine HandSPX.lands_againZ fl3 fun h4 fl4 up4 => ?_
          have J4 : Inv X pins σ' H' { s' with heap := h4 } := J.landed nb fl4.1 ((up.trans up3).trans up4) os ag
          obtain ⟨oe4, vs4, he4, hz4, hd4⟩ := fl4.there
          have S4 := J4.suite he4 hd4 na nL nF
          refine wpAny_mono ((hsu a oe4 cls d (X.pn ++ pins) hz4 ⟨_, hd4⟩).run [] _ _ H' _ S4 (hyes rfl a na)) (fun f s6 hsp => ?_) (fun _ _ z => False.elim z)
          cases f with
          | next =>
            obtain ⟨σ6, H6, S6, q6⟩ := hsp
            exact ⟨_, _, S6.unsuite ok, q6⟩
          | brk =>
            obtain ⟨σ6, H6, S6, q6⟩ := hsp
            exact ⟨_, _, S6.unsuite ok, q6⟩
          | cont =>
            obtain ⟨σ6, H6, S6, q6⟩ := hsp
            exact ⟨_, _, S6.unsuite ok, q6⟩
          | ret u =>
            obtain ⟨v6, σ6, H6, S6, r6, q6⟩ := hsp
            exact ⟨_, _, _, S6.unsuite ok, r6, q6⟩
        | false =>
          show wpAny _ X.A (handleBy (.ref a) X.env hds2) _ _ _
          exact ih (hno rfl)
      | @consA x n c i2 ts b₀ suite np pos' hds2 l2 hN hi hln hc hsu r ih =>
        intro w
        obtain ⟨b, hb1, hyes, hno⟩ := w
        refine wpAny_handleBy_cons (codeAny_handlers_test ?_) (by intro q; cases q)
        have LT : PySem.W.Looks (model X.prog X.w) h3 (typeOf (.ref a)) cls := fun A Q E s k q => wpAny_typeOf_ref (k _ _ he3) (by rw [hz3.1]; exact q)
        have LM := PySem.W.exm_one (M := model X.prog X.w) (J3.kIn) LT hb1
        have test : ∀ {Q : Value → Shared → Prop} {E : Value → Shared → Prop}, Q c { s' with heap := h3 } → wpAny (model X.prog X.w) (X.A.mark (some (.ref a))) (eval (.Name x np) X.env) Q E { s' with heap := h3 } := fun {Q E} q => by
          obtain ⟨hg, hdbg, hm | ⟨hm, hv, hnn⟩⟩ := hc
          · exact ld_glob (X := X.suite a ((a, oe3) :: (X.pn ++ pins))) S3 hg hm q hdbg
          · exact ld_blt (X := X.suite a ((a, oe3) :: (X.pn ++ pins))) S3 hg hm hv q hnn hdbg
        refine test (LM.here ?_)
        cases b with
        | true =>
          refine codeAny_handlers_suite_as ?_
          refine HandSPX.lands_againZ fl3 fun h4 fl4 up4 => ?_
          have J4 : Inv X pins σ' H' { s' with heap := h4 } := J.landed nb fl4.1 ((up.trans up3).trans up4) os ag
          obtain ⟨oe4, vs4, he4, hz4, hd4⟩ := fl4.there
          have S4 := J4.suite he4 hd4 na nL nF
          refine store_ok (X := X.suite a ((a, oe4) :: (X.pn ++ pins))) (v := .ref a) S4 hN hi (.inl hln) rfl (fun s5 S5 => ?_) (.inr hln)
          refine wpAny_mono ((hsu a oe4 cls d (X.pn ++ pins) hz4 ⟨_, hd4⟩).run [] s5 _ H' _ S5 (hyes rfl a na)) (fun f s6 hsp => ?_) (fun _ _ z => False.elim z)
          have end_ : ∀ {σ6 : St} {H6 : Hp} {Q : Shared → Prop}, Inv (X.suite a ((a, oe4) :: (X.pn ++ pins))) [] σ6 H6 s6 → (∀ s7, Inv X pins (σ6.set i2 none) H6 s7 → Q s7) →
              wpAny (model X.prog X.w) X.A (do bindName X.env n .none; unbindBehindTheSuite X.env n pos') (fun _ s7 => Q s7) X.xe s6 := fun {σ6 H6 Q} S6 hq => gone_ok (S6.unsuite ok) hN hi hln hq
          cases f with
          | next =>
            obtain ⟨σ6, H6, S6, q6⟩ := hsp
            exact end_ S6 fun s7 J7 => ⟨_, _, J7, q6⟩
          | brk =>
            obtain ⟨σ6, H6, S6, q6⟩ := hsp
            exact end_ S6 fun s7 J7 => ⟨_, _, J7, q6⟩
          | cont =>
            obtain ⟨σ6, H6, S6, q6⟩ := hsp
            exact end_ S6 fun s7 J7 => ⟨_, _, J7, q6⟩
          | ret u =>
            obtain ⟨v6, σ6, H6, S6, r6, q6⟩ := hsp
            exact end_ S6 fun s7 J7 => ⟨_, _, _, J7, r6, q6⟩
        | false =>
          show wpAny _ X.A (handleBy (.ref a) X.env hds2) _ _ _
          exact ih (hno rfl)
    exact go hh w
  · cases f with
    | next =>
      obtain ⟨σ', H', J', q⟩ := hsp
      exact wpAny_execs_nil ⟨σ', H', J'.ofTry ok, q⟩
    | brk =>
      obtain ⟨σ', H', J', q⟩ := hsp
      exact ⟨σ', H', J'.ofTry ok, q⟩
    | cont =>
      obtain ⟨σ', H', J', q⟩ := hsp
      exact ⟨σ', H', J'.ofTry ok, q⟩
    | ret u =>
      obtain ⟨v, σ', H', J', r, q⟩ := hsp
      exact ⟨v, σ', H', J'.ofTry ok, r, q⟩
end
end L2

namespace Px
open PySem PySem.Spec PyProof.Rows L2
/-! ### a slot that the plain environment does not know -/
section
variable {K : PySem.W.Frag} {H0 H : Hp} {mb : Bool} {ex0 : CS mb} {G : List (D × V)} {L : List Nat} {ρ : Env} {σ : L2.St} {fp : Nat → List Addr}
theorem SS.free (S : SS K H0 ex0 G L ρ σ H fp) {i : Nat} (h : ∀ d, ρ[i]? ≠ some (some d)) (h0 : ex0.sv = none ∨ i ≠ 0) (x : Option V) : SS K H0 ex0 G L ρ (σ.set i x) H fp :=
  ⟨⟨by rw [List.length_set]; exact S.si.len, fun j d hj => by
    obtain ⟨v, h1, h2⟩ := S.si.val j d hj
    have hne : i ≠ j := fun e => h d (by rw [e]; exact hj)
    exact ⟨v, by rw [List.getElem?_set_ne hne]; exact h1, h2⟩, S.si.nod, S.si.dis, S.si.sub, S.si.ext⟩, S.own, S.old, S.same, slf_set S h0, S.held⟩
theorem wiped1 (ρ : Env) (i : Nat) : ∀ d, (ρ.set i none)[i]? ≠ some (some d) := fun d h => by
  by_cases hl : i < ρ.length
  · rw [List.getElem?_set_self hl] at h
    cases h
  · rw [List.getElem?_eq_none (by rw [List.length_set]; omega)] at h
    cases h
/-- the slot's value is another, and not known -/
theorem SS.blur (S : SS K H0 ex0 G L ρ σ H fp) (i : Nat) (h0 : ex0.sv = none ∨ i ≠ 0) (x : Option V) : SS K H0 ex0 G L (ρ.set i none) (σ.set i x) H fp :=
  SS.free (S.kill [i]) (wiped1 ρ i) h0 x
end
/-- what is left behind a clause with a name -/
def unE (i : Nat) : Flow → Flow
  | .next ρ => .next (ρ.set i none)
  | .brk ρ => .brk (ρ.set i none)
  | .cont ρ => .cont (ρ.set i none)
  | .ret d => .ret d
  | .exc _ _ => .err
  | .err => .err
theorem fout_un {X : Cx} {W W' : WX} {kr : RM} {Lb L' : List Nat} {ex0 : CS kr.b} {G : List (D × V)} {Dn : Ends} {i : Nat} {r : Flow} (h0 : kr.b = false ∨ i ≠ 0) (h : FOut X W kr Lb L' ex0 G Dn (unE i r)) :
    FOut X W' kr Lb L' ex0 G { nx := fun σ' H' => Dn.nx (σ'.set i none) H', rt := Dn.rt, bk := fun σ' H' => Dn.bk (σ'.set i none) H', ct := fun σ' H' => Dn.ct (σ'.set i none) H' } r := by
  cases r with
  | next ρ => exact fun σ' H' fp' S => h _ _ _ (S.blur i (h0_of ex0 h0) none)
  | brk ρ => exact fun σ' H' fp' S => h _ _ _ (S.blur i (h0_of ex0 h0) none)
  | cont ρ => exact fun σ' H' fp' S => h _ _ _ (S.blur i (h0_of ex0 h0) none)
  | ret d => exact h
  | exc c ρ => exact h.elim
  | err => exact h.elim
/-! ### try: body; except x as n: .. -/
/-- a clause: its class, the classes it catches, its name's slot, what its suite does for each class -/
abbrev Cl := Value × List Str × Option Nat × (Str → SF)
def pickA : List Cl → Str → Px.Env → Px.Flow
  | [], c, ρ => .exc c ρ
  | (_, l, none, G) :: r, c, ρ => if c ∈ l then G c ρ else pickA r c ρ
  | (_, l, some i, G) :: r, c, ρ => if c ∈ l then (if i < ρ.length then unE i (G c (ρ.set i none)) else .err) else pickA r c ρ
def sTryA (us : List Str) (F : SF) (hs : List Cl) : SF := fun ρ => match F ρ with
  | .exc c ρ' => if c ∈ us then pickA hs c ρ' else .err
  | r => r
/-- what a clause's suite is given -/
def tsE (X : Cx) (W : WX) (kr : RM) (Lb L' : List Nat) (l : List Str) (o : Option Nat) (G : Str → SF) : Addr → Value → Option Addr → TS := fun a cls d D σ H =>
  d = none ∧ H a = none ∧ ∃ c C, cls = .ref C ∧ X.mg c = some (.ref C) ∧ c ∈ l ∧ (∀ i, o = some i → σ[i]? = some (some (.ref a))) ∧ ∃ ex0 G0 ρ fp, SS X.K X.H_0 ex0 G0 [] ρ σ H fp ∧ FOut X W kr Lb L' ex0 G0 D (G c ρ)
section
variable {X : Cx} {W : WX} {kr : RM} {Lb L L' : List Nat}
abbrev clT (X : Cx) (W : WX) (kr : RM) (Lb L' : List Nat) (h : Cl) : Value × Option Nat × (Addr → Value → Option Addr → TS) := (h.1, h.2.2.1, tsE X W kr Lb L' h.2.1 h.2.2.1 h.2.2.2)
theorem wManyA_ok {Dn : Ends} {c : Str} {ρ' : Px.Env} {ex0 : CS kr.b} {G : List (D × V)} : ∀ (hs : List Cl), (∀ h ∈ hs, ∀ i, h.2.2.1 = some i → kr.b = false ∨ i ≠ 0) → (∀ h ∈ hs, ∀ C, X.mg c = some (.ref C) → PySem.W.exmOne X.K (.ref C) h.1 = some (decide (c ∈ h.2.1))) →
    FOut X W kr Lb L' ex0 G Dn (pickA hs c ρ') → ∀ C, X.mg c = some (.ref C) → ∀ σ' H' fp', SS X.K X.H_0 ex0 G [] ρ' σ' H' fp' →
    wManyA X.K W Dn (hs.map (clT X W kr Lb L')) (.ref C) none σ' H'
  | [], _, _, o, C, hC, σ', H', fp', S => o C hC σ' H' fp' S
  | (cv, l, none, F) :: r, h0, hm, o, C, hC, σ', H', fp', S => by
    refine ⟨_, hm _ List.mem_cons_self C hC, fun hb a ha => ?_, fun hb => ?_⟩
    · have hb : c ∈ l := of_decide_eq_true hb
      rw [pickA, if_pos hb] at o
      exact ⟨rfl, ha, c, C, rfl, hC, hb, fun i e => (nomatch e), ex0, G, ρ', fp', S, o⟩
    · have hb : ¬ c ∈ l := of_decide_eq_false hb
      rw [pickA, if_neg hb] at o
      exact wManyA_ok r (fun h' hh => h0 h' (List.mem_cons_of_mem _ hh)) (fun h' hh => hm h' (List.mem_cons_of_mem _ hh)) o C hC σ' H' fp' S
  | (cv, l, some i, F) :: r, h0, hm, o, C, hC, σ', H', fp', S => by
    refine ⟨_, hm _ List.mem_cons_self C hC, fun hb a ha => ?_, fun hb => ?_⟩
    · have hb : c ∈ l := of_decide_eq_true hb
      rw [pickA, if_pos hb] at o
      by_cases hl : i < ρ'.length
      · rw [if_pos hl] at o
        refine ⟨rfl, ha, c, C, rfl, hC, hb, fun j e => ?_, ex0, G, _, fp', S.blur i (h0_of ex0 (h0 _ List.mem_cons_self i rfl)) (some (.ref a)), fout_un (h0 _ List.mem_cons_self i rfl) o⟩
        cases e
        exact List.getElem?_set_self (by rw [← S.si.len]; exact hl)
      · rw [if_neg hl] at o
        exact o.elim
    · have hb : ¬ c ∈ l := of_decide_eq_false hb
      rw [pickA, if_neg hb] at o
      exact wManyA_ok r (fun h' hh => h0 h' (List.mem_cons_of_mem _ hh)) (fun h' hh => hm h' (List.mem_cons_of_mem _ hh)) o C hC σ' H' fp' S
theorem sj_tryA {body : List Stmt} {h₀ : ExceptHandler} {hds : List ExceptHandler} {pos : Pos} {F : SF} {us : List Str} (hs : List Cl) (hst : X.stack = X.env :: X.outer) (hf : X.env.frame = some X.env.locals) (tk : Takes X W)
    (hm : ∀ c ∈ us, ∀ h ∈ hs, ∀ C, X.mg c = some (.ref C) → PySem.W.exmOne X.K (.ref C) h.1 = some (decide (c ∈ h.2.1)))
    (hb : ∀ (W' : WX) (pn : List (Addr × Obj)) (xe : Value → Shared → Prop), Takes (X.tr pn xe) W' → PassesOwn (model X.prog X.w) X.A X.env xe → SJs (X.tr pn xe) W' kr Lb L L' body F)
    (hh : HdsA X (h₀ :: hds) (hs.map (clT X W kr Lb L'))) (h0 : ∀ h ∈ hs, ∀ i, h.2.2.1 = some i → kr.b = false ∨ i ≠ 0 := by first | exact fun _ _ _ _ => .inl rfl | (intro h hh i hi; right; revert hi; revert i; revert hh; revert h; decide)) : SJ X W kr Lb L L' (.Try body (h₀ :: hds) [] [] pos) (sTryA us F hs) :=
  PS.imp (ps_try_manyA (tb := fun W' => tS X W' kr Lb L L' F) hst hf tk hb hh) fun Dn σ H ⟨ex0, G, ρ, fp, S, o⟩ => by
    refine ⟨ex0, G, ρ, fp, S, ?_⟩
    unfold sTryA at o
    cases q : F ρ with
    | exc c ρ' =>
      rw [q] at o
      dsimp only at o
      split at o
      · rename_i hc
        exact wManyA_ok hs h0 (fun h hh C hC => hm c hc h hh C hC) o
      · exact o.elim
    | next ρ' => rw [q] at o; exact o
    | brk ρ' => rw [q] at o; exact o
    | cont ρ' => rw [q] at o; exact o
    | ret d => rw [q] at o; exact o
    | err => rw [q] at o; exact o
end
end Px

namespace Px
open PySem PySem.Spec PyProof.Rows L2
/-! ### isinstance(e, C) in a clause's suite, e its name -/
section
variable {X : Cx} {a D B : Addr} {oe : Obj} {pn : List (Addr × Obj)} {i : Nat} {n x : Str} {b : Bool} {p p1 p2 pos : Pos}
theorem pe_isE (C : ExcC X.K D) (hz : Zc (.ref D) none oe) (hf : ∃ vs, oe.data = .fields vs) (hg : Gl X "isinstance") (hm : X.mg "isinstance" = none) (hi : X.N[i]? = some n) (hv : Vis X.env.scope n) (hgx : Gl X x) (hx : X.mg x = some (.ref B))
    (hk : PySem.W.kitOne X.K (.ref D) (.ref B) = some b) (hd : (n == ("__debug__" : Str)) = false := by decide) (hcd : (n == ("__classdict__" : Str)) = false := by decide) (hdx : (x == ("__debug__" : Str)) = false := by decide)
    (hs1 : starEach [.Name n p1, .Name x p2] X.env = (false, eval (.Name n p1) X.env) :: starEach [.Name x p2] X.env := by rfl) (hs2 : starEach [.Name x p2] X.env = (false, eval (.Name x p2) X.env) :: starEach [] X.env := by rfl) (hpl : (backTo pos (starEach [.Name x p2] X.env)).any (·.1) = false := by rfl) :
    PE (X.suite a ((a, oe) :: pn)) (.Call (.Name "isinstance" p) [.Name n p1, .Name x p2] [] pos) (fun σ H Q => σ[i]? = some (some (.ref a)) ∧ Q (.bl b) H) :=
  PE.imp (pe_callB (X := X.suite a ((a, oe) :: pn)) (call_isE C hz hf) hg hm (by decide +kernel) (pa_cons (pe_var (X := X.suite a ((a, oe) :: pn)) hi hv hd hcd) (pa_cons (pe_glob (X := X.suite a ((a, oe) :: pn)) (v := .ref B) hgx hx rfl hdx) pa_nil hs2) hs1) (by decide) (by decide) hs1 hpl) fun σ H Q ⟨h1, q⟩ =>
    ⟨.ref a, h1, .ref B, .ref B, b, rfl, fun u r => r, hk, q⟩
theorem pt_isE (C : ExcC X.K D) (hz : Zc (.ref D) none oe) (hf : ∃ vs, oe.data = .fields vs) (hg : Gl X "isinstance") (hm : X.mg "isinstance" = none) (hi : X.N[i]? = some n) (hv : Vis X.env.scope n) (hgx : Gl X x) (hx : X.mg x = some (.ref B))
    (hk : PySem.W.kitOne X.K (.ref D) (.ref B) = some b) (hd : (n == ("__debug__" : Str)) = false := by decide) (hcd : (n == ("__classdict__" : Str)) = false := by decide) (hdx : (x == ("__debug__" : Str)) = false := by decide)
    (hs1 : starEach [.Name n p1, .Name x p2] X.env = (false, eval (.Name n p1) X.env) :: starEach [.Name x p2] X.env := by rfl) (hs2 : starEach [.Name x p2] X.env = (false, eval (.Name x p2) X.env) :: starEach [] X.env := by rfl) (hpl : (backTo pos (starEach [.Name x p2] X.env)).any (·.1) = false := by rfl) :
    PT (X.suite a ((a, oe) :: pn)) (.Call (.Name "isinstance" p) [.Name n p1, .Name x p2] [] pos) (fun σ H Q => σ[i]? = some (some (.ref a)) ∧ Q b H) :=
  PT.imp (pt_val (pe_isE C hz hf hg hm hi hv hgx hx hk hd hcd hdx hs1 hs2 hpl)) fun σ H Q ⟨h1, q⟩ => ⟨h1, b, rfl, q⟩
/-- return A if test else B, two texts -/
theorem pss_isE {Y : Cx} {t : Expr} {j1 j2 : Nat} {q1 q2 q3 q4 : Pos} {A Z : Str} (h : PT Y t (fun σ H Q => σ[i]? = some (some (.ref a)) ∧ Q b H)) :
    PSs Y [.Return (some (.IfExp t (.Constant (.str A) j1 q1) (.Constant (.str Z) j2 q2) q3)) q4] (fun Dn σ H => σ[i]? = some (some (.ref a)) ∧ Dn.rt (.str (if b = true then A else Z)) H) :=
  PSs.imp (pss_one (ps_ret (pe_ifExp h pe_str pe_str))) fun Dn σ H ⟨h1, q⟩ => ⟨h1, by
    cases b with
    | true => exact q
    | false => exact q⟩
/-- or, of two tests that leave the state alone -/
theorem pt_or2 {Y : Cx} {t1 t2 : Expr} {b1 b2 : Bool} {q1 : Pos} (h1 : PT Y t1 (fun σ H Q => σ[i]? = some (some (.ref a)) ∧ Q b1 H)) (h2 : PT Y t2 (fun σ H Q => σ[i]? = some (some (.ref a)) ∧ Q b2 H)) :
    PT Y (.BoolOp .Or [t1, t2] q1) (fun σ H Q => σ[i]? = some (some (.ref a)) ∧ Q (b1 || b2) H) :=
  PT.imp (PW.pt (pw_or h1 (pw_or1 h2))) fun σ H Q ⟨e, q⟩ => ⟨e, by
    cases b1 with
    | true => exact q
    | false => exact ⟨e, q⟩⟩
end
section
variable {X : Cx} {W : WX} {kr : RM} {k : Nat} {Lb L' : List Nat} {i : Nat} {l : List Str}
/-- a clause's suite that tells two texts apart by the error's class -/
theorem cl_isE {t : Expr} {j1 j2 : Nat} {q1 q2 q3 q4 : Pos} {A Z : Str} {Bc : Str → Bool}
    (h : ∀ c ∈ l, ∀ (C a : Addr) (oe : Obj) (pn : List (Addr × Obj)), X.mg c = some (.ref C) → Zc (.ref C) none oe → (∃ vs, oe.data = .fields vs) → PT (X.suite a ((a, oe) :: pn)) t (fun σ H Q => σ[i]? = some (some (.ref a)) ∧ Q (Bc c) H))
    (a : Addr) (oe : Obj) (cls : Value) (d : Option Addr) (pn : List (Addr × Obj)) (hz : Zc cls d oe) (hf : ∃ vs, oe.data = .fields vs) :
    PSs (X.suite a ((a, oe) :: pn)) [.Return (some (.IfExp t (.Constant (.str A) j1 q1) (.Constant (.str Z) j2 q2) q3)) q4] (tsE X W (.r k) Lb L' l (some i) (fun c => sRet (eC (.str (if Bc c = true then A else Z)))) a cls d) :=
  ⟨fun pins s σ H Dn I w => by
    obtain ⟨rfl, ha, c, C, rfl, hC, hl, hi, ex0, G0, ρ, fp, S, o⟩ := w
    refine (pss_isE (h c hl C a oe pn hC hz hf)).run pins s σ H Dn I ⟨hi i rfl, ?_⟩
    exact o _ H [] S.same (RO.flat (by rw [R]) rfl) List.nodup_nil fun b hb => nomatch hb⟩
/-- .. or whatever suite, with no look at the error -/
theorem cl_any {sts : List Stmt} {F : SF} (o : Option Nat) (n : Nat) (h : ∀ (a : Addr) (pn : List (Addr × Obj)), SJs (X.suite a pn) (fun _ _ _ _ => False) kr Lb (List.replicate n 0) L' sts F)
    (a : Addr) (oe : Obj) (cls : Value) (d : Option Addr) (pn : List (Addr × Obj)) : PSs (X.suite a ((a, oe) :: pn)) sts (tsE X W kr Lb L' l o (fun _ => sNx F) a cls d) :=
  PSs.imp (h a _) fun Dn σ H ⟨_, _, c, C, _, _, _, _, ex0, G, ρ, fp, S, o⟩ => by
    refine ⟨ex0, G, ρ, fp, S.zero (zeros n), ?_⟩
    have o : FOut X W kr Lb L' ex0 G Dn (sNx F ρ) := o
    unfold sNx at o
    cases q : F ρ with
    | exc c ρ' => rw [q] at o; exact o.elim
    | next ρ' => rw [q] at o; exact o
    | brk ρ' => rw [q] at o; exact o
    | cont ρ' => rw [q] at o; exact o
    | ret d => rw [q] at o; exact o
    | err => rw [q] at o; exact o
end
end Px

namespace Px
open PySem PySem.Spec PyProof.Rows L2
/-! ### what a slot owns is changed at a place -/
section
variable {K : PySem.W.Frag} {H0 H H1 H2 : Hp} {mb : Bool} {ex0 : CS mb} {G : List (D × V)} {L : List Nat} {ρ : Px.Env} {σ : L2.St} {fp : Nat → List Addr} {i k : Nat} {vi v : V} {l : Lens} {g : List Addr}
theorem SS.foc (S : SS K H0 ex0 G L ρ σ H fp) (e : Same H H1) (hvi : σ[i]? = some (some vi)) {fq : List Addr} (hfq : ∀ b ∈ fq, H b = none) (F : Foc K (fun b => b ∈ fq ∨ exOf fp ex0 b) H1 (L.getD i 0) vi (fp i) k l v g) (kp : Keep (fun b => b ∈ g) H1 H2)
    {exN : AS} (hN : ∀ a, exN a → a ∈ fq ∨ exOf fp ex0 a) (hN1 : ∀ a, exOf fp ex0 a → a ∉ g → exN a) {c' : D} {g' : List Addr} (hN2 : ∀ a ∈ g', exN a) (r : RO K exN H2 k c' v g') (nd : g'.Nodup) (nw : ∀ b ∈ g', b ∈ g ∨ b ∈ fq) :
    ∃ fp', SS K H0 ex0 G L (ρ.set i (some (l.2 c'))) σ H2 fp' ∧ ∀ a, exOf fp' ex0 a → exN a := by
  obtain ⟨fqN, r2, n2, s2⟩ := F.re H2 exN c' g' (kp.more fun b hb => .inr (.inl ⟨i, F.sub b hb⟩)) (fun a h => .inl (hN a h)) (fun b _ hn o q => kp.obj b o hn q) r nd
    (fun b hb => (nw b hb).elim .inl fun z => .inr fun q => S.si.ext b (.inl ⟨i, q⟩) (hfq b z))
  have lem : ∀ a, exOf (fun j => if j = i then fqN else fp j) ex0 a → exN a := fun a h => by
    rcases h with ⟨j, h⟩ | h
    · have h : a ∈ (if j = i then fqN else fp j) := h
      split at h
      · rcases s2 a h with q | q
        · exact hN1 a (.inl ⟨i, q.1⟩) q.2
        · exact hN2 a q
      · rename_i hj
        exact hN1 a (.inl ⟨j, h⟩) fun z => hj (S.si.dis j i a h (F.sub a z))
    · exact hN1 a (.inr h) fun z => S.ex_ne (F.sub a z) h
  refine ⟨_, S.mut (i := i) (g := fun b => b ∈ g) F.sub ⟨fun a xs h => kp.tup a xs (e _ _ h), fun a o n h => kp.obj a o n (e _ _ h), fun a h => kp.there a fun q => h (e.free q)⟩ hvi (dN := l.2 c') (fqN := fqN) (r2.less fun a h => .inl (lem a h)) n2 (fun b hb => ?_), lem⟩
  rcases s2 b hb with q | q
  · exact .inl q.1
  · rcases nw b q with z | z
    · exact .inl (F.sub b z)
    · exact .inr (hfq b z)
/-- what stands at a place, and what another object there gives -/
theorem SS.place (S : SS K H0 ex0 G L ρ σ H fp) (e : Same H H1) (hvi : σ[i]? = some (some vi)) (fq : List Addr) (hfq : ∀ b ∈ fq, H b = none) (F : Foc K (fun b => b ∈ fq ∨ exOf fp ex0 b) H1 (L.getD i 0) vi (fp i) (k + 1) l v g) (c : isC l.1 = true) :
    ∃ a xs fps o, v = .ref a ∧ CnO K l.1 xs o ∧ H1 a = some o ∧ P3 (RO K (fun b => b ∈ fq ∨ exOf fp ex0 b) H1 k) (kids l.1) xs fps ∧ fps.flatten.Nodup ∧ (∀ b ∈ fps.flatten, H b ≠ none) ∧
      (∀ o', P3 (RO K (fun b => b ∈ fq ∨ exOf fp ex0 b) (L2.upd H1 a o') k) (kids l.1) xs fps) ∧
      (∀ o' d u, RO K (fun b => b ∈ fq ∨ exOf fp ex0 b) H1 k d u fq → RO K (fun b => b ∈ fq ∨ exOf fp ex0 b) (L2.upd H1 a o') k d u fq) ∧
      (∀ o' c' xs' fps', CnO K c' xs' o' → isC c' = true → P3 (RO K (fun b => b ∈ fq ∨ exOf fp ex0 b) (L2.upd H1 a o') k) (kids c') xs' fps' → fps'.flatten.Nodup → (∀ b ∈ fps'.flatten, b ∈ fps.flatten ∨ b ∈ fq) →
        ∃ fp', SS K H0 ex0 G L (ρ.set i (some (l.2 c'))) σ (L2.upd H1 a o') fp' ∧ ∀ b, exOf fp' ex0 b → b ∈ fq ∨ exOf fp ex0 b) := by
  obtain ⟨a, xs, fps, o, ev, ⟨h1, h2⟩, eg, h3⟩ := (RO.cn c).mp F.ro
  have nd := F.nd
  rw [eg] at nd
  obtain ⟨na, nf⟩ := List.nodup_cons.mp nd
  have hai : a ∈ fp i := F.sub a (by rw [eg]; exact List.mem_cons_self)
  have hx : exOf fp ex0 a := .inl ⟨i, hai⟩
  have kpu : ∀ o', Keep (fun b => b ∈ fq ∨ exOf fp ex0 b) H1 (L2.upd H1 a o') := fun o' => Keep.upd (Same.refl H1) h2 h1.noTup (.inr hx)
  have hafq : a ∉ fq := fun z => S.si.ext a hx (hfq a z)
  refine ⟨a, xs, fps, o, ev, h1, h2, h3, nf, fun b hb => ?_, fun o' => ?_, fun o' d u r => ?_, fun o' c' xs' fps' hc hcc hp hnd hm => ?_⟩
  · exact S.si.ext b (.inl ⟨i, F.sub b (by rw [eg]; exact List.mem_cons_of_mem _ hb)⟩)
  · refine P3.keep (kpu o') (fun b h => .inl h) (fun b hb u q => ?_) h3
    rw [upd_ne (fun z => na (by rw [← z]; exact hb))]
    exact q
  · refine RO.keep (kpu o') (fun b h => .inl h) (fun b hb u q => ?_) r
    rw [upd_ne (fun z => hafq (by rw [← z]; exact hb))]
    exact q
  · refine S.foc e hvi hfq F (H2 := L2.upd H1 a o') (Keep.upd (Same.refl H1) h2 h1.noTup (by rw [eg]; exact List.mem_cons_self)) (exN := fun b => b ∈ fq ∨ exOf fp ex0 b) (fun b h => h) (fun b h _ => .inr h) (fun b hb => ?_) (c' := c') (g' := a :: fps'.flatten) ((RO.cn hcc).mpr ⟨a, xs', fps', o', ev, ⟨hc, upd_same⟩, rfl, hp⟩) (List.nodup_cons.mpr ⟨fun z => ?_, hnd⟩) (fun b hb => ?_)
    · rcases List.mem_cons.mp hb with q | q
      · rw [q]
        exact .inr hx
      · rcases hm b q with z | z
        · exact .inr (.inl ⟨i, F.sub b (by rw [eg]; exact List.mem_cons_of_mem _ z)⟩)
        · exact .inl z
    · rcases hm a z with q | q
      · exact na q
      · exact hafq q
    · rcases List.mem_cons.mp hb with q | q
      · exact .inl (by rw [eg, q]; exact List.mem_cons_self)
      · rcases hm b q with z | z
        · exact .inl (by rw [eg]; exact List.mem_cons_of_mem _ z)
        · exact .inr z
theorem exq {fq : List Addr} {ex : AS} (hfq : ∀ b ∈ fq, H b = none) : ∀ a, (a ∈ fq ∨ ex a) → ex a ∨ H a = none := fun a h => h.elim (fun z => .inr (hfq a z)) .inl
end
theorem flat_snoc {fps : List (List Addr)} {fq : List Addr} (b : Addr) : b ∈ (fps ++ [fq]).flatten ↔ b ∈ fps.flatten ∨ b ∈ fq := by
  rw [List.flatten_append, List.mem_append]
  simp
theorem nd_snoc2 {H : Hp} {fps : List (List Addr)} {fq : List Addr} (h1 : fps.flatten.Nodup) (h2 : fq.Nodup) (h3 : ∀ b ∈ fps.flatten, H b ≠ none) (h4 : ∀ b ∈ fq, H b = none) : (fps ++ [fq]).flatten.Nodup := by
  rw [List.flatten_append]
  refine List.nodup_append.mpr ⟨h1, by simpa using h2, fun a ha b hb e => ?_⟩
  subst e
  exact h3 a ha (h4 a (by simpa using hb))
theorem P3.len3 {α β γ : Type} {F : α → β → γ → Prop} : ∀ {as : List α} {bs : List β} {cs : List γ}, P3 F as bs cs → as.length = cs.length
  | _, _, _, .nil => rfl
  | _, _, _, .cons _ t => by rw [List.length_cons, List.length_cons, P3.len3 t]
theorem P3.put {α β γ : Type} {F : α → β → γ → Prop} {a : α} {b : β} {c : γ} : ∀ {as : List α} {bs : List β} {cs : List γ} (n : Nat), P3 F as bs cs → F a b c → P3 F (as.set n a) (bs.set n b) (cs.set n c)
  | _, _, _, _, .nil, _ => .nil
  | _, _, _, 0, .cons _ t, h => .cons h t
  | _, _, _, n + 1, .cons x t, h => .cons x (P3.put n t h)
theorem P3.erase {α β γ : Type} {F : α → β → γ → Prop} : ∀ {as : List α} {bs : List β} {cs : List γ} (n : Nat), P3 F as bs cs → P3 F (as.eraseIdx n) (bs.eraseIdx n) (cs.eraseIdx n)
  | _, _, _, _, .nil => .nil
  | _, _, _, 0, .cons _ t => t
  | _, _, _, n + 1, .cons x t => .cons x (P3.erase n t)
/-- a child is put at n, or behind the last one -/
theorem P3.kput {α β γ : Type} {F : α → β → γ → Prop} {a : α} {b : β} {c : γ} {as : List α} {bs : List β} {cs : List γ} (o : Option Nat) (h : P3 F as bs cs) (f : F a b c) : P3 F (kPut o as a) (kPut o bs b) (kPut o cs c) := by
  cases o with
  | some n => exact P3.put n h f
  | none => exact P3.app h (.cons f .nil)
theorem kput_mem {fps : List (List Addr)} {fq : List Addr} (o : Option Nat) : ∀ b ∈ (kPut o fps fq).flatten, b ∈ fps.flatten ∨ b ∈ fq := fun b hb => by
  cases o with
  | some n => exact (flat_set hb).elim .inr .inl
  | none => exact (flat_snoc b).mp hb
theorem kput_nd {H : Hp} {fps : List (List Addr)} {fq : List Addr} (o : Option Nat) (ho : ∀ n, o = some n → n < fps.length) (h1 : fps.flatten.Nodup) (h2 : fq.Nodup) (h3 : ∀ b ∈ fps.flatten, H b ≠ none) (h4 : ∀ b ∈ fq, H b = none) : (kPut o fps fq).flatten.Nodup := by
  cases o with
  | some n =>
    have hn := ho n rfl
    exact nodup_set (List.getElem?_eq_getElem hn) h1 h2 fun b hb => .inr fun z => h3 b z (h4 b hb)
  | none => exact nd_snoc2 h1 h2 h3 h4
section
variable {X : Cx} {W : WX} {kr : RM} {n k i : Nat} {Lb L : List Nat} {e e0 ei : Expr} {f fi : EF} {pf : PLF} {pos apos cpos npos : Pos} {x : Str}
/-- place.append(e) -/
def sAppP (i : Nat) (pf : PLF) (f : EF) : SF := fun ρ => (pf ρ).flow ρ fun l => match l.1 with
  | .lst xs => (f ρ).flow ρ fun d => if xs.length < sizeLine then .next (ρ.set i (some (l.2 (.lst (xs ++ [d]))))) else .err
  | _ => .err
theorem sj_appP (hp : EPl X W L i (k + 1) e0 pf) (he : EO X W L k e f)
    (hbase : attributeBase e0 "append" X.env (eval e0 X.env) = eval e0 X.env := by rfl)
    (hfew : ((backTo cpos (starEach [e] X.env)).all (fun x => !x.1) && (backToKw cpos (keywordEach [] X.env)).all (fun x => x.1.isSome)
      && decide ([e].length + ([] : List Keyword).length + (if ([] : List Keyword).isEmpty then 0 else 1) < 30)) = true := by rfl)
    (hline : (apos.endLine == cpos.line) = true := by rfl) (hs : starEach [e] X.env = (false, eval e X.env) :: starEach [] X.env := by rfl) (hplain : (backTo cpos (starEach [] X.env)).any (·.1) = false := by rfl)
    (hsw : swapsWith (.Call (.Attribute e0 "append" apos) [e] [] cpos) none pos.line X.env = pure false := by rfl) :
    SJ X W kr Lb L L (.Expr (.Call (.Attribute e0 "append" apos) [e] [] cpos) pos) (sAppP i pf f) :=
  PS.imp (ps_expr (pe_bm PySem.F.plainAttrs_list PySem.F.slot_list_append PySem.F.type_list_append mt_append hp (pa_cons he pa_nil hs) hbase hfew hline hs hplain) hsw) fun Dn σ H ⟨ex0, Gs, ρ, fp, S, o⟩ => by
    unfold sAppP at o
    refine ⟨_, ρ, fp, S.si, (flow_out S o).mono fun l q vi v g H1 hvi e1 F => ?_⟩
    obtain ⟨l1, l2⟩ := l
    cases l1 with
    | lst xs =>
      obtain ⟨a0, vs0, fps0, o0, rfl, ⟨⟨rfl, hz0⟩, h20⟩, _, _⟩ := (RO.cn rfl).mp F.ro
      refine ⟨.inl ⟨rfl, vs0, .inl (.inl (e1 _ _ h20))⟩, _, ρ, fp, S.si.same e1, ((flow_out S q).later e1).mono fun d q2 vn H2 fq e2 ro nd nw => ?_⟩
      have hfq : ∀ b ∈ fq, H b = none := fun b hb => e1.free (nw b hb)
      obtain ⟨a, vs, fps, o, ev, h1, h2, h3, n1, n2, old, new, fin⟩ := S.place (e1.trans e2) hvi fq hfq (F.later (e1.trans e2) (exq hfq)) rfl
      cases ev
      obtain ⟨rfl, hz⟩ := h1
      have hl : xs.length = vs.length := h3.length
      split at q2
      · rename_i hlt
        refine ⟨a0, vs, vn, rfl, rfl, h2, by omega, ?_⟩
        obtain ⟨fp', S'⟩ := fin (.lst (vs ++ [vn])) (.lst (xs ++ [d])) (vs ++ [vn]) (fps ++ [fq]) ⟨rfl, by rw [List.length_append]; simp; omega⟩ rfl (P3.app (old _) (.cons (new _ _ _ ro) .nil)) (nd_snoc2 n1 nd n2 hfq) (fun b hb => (flat_snoc b).mp hb)
        exact q2 _ _ _ S'.1
      · exact q2.elim
    | _ => exact q.elim
/-- place[j] = e -/
def putKid (d j : D) (x : D) : Res D := match d, j with
  | .lst xs, .int z => match ixN xs.length z with
    | some n => .ok (.lst (xs.set n x))
    | none => .err
  | .dic t ks vs, j => match dFind t ks j with
    | .ok o => if vs.length < sizeLine then .ok (.dic t (kAdd o ks j) (kPut o vs x)) else .err
    | _ => .err
  | _, _ => .err
def sPutP (i : Nat) (pf : PLF) (fj f : EF) : SF := fun ρ => (f ρ).flow ρ fun d => (pf ρ).flow ρ fun l => (fj ρ).flow ρ fun j => match putKid l.1 j d with
  | .ok c => .next (ρ.set i (some (l.2 c)))
  | _ => .err
theorem ixN_lt {n : Nat} {z : Int} {m : Nat} (h : ixN n z = some m) : m < n := by
  unfold ixN at h
  split at h
  · split at h
    · cases h
      omega
    · cases h
  · split at h
    · cases h
      omega
    · cases h
theorem PSet.or {t t' : TSet} (h : PSet X t) (h' : PSet X t') : PSet X (fun o i v H Q => t o i v H Q ∨ t' o i v H Q) := by
  intro pins s σ H o i v ov iv u Q I ro ri rv q
  rcases q with q | q
  · exact h pins s σ H o i v ov iv u Q I ro ri rv q
  · exact h' pins s σ H o i v ov iv u Q I ro ri rv q
theorem sj_putP (hu : X.A.units + 1 < cLine) (hp : EPl X W L i (k + 1) e0 pf) (hj : EB X W L n ei fi) (he : EO X W L k e f)
    (ha : ∀ v, assign (.Subscript e0 ei apos) X.env v = (do
      let ov ← holding [v] (eval e0 X.env)
      let iv ← holding [v, ov] (eval ei X.env)
      standAt apos
      holding [v, ov, iv] (setItem ov iv v)
      release [v, ov, iv] []) := by intro _; rfl)
    (hs : swapsWithSole [.Subscript e0 ei apos] e pos.line X.env = pure false := by rfl) (hw : swappedStores [.Subscript e0 ei apos] e X.env = pure none := by rfl)
    (h1 : (assignEach [.Subscript e0 ei apos] X.env).map (·.2) = [assign (.Subscript e0 ei apos) X.env] := by rfl) :
    SJ X W kr Lb L L (.Assign [.Subscript e0 ei apos] e pos) (sPutP i pf fi f) :=
  PS.imp (ps_asg he (pg_sub hp hj (PSet.or set_list (set_dict hu)) ha) hs hw h1) fun Dn σ H ⟨ex0, Gs, ρ, fp, S, o⟩ => by
    unfold sPutP at o
    refine ⟨_, ρ, fp, S.si, (flow_out S o).mono fun d q vn H1 fq e1 ro nd nw => ?_⟩
    have Ix : SI X.K (fun b => b ∈ fq ∨ exOf fp ex0 b) L ρ σ H1 fp := S.si.more e1 (fun c h => h.elim (fun z => .inr (nw c z)) .inl) (fun c h => .inr h) (fun c h => h.elim (fun z => ro.there c z) fun z q => S.si.ext c z (e1.free q))
    refine ⟨_, ρ, fp, Ix, ((flow_out S q).later e1).mono fun l q2 vi v g H2 hvi e2 F' => ⟨_, ρ, fp, Ix.same e2, ((flow_out S q2).later (e1.trans e2)).mono fun j q3 vj H3 e3 rj => ?_⟩⟩
    have e13 := e1.trans (e2.trans e3)
    have F3 := F'.later (e2.trans e3) (fun a h => .inl h)
    have ro3 : RO X.K (fun b => b ∈ fq ∨ exOf fp ex0 b) H3 k d vn fq := ro.same (e2.trans e3)
    obtain ⟨l1, l2⟩ := l
    cases hk : putKid l1 j d with
    | exc c => simp only [hk] at q3; exact q3.elim
    | err => simp only [hk] at q3; exact q3.elim
    | ok c' =>
      simp only [hk] at q3
      cases l1 with
      | lst xs =>
        obtain ⟨a, vs, fps, o, rfl, h1, h2, h3, n1, n2, old, new, fin⟩ := S.place e13 hvi fq nw F3 rfl
        obtain ⟨rfl, hz⟩ := h1
        have hl : xs.length = vs.length := h3.length
        cases j with
        | int z =>
          unfold putKid at hk
          simp only at hk
          cases hi : ixN xs.length z with
          | none => rw [hi] at hk; cases hk
          | some m =>
            rw [hi] at hk
            cases hk
            have hm : m < fps.length := by
              rw [← h3.len3]
              exact (ixN_lt hi)
            obtain ⟨fp', S'⟩ := fin (.lst (vs.set m vn)) (.lst (xs.set m d)) (vs.set m vn) (fps.set m fq) ⟨rfl, by rw [List.length_set]; exact hz⟩ rfl (P3.put m (old _) (new _ _ _ ro3)) (kput_nd (some m) (fun n hn => by cases hn; exact hm) n1 nd n2 nw) (kput_mem (some m))
            exact .inl ⟨a, vs, z, m, rfl, rj.int, h2, by rw [← hl]; exact hi, q3 _ _ _ S'.1⟩
        | _ => cases hk
      | dic t ks ws =>
        obtain ⟨a, vs, fps, o, rfl, h1, h2, h3, n1, n2, old, new, fin⟩ := S.place e13 hvi fq nw F3 rfl
        have hl : ws.length = vs.length := h3.length
        have hk2 : (match dFind t ks j with
          | .ok o => if ws.length < sizeLine then Res.ok (D.dic t (kAdd o ks j) (kPut o ws d)) else .err
          | _ => .err) = .ok c' := by
          unfold putKid at hk
          exact hk
        cases hq : dFind t ks j with
        | exc c => rw [hq] at hk2; cases hk2
        | err => rw [hq] at hk2; cases hk2
        | ok o' =>
          rw [hq] at hk2
          simp only at hk2
          split at hk2
          · rename_i hlt
            cases hk2
            obtain ⟨ho', p1, p2⟩ := dFind_put h1 h2 rj hq (by rw [← hl]; exact hlt) (v := vn) (kPut o' ws d)
            have hm : ∀ n, o' = some n → n < fps.length := fun n hn => by
              rw [← h3.len3, show (kids (D.dic t ks ws)).length = vs.length from hl]
              exact (dFind_get (.inl ⟨o, h1, .inl h2⟩ : CnR X.K H3 a (.dic t ks ws) vs) rj hq).2 n hn
            obtain ⟨fp', S'⟩ := fin ho' (.dic t (kAdd o' ks j) (kPut o' ws d)) (kPut o' vs vn) (kPut o' fps fq) p2 rfl (P3.kput o' (old _) (new _ _ _ ro3)) (kput_nd o' hm n1 nd n2 nw) (kput_mem o')
            exact .inr ⟨a, _, rfl, p1, q3 _ _ _ S'.1⟩
          · cases hk2
      | _ => cases hk
end
end Px

namespace Px
open PySem PySem.Spec PyProof.Rows L2
/-! ### attributes stored; op= at a place; extend; pop -/
theorem putF_zip {f : Str} {v : V} : ∀ {ns : List Str} {xs : List V}, ns.length = xs.length → L2.putF f v (ns.zip xs) = match nIdx ns f with
    | some m => ns.zip (xs.set m v)
    | none => (ns ++ [f]).zip (xs ++ [v])
  | [], [], _ => rfl
  | [], _ :: _, h => by simp at h
  | _ :: _, [], h => by simp at h
  | g :: r, x :: xs, h => by
    rw [List.zip_cons_cons, L2.putF, nIdx]
    by_cases e : g = f
    · rw [if_pos e, if_pos e.symm]
      rfl
    · rw [if_neg e, if_neg (fun q => e q.symm), putF_zip (by simpa using h)]
      cases nIdx r f with
      | none => rfl
      | some m => rfl
def putFld (c f : Str) (d x : D) : Res D := match d with
  | .ins c' ns vs => if c' = c ∧ ns.length < 1000 then .ok (.ins c (match nIdx ns f with
    | some _ => ns
    | none => ns ++ [f]) (kPut (nIdx ns f) vs x)) else .err
  | _ => .err
theorem CnO.putFld {K : PySem.W.Frag} {c f : Str} {ns : List Str} {vs vs' : List D} {xs : List V} {o : HO} {v : V} (h : CnO K (.ins c ns vs) xs o) : ∃ dx, o = .ins (He.ga K c) dx (ns.zip xs) ∧
    CnO K (.ins c (match nIdx ns f with
    | some _ => ns
    | none => ns ++ [f]) vs') (kPut (nIdx ns f) xs v) (.ins (He.ga K c) dx (L2.putF f v (ns.zip xs))) := by
  obtain ⟨dx, rfl, hl⟩ := h
  refine ⟨dx, rfl, dx, ?_⟩
  rw [putF_zip hl]
  cases nIdx ns f with
  | some m => exact ⟨rfl, by show ns.length = (xs.set m v).length; rw [List.length_set]; exact hl⟩
  | none => exact ⟨rfl, by show (ns ++ [f]).length = (xs ++ [v]).length; simp [hl]⟩
theorem nIdx_lt {f : Str} : ∀ {ns : List Str} {m : Nat}, nIdx ns f = some m → m < ns.length
  | [], _, h => by cases h
  | g :: r, m, h => by
    rw [nIdx] at h
    split at h
    · cases h
      simp
    · cases q : nIdx r f with
      | none => rw [q] at h; cases h
      | some j =>
        rw [q] at h
        cases h
        have := nIdx_lt q
        simp
        omega
def sFldP (c : Str) (i : Nat) (pf : PLF) (x : Str) (f : EF) : SF := fun ρ => (f ρ).flow ρ fun d => (pf ρ).flow ρ fun l => match putFld c x l.1 d with
  | .ok y => .next (ρ.set i (some (l.2 y)))
  | _ => .err
section
variable {X : Cx} {W : WX} {kr : RM} {n n2 k i : Nat} {Lb L : List Nat} {e e0 ei : Expr} {f fi : EF} {pf : PLF} {pos apos cpos npos tpos : Pos} {x c : Str}
theorem sj_fldP (hc : Cls X.K (He.ga X.K c)) (hn : NoAttr X.K (He.ga X.K c) x) (hp : EPl X W L i (k + 1) e0 pf) (he : EO X W L k e f) (hs : swapsWith e (some (.Attribute e0 x apos)) pos.line X.env = pure false := by rfl) :
    SJ X W kr Lb L L (.Assign [.Attribute e0 x apos] e pos) (sFldP c i pf x f) :=
  PS.imp (ps_fld hp he hs) fun Dn σ H ⟨ex0, Gs, ρ, fp, S, o⟩ => by
    unfold sFldP at o
    refine ⟨_, ρ, fp, S.si, (flow_out S o).mono fun d q vn H1 fq e1 ro nd nw => ?_⟩
    have Ix : SI X.K (fun b => b ∈ fq ∨ exOf fp ex0 b) L ρ σ H1 fp := S.si.more e1 (fun c h => h.elim (fun z => .inr (nw c z)) .inl) (fun c h => .inr h) (fun c h => h.elim (fun z => ro.there c z) fun z q => S.si.ext c z (e1.free q))
    refine ⟨_, ρ, fp, Ix, ((flow_out S q).later e1).mono fun l q2 vi v g H2 hvi e2 F' => ?_⟩
    obtain ⟨l1, l2⟩ := l
    cases hk : putFld c x l1 d with
    | exc c => simp only [hk] at q2; exact q2.elim
    | err => simp only [hk] at q2; exact q2.elim
    | ok c' =>
      simp only [hk] at q2
      cases l1 with
      | ins cc ns ws =>
        unfold putFld at hk
        simp only at hk
        split at hk
        · rename_i hcl
          obtain ⟨rfl, hlt⟩ := hcl
          cases hk
          obtain ⟨a, vs, fps, o, rfl, h1, h2, h3, n1, n2, old, new, fin⟩ := S.place (e1.trans e2) hvi fq nw (F'.later e2 fun a h => .inl h) rfl
          obtain ⟨dx, rfl, h4⟩ := h1.putFld (f := x) (v := vn) (vs' := kPut (nIdx ns x) ws d)
          obtain ⟨_, _, hl⟩ := h1
          have h3l : ws.length = vs.length := h3.length
          have h33 : ws.length = fps.length := h3.len3
          obtain ⟨fp', S'⟩ := fin _ _ _ (kPut (nIdx ns x) fps fq) h4 rfl (P3.kput (nIdx ns x) (old _) (new _ _ _ (ro.same e2))) (kput_nd _ (fun n hn => by have := nIdx_lt hn; omega) n1 nd n2 nw) (kput_mem _)
          exact ⟨a, _, dx, _, rfl, h2, hc, hn, by rw [List.length_zip]; omega, q2 _ _ _ S'.1⟩
        · cases hk
      | _ => cases hk
/-- place.x op= e, of flat things -/
def sFldAugP (c : Str) (o : D → D → Res D) (i : Nat) (pf : PLF) (x : Str) (f : EF) : SF := fun ρ => (pf ρ).flow ρ fun l => (dFld c x l.1).flow ρ fun a => (f ρ).flow ρ fun b => if notList a = true then (match o a b with
  | .ok d => if notList d = true then (match putFld c x l.1 d with
    | .ok y => .next (ρ.set i (some (l.2 y)))
    | _ => .err) else .err
  | _ => .err) else .err
theorem dFld_nx {c x : Str} {d : D} {z : Str} : dFld c x d ≠ .exc z := fun h => by
  unfold dFld at h
  cases hk : fldIx c d x with
  | exc c => exact absurd hk fldIx_nx
  | err => rw [hk] at h; cases h
  | ok m =>
    rw [hk, Res.bind_ok] at h
    split at h <;> cases h
theorem sj_fldAugP {op : Operator} {o : D → D → Res D} (hc : Cls X.K (He.ga X.K c)) (hn : NoAttr X.K (He.ga X.K c) x) (hp : EPl X W L i (k + 1) e0 pf) (ho : Op2 X 0 0 0 (inplaceOp op) o) (he : EB X W L 0 e f) :
    SJ X W kr Lb L L (.AugAssign (.Attribute e0 x tpos) op e pos) (sFldAugP c o i pf x f) :=
  PS.imp (ps_fldaug hp he ho) fun Dn σ H ⟨ex0, Gs, ρ, fp, S, q0⟩ => by
    unfold sFldAugP at q0
    refine ⟨_, ρ, fp, S.si, (flow_out S q0).mono fun l q vi v g H1 hvi e1 F => ?_⟩
    obtain ⟨l1, l2⟩ := l
    cases hd : dFld c x l1 with
    | exc z => exact absurd hd dFld_nx
    | err => rw [hd] at q; exact q.elim
    | ok a =>
      rw [hd, flow_ok] at q
      unfold dFld at hd
      cases hk : fldIx c l1 x with
      | exc z => exact absurd hk fldIx_nx
      | err => rw [hk] at hd; cases hd
      | ok m =>
        rw [hk, Res.bind_ok] at hd
        obtain ⟨ns, ws, rfl, hm⟩ := fldIx_ok hk
        cases hx : (kids (.ins c ns ws))[m]? with
        | none => simp only [hx] at hd; cases hd
        | some a' =>
          simp only [hx] at hd
          cases hd
          obtain ⟨p, xs, ob, u, g2, rfl, h1, h2, h3, h4, F2⟩ := F.kid (l := (D.ins c ns ws, l2)) rfl hx
          have h1' := h1
          obtain ⟨dx, rfl, hlen⟩ := h1'
          refine ⟨p, _, dx, _, u, rfl, e1 _ _ h2, hc, hn, nIdx_lookup hm h3, _, ρ, fp, S.si.same e1, ((flow_out S q).later e1).mono fun b q2 vb H2 e2 rb => ?_⟩
          split at q2
          · rename_i na
            cases hO : o a b with
            | exc z => rw [hO] at q2; exact q2.elim
            | err => rw [hO] at q2; exact q2.elim
            | ok d =>
              rw [hO] at q2
              simp only at q2
              split at q2
              · rename_i ndd
                cases hpf : putFld c x (D.ins c ns ws) d with
                | exc z => rw [hpf] at q2; exact q2.elim
                | err => rw [hpf] at q2; exact q2.elim
                | ok c' =>
                  rw [hpf] at q2
                  have e12 := e1.trans e2
                  have ra : R X.K (exOf fp ex0) H2 a u := R.same e12 ((RO.nc (isC_not na)).mp F2.ro).2
                  refine ⟨exOf fp ex0, a, b, d, fun z hz => fun q => S.si.ext z hz (e12.free q), ra, rb, hO, fun z H3 fq e3 ro nd nw => ?_⟩
                  have e13 := e12.trans e3
                  obtain ⟨efq, rz⟩ := ro
                  subst efq
                  have rz : RO X.K (fun b => b ∈ ([] : List Addr) ∨ exOf fp ex0 b) H3 k d z [] := RO.flat rz ndd
                  unfold putFld at hpf
                  simp only at hpf
                  split at hpf
                  · rename_i hcl
                    cases hpf
                    obtain ⟨a', vs, fps, o', ev, g1, g2', g3, n1, n2, old, new, fin⟩ := S.place e13 hvi [] (fun b hb => nomatch hb) (F.later e13 (exq fun b hb => nomatch hb)) rfl
                    cases ev
                    obtain ⟨dx', rfl, g4⟩ := g1.putFld (f := x) (v := z) (vs' := kPut (nIdx ns x) ws d)
                    obtain ⟨_, _, hl⟩ := g1
                    have h3l : ws.length = vs.length := g3.length
                    have h33 : ws.length = fps.length := g3.len3
                    obtain ⟨fp', S'⟩ := fin _ _ _ (kPut (nIdx ns x) fps []) g4 rfl (P3.kput (nIdx ns x) (old _) (new _ _ _ rz)) (kput_nd _ (fun n hn => by have := nIdx_lt hn; omega) n1 List.nodup_nil n2 (fun b hb => nomatch hb)) (kput_mem _)
                    exact ⟨dx', _, g2', by rw [List.length_zip]; omega, q2 _ _ _ S'.1⟩
                  · cases hpf
              · exact q2.elim
          · exact q2.elim
/-- place[j], read by values -/
theorem pget_seq (hu : X.A.units + 1 < cLine) : PGet X (fun o i H Q => (∃ p xs z u, o = .ref p ∧ i = .int z ∧ SqL X.K H p xs ∧ L2.atI xs z = some u ∧ Q u H) ∨ ∃ p u, o = .ref p ∧ DGet H p i (some u) ∧ Q u H) := by
  intro pins s σ H x y v u Q I rx ry h
  rcases h with ⟨p, xs, i, z, rfl, rfl, hq, he, q⟩ | ⟨p, w, rfl, g, q⟩
  · cases rx
    obtain ⟨t, rfl⟩ := ry
    obtain ⟨its, r, pl, hz⟩ := I.list hq
    obtain ⟨j, h1, h2, h3, h4, h5⟩ := atI_get he
    obtain ⟨w, ew, rw'⟩ := r.get h2
    have hl := r.length
    have hn := line63
    have fin : L2.EP X pins σ Q w s := ⟨z, H, I, rw', q⟩
    by_cases h0 : 0 ≤ i
    · have hj : i.toNat = j := by
        rw [seqIndex_of h0 h5] at h1
        exact Option.some.inj h1
      exact wpAny_getItem_list pl.isList h0 (by omega) (by rw [hj]; simpa using ew) fin
    · have hj : (i + (its.toArray.size : Int)).toNat = j := by
        rw [seqIndex_neg (by omega) h4] at h1
        rw [List.size_toArray, ← hl]
        exact Option.some.inj h1
      exact wpAny_getItem_list_neg pl.isList (by omega) (by rw [List.size_toArray] <;> omega) (by omega) (by rw [hj]; simpa using ew) fin
  · obtain rfl : v = Value.ref p := rx
    exact d_getItem hu I g ry fun w' s' I' r' => ⟨w, H, I', r', q⟩
/-- place[j] op= e, of flat things -/
def sAugP (o : D → D → Res D) (i : Nat) (pf : PLF) (fj f : EF) : SF := fun ρ => (pf ρ).flow ρ fun l => (fj ρ).flow ρ fun j => (kidIx l.1 j).flow ρ fun m => (match (kids l.1)[m]? with
  | some a => (f ρ).flow ρ fun b => if notList a = true then (match o a b with
    | .ok d => if notList d = true then (match putKid l.1 j d with
      | .ok y => .next (ρ.set i (some (l.2 y)))
      | _ => .err) else .err
    | _ => .err) else .err
  | none => .err)
theorem sj_augP {op : Operator} {o : D → D → Res D} (hu : X.A.units + 1 < cLine) (hp : EPl X W L i (k + 1) e0 pf) (hj : EB X W L n ei fi) (ho : Op2 X 0 0 0 (inplaceOp op) o) (he : EB X W L 0 e f)
    (ha : ∀ ov iv new, augStore ei ov iv new = (do holding [new, ov, iv] (setItem ov iv new); release [new, ov, iv] []; pure .next) := by intros; rfl) :
    SJ X W kr Lb L L (.AugAssign (.Subscript e0 ei tpos) op e pos) (sAugP o i pf fi f) :=
  PS.imp (ps_augS hp hj (pget_seq hu) he (show PIp X op _ from ho) (PSet.or set_list (set_dict hu)) ha) fun Dn σ H ⟨ex0, Gs, ρ, fp, S, q0⟩ => by
    unfold sAugP at q0
    refine ⟨_, ρ, fp, S.si, (flow_out S q0).mono fun l q vi v g H1 hvi e1 F => ⟨_, ρ, fp, S.si.same e1, ((flow_out S q).later e1).mono fun j q1 vj H2 e2 rj => ?_⟩⟩
    cases hk : kidIx l.1 j with
    | exc z => exact absurd hk kidIx_nx
    | err => rw [hk] at q1; exact q1.elim
    | ok m =>
      rw [hk, flow_ok] at q1
      cases hx : (kids l.1)[m]? with
      | none => rw [hx] at q1; exact q1.elim
      | some a =>
        rw [hx] at q1
        have e12 := e1.trans e2
        obtain ⟨p, u, g2, rfl, F2, hg⟩ := kid_get F e12 rj hk hx
        have fin : ∃ ex ρ fp, SI X.K ex L ρ σ H2 fp ∧ Out X W σ H2 (f ρ) fun b => ∀ vb H3, Same H2 H3 → RB X.K ex H3 0 b vb → (∃ ex d1 d2 d, (∀ a, ex a → H3 a ≠ none) ∧ RB X.K ex H3 0 d1 u ∧ RB X.K ex H3 0 d2 vb ∧ o d1 d2 = .ok d ∧ QO X.K ex H3 0 (fun z H4 => (∃ p' xs k' j', V.ref p = .ref p' ∧ vj = .int k' ∧ H4 p' = some (.lst xs) ∧ ixN xs.length k' = some j' ∧ Dn.nx σ (L2.upd H4 p' (.lst (xs.set j' z)))) ∨ ∃ a H', V.ref p = .ref a ∧ DPut H4 a vj z H' ∧ Dn.nx σ H') d) := by
          refine ⟨_, ρ, fp, S.si.same e12, ((flow_out S q1).later e12).mono fun b q2 vb H3 e3 rb => ?_⟩
          split at q2
          · rename_i na
            cases hO : o a b with
            | exc z => rw [hO] at q2; exact q2.elim
            | err => rw [hO] at q2; exact q2.elim
            | ok d =>
              rw [hO] at q2
              simp only at q2
              split at q2
              · rename_i ndd
                have e13 := e12.trans e3
                have ra : R X.K (exOf fp ex0) H3 a u := R.same e13 ((RO.nc (isC_not na)).mp F2.ro).2
                refine ⟨exOf fp ex0, a, b, d, fun z hz => fun q => S.si.ext z hz (e13.free q), ra, rb, hO, fun z H4 fq e4 ro nd nw => ?_⟩
                have e14 := e13.trans e4
                obtain ⟨efq, rz⟩ := ro
                subst efq
                have rz : RO X.K (fun b => b ∈ ([] : List Addr) ∨ exOf fp ex0 b) H4 k d z [] := RO.flat rz ndd
                obtain ⟨l1, l2⟩ := l
                cases hpk : putKid l1 j d with
                | exc c => simp only [hpk] at q2; exact q2.elim
                | err => simp only [hpk] at q2; exact q2.elim
                | ok c' =>
                  simp only [hpk] at q2
                  cases l1 with
                  | lst xs =>
                    obtain ⟨a', vs, fps, o', ev, h1, h2, h3, n1, n2, old, new, fin⟩ := S.place e14 hvi [] (fun b hb => nomatch hb) (F.later e14 (exq fun b hb => nomatch hb)) rfl
                    cases ev
                    obtain ⟨rfl, hz⟩ := h1
                    have hl : xs.length = vs.length := h3.length
                    cases j with
                    | int zz =>
                      unfold putKid at hpk
                      simp only at hpk
                      cases hi : ixN xs.length zz with
                      | none => rw [hi] at hpk; cases hpk
                      | some m' =>
                        rw [hi] at hpk
                        cases hpk
                        have hm : m' < fps.length := by
                          rw [← h3.len3]
                          exact (ixN_lt hi)
                        obtain ⟨fp', S'⟩ := fin (.lst (vs.set m' z)) (.lst (xs.set m' d)) (vs.set m' z) (fps.set m' []) ⟨rfl, by rw [List.length_set]; exact hz⟩ rfl (P3.put m' (old _) (new _ _ _ rz)) (kput_nd (some m') (fun n hn => by cases hn; exact hm) n1 List.nodup_nil n2 (fun b hb => nomatch hb)) (kput_mem (some m'))
                        exact .inl ⟨p, vs, zz, m', rfl, rj.int, h2, by rw [← hl]; exact hi, q2 _ _ _ S'.1⟩
                    | _ => cases hpk
                  | dic t ks ws =>
                    obtain ⟨a', vs, fps, o', ev, h1, h2, h3, n1, n2, old, new, fin⟩ := S.place e14 hvi [] (fun b hb => nomatch hb) (F.later e14 (exq fun b hb => nomatch hb)) rfl
                    cases ev
                    have hl : ws.length = vs.length := h3.length
                    have hk2 : (match dFind t ks j with
                      | .ok o => if ws.length < sizeLine then Res.ok (D.dic t (kAdd o ks j) (kPut o ws d)) else .err
                      | _ => .err) = .ok c' := by
                      unfold putKid at hpk
                      exact hpk
                    cases hq : dFind t ks j with
                    | exc c => rw [hq] at hk2; cases hk2
                    | err => rw [hq] at hk2; cases hk2
                    | ok oo =>
                      rw [hq] at hk2
                      simp only at hk2
                      split at hk2
                      · rename_i hlt
                        cases hk2
                        have rj4 : RB X.K (exOf fp ex0) H4 n j vj := rj.same (e3.trans e4)
                        obtain ⟨ho', p1, p2⟩ := dFind_put h1 h2 rj4 hq (by rw [← hl]; exact hlt) (v := z) (kPut oo ws d)
                        have hm : ∀ n, oo = some n → n < fps.length := fun n hn => by
                          rw [← h3.len3, show (kids (D.dic t ks ws)).length = vs.length from hl]
                          exact (dFind_get (.inl ⟨o', h1, .inl h2⟩ : CnR X.K H4 p (.dic t ks ws) vs) rj4 hq).2 n hn
                        obtain ⟨fp', S'⟩ := fin ho' (.dic t (kAdd oo ks j) (kPut oo ws d)) (kPut oo vs z) (kPut oo fps []) p2 rfl (P3.kput oo (old _) (new _ _ _ rz)) (kput_nd oo hm n1 List.nodup_nil n2 (fun b hb => nomatch hb)) (kput_mem oo)
                        exact .inr ⟨p, _, rfl, p1, q2 _ _ _ S'.1⟩
                      · cases hk2
                  | _ => cases hpk
              · exact q2.elim
          · exact q2.elim
        rcases hg with ⟨xs, z, h1, h2, h3⟩ | hg
        · exact .inl ⟨p, xs, z, u, rfl, h2, h1, h3, fin⟩
        · exact .inr ⟨p, u, rfl, hg, fin⟩
end
end Px

namespace Px
open PySem PySem.Spec PyProof.Rows L2
/-! ### extend, pop -/
theorem sub_flat {α : Type} {l1 l2 : List (List α)} (h : List.Sublist l1 l2) : List.Sublist l1.flatten l2.flatten := by
  induction h with
  | slnil => exact .slnil
  | cons a _ ih =>
    rw [List.flatten_cons]
    exact ih.trans (List.sublist_append_right _ _)
  | cons_cons a _ ih =>
    rw [List.flatten_cons, List.flatten_cons]
    exact List.Sublist.append (List.Sublist.refl _) ih
section
variable {X : Cx} {W : WX} {kr : RM} {n n2 k i : Nat} {Lb L : List Nat} {e e0 ei : Expr} {f fi : EF} {pf : PLF} {pos apos cpos npos tpos : Pos} {x c : Str}
def sExtP (i : Nat) (pf : PLF) (f : EF) : SF := fun ρ => (pf ρ).flow ρ fun l => match l.1 with
  | .lst xs => (f ρ).flow ρ fun d => (match d with
    | .lst ys => if xs.length + ys.length ≤ sizeLine then .next (ρ.set i (some (l.2 (.lst (xs ++ ys))))) else .err
    | _ => .err)
  | _ => .err
theorem sj_extP (hp : EPl X W L i (k + 1) e0 pf) (he : EO X W L (k + 1) e f)
    (hbase : attributeBase e0 "extend" X.env (eval e0 X.env) = eval e0 X.env := by rfl)
    (hfew : ((backTo cpos (starEach [e] X.env)).all (fun x => !x.1) && (backToKw cpos (keywordEach [] X.env)).all (fun x => x.1.isSome)
      && decide ([e].length + ([] : List Keyword).length + (if ([] : List Keyword).isEmpty then 0 else 1) < 30)) = true := by rfl)
    (hline : (apos.endLine == cpos.line) = true := by rfl) (hs : starEach [e] X.env = (false, eval e X.env) :: starEach [] X.env := by rfl) (hplain : (backTo cpos (starEach [] X.env)).any (·.1) = false := by rfl)
    (hsw : swapsWith (.Call (.Attribute e0 "extend" apos) [e] [] cpos) none pos.line X.env = pure false := by rfl) :
    SJ X W kr Lb L L (.Expr (.Call (.Attribute e0 "extend" apos) [e] [] cpos) pos) (sExtP i pf f) :=
  PS.imp (ps_expr (pe_bm PySem.F.plainAttrs_list PySem.F.slot_list_extend PySem.F.type_list_extend mt_extend hp (pa_cons he pa_nil hs) hbase hfew hline hs hplain) hsw) fun Dn σ H ⟨ex0, Gs, ρ, fp, S, o⟩ => by
    unfold sExtP at o
    refine ⟨_, ρ, fp, S.si, (flow_out S o).mono fun l q vi v g H1 hvi e1 F => ?_⟩
    obtain ⟨l1, l2⟩ := l
    cases l1 with
    | lst xs =>
      obtain ⟨a0, vs0, fps0, o0, rfl, ⟨⟨rfl, hz0⟩, h20⟩, _, _⟩ := (RO.cn rfl).mp F.ro
      refine ⟨.inl ⟨rfl, vs0, .inl (.inl (e1 _ _ h20))⟩, _, ρ, fp, S.si.same e1, ((flow_out S q).later e1).mono fun d q2 vn H2 fq e2 ro nd nw => ?_⟩
      cases d with
      | lst ys =>
        have hfq : ∀ b ∈ fq, H b = none := fun b hb => e1.free (nw b hb)
        obtain ⟨b, ws, gps, o2, rfl, ⟨⟨rfl, hzb⟩, hb⟩, efq, hg⟩ := (RO.cn rfl).mp ro
        have hfq2 : ∀ c ∈ gps.flatten, H c = none := fun c hc => hfq c (by rw [efq]; exact List.mem_cons_of_mem _ hc)
        obtain ⟨a, vs, fps, o, ev, h1, h2, h3, n1, n2, old, new, fin⟩ := S.place (e1.trans e2) hvi gps.flatten hfq2 (F.later (e1.trans e2) (exq hfq2)) rfl
        cases ev
        obtain ⟨rfl, hz⟩ := h1
        have hl : xs.length = vs.length := h3.length
        have hl2 : ys.length = ws.length := hg.length
        have q3 : FOut X W kr Lb L ex0 Gs Dn (if xs.length + ys.length ≤ sizeLine then .next (ρ.set i (some (l2 (.lst (xs ++ ys))))) else .err) := q2
        split at q3
        · rename_i hlt
          refine ⟨a0, b, vs, ws, rfl, rfl, h2, hb, by omega, ?_⟩
          rw [efq] at nd
          obtain ⟨nb, ndg⟩ := List.nodup_cons.mp nd
          have hba : b ≠ a0 := fun z => by
            have := hfq b (by rw [efq]; exact List.mem_cons_self)
            rw [z, h20] at this
            cases this
          have hg2 : P3 (RO X.K (fun c => c ∈ gps.flatten ∨ exOf fp ex0 c) (L2.upd H2 a0 (.lst (vs ++ ws))) k) ys ws gps := by
            refine P3.keep (ex := fun c => c ∈ fq ∨ exOf fp ex0 c) (Keep.upd (Same.refl H2) h2 (fun _ z => nomatch z) (.inr (.inl ⟨i, ?_⟩))) (fun c hc => ?_) (fun c hc u hu => ?_) hg
            · have := F.sub
              obtain ⟨a1, _, _, _, ev1, _, eg1, _⟩ := (RO.cn rfl).mp F.ro
              cases ev1
              exact F.sub _ (by rw [eg1]; exact List.mem_cons_self)
            · rcases hc with hc | hc
              · exact .inl (.inl (by rw [efq]; exact List.mem_cons_of_mem _ hc))
              · exact .inl (.inr hc)
            · rw [upd_ne (fun z => by
                have := hfq2 c hc
                rw [z, h20] at this
                cases this)]
              exact hu
          obtain ⟨fp', S', _⟩ := fin (.lst (vs ++ ws)) (.lst (xs ++ ys)) (vs ++ ws) (fps ++ gps) ⟨rfl, by rw [List.length_append]; omega⟩ rfl (P3.app (old _) hg2) (by
            rw [List.flatten_append]
            exact List.nodup_append.mpr ⟨n1, ndg, fun c hc c2 hc2 z => by
              subst z
              exact n2 c hc (hfq2 c hc2)⟩) (fun c hc => by
            rw [List.flatten_append] at hc
            exact List.mem_append.mp hc)
          exact q3 _ _ _ S'
        · exact q3.elim
      | _ => exact q2.elim
    | _ => exact q.elim
/-- an item of an owned list of shared things is taken out -/
theorem pop_core {H H1 : Hp} {kr : RM} {ex0 : CS kr.b} {Gs : List (D × V)} {ρ : Px.Env} {σ : L2.St} {fp : Nat → List Addr} {vi v : V} {g : List Addr} {xs : List D} {l2 : D → D} {m : Nat} {d : D} (S : SS X.K X.H_0 ex0 Gs L ρ σ H fp) (hvi : σ[i]? = some (some vi)) (e : Same H H1)
    (F : Foc X.K (exOf fp ex0) H (L.getD i 0) vi (fp i) 1 (.lst xs, l2) v g) (hd : xs[m]? = some d) :
    ∃ a vs u, v = .ref a ∧ H1 a = some (.lst vs) ∧ vs[m]? = some u ∧ xs.length = vs.length ∧
      ∃ fp', SS X.K X.H_0 ex0 Gs L (ρ.set i (some (l2 (.lst (xs.eraseIdx m))))) σ (L2.upd H1 a (.lst (vs.eraseIdx m))) fp' ∧ R X.K (exOf fp' ex0) (L2.upd H1 a (.lst (vs.eraseIdx m))) d u := by
  obtain ⟨a, vs, fps, o, ev, h1, h2, h3, n1, n2, old, new, fin⟩ := S.place e hvi [] (fun b hb => nomatch hb) (F.later e (exq fun b hb => nomatch hb)) rfl
  cases ev
  obtain ⟨rfl, hz⟩ := h1
  obtain ⟨u, g2, hu, hg2, hr⟩ := (old (.lst (vs.eraseIdx m))).at hd
  have hl := List.length_eraseIdx_le vs m
  obtain ⟨fp', S', le⟩ := fin (.lst (vs.eraseIdx m)) (.lst (xs.eraseIdx m)) (vs.eraseIdx m) (fps.eraseIdx m) ⟨rfl, by omega⟩ rfl (P3.erase m (old _)) (n1.sublist (sub_flat (List.eraseIdx_sublist fps m))) (fun b hb => .inl ((sub_flat (List.eraseIdx_sublist fps m)).subset hb))
  refine ⟨a, vs, u, rfl, h2, hu, h3.length, fp', S', ?_⟩
  exact R.less (fun b hb => .inl (le b hb)) hr.2
def sPopT (gf : Px.Env → D → Res Px.Env) (i : Nat) (pf : PLF) : SF := fun ρ => (pf ρ).flow ρ fun l => match l.1 with
  | .lst xs => (match xs[xs.length - 1]? with
    | some d => resF (gf (ρ.set i (some (l.2 (.lst xs.dropLast)))) d)
    | none => .err)
  | _ => .err
theorem dropLast_erase {α : Type} (xs : List α) : xs.dropLast = xs.eraseIdx (xs.length - 1) := (PyProof.Rows.Copied.eraseIdx_last xs).symm
theorem sj_popUnp {tg : Expr} {g : TG} {gf : Px.Env → D → Res Px.Env} {is : List Nat} (hp : EPl X W L i 1 e0 pf) (hg : PG X tg g) (gs : GSem X.K g gf is) (hL : ∀ j ∈ is, L.getD j 0 = 0)
    (hbase : attributeBase e0 "pop" X.env (eval e0 X.env) = eval e0 X.env := by rfl) (hline : (apos.endLine == cpos.line) = true := by rfl)
    (hs : swapsWithSole [tg] (.Call (.Attribute e0 "pop" apos) [] [] cpos) pos.line X.env = pure false := by rfl) (hw : swappedStores [tg] (.Call (.Attribute e0 "pop" apos) [] [] cpos) X.env = pure none := by rfl)
    (h1 : (assignEach [tg] X.env).map (·.2) = [assign tg X.env] := by rfl) (h0 : kr.b = false ∨ ∀ i ∈ is, i ≠ 0 := by first | exact .inl rfl | exact .inr (by decide)) :
    SJ X W kr Lb L L (.Assign [tg] (.Call (.Attribute e0 "pop" apos) [] [] cpos) pos) (sPopT gf i pf) :=
  PS.imp (ps_asg (pe_bm0 PySem.F.plainAttrs_list PySem.F.slot_list_pop PySem.F.type_list_pop mt_pop hp hbase hline) hg hs hw h1) fun Dn σ H ⟨ex0, Gs, ρ, fp, S, o⟩ => by
    unfold sPopT at o
    refine ⟨_, ρ, fp, S.si, (flow_out S o).mono fun l q vi v gg H1 hvi e1 F => ?_⟩
    obtain ⟨l1, l2⟩ := l
    cases l1 with
    | lst xs =>
      cases hd : xs[xs.length - 1]? with
      | none => simp only [hd] at q; exact q.elim
      | some d =>
        simp only [hd] at q
        obtain ⟨a, vs, u, rfl, h2, hu, hl, fp', S', r⟩ := pop_core S hvi e1 F hd
        refine ⟨.inl ⟨rfl, vs, .inl (.inl h2)⟩, a, vs, u, rfl, rfl, h2, by rw [← hl]; exact hu, ?_⟩
        rw [dropLast_erase, ← hl]
        rw [dropLast_erase] at q
        cases hgf : gf (ρ.set i (some (l2 (.lst (xs.eraseIdx (xs.length - 1)))))) d with
        | exc c => rw [hgf] at q; exact q.elim
        | err => rw [hgf] at q; exact q.elim
        | ok ρ' =>
          rw [hgf] at q
          refine gs _ u σ _ _ d _ ρ' r hgf fun l hl e2 => ?_
          obtain ⟨fp2, S2⟩ := S'.sets l (fun t ht => ⟨(hl t ht).1, hL _ (hl t ht).2⟩) fun t ht => h0_all ex0 h0 _ (hl t ht).2
          rw [← e2] at S2
          exact q _ _ _ S2
    | _ => exact q.elim
theorem sj_popSet {j : Nat} {y : Str} {pos' : Pos} (hp : EPl X W L i 1 e0 pf) (hN : X.N.Nodup) (hy' : X.N[j]? = some y) (hy : Loc X.env.scope y) (hj : j < L.length) (hij : i ≠ j)
    (hbase : attributeBase e0 "pop" X.env (eval e0 X.env) = eval e0 X.env := by rfl) (hline : (apos.endLine == cpos.line) = true := by rfl)
    (hs : swapsWith (.Call (.Attribute e0 "pop" apos) [] [] cpos) (some (.Name y pos')) pos.line X.env = pure false := by rfl)
    (hf : X.fn y = true ∨ X.env.scope.names.lookup y = some .local := by first | exact .inl rfl | exact .inr rfl | assumption) (h0 : kr.b = false ∨ j ≠ 0 := by first | exact .inl rfl | exact .inr (by decide)) :
    SJ X W kr Lb L (L.set j 0) (.Assign [.Name y pos'] (.Call (.Attribute e0 "pop" apos) [] [] cpos) pos) (sPopT (gfName j) i pf) :=
  PS.imp (ps_set hN hy' hy (pe_bm0 PySem.F.plainAttrs_list PySem.F.slot_list_pop PySem.F.type_list_pop mt_pop hp hbase hline) hs hf) fun Dn σ H ⟨ex0, Gs, ρ, fp, S, o⟩ => by
    unfold sPopT at o
    refine ⟨_, ρ, fp, S.si, (flow_out S o).mono fun l q vi v gg H1 hvi e1 F => ?_⟩
    obtain ⟨l1, l2⟩ := l
    cases l1 with
    | lst xs =>
      cases hd : xs[xs.length - 1]? with
      | none => simp only [hd] at q; exact q.elim
      | some d =>
        simp only [hd] at q
        obtain ⟨a, vs, u, rfl, h2, hu, hl, fp', S', r⟩ := pop_core S hvi e1 F hd
        refine ⟨.inl ⟨rfl, vs, .inl (.inl h2)⟩, a, vs, u, rfl, rfl, h2, by rw [← hl]; exact hu, ?_⟩
        rw [dropLast_erase, ← hl]
        rw [dropLast_erase] at q
        obtain ⟨fp2, S2⟩ := S'.put (Same.refl _) (i := j) (k := 0) (d := d) (v := u) (fq := []) ⟨rfl, R.less (fun a h => .inl (h.elim (fun z => nomatch z) fun z => z)) r⟩ List.nodup_nil (fun b hb => nomatch hb) hj (h0_of ex0 h0)
        exact q _ _ _ S2
    | _ => exact q.elim
/-- x op= place.pop(j) -/
def sPopAug (o : D → D → Res D) (j i : Nat) (pf : PLF) (f : EF) : SF := fun ρ => (eVar j ρ).flow ρ fun a => (pf ρ).flow ρ fun l => match l.1 with
  | .lst xs => (f ρ).flow ρ fun z => (match z with
    | .int z => (match ixN xs.length z with
      | some m => (match xs[m]? with
        | some d => (match o a d with
          | .ok y => .next ((ρ.set i (some (l.2 (.lst (xs.eraseIdx m))))).set j (some y))
          | _ => .err)
        | none => .err)
      | none => .err)
    | _ => .err)
  | _ => .err
theorem sj_popAug {op : Operator} {o : D → D → Res D} {j : Nat} {y : Str} {pos' : Pos} (hN : X.N.Nodup) (hy' : X.N[j]? = some y) (hy : Loc X.env.scope y) (ho : Op2 X 0 0 0 (inplaceOp op) o) (hp : EPl X W L i 1 e0 pf) (he : EB X W L n e f) (hj : j < L.length) (hLj : L.getD j 0 = 0) (hij : i ≠ j)
    (hbase : attributeBase e0 "pop" X.env (eval e0 X.env) = eval e0 X.env := by rfl)
    (hfew : ((backTo cpos (starEach [e] X.env)).all (fun x => !x.1) && (backToKw cpos (keywordEach [] X.env)).all (fun x => x.1.isSome)
      && decide ([e].length + ([] : List Keyword).length + (if ([] : List Keyword).isEmpty then 0 else 1) < 30)) = true := by rfl)
    (hline : (apos.endLine == cpos.line) = true := by rfl) (hs : starEach [e] X.env = (false, eval e X.env) :: starEach [] X.env := by rfl) (hplain : (backTo cpos (starEach [] X.env)).any (·.1) = false := by rfl)
    (hf : X.fn y = true ∨ X.env.scope.names.lookup y = some .local := by first | exact .inl rfl | exact .inr rfl | assumption) (h0 : kr.b = false ∨ j ≠ 0 := by first | exact .inl rfl | exact .inr (by decide)) :
    SJ X W kr Lb L (L.set j 0) (.AugAssign (.Name y pos') op (.Call (.Attribute e0 "pop" apos) [e] [] cpos) pos) (sPopAug o j i pf f) :=
  PS.imp (ps_aug hN hy' hy (pe_bm PySem.F.plainAttrs_list PySem.F.slot_list_pop PySem.F.type_list_pop mt_popAt hp (pa_cons he pa_nil hs) hbase hfew hline hs hplain) ho hf) fun Dn σ H ⟨ex0, Gs, ρ, fp, S, q⟩ => by
    unfold sPopAug at q
    cases ev : eVar j ρ with
    | exc c =>
      unfold eVar at ev
      split at ev <;> cases ev
    | err => rw [ev] at q; exact q.elim
    | ok d0 =>
      rw [ev, flow_ok] at q
      have hρ : ρ.getD j none = some d0 := by
        unfold eVar at ev
        split at ev
        · rename_i d hd
          cases ev
          exact hd
        · cases ev
      obtain ⟨v0, h1, h2⟩ := S.si.val j d0 (getD_some hρ)
      rw [hLj] at h2
      refine ⟨v0, h1, _, ρ, fp, S.si, (flow_out S q).mono fun l q vi v gg H1 hvi e1 F => ?_⟩
      obtain ⟨l1, l2⟩ := l
      cases l1 with
      | lst xs =>
        obtain ⟨a0, vs0, fps0, o0, rfl, ⟨⟨rfl, hz0⟩, h20⟩, _, hp3⟩ := (RO.cn rfl).mp F.ro
        refine ⟨.inl ⟨rfl, vs0, .inl (.inl (e1 _ _ h20))⟩, _, ρ, fp, S.si.same e1, ((flow_out S q).later e1).mono fun z q2 vz H2 e2 rz => ?_⟩
        cases z with
        | int z =>
          cases hm : ixN xs.length z with
          | none => simp only [hm] at q2; exact q2.elim
          | some m =>
            simp only [hm] at q2
            cases hd : xs[m]? with
            | none => simp only [hd] at q2; exact q2.elim
            | some d =>
              simp only [hd] at q2
              cases hO : o d0 d with
              | exc c => simp only [hO] at q2; exact q2.elim
              | err => simp only [hO] at q2; exact q2.elim
              | ok y =>
                simp only [hO] at q2
                obtain ⟨a, vs, u, ev, g2, hu, hl, fp', S', r⟩ := pop_core S hvi (e1.trans e2) F hd
                cases ev
                have hq := ixN_seq hm
                have hll : vs0.length = vs.length := by
                  have := (e1.trans e2) _ _ h20
                  rw [g2] at this
                  cases this
                  rfl
                have hzl := sizeLine_eq
                refine ⟨a0, vs, z, m, u, rfl, by rw [rz.int], g2, by omega, by omega, by rw [← hl]; exact hq.1, hu, ?_⟩
                have kp : Keep (exOf fp ex0) H (L2.upd H2 a0 (.lst (vs.eraseIdx m))) := Keep.upd (e1.trans e2) h20 (fun _ z => nomatch z) (.inl ⟨i, by
                  obtain ⟨a1, _, _, _, ev1, _, eg1, _⟩ := (RO.cn rfl).mp F.ro
                  cases ev1
                  exact F.sub _ (by rw [eg1]; exact List.mem_cons_self)⟩)
                have hv0 := S'.si.val j d0 (by
                  rw [List.getElem?_set_ne hij]
                  exact getD_some hρ)
                obtain ⟨w0, hw0, rw0⟩ := hv0
                rw [h1] at hw0
                cases hw0
                rw [hLj] at rw0
                refine ⟨exOf fp' ex0, d0, d, y, S'.si.ext, rw0.2, r, hO, fun z H3 fq e3 ro nd nw => ?_⟩
                obtain ⟨fp2, S2⟩ := S'.put e3 ro nd nw hj (h0_of ex0 h0)
                exact q2 _ _ _ S2
        | _ => exact q2.elim
      | _ => exact q.elim
end
end Px

namespace L2
open PySem PySem.Spec PyProof.Rows
/-! ### a method's call, a new instance: what is raised is wished for at the caller's slots -/
section
variable {X : Cx} {CX : CXT} {k : Nat} {f C : Addr} {fd : FuncData} {ps : List Str} {sp : Sp} {E : St → XK} {x m : Str} {p pos apos : Pos} {e o : Expr} {es : List Expr} {ta : TE} {t : TA}
def tMethA (C : Addr) (m : Str) (sp : Sp) (E : St → XK) (ta : TE) (t : TA) : TE := fun σ H Q => ta σ H fun x H1 => ∃ a dx fs, x = .ref a ∧ H1 a = some (.ins C dx fs) ∧ fs.lookup m = none ∧ t σ H1 fun vs H2 => sp (x :: vs) H2 Q (E σ)
theorem pe_methA {pl : Sem Bool} (he : PE X o ta) (c : Cls X.K C) (hm : Meth X.K C m f) (F : FnOk X.prog X.w X.K X.mg X.base CX k f fd ps sp) (hr : Room k X.A) (hb : Binds X.K fd ps []) (hx : ∀ σ, PassesAt CX X σ (E σ)) (ha : PA X (e :: es) t)
    (hst : starEach (e :: es) X.env = (false, eval e X.env) :: starEach es X.env := by rfl) (hpl : (backTo pos (starEach es X.env)).any (·.1) = false := by rfl)
    (ht : eval (.Call (.Attribute o m apos) (e :: es) [] pos) X.env = (do
      let ov ← eval o X.env
      standAt apos.atName
      let (f, first) ← holding [ov] (getMethod ov m pl)
      callWith pos f first (backTo pos (starEach (e :: es) X.env)) (backToKw pos (keywordEach [] X.env))) := by rfl) :
    PE X (.Call (.Attribute o m apos) (e :: es) [] pos) (tMethA C m sp E ta t) := by
  refine ⟨fun pins s σ H Q I h => ?_⟩
  refine PySem.W.methodCall_KW (pl := pl) (thn (he.run pins s σ H _ I h) fun u s1 ⟨x, H1, I1, rx, a, dx, fs, ex, ea, l, q⟩ => ?_) ht
  subst ex
  obtain rfl : u = Value.ref a := rx
  refine getmeth_ok I1 ea c hm l ?_
  refine PySem.W.callWith_K (first := [.ref a]) (h₀ := X.base) I.ok.mod.kin hm.kp (thn (ha.run pos pins s1 σ H1 _ I1 q) fun us s2 ⟨vs, H2, I2, r, q2⟩ => ⟨I2.kIn, ?_⟩) hst hpl
  exact run_fnS (us := .ref a :: us) (vs := .ref a :: vs) F hr hb (hx σ) I2 (.cons rfl r) q2
theorem pe_methA0 {pl : Sem Bool} (he : PE X o ta) (c : Cls X.K C) (hm : Meth X.K C m f) (F : FnOk X.prog X.w X.K X.mg X.base CX k f fd ps sp) (hr : Room k X.A) (hb : Binds X.K fd ps []) (hx : ∀ σ, PassesAt CX X σ (E σ))
    (ht : eval (.Call (.Attribute o m apos) [] [] pos) X.env = (do
      let ov ← eval o X.env
      standAt apos.atName
      let (f, first) ← holding [ov] (getMethod ov m pl)
      callWith pos f first (backTo pos (starEach [] X.env)) (backToKw pos (keywordEach [] X.env))) := by rfl) :
    PE X (.Call (.Attribute o m apos) [] [] pos) (tMethA C m sp E ta tNil) := by
  refine ⟨fun pins s σ H Q I h => ?_⟩
  refine PySem.W.methodCall_KW (pl := pl) (thn (he.run pins s σ H _ I h) fun u s1 ⟨x, H1, I1, rx, a, dx, fs, ex, ea, l, q⟩ => ?_) ht
  subst ex
  obtain rfl : u = Value.ref a := rx
  refine getmeth_ok I1 ea c hm l ?_
  exact PySem.W.callWith_K0 (first := [.ref a]) I1.kIn hm.kp (run_fnS (us := [.ref a]) (vs := [.ref a]) F hr hb (hx σ) I1 (.cons rfl .nil) q)
def tMakeA (C : Addr) (sp : Sp) (E : St → XK) (t : TA) : TE := fun σ H Q => t σ H fun vs H1 => ∀ x dx, H1 x = none → H1 dx = none → dx ≠ x → sp (.ref x :: vs) (upd (upd H1 dx (.own x)) x (.ins C dx [])) (fun v H2 => v = .non ∧ Q (.ref x) H2) (E σ)
theorem run_makeA {pins : List (Addr × Obj)} {σ : St} {H : Hp} {s : Shared} {Q : VK} {us : List Value} {vs : List V} (M : Mk X.K C f) (F : FnOk X.prog X.w X.K X.mg X.base CX k f fd ps sp) (hr : Room (k + 1) X.A) (hb : Binds X.K fd ps [])
    (hx : PassesAt CX X σ (E σ)) (I : Inv X pins σ H s) (r : Vals vs us)
    (h : ∀ x dx, H x = none → H dx = none → dx ≠ x → sp (.ref x :: vs) (upd (upd H dx (.own x)) x (.ins C dx [])) (fun v H2 => v = .non ∧ Q (.ref x) H2) (E σ)) :
    wpAny (model X.prog X.w) X.A (call (.ref C) us) (EP X pins σ Q) X.xe s := by
  have hq := h (s.heap.objs.size + 1) s.heap.objs.size (I.hok.fresh (Nat.le_succ _)) (I.hok.fresh (Nat.le_refl _)) (Nat.ne_of_lt (Nat.lt_succ_self _))
  have I2 := Inv.made (C := C) I
  have r2 : Vals (V.ref (s.heap.objs.size + 1) :: vs) (Value.ref (s.heap.objs.size + 1) :: us) := .cons rfl r
  have hl : (Value.ref (s.heap.objs.size + 1) :: us).length = ps.length := by
    have e := r2.length
    rw [F.len _ _ _ _ hq] at e
    exact e.symm
  have b := hb _ (Value.ref (s.heap.objs.size + 1) :: us) I2.kIn (by rw [List.append_nil]; exact hl)
  rw [List.append_nil] at b
  refine wpAny_call (make_map (f := f) I.kIn M.makes M.init (beq_iff_eq.mp M.fn) (codeAny_mono (F.run _ X.stack _ _ ⟨Value.ref (s.heap.objs.size + 1) :: us, []⟩ (Value.ref (s.heap.objs.size + 1) :: us) _ _ (E σ) (hr.make C us [])
    (I2.env0.make C us []) b r2 hq) fun r s' hq' => ?_))
  cases r with
  | error e => exact hx pins _ _ e s' I2 hq'
  | ok fl =>
    cases fl with
    | ret u =>
      obtain ⟨v, H', I3, rv, ev, q3⟩ := I2.after hq'
      subst ev
      exact ⟨rv, ⟨V.ref (s.heap.objs.size + 1), H', I3, rfl, q3⟩⟩
    | next => exact False.elim hq'
    | brk => exact False.elim hq'
    | cont => exact False.elim hq'
theorem pe_makeA (M : Mk X.K C f) (F : FnOk X.prog X.w X.K X.mg X.base CX k f fd ps sp) (hr : Room (k + 1) X.A) (hg : Gl X x) (hm : X.mg x = some (.ref C)) (hb : Binds X.K fd ps []) (hx : ∀ σ, PassesAt CX X σ (E σ))
    (ha : PA X (e :: es) t) (hdb : (x == ("__debug__" : Str)) = false := by decide) (he : starEach (e :: es) X.env = (false, eval e X.env) :: starEach es X.env := by rfl) (hpl : (backTo pos (starEach es X.env)).any (·.1) = false := by rfl) :
    PE X (.Call (.Name x p) (e :: es) [] pos) (tMakeA C sp E t) := by
  refine ⟨fun pins s σ H Q I h => ?_⟩
  refine wpAny_Call_Name_kw (ld_glob I hg hm ?_ hdb)
  refine PySem.W.callWith_K (h₀ := X.base) I.ok.mod.kin M.kp (thn (ha.run pos pins s σ H _ I h) fun us s1 ⟨vs, H1, I1, r, q⟩ => ⟨I1.kIn, ?_⟩) he hpl
  exact run_makeA M F hr hb (hx σ) I1 r q
theorem pe_makeA0 (M : Mk X.K C f) (F : FnOk X.prog X.w X.K X.mg X.base CX k f fd ps sp) (hr : Room (k + 1) X.A) (hg : Gl X x) (hm : X.mg x = some (.ref C)) (hb : Binds X.K fd ps []) (hx : ∀ σ, PassesAt CX X σ (E σ))
    (hdb : (x == ("__debug__" : Str)) = false := by decide) : PE X (.Call (.Name x p) [] [] pos) (tMakeA C sp E tNil) := by
  refine ⟨fun pins s σ H Q I h => ?_⟩
  refine wpAny_Call_Name_kw (ld_glob I hg hm ?_ hdb)
  exact PySem.W.callWith_K0 I.kIn M.kp (run_makeA (us := []) M F hr hb (hx σ) I .nil h)
end
end L2
namespace Px
open PySem PySem.Spec PyProof.Rows L2
/-! ### methods that only read -/
/-- an instance of c, the name m none of its attributes -/
def mOk (c m : Str) : D → Bool
  | .ins c' ns _ => decide (c' = c) && (nIdx ns m).isNone
  | _ => false
theorem nIdx_none {f : Str} : ∀ {ns : List Str} {xs : List V}, nIdx ns f = none → (ns.zip xs).lookup f = none
  | [], _, _ => rfl
  | g :: r, [], _ => rfl
  | g :: r, x :: xs, h => by
    rw [nIdx] at h
    rw [List.zip_cons_cons, List.lookup]
    by_cases e : f = g
    · rw [if_pos e] at h
      cases h
    · rw [if_neg e] at h
      rw [beq_eq_false_iff_ne.mpr e]
      cases q : nIdx r f with
      | none => exact nIdx_none q
      | some j => rw [q] at h; cases h
theorem mOk_ins {c m : Str} {d : D} (h : mOk c m d = true) : ∃ ns vs, d = .ins c ns vs ∧ nIdx ns m = none := by
  cases d with
  | ins c' ns vs =>
    simp only [mOk, Bool.and_eq_true, decide_eq_true_eq, Option.isNone_iff_eq_none] at h
    obtain ⟨rfl, h⟩ := h
    exact ⟨ns, vs, rfl, h⟩
  | _ => cases h
def eMeth (c m : Str) (C : List D → Res D) (f : EF) (fs : Px.Env → Res (List D)) : EF := fun ρ => f ρ >>= fun d => if mOk c m d = true then fs ρ >>= fun ds => C (d :: ds) else .err
def eMethP (c m : Str) (kr : Nat) (C : List D → Res D) (f : EF) (fs : Px.Env → Res (List D)) : EF := fun ρ => f ρ >>= fun d => if mOk c m d = true then fs ρ >>= fun ds => C (d :: ds) >>= fun d => if okP kr d = true then .ok d else .err else .err
section
variable {X : Cx} {W : WX} {L : List Nat} {n n2 m k kr : Nat} {pos p apos : Pos} {e o : Expr} {es : List Expr} {g : Addr} {fd : FuncData} {ps : List Str} {x c mm : Str} {C : List D → Res D} {f : EF} {fs : Px.Env → Res (List D)}
theorem ins_get {K : PySem.W.Frag} {ex : AS} {H : Hp} {ns : List Str} {vs : List D} {v : V} (h : RB K ex H n (.ins c ns vs) v) : ∃ a dx xs, v = .ref a ∧ H a = some (.ins (He.ga K c) dx (ns.zip xs)) := by
  obtain ⟨a, xs, rfl, h1, h2⟩ := RB.cnr rfl h
  rcases h1 with ⟨o, ⟨dx, rfl, hlen⟩, h1⟩ | ⟨⟨_, h⟩, _⟩
  · rcases h1 with h1 | h1
    · exact ⟨a, dx, xs, rfl, h1⟩
    · exact h1.elim
  · cases h
theorem eo_meth (hc : Cls X.K (He.ga X.K c)) (hm : Meth X.K (He.ga X.K c) mm g) (F : FnOk X.prog X.w X.K X.mg X.base (L2.CX X.prog X.w) k g fd ps (Spec X.K X.mg (m + 1) kr C)) (hr : Room k X.A) (hb : Binds X.K fd ps []) (tk : Takes X W)
    (ho : EB X W L 0 o f) (ha : EA X W L 0 m (e :: es) fs) {pl : Sem Bool} (hst : starEach (e :: es) X.env = (false, eval e X.env) :: starEach es X.env := by rfl) (hpl : (backTo pos (starEach es X.env)).any (·.1) = false := by rfl)
    (ht : eval (.Call (.Attribute o mm apos) (e :: es) [] pos) X.env = (do
      let ov ← eval o X.env
      standAt apos.atName
      let (f, first) ← holding [ov] (getMethod ov mm pl)
      callWith pos f first (backTo pos (starEach (e :: es) X.env)) (backToKw pos (keywordEach [] X.env))) := by rfl) :
    EO X W L kr (.Call (.Attribute o mm apos) (e :: es) [] pos) (eMeth c mm C f fs) :=
  PE.imp (pe_methA (pl := pl) ho hc hm F hr hb (fun σ => passAt tk σ) ha hst hpl ht) fun σ H Q ⟨ex, ρ, fp, I, q⟩ => ⟨ex, ρ, fp, I, q.bind.mono fun d q1 v1 H1 e1 r1 => by
    split at q1
    · rename_i hk
      obtain ⟨ns, vs, rfl, hn⟩ := mOk_ins hk
      obtain ⟨a, dx, xs, rfl, h1⟩ := ins_get r1
      refine ⟨a, dx, _, rfl, h1, nIdx_none hn, ex, ρ, fp, I.same e1, (q1.bind.later e1).mono fun ds q2 us H2 e2 r2 hl => ?_⟩
      refine ⟨by rw [List.length_cons, hl], ex, .ins c ns vs :: ds, ((I.same e1).same e2).ext, .cons (r1.same e2) r2, ?_⟩
      cases hC : C (.ins c ns vs :: ds) with
      | ok d =>
        rw [hC] at q2
        exact fun v H3 fq e3 ro nd nw => q2 v H3 fq ((e1.trans e2).trans e3) ro nd fun a ha => (e1.trans e2).free (nw a ha)
      | exc c =>
        rw [hC] at q2
        exact fun Cl hCl H' e3 => q2 Cl hCl H' ((e1.trans e2).trans e3)
      | err =>
        rw [hC] at q2
        exact q2.elim
    · exact q1.elim⟩
theorem eo_meth0 (hc : Cls X.K (He.ga X.K c)) (hm : Meth X.K (He.ga X.K c) mm g) (F : FnOk X.prog X.w X.K X.mg X.base (L2.CX X.prog X.w) k g fd ps (Spec X.K X.mg 1 kr C)) (hr : Room k X.A) (hb : Binds X.K fd ps []) (tk : Takes X W)
    (ho : EB X W L 0 o f) {pl : Sem Bool}
    (ht : eval (.Call (.Attribute o mm apos) [] [] pos) X.env = (do
      let ov ← eval o X.env
      standAt apos.atName
      let (f, first) ← holding [ov] (getMethod ov mm pl)
      callWith pos f first (backTo pos (starEach [] X.env)) (backToKw pos (keywordEach [] X.env))) := by rfl) :
    EO X W L kr (.Call (.Attribute o mm apos) [] [] pos) (eMeth c mm C f aNil) :=
  PE.imp (pe_methA0 (pl := pl) ho hc hm F hr hb (fun σ => passAt tk σ) ht) fun σ H Q ⟨ex, ρ, fp, I, q⟩ => ⟨ex, ρ, fp, I, q.bind.mono fun d q1 v1 H1 e1 r1 => by
    split at q1
    · rename_i hk
      obtain ⟨ns, vs, rfl, hn⟩ := mOk_ins hk
      obtain ⟨a, dx, xs, rfl, h1⟩ := ins_get r1
      refine ⟨a, dx, _, rfl, h1, nIdx_none hn, rfl, ex, [.ins c ns vs], (I.same e1).ext, .cons r1 .nil, ?_⟩
      have q2 : Out X W σ H (C [.ins c ns vs]) _ := q1
      cases hC : C [.ins c ns vs] with
      | ok d =>
        rw [hC] at q2
        exact fun v H3 fq e3 ro nd nw => q2 v H3 fq (e1.trans e3) ro nd fun a ha => e1.free (nw a ha)
      | exc c =>
        rw [hC] at q2
        exact fun Cl hCl H' e3 => q2 Cl hCl H' (e1.trans e3)
      | err =>
        rw [hC] at q2
        exact q2.elim
    · exact q1.elim⟩
theorem eo_methP (hc : Cls X.K (He.ga X.K c)) (hm : Meth X.K (He.ga X.K c) mm g) (F : FnOk X.prog X.w X.K X.mg X.base (L2.CX X.prog X.w) k g fd ps (Spec X.K X.mg (m + 1) kr C)) (hr : Room k X.A) (hb : Binds X.K fd ps []) (tk : Takes X W)
    (ho : EB X W L n o f) (ha : EA X W L n2 m (e :: es) fs) {pl : Sem Bool} (hst : starEach (e :: es) X.env = (false, eval e X.env) :: starEach es X.env := by rfl) (hpl : (backTo pos (starEach es X.env)).any (·.1) = false := by rfl)
    (ht : eval (.Call (.Attribute o mm apos) (e :: es) [] pos) X.env = (do
      let ov ← eval o X.env
      standAt apos.atName
      let (f, first) ← holding [ov] (getMethod ov mm pl)
      callWith pos f first (backTo pos (starEach (e :: es) X.env)) (backToKw pos (keywordEach [] X.env))) := by rfl) :
    EO X W L kr (.Call (.Attribute o mm apos) (e :: es) [] pos) (eMethP c mm kr C f fs) :=
  PE.imp (pe_methA (pl := pl) ho hc hm F hr hb (fun σ => passAt tk σ) ha hst hpl ht) fun σ H Q ⟨ex, ρ, fp, I, q⟩ => ⟨ex, ρ, fp, I, q.bind.mono fun d q1 v1 H1 e1 r1 => by
    split at q1
    · rename_i hk
      obtain ⟨ns, vs, rfl, hn⟩ := mOk_ins hk
      obtain ⟨a, dx, xs, rfl, h1⟩ := ins_get r1
      refine ⟨a, dx, _, rfl, h1, nIdx_none hn, ex, ρ, fp, I.same e1, (q1.bind.later e1).mono fun ds q2 us H2 e2 r2 hl => ?_⟩
      exact ⟨by rw [List.length_cons, hl], fun _ => False, .ins c ns vs :: ds, fun a z => z.elim, .cons (RB.look (r1.same e2)) (r2.mono fun _ _ z => RB.look z), look_out (e1.trans e2) q2⟩
    · exact q1.elim⟩
theorem eo_methP0 (hc : Cls X.K (He.ga X.K c)) (hm : Meth X.K (He.ga X.K c) mm g) (F : FnOk X.prog X.w X.K X.mg X.base (L2.CX X.prog X.w) k g fd ps (Spec X.K X.mg 1 kr C)) (hr : Room k X.A) (hb : Binds X.K fd ps []) (tk : Takes X W)
    (ho : EB X W L n o f) {pl : Sem Bool}
    (ht : eval (.Call (.Attribute o mm apos) [] [] pos) X.env = (do
      let ov ← eval o X.env
      standAt apos.atName
      let (f, first) ← holding [ov] (getMethod ov mm pl)
      callWith pos f first (backTo pos (starEach [] X.env)) (backToKw pos (keywordEach [] X.env))) := by rfl) :
    EO X W L kr (.Call (.Attribute o mm apos) [] [] pos) (eMethP c mm kr C f aNil) :=
  PE.imp (pe_methA0 (pl := pl) ho hc hm F hr hb (fun σ => passAt tk σ) ht) fun σ H Q ⟨ex, ρ, fp, I, q⟩ => ⟨ex, ρ, fp, I, q.bind.mono fun d q1 v1 H1 e1 r1 => by
    split at q1
    · rename_i hk
      obtain ⟨ns, vs, rfl, hn⟩ := mOk_ins hk
      obtain ⟨a, dx, xs, rfl, h1⟩ := ins_get r1
      exact ⟨a, dx, _, rfl, h1, nIdx_none hn, rfl, fun _ => False, [.ins c ns vs], fun a z => z.elim, .cons (RB.look r1) .nil, look_out e1 (show Out X W σ H (C [.ins c ns vs] >>= fun d => if okP kr d = true then .ok d else .err) _ from q1)⟩
    · exact q1.elim⟩
end
/-! ### methods that change their object -/
/-- the promise of a method that is lent its object (owned to the depth km, at addresses of its own) and gives it back -/
def SpecM (K : PySem.W.Frag) (mg : Str → Option Value) (ar kr km : Nat) (C : List D → Res D) : Sp := fun vs H Q E => vs.length = ar ∧ ∃ (ex : AS) (d0 : D) (ds : List D) (v0 : V) (us : List V) (g : List Addr), vs = v0 :: us ∧ (∀ a, ex a → H a ≠ none) ∧ (∀ a ∈ g, ¬ ex a) ∧ g.Nodup ∧
  RO K (fun a => a ∈ g ∨ ex a) H km d0 v0 g ∧ Paired (R K (fun a => a ∈ g ∨ ex a) H) ds us ∧ match C (d0 :: ds) with
  | .ok (.tup [r, s]) => ∀ v H' fq fs, Keep (fun a => a ∈ g) H H' → RO K (fun a => a ∈ fq ∨ a ∈ fs ∨ ex a) H' kr r v fq → RO K (fun a => a ∈ fq ∨ a ∈ fs ∨ ex a) H' km s v0 fs → fq.Nodup → fs.Nodup → (∀ a ∈ fq, H a = none ∧ a ∉ fs) → (∀ a ∈ fs, H a = none ∨ a ∈ g) → Q v H'
  | .ok _ => False
  | .exc c => ∀ Cl, mg c = some (.ref Cl) → ∀ H', Keep (fun a => a ∈ g) H H' → E (.ref Cl) none H'
  | .err => False
/-- a method's body as a function of its arguments: what it hands back, and the object -/
def fnM (n : Nat) (F : SF) (ds : List D) : Res D := match F (startE n ds) with
  | .ret d => .ok d
  | .next ρ => (match ρ.getD 0 none with
    | some s => .ok (.tup [.non, s])
    | none => .err)
  | .exc c _ => .exc c
  | _ => .err
theorem getD_rep1 {n km : Nat} (i : Nat) (hn : 0 < n) : ((List.replicate n 0).set 0 km).getD i 0 = if i = 0 then km else 0 := by
  by_cases h : i = 0
  · subst h
    rw [if_pos rfl]
    exact getD_set_eq (by rw [List.length_replicate]; exact hn)
  · rw [if_neg h, getD_set_ne (fun q => h q.symm), getD_rep0]
section
variable {P : Program} {w : World} {K : PySem.W.Frag} {mg : Str → Option Value} {base : Heap}
theorem meth_ok {x qual : Str} {st : Stmt} {f : Addr} {fd : FuncData} {N ps : List Str} {k kr km ar nN : Nat} {L L' : List Nat} {FF : SF} {C : List D → Res D} (F : Fun K x qual st f fd) (S : FnScope N ps (defScope st)) (hn : nN = N.length) (har : ar = ps.length) (hL0 : L = (List.replicate nN 0).set 0 km) (hC : C = fnM nN FF) (hpos : 0 < nN) (hL' : L'.getD 0 0 = km)
    (h : ∀ (cdv : Value) (A : Around) (outer : List PySem.Env) (s : Shared) (H : Hp) (E : XK), Room k (A.deeper (envOfC qual (defScope st) s.heap.objs.size f cdv)) →
      SJs (cxOf (L2.CX P w) P w K mg base N qual (defScope st) f cdv A outer s H E) (fun cls d _ H => E cls d H) (.m kr km) [] L L' (defBody st) FF) :
    FnOk P w K mg base (L2.CX P w) (k + 1) f fd ps (SpecM K mg ar kr km C) := by
  subst hn har hL0 hC
  refine F.okX S (fun vs H Q E h => h.1) (fun cdv A outer s H vs Q E hr hsp => ⟨_, h cdv A outer s H E hr, ?_⟩)
  obtain ⟨hl, ex, d0, ds, v0, us, g, rfl, ext, gex, gnd, r0, r, q⟩ := hsp
  let c0 : CS (RM.m kr km).b := ⟨ex, fun a => a ∈ g, some v0, fun q => (nomatch q), fun _ q => nomatch q⟩
  let fp0 : Nat → List Addr := fun i => if i = 0 then g else []
  have mem0 : ∀ i a, a ∈ fp0 i → a ∈ g := fun i a z => by
    have z : a ∈ (if i = 0 then g else []) := z
    split at z
    · exact z
    · cases z
  have e0 : ∀ a, exOf fp0 c0 a → a ∈ g ∨ ex a := fun a z => by
    rcases z with ⟨i, z⟩ | z
    · exact .inl (mem0 i a z)
    · exact .inr z
  have hlen := r.length
  have there : ∀ a ∈ g, H a ≠ none := r0.there
  have SSi : SS K H c0 [] ((List.replicate N.length 0).set 0 km) (startE N.length (d0 :: ds)) (L2.start N (v0 :: us)) H fp0 := by
    have h1 : (startE N.length (d0 :: ds)).length = (L2.start N (v0 :: us)).length := by
      unfold startE L2.start
      simp [hlen]
    refine ⟨⟨h1, fun i d e => ?_, fun i => ?_, fun i j a z1 z2 => ?_, fun i a z => .inl ⟨i, z⟩, fun a z => ?_⟩, fun i a z => .inr (mem0 i a z), fun a z => ⟨ext a z, fun q => gex a q z⟩, Keep.same (Same.refl H), fun v z => ?_, fun g z => (nomatch z)⟩
    · rw [getD_rep1 i hpos]
      by_cases hi : i = 0
      · subst hi
        have e : some (some d0) = some (some d) := e
        cases e
        refine ⟨v0, rfl, ?_⟩
        rw [if_pos rfl]
        show RO K _ H km d0 v0 (if 0 = 0 then g else [])
        rw [if_pos rfl]
        exact r0.less fun a z => .inl (e0 a z)
      · rw [if_neg hi]
        show ∃ v, _ ∧ RO K _ H 0 d v (if i = 0 then g else [])
        rw [if_neg hi]
        obtain ⟨j, rfl⟩ : ∃ j, i = j + 1 := ⟨i - 1, by omega⟩
        have key : ∃ v : V, (L2.start N (v0 :: us))[j + 1]? = some (some v) ∧ R K (fun a => a ∈ g ∨ ex a) H d v := by
          unfold startE at e
          unfold L2.start
          by_cases hj : j < ds.length
          · have e1 : ((d0 :: ds).map some ++ List.replicate (N.length - (d0 :: ds).length) none)[j + 1]? = some (some d) := e
            rw [List.getElem?_append_left (by rw [List.length_map, List.length_cons]; omega), List.getElem?_map, List.getElem?_cons_succ] at e1
            cases q : ds[j]? with
            | none => rw [q] at e1; cases e1
            | some d' =>
              rw [q] at e1
              cases e1
              obtain ⟨v, h1, h2⟩ := Paired.get r q
              refine ⟨v, ?_, h2⟩
              rw [List.getElem?_append_left (by rw [List.length_map, List.length_cons, ← hlen]; omega), List.getElem?_map, List.getElem?_cons_succ, h1]
              rfl
          · have e1 : ((d0 :: ds).map some ++ List.replicate (N.length - (d0 :: ds).length) none)[j + 1]? = some (some d) := e
            rw [List.getElem?_append_right (by rw [List.length_map, List.length_cons]; omega), List.getElem?_replicate] at e1
            split at e1 <;> cases e1
        obtain ⟨v, h1, h2⟩ := key
        exact ⟨v, h1, rfl, h2.less fun a z => .inl (e0 a z)⟩
    · show (if i = 0 then g else []).Nodup
      split
      · exact gnd
      · exact List.nodup_nil
    · have z1 : a ∈ (if i = 0 then g else []) := z1
      have z2 : a ∈ (if j = 0 then g else []) := z2
      split at z1
      · split at z2
        · rename_i a1 a2
          rw [a1, a2]
        · cases z2
      · cases z1
    · rcases e0 a z with z | z
      · exact there a z
      · exact ext a z
    · cases z
      rfl
  refine ⟨c0, [], startE N.length (d0 :: ds), fp0, SSi, ?_⟩
  unfold fnM at q
  unfold FOut
  cases hF : FF (startE N.length (d0 :: ds)) with
  | next ρ' =>
    rw [hF] at q
    dsimp only at q ⊢
    intro σ' H' fp' S'
    cases hρ : ρ'.getD 0 none with
    | none => rw [hρ] at q; exact q.elim
    | some sd =>
      rw [hρ] at q
      obtain ⟨u, h1, h2⟩ := S'.si.val 0 sd (getD_some hρ)
      rw [hL'] at h2
      have := S'.slf v0 rfl
      rw [h1] at this
      cases this
      refine q .non H' [] (fp' 0) S'.same (RO.flat (by rw [R]) rfl) (h2.less fun a z => .inl ?_) List.nodup_nil (S'.si.nod 0) (fun a z => nomatch z) (fun a ha => S'.own 0 a ha)
      rcases z with z | z | z
      · cases z
      · exact .inl ⟨0, z⟩
      · exact .inr z
  | ret d =>
    rw [hF] at q
    dsimp only at q ⊢
    have key : ∃ d1 s1, d = .tup [d1, s1] := by
      cases d with
      | tup xs =>
        match xs, q with
        | [d1, s1], _ => exact ⟨d1, s1, rfl⟩
        | [], q => exact q.elim
        | [_], q => exact q.elim
        | _ :: _ :: _ :: _, q => exact q.elim
      | _ => exact q.elim
    obtain ⟨d1, s1, rfl⟩ := key
    refine ⟨d1, s1, rfl, fun v u H' fq fs hu kp r1 r2 n1 n2 m1 m2 => ?_⟩
    cases hu
    exact q v H' fq fs kp r1 r2 n1 n2 m1 m2
  | exc c ρ' =>
    rw [hF] at q
    exact fun C hC σ' H' fp' S' => q C hC H' S'.same
  | brk ρ' =>
    rw [hF] at q
    exact q.elim
  | cont ρ' =>
    rw [hF] at q
    exact q.elim
  | err =>
    rw [hF] at q
    exact q.elim
end
end Px

namespace Px
open PySem PySem.Spec PyProof.Rows L2
/-! ### calls of methods that change their object; new instances; defs that call themselves -/
section
variable {K : PySem.W.Frag} {H0 H H2 : Hp} {mb : Bool} {ex0 : CS mb} {G : List (D × V)} {L : List Nat} {ρ : Px.Env} {σ : L2.St} {fp : Nat → List Addr}
/-- what the slot i owns is lost -/
theorem SS.lost (S : SS K H0 ex0 G L ρ σ H fp) (i : Nat) {g : AS} (hg : ∀ b, g b → b ∈ fp i) (kp : Keep g H H2) : SS K H0 ex0 G L (ρ.set i none) σ H2 fun j => if j = i then [] else fp j := by
  have le : ∀ b, exOf (fun j => if j = i then [] else fp j) ex0 b → exOf fp ex0 b := fun b h => by
    rcases h with ⟨l, h⟩ | h
    · have h : b ∈ (if l = i then [] else fp l) := h
      split at h
      · cases h
      · exact .inl ⟨l, h⟩
    · exact .inr h
  have kp1 : Keep (exOf fp ex0) H H2 := kp.more fun b h => .inl ⟨i, hg b h⟩
  refine ⟨⟨by rw [List.length_set]; exact S.si.len, fun j d' h => ?_, fun j => ?_, fun j l b h1 h2 => ?_, fun j b h => .inl ⟨j, h⟩, fun b h q => ?_⟩, fun j b h => ?_, S.old, ?_, S.slf, fun g hg => R.keep kp1 (fun b h => .inl (le b h)) _ (S.held g hg)⟩
  · by_cases ej : i = j
    · subst ej
      exact absurd h (wiped1 ρ i d')
    · rw [List.getElem?_set_ne ej] at h
      obtain ⟨u, h1, h2⟩ := S.si.val j d' h
      refine ⟨u, h1, ?_⟩
      show RO K _ _ _ d' u (if j = i then [] else fp j)
      rw [if_neg (fun q => ej q.symm)]
      exact RO.keep kp1 (fun b h => .inl (le b h)) (fun b hb o q => kp.obj b o (fun z => ej (S.si.dis i j b (hg b z) hb)) q) h2
  · show (if j = i then [] else fp j).Nodup
    split
    · exact List.nodup_nil
    · exact S.si.nod j
  · have h1 : b ∈ (if j = i then [] else fp j) := h1
    have h2 : b ∈ (if l = i then [] else fp l) := h2
    split at h1
    · cases h1
    · split at h2
      · cases h2
      · exact S.si.dis j l b h1 h2
  · exact S.si.ext b (le b h) (kp.free q)
  · have h : b ∈ (if j = i then [] else fp j) := h
    split at h
    · cases h
    · exact S.own j b h
  · refine ⟨fun a xs h => kp.tup a xs (S.same.tup a xs h), fun a o n h => kp.obj a o (fun z => ?_) (S.same.obj a o n h), fun a h => kp.there a (S.same.there a h)⟩
    rcases S.own i a (hg a z) with q | q
    · rw [q] at h
      cases h
    · exact n q
end
def methK (i : Nat) (l2 : D → D) (ρ : Px.Env) (k : Px.Env → D → Flow) (r : Res D) : Flow := match r with
  | .ok (.tup [r, s]) => k (ρ.set i (some (l2 s))) r
  | .exc x => .exc x (ρ.set i none)
  | _ => .err
def sMeth (c m : Str) (i : Nat) (pf : PLF) (C : List D → Res D) (fs : Px.Env → Res (List D)) (k : Px.Env → D → Flow) : SF := fun ρ => (pf ρ).flow ρ fun l => if mOk c m l.1 = true then (fs ρ).flow ρ fun ds => methK i l.2 ρ k (C (l.1 :: ds)) else .err
section
variable {X : Cx} {W : WX} {kr : RM} {n k km i na : Nat} {Lb L L1 : List Nat} {e e0 o : Expr} {es : List Expr} {f : EF} {pf : PLF} {pos apos : Pos} {c mm : Str} {g : Addr} {fd : FuncData} {ps : List Str} {C : List D → Res D} {fs : Px.Env → Res (List D)}
abbrev EMI (X : Cx) (W : WX) (L : List Nat) (i km : Nat) (c mm : Str) (pf : PLF) (C : List D → Res D) (na : Nat) (fs : Px.Env → Res (List D)) (e : Expr) : Prop :=
  PE X e (tMethA (He.ga X.K c) mm (SpecM X.K X.mg (na + 1) 0 km C) (WE W) (tPl X W L i km pf) (tAB X W L 0 na fs))
theorem emi (hc : Cls X.K (He.ga X.K c)) (hm : Meth X.K (He.ga X.K c) mm g) (F : FnOk X.prog X.w X.K X.mg X.base (L2.CX X.prog X.w) k g fd ps (SpecM X.K X.mg (na + 1) 0 km C)) (hr : Room k X.A) (hb : Binds X.K fd ps []) (tk : Takes X W)
    (ho : EPl X W L i km o pf) (ha : EA X W L 0 na (e :: es) fs) {pl : Sem Bool} (hst : starEach (e :: es) X.env = (false, eval e X.env) :: starEach es X.env := by rfl) (hpl : (backTo pos (starEach es X.env)).any (·.1) = false := by rfl)
    (ht : eval (.Call (.Attribute o mm apos) (e :: es) [] pos) X.env = (do
      let ov ← eval o X.env
      standAt apos.atName
      let (f, first) ← holding [ov] (getMethod ov mm pl)
      callWith pos f first (backTo pos (starEach (e :: es) X.env)) (backToKw pos (keywordEach [] X.env))) := by rfl) :
    EMI X W L i km c mm pf C na fs (.Call (.Attribute o mm apos) (e :: es) [] pos) := pe_methA (pl := pl) ho hc hm F hr hb (fun σ => passAt tk σ) ha hst hpl ht
theorem emi0 (hc : Cls X.K (He.ga X.K c)) (hm : Meth X.K (He.ga X.K c) mm g) (F : FnOk X.prog X.w X.K X.mg X.base (L2.CX X.prog X.w) k g fd ps (SpecM X.K X.mg 1 0 km C)) (hr : Room k X.A) (hb : Binds X.K fd ps []) (tk : Takes X W)
    (ho : EPl X W L i km o pf) {pl : Sem Bool}
    (ht : eval (.Call (.Attribute o mm apos) [] [] pos) X.env = (do
      let ov ← eval o X.env
      standAt apos.atName
      let (f, first) ← holding [ov] (getMethod ov mm pl)
      callWith pos f first (backTo pos (starEach [] X.env)) (backToKw pos (keywordEach [] X.env))) := by rfl) :
    EMI X W L i km c mm pf C 0 aNil (.Call (.Attribute o mm apos) [] [] pos) :=
  PE.imp (pe_methA0 (pl := pl) ho hc hm F hr hb (fun σ => passAt tk σ) ht) fun σ H Q ⟨ex, ρ, fp, I, q⟩ => ⟨ex, ρ, fp, I, q.mono fun l q1 vi v g H1 h1 h2 h3 => by
    obtain ⟨a, dx, fs, ev, ha, hl, ex', ρ', fp', I', q2⟩ := q1 vi v g H1 h1 h2 h3
    exact ⟨a, dx, fs, ev, ha, hl, q2 [] H1 (Same.refl H1) .nil rfl⟩⟩
theorem mi_core {kk : Px.Env → D → Flow} {ex0 : CS kr.b} {Gs : List (D × V)} {ρ : Px.Env} {σ : L2.St} {H : Hp} {fp : Nat → List Addr} {Dn : Ends} {Q : VK} (S : SS X.K X.H_0 ex0 Gs L ρ σ H fp) (q : FOut X W kr Lb L1 ex0 Gs Dn (sMeth c mm i pf C fs kk ρ))
    (hQ : ∀ (r s : D) (v : V) (H' : Hp) (fp' : Nat → List Addr) (l2 : D → D), SS X.K X.H_0 ex0 Gs L (ρ.set i (some (l2 s))) σ H' fp' → R X.K (exOf fp' ex0) H' r v → FOut X W kr Lb L1 ex0 Gs Dn (kk (ρ.set i (some (l2 s))) r) → Q v H') :
    tMethA (He.ga X.K c) mm (SpecM X.K X.mg (na + 1) 0 km C) (WE W) (tPl X W L i km pf) (tAB X W L 0 na fs) σ H Q := by
  unfold sMeth at q
  refine ⟨_, ρ, fp, S.si, (flow_out S q).mono fun l q1 vi v g H1 hvi e1 F => ?_⟩
  obtain ⟨l1, l2⟩ := l
  split at q1
  · rename_i hk
    obtain ⟨ns, vs, rfl, hn⟩ := mOk_ins hk
    obtain ⟨a, dx, xs, rfl, h1⟩ := ins_get (F.ro.borrow.same e1)
    refine ⟨a, dx, _, rfl, h1, nIdx_none hn, _, ρ, fp, S.si.same e1, ((flow_out S q1).later e1).mono fun ds q2 us H2 e2 r2 hl => ?_⟩
    have e12 := e1.trans e2
    refine ⟨by rw [List.length_cons, hl], fun b => exOf fp ex0 b ∧ b ∉ g, .ins c ns vs, ds, .ref a, us, g, rfl, fun b hb q => S.si.ext b hb.1 (e12.free q), fun b hb q => q.2 hb, F.nd, (F.ro.same e12).less (fun b hb => .inl ?_), r2.mono fun _ _ z => R.less (fun b hb => .inl ?_) z, ?_⟩
    · rcases hb with hb | hb
      · exact .inl ⟨i, F.sub b hb⟩
      · exact hb.1
    · rcases hb with hb | hb
      · exact .inl ⟨i, F.sub b hb⟩
      · exact hb.1
    · cases hC : C (.ins c ns vs :: ds) with
      | err => rw [hC] at q2; exact q2.elim
      | exc x =>
        rw [hC] at q2
        intro Cl hCl H' kp
        have S1 := S.lost i F.sub (H2 := H') ⟨fun a xs h => kp.tup a xs (e12 _ _ h), fun a o n h => kp.obj a o n (e12 _ _ h), fun a h => kp.there a fun q => h (e12.free q)⟩
        exact q2 Cl hCl σ H' _ S1.dropAll
      | ok d =>
        rw [hC] at q2
        have key : ∃ d1 s1, d = .tup [d1, s1] := by
          cases d with
          | tup xs =>
            match xs, q2 with
            | [d1, s1], _ => exact ⟨d1, s1, rfl⟩
            | [], q2 => exact q2.elim
            | [_], q2 => exact q2.elim
            | _ :: _ :: _ :: _, q2 => exact q2.elim
          | _ => exact q2.elim
        obtain ⟨r, s, rfl⟩ := key
        intro v H' fq fsl kp rr rs nq nf m1 m2
        obtain ⟨efq, rr⟩ := rr
        subst efq
        have hfq : ∀ b ∈ fsl.filter (fun b => decide (b ∉ g)), H b = none := fun b hb => by
          obtain ⟨hb1, hb2⟩ := List.mem_filter.mp hb
          rcases m2 b hb1 with z | z
          · exact e12.free z
          · exact absurd z (of_decide_eq_true hb2)
        obtain ⟨fp', S', le⟩ := S.foc e12 hvi hfq (F.later e12 (exq hfq)) kp (exN := fun b => b ∈ fsl ∨ (exOf fp ex0 b ∧ b ∉ g)) (fun b hb => by
          rcases hb with hb | hb
          · by_cases hg : b ∈ g
            · exact .inr (.inl ⟨i, F.sub b hg⟩)
            · exact .inl (List.mem_filter.mpr ⟨hb, decide_eq_true hg⟩)
          · exact .inr hb.1) (fun b h1 h2 => .inr ⟨h1, h2⟩) (c' := s) (g' := fsl) (fun b hb => .inl hb) (rs.less fun b hb => .inl (by
          rcases hb with hb | hb
          · exact .inr (.inl hb)
          · exact .inr (.inr hb))) nf (fun b hb => by
          by_cases hg : b ∈ g
          · exact .inl hg
          · exact .inr (List.mem_filter.mpr ⟨hb, decide_eq_true hg⟩))
        exact hQ r s v H' fp' l2 S' (R.less (fun b hb => .inl (by
          rcases le b hb with z | z
          · exact .inr (.inl z)
          · exact .inr (.inr z))) rr) q2
  · exact q1.elim
def kDrop : Px.Env → D → Flow := fun ρ _ => .next ρ
def kSet (j : Nat) : Px.Env → D → Flow := fun ρ d => .next (ρ.set j (some d))
def kUnp (gf : Px.Env → D → Res Px.Env) : Px.Env → D → Flow := fun ρ d => resF (gf ρ d)
def kRet : Px.Env → D → Flow := fun _ d => .ret d
theorem sj_methE (h : EMI X W L i km c mm pf C na fs e) (hs : swapsWith e none pos.line X.env = pure false := by rfl) : SJ X W kr Lb L L (.Expr e pos) (sMeth c mm i pf C fs kDrop) :=
  PS.imp (ps_expr h hs) fun Dn σ H ⟨ex0, Gs, ρ, fp, S, o⟩ => mi_core S o fun r s v H' fp' l2 S' rr q => q _ _ _ S'
theorem sj_methS {j : Nat} {y : Str} {pos' : Pos} (hN : X.N.Nodup) (hy' : X.N[j]? = some y) (hy : Loc X.env.scope y) (h : EMI X W L i km c mm pf C na fs e) (hj : j < L.length) (hs : swapsWith e (some (.Name y pos')) pos.line X.env = pure false := by rfl)
    (hf : X.fn y = true ∨ X.env.scope.names.lookup y = some .local := by first | exact .inl rfl | exact .inr rfl | assumption) (h0 : kr.b = false ∨ j ≠ 0 := by first | exact .inl rfl | exact .inr (by decide)) :
    SJ X W kr Lb L (L.set j 0) (.Assign [.Name y pos'] e pos) (sMeth c mm i pf C fs (kSet j)) :=
  PS.imp (ps_set hN hy' hy h hs hf) fun Dn σ H ⟨ex0, Gs, ρ, fp, S, o⟩ => mi_core S o fun r s v H' fp' l2 S' rr q => by
    obtain ⟨fp2, S2⟩ := S'.put (Same.refl _) (i := j) (k := 0) (d := r) (v := v) (fq := []) ⟨rfl, R.less (fun a h => .inl (h.elim (fun z => nomatch z) fun z => z)) rr⟩ List.nodup_nil (fun b hb => nomatch hb) hj (h0_of ex0 h0)
    exact q _ _ _ S2
theorem sj_methU {tg : Expr} {gg : TG} {gf : Px.Env → D → Res Px.Env} {is : List Nat} (hg : PG X tg gg) (gs : GSem X.K gg gf is) (h : EMI X W L i km c mm pf C na fs e) (hL : ∀ i ∈ is, L.getD i 0 = 0) (hs : swapsWithSole [tg] e pos.line X.env = pure false := by rfl) (hw : swappedStores [tg] e X.env = pure none := by rfl)
    (h1 : (assignEach [tg] X.env).map (·.2) = [assign tg X.env] := by rfl) (h0 : kr.b = false ∨ ∀ i ∈ is, i ≠ 0 := by first | exact .inl rfl | exact .inr (by decide)) : SJ X W kr Lb L L (.Assign [tg] e pos) (sMeth c mm i pf C fs (kUnp gf)) :=
  PS.imp (ps_asg h hg hs hw h1) fun Dn σ H ⟨ex0, Gs, ρ, fp, S, o⟩ => mi_core S o fun r s v H' fp' l2 S' rr q => by
    unfold kUnp at q
    cases hgf : gf (ρ.set i (some (l2 s))) r with
    | exc c => rw [hgf] at q; exact q.elim
    | err => rw [hgf] at q; exact q.elim
    | ok ρ' =>
      rw [hgf] at q
      refine gs _ v σ H' _ r _ ρ' rr hgf fun l hl e2 => ?_
      obtain ⟨fp2, S2⟩ := S'.sets l (fun t ht => ⟨(hl t ht).1, hL _ (hl t ht).2⟩) fun t ht => h0_all ex0 h0 _ (hl t ht).2
      rw [← e2] at S2
      exact q _ _ _ S2
theorem sj_methR (h : EMI X W L i km c mm pf C na fs e) : SJ X W (.r 0) Lb L L1 (.Return (some e) pos) (sMeth c mm i pf C fs kRet) :=
  PS.imp (ps_ret h) fun Dn σ H ⟨ex0, Gs, ρ, fp, S, o⟩ => mi_core S o fun r s v H' fp' l2 S' rr q => q v H' [] S'.same ⟨rfl, R.less (fun a h => .inl (h.elim (fun z => nomatch z) .inr)) rr⟩ List.nodup_nil (fun a h => nomatch h)
theorem sj_methRM {km' : Nat} (h : EMI X W L i km c mm pf C na fs e) (hL : L.getD 0 0 = km' := by rfl) : SJ X W (.m 0 km') Lb L L1 (.Return (some e) pos) (sMeth c mm i pf C fs retM) :=
  PS.imp (ps_ret h) fun Dn σ H ⟨ex0, Gs, ρ, fp, S, o⟩ => mi_core S o fun r s v H' fp' l2 S' rr q => retM_out (L1 := L1) S' hL q (Same.refl H') (fq := []) ⟨rfl, R.less (fun a h => .inl (h.elim (fun z => nomatch z) fun z => z)) rr⟩ List.nodup_nil (fun a h => nomatch h)
/-! ### a new instance -/
def madeOf (d : D) : Res D := match d with
  | .tup [.non, s] => .ok s
  | _ => .err
def eMake (c : Str) (C : List D → Res D) (fs : Px.Env → Res (List D)) : EF := fun ρ => fs ρ >>= fun ds => C (.ins c [] [] :: ds) >>= madeOf
theorem make_core {σ : L2.St} {H H1 : Hp} {ex : AS} {ρ : Px.Env} {fp : Nat → List Addr} {Q : VK} {ds : List D} {us : List V} (I : SI X.K ex L ρ σ H fp) (e : Same H H1) (r : Paired (R X.K ex H1) ds us) (hl : us.length = na)
    (q : Out X W σ H (C (.ins c [] [] :: ds) >>= madeOf) fun d => ∀ v H' fq, Same H H' → RO X.K (fun a => a ∈ fq ∨ ex a) H' (k + 1) d v fq → fq.Nodup → (∀ a ∈ fq, H a = none) → Q v H') :
    ∀ x dx, H1 x = none → H1 dx = none → dx ≠ x → SpecM X.K X.mg (na + 1) 0 (k + 1) C (.ref x :: us) (L2.upd (L2.upd H1 dx (.own x)) x (.ins (He.ga X.K c) dx [])) (fun v H2 => v = .non ∧ Q (.ref x) H2) (WE W σ) := by
  intro x dx hx hdx hne
  have s1 : Same H1 (L2.upd (L2.upd H1 dx (.own x)) x (.ins (He.ga X.K c) dx [])) := (same_upd hdx).trans (same_upd (by rw [upd_ne (fun z => hne z.symm)]; exact hx))
  have s2 := e.trans s1
  have nx : ¬ ex x := fun z => I.ext x z (e.free hx)
  refine ⟨by rw [List.length_cons, hl], ex, .ins c [] [], ds, .ref x, us, [x], rfl, fun a h q => I.ext a h (s2.free q), fun a h q => nx (by rw [← List.mem_singleton.mp h]; exact q), List.nodup_cons.mpr ⟨List.not_mem_nil, List.nodup_nil⟩,
    (RO.cn rfl).mpr ⟨x, [], [], _, rfl, ⟨⟨dx, rfl, rfl⟩, upd_same⟩, rfl, .nil⟩, r.mono fun _ _ z => R.keep (Keep.same s1) (fun a h => h.elim (fun z => .inr (by rw [List.mem_singleton.mp z]; exact hx)) .inl) _ z, ?_⟩
  have same' : ∀ {H' : Hp}, Keep (fun a => a ∈ [x]) (L2.upd (L2.upd H1 dx (.own x)) x (.ins (He.ga X.K c) dx [])) H' → Same H H' := fun {H'} kp b o h => kp.obj b o (fun z => by
    rw [List.mem_singleton.mp z, e.free hx] at h
    cases h) (s2 b o h)
  cases hC : C (.ins c [] [] :: ds) with
  | err => rw [hC] at q; exact q.elim
  | exc y =>
    rw [hC] at q
    exact fun Cl hCl H' kp => q Cl hCl H' (same' kp)
  | ok d =>
    rw [hC, Res.bind_ok] at q
    unfold madeOf at q
    split at q
    · rename_i s
      intro v H' fq fs kp r1 r2 n1 n2 m1 m2
      have ev : v = .non := by
        have := r1.2
        rw [R] at this
        exact this
      obtain ⟨efq, _⟩ := r1
      subst efq
      refine ⟨ev, q (.ref x) H' fs (same' kp) (r2.less fun a h => .inl (.inr h)) n2 fun a ha => ?_⟩
      rcases m2 a ha with z | z
      · exact s2.free z
      · rw [List.mem_singleton.mp z]
        exact e.free hx
    · exact q.elim
variable {x : Str} {p : Pos}
theorem eo_make (M : Mk X.K (He.ga X.K c) g) (F : FnOk X.prog X.w X.K X.mg X.base (L2.CX X.prog X.w) n g fd ps (SpecM X.K X.mg (na + 1) 0 (k + 1) C)) (hr : Room (n + 1) X.A) (hg : Gl X c) (hm : X.mg c = some (.ref (He.ga X.K c))) (hb : Binds X.K fd ps []) (tk : Takes X W)
    (ha : EA X W L 0 na (e :: es) fs) (hdb : (c == ("__debug__" : Str)) = false := by decide) (he : starEach (e :: es) X.env = (false, eval e X.env) :: starEach es X.env := by rfl) (hpl : (backTo pos (starEach es X.env)).any (·.1) = false := by rfl) :
    EO X W L (k + 1) (.Call (.Name c p) (e :: es) [] pos) (eMake c C fs) :=
  PE.imp (pe_makeA M F hr hg hm hb (fun σ => passAt tk σ) ha hdb he hpl) fun σ H Q ⟨ex, ρ, fp, I, q⟩ => ⟨ex, ρ, fp, I, q.bind.mono fun ds q1 us H1 e1 r hl => make_core I e1 r hl q1⟩
theorem eo_make0 (M : Mk X.K (He.ga X.K c) g) (F : FnOk X.prog X.w X.K X.mg X.base (L2.CX X.prog X.w) n g fd ps (SpecM X.K X.mg 1 0 (k + 1) C)) (hr : Room (n + 1) X.A) (hg : Gl X c) (hm : X.mg c = some (.ref (He.ga X.K c))) (hb : Binds X.K fd ps []) (tk : Takes X W)
    (hdb : (c == ("__debug__" : Str)) = false := by decide) : EO X W L (k + 1) (.Call (.Name c p) [] [] pos) (eMake c C aNil) :=
  PE.imp (pe_makeA0 M F hr hg hm hb (fun σ => passAt tk σ) hdb) fun σ H Q ⟨ex, ρ, fp, I, q⟩ => make_core (ds := []) I (Same.refl H) .nil rfl (show Out X W σ H (C [.ins c [] []] >>= madeOf) _ from q)
end
/-! ### a def that calls itself -/
section
variable {P : Program} {w : World} {K : PySem.W.Frag} {mg : Str → Option Value} {base : Heap}
/-- by fuel: C 0 says nothing, C (n + 1) calls C n -/
theorem fn_rec {x qual : Str} {st : Stmt} {f : Addr} {fd : FuncData} {N ps : List Str} {k kr ar nN : Nat} {L L' : List Nat} {FF : (List D → Res D) → SF} {C : Nat → List D → Res D} (F : Fun K x qual st f fd) (S : FnScope N ps (defScope st)) (hn : nN = N.length) (har : ar = ps.length) (hL0 : L = List.replicate nN 0)
    (h0 : C 0 = fun _ => .err) (hC : ∀ n, C (n + 1) = fnE nN (FF (C n)))
    (h : ∀ n, FnOk P w K mg base (L2.CX P w) (k + 1 + n) f fd ps (Spec K mg ar kr (C n)) → ∀ (cdv : Value) (A : Around) (outer : List PySem.Env) (s : Shared) (H : Hp) (E : XK), Room (k + 1 + n) (A.deeper (envOfC qual (defScope st) s.heap.objs.size f cdv)) →
      SJs (cxOf (L2.CX P w) P w K mg base N qual (defScope st) f cdv A outer s H E) (fun cls d _ H => E cls d H) (.r kr) [] L L' (defBody st) (FF (C n))) :
    ∀ n, FnOk P w K mg base (L2.CX P w) (k + 1 + n) f fd ps (Spec K mg ar kr (C n))
  | 0 => fn_ok (L := L) (L' := L') (nN := nN) (k := k) F S hn har hL0 (FF := sErr) (by rw [h0]; rfl) fun cdv A outer s H E hr => sjs_err
  | n + 1 => fn_ok (L := L) (L' := L') (nN := nN) (k := k + 1 + n) F S hn har hL0 (FF := FF (C n)) (hC n) fun cdv A outer s H E hr => h n (fn_rec F S hn har hL0 h0 hC h n) cdv A outer s H E hr
end
end Px

namespace Px
open PySem PySem.Spec PyProof.Rows L2
/-! ### the defs in a class's body -/
def clsBody : Stmt → List Stmt
  | .ClassDef _ _ _ b _ _ _ _ _ _ _ => b
  | _ => []
theorem txt_meth {K : PySem.W.Frag} {fa : List He.Fa} {fn : List He.FnD} (c : He.SaysE fa fn K) (i j : Nat) {x m q : Str} {ps : List Str} {st : Stmt} (h : fn[i]? = some ⟨(x, some m), m, q, defArgs st, defBody st, defScope st⟩) (hk : fa[j]? = some (.meth x m))
    (hb : ∀ (kV doc pm : Value) (an : Option Addr) (cdv ct : Value) (us : List Value), us.length = ps.length → bindArgs (PySem.W.fnOf m q (defArgs st) (defBody st) (defScope st) .none kV doc pm an cdv ct) ⟨us, []⟩ = pure (ps.zip us)) :
    ∃ fd, Fun K m q st (He.ma K (He.ga K x) m) fd ∧ BA fd ps := by
  obtain ⟨oc, od, osl, kV, doc, pm, an, cdv, ct, l, z⟩ := c.def_ i h
  have F := fun_mk (K := K) (st := st) (x := m) (qual := q) l z (He.meth_ok (c.fact j hk)).kp
  exact ⟨_, F, fun s us hl => .of_eq (hb kV doc pm an cdv ct us hl)⟩
end Px

namespace Px
open PySem PySem.Spec PyProof.Rows L2
/-! ### flat values; dicts that are made; d.update(d2) -/
def dFlat (d : D) : Res D := if notList d = true then .ok d else .err
section
variable {X : Cx} {W : WX} {kr : RM} {L Lb : List Nat} {n n2 m k i : Nat} {pos apos cpos : Pos} {e e0 ei : Expr} {es : List Expr} {f g fi : EF} {fs : Px.Env → Res (List D)} {pf : PLF}
theorem eb_flat (h : EB X W L n e f) : EB X W L 0 e (eUn dFlat f) := PE.imp h fun σ H Q ⟨ex, ρ, fp, I, o⟩ => ⟨ex, ρ, fp, I, o.bind.mono fun d q v H' e r => by
  unfold dFlat at q
  split at q
  · rename_i hf
    exact q v H' e (RB.flat r hf)
  · exact q.elim⟩
theorem eo_flat (h : EB X W L n e f) : EO X W L k e (eUn dFlat f) := PE.imp h fun σ H Q ⟨ex, ρ, fp, I, o⟩ => ⟨ex, ρ, fp, I, o.bind.mono fun d q v H' e r => by
  unfold dFlat at q
  split at q
  · rename_i hf
    exact q v H' [] e (ex_nil (RB.flat r hf) hf) List.nodup_nil fun a z => nomatch z
  · exact q.elim⟩
theorem eo_dnewK : EO X W L (k + 1) (.Dict [] [] pos) (eC (.dic false [] [])) := PE.imp pe_dnewK fun σ H Q ⟨ex, ρ, fp, I, o⟩ p hp =>
  o (.ref p) _ [p] (same_upd hp) ((RO.cn rfl).mpr ⟨p, [], [], _, rfl, ⟨⟨[], rfl, rfl, List.nodup_nil, rfl⟩, upd_same⟩, rfl, .nil⟩) (List.nodup_cons.mpr ⟨List.not_mem_nil, List.nodup_nil⟩) fun a z => by
    rw [List.mem_singleton.mp z]
    exact hp
theorem eo_dnewT : EO X W L (k + 1) (.Dict [] [] pos) (eC (.dic true [] [])) := PE.imp pe_dnewT fun σ H Q ⟨ex, ρ, fp, I, o⟩ p hp =>
  o (.ref p) _ [p] (same_upd hp) ((RO.cn rfl).mpr ⟨p, [], [], _, rfl, ⟨⟨[], rfl, rfl, List.nodup_nil, rfl⟩, upd_same⟩, rfl, .nil⟩) (List.nodup_cons.mpr ⟨List.not_mem_nil, List.nodup_nil⟩) fun a z => by
    rw [List.mem_singleton.mp z]
    exact hp

/-! a display's pairs, one by one -/
def mPut (p : List D × List D) (k d : D) : List D × List D :=
  (kAdd (p.1.findIdx? fun j => decide (kOf j = kOf k)) p.1 k, kPut (p.1.findIdx? fun j => decide (kOf j = kOf k)) p.2 d)
def mergeD : List D × List D → List D → List D → List D × List D
  | p, k :: ks, d :: ds => mergeD (mPut p k d) ks ds
  | p, _, _ => p
theorem merge_zip {F : D → V → Prop} : ∀ (more : List (Key × V)) (ds : List D) (kk : List Key) (vs : List D) (xs : List V), Paired F ds (more.map (·.2)) → Paired F vs xs → kk.length = xs.length → kk.Nodup →
    ∃ (kk' : List Key) (xs' : List V), mergeK (kk.zip xs) more = kk'.zip xs' ∧ kk'.length = xs'.length ∧ kk'.Nodup ∧ (mergeD (kk.map dKey, vs) (more.map fun q => dKey q.1) ds).1 = kk'.map dKey ∧ Paired F (mergeD (kk.map dKey, vs) (more.map fun q => dKey q.1) ds).2 xs'
  | [], _, kk, vs, xs, h, hv, hl, nd => ⟨kk, xs, rfl, hl, nd, by cases h; rfl, by cases h; exact hv⟩
  | q :: more, d :: ds, kk, vs, xs, .cons hd ht, hv, hl, nd => by
    have e : mergeK (kk.zip xs) (q :: more) = mergeK (putK (kk.zip xs) q.1 q.2) more := rfl
    rw [e, putK_zip kk xs q.1 q.2 hl nd]
    show ∃ (kk' : List Key) (xs' : List V), _ ∧ _ ∧ _ ∧ (mergeD (mPut (kk.map dKey, vs) (dKey q.1) d) (more.map fun q => dKey q.1) ds).1 = _ ∧ Paired F (mergeD (mPut (kk.map dKey, vs) (dKey q.1) d) (more.map fun q => dKey q.1) ds).2 _
    unfold mPut
    simp only
    rw [kOf_key, kIdx_map dKey (fun j => decide (kOf j = some q.1)) q.1 fun j => by rw [kOf_key]; simp]
    cases hq : kIdx kk q.1 with
    | some n => exact merge_zip more ds kk (vs.set n d) (xs.set n q.2) ht (paired_set n hv hd) (by rw [List.length_set]; exact hl) nd
    | none =>
      have := merge_zip more ds (kk ++ [q.1]) (vs ++ [d]) (xs ++ [q.2]) ht (Paired.app hv (.cons hd .nil)) (by simp [hl]) (nd_add nd (kIdx_none hq))
      rw [List.map_append] at this
      exact this
  | _ :: _, [], _, _, _, h, _, _, _ => by cases h
def eDisp (ps : List (EF × EF)) : EF := fun ρ => evPairs ps ρ >>= fun l => .ok (.dic false (mergeD ([], []) (l.map fun q => dKey q.1) (l.map (·.2))).1 (mergeD ([], []) (l.map fun q => dKey q.1) (l.map (·.2))).2)
theorem kr_parts {K : PySem.W.Frag} {ex : AS} {H : Hp} : ∀ {l : List (Key × D)} {kvs : List (Key × V)}, KR K ex H l kvs → (kvs.map fun q => dKey q.1) = (l.map fun q => dKey q.1) ∧ Paired (R K ex H) (l.map (·.2)) (kvs.map (·.2))
  | _, _, .nil => ⟨rfl, .nil⟩
  | _, _, .cons r t => by
    obtain ⟨h1, h2⟩ := kr_parts t
    refine ⟨?_, .cons r.2 h2⟩
    rw [List.map_cons, List.map_cons, h1, r.1]
theorem eo_disp {keys : List (Option Expr)} {values : List Expr} {ps : List (EF × EF)} (h : EPs X W L pos keys values ps) (hall : keys.all (·.isSome) = true := by rfl) (hl : keys.length = values.length := by rfl) (h0 : keys ≠ [] := by exact fun h => nomatch h) (h15 : keys.length ≤ 15 := by decide) (p15 : ps.length ≤ 15 := by decide) :
    EO X W L 1 (.Dict keys values pos) (eDisp ps) :=
  PE.imp (pe_disp h hall hl h0 h15) fun σ H Q ⟨ex, ρ, fp, I, o⟩ => fun pp hp => by
    have e0 : Same H (upd H pp (.dK [])) := same_upd hp
    have I0 : SI X.K (fun a => a = pp ∨ ex a) L ρ σ (upd H pp (.dK [])) fp := I.more e0 (fun a h => h.elim (fun z => .inr (by rw [z]; exact hp)) .inl) (fun a h => .inr h) (fun a h => h.elim (fun z => by rw [z, upd_same]; exact fun q => nomatch q) fun z q => I.ext a z (e0.free q))
    refine pairs_imp ps I0 ((Out.later o.bind e0).mono fun l q kvs H2 e2 kr hkl => ?_)
    have hp2 : H2 pp = some (.dK []) := e2 _ _ upd_same
    refine ⟨hp2, kvs, rfl, by omega, ?_⟩
    have e3 : Same H (upd H2 pp (.dK (mergeK [] kvs))) := fun b o hb => by
      have hne : b ≠ pp := fun z => by
        rw [z, hp] at hb
        cases hb
      rw [upd_ne hne]
      exact e2 _ _ (by rw [upd_ne hne]; exact hb)
    have kp : Keep (fun a => a = pp ∨ ex a) H2 (upd H2 pp (.dK (mergeK [] kvs))) := Keep.upd (Same.refl _) hp2 (fun _ q => nomatch q) (.inl rfl)
    obtain ⟨h1, h2⟩ := kr_parts kr
    obtain ⟨kk', xs', m1, m2, m3, m4, m5⟩ := merge_zip kvs (l.map (·.2)) [] [] [] h2 .nil rfl List.nodup_nil
    rw [h1] at m4 m5
    refine q (.ref pp) _ [pp] e3 ?_ (List.nodup_cons.mpr ⟨List.not_mem_nil, List.nodup_nil⟩) fun a z => by
      rw [List.mem_singleton.mp z]
      exact hp
    obtain ⟨fps, p3, pf⟩ := of_pair (m5.mono fun a b r => R.keep (ex' := fun a => a ∈ [pp] ∨ ex a) kp (fun b hb => .inl (hb.elim (fun z => .inl (List.mem_singleton.mp z)) .inr)) a r)
    exact (RO.cn rfl).mpr ⟨pp, xs', fps, _, rfl, ⟨⟨kk', m4, m2, m3, rfl⟩, by rw [upd_same]; exact congrArg (fun z => some (HO.dK z)) m1⟩, by rw [pf], p3⟩
end

/-! d.update(d2) -/
section
variable {X : Cx}
def rUpd : V → List V → Hp → VK → Prop := fun x vs H Q => ∃ (d o : Addr) (kvs more : List (Key × V)), x = .ref d ∧ vs = [.ref o] ∧ d ≠ o ∧ H d = some (.dK kvs) ∧ Rd H o (.dK more) ∧ kvs.length + more.length ≤ sizeLine ∧ Q .non (upd H d (.dK (mergeK kvs more)))
theorem mt_updD : MtM X "dict.update" rUpd := by
  intro pins s σ H x vs v us Q I rx rv h
  obtain ⟨d, o, kvs, more, rfl, rfl, hne, hd, ho, hz, q⟩ := h
  cases rx
  obtain ⟨u, rfl, ru⟩ := rv.one
  cases ru
  obtain ⟨z1, s1, vs1, r1, d1⟩ := dk_of I.hok hd
  obtain ⟨z2, s2, vs2, r2, d2⟩ := dk_rd I.hok ho
  refine call_meetsIn PySem.F.slot_dict_update d1.typeIs PySem.F.entry_dict_update (PySem.F.args_dict_update_2 _ _) (meets_dict_update (mixKind X.prog X.w) d o hne s2) ⟨vs1, vs2, d1, d2, by rw [← r1.length, ← r2.length]; exact hz, fun h' d1' d2' sb => ?_⟩
  have he : ∃ q, h'.get? d = some q := let ⟨q, _, _, hq, _⟩ := d1'; ⟨q, hq⟩
  have := length_mergeK more kvs
  exact ⟨.non, _, d_write (t' := s.toks) I (by rw [hd]; exact True.intro) sb he (dk_new (by omega) s1 (r2.merge r1) d1'), rfl, q⟩
end
section
variable {X : Cx} {W : WX} {kr : RM} {L Lb : List Nat} {n n2 m k i : Nat} {pos apos cpos : Pos} {e e0 ei : Expr} {es : List Expr} {f g fi : EF} {fs : Px.Env → Res (List D)} {pf : PLF}
def sUpdP (i : Nat) (pf : PLF) (f : EF) : SF := fun ρ => (pf ρ).flow ρ fun l => match l.1 with
  | .dic false ks vs => (f ρ).flow ρ fun d => (match d with
    | .dic false ks2 vs2 => if vs.length + vs2.length ≤ sizeLine then .next (ρ.set i (some (l.2 (.dic false (mergeD (ks, vs) ks2 vs2).1 (mergeD (ks, vs) ks2 vs2).2)))) else .err
    | _ => .err)
  | _ => .err
theorem dic_key {K : PySem.W.Frag} {xs : List V} {ks vs : List D} {o : HO} (h : CnO K (.dic false ks vs) xs o) : ∃ kk : List Key, ks = kk.map dKey ∧ kk.length = xs.length ∧ kk.Nodup ∧ o = .dK (kk.zip xs) := h
theorem zip_map1 {α β : Type} : ∀ {as : List α} {bs : List β}, as.length = bs.length → (as.zip bs).map (·.1) = as
  | [], [], _ => rfl
  | a :: as, b :: bs, h => by rw [List.zip_cons_cons, List.map_cons, zip_map1 (by simpa using h)]
  | [], _ :: _, h => by simp at h
  | _ :: _, [], h => by simp at h
theorem zip_map2 {α β : Type} : ∀ {as : List α} {bs : List β}, as.length = bs.length → (as.zip bs).map (·.2) = bs
  | [], [], _ => rfl
  | a :: as, b :: bs, h => by rw [List.zip_cons_cons, List.map_cons, zip_map2 (by simpa using h)]
  | [], _ :: _, h => by simp at h
  | _ :: _, [], h => by simp at h
theorem sj_updP (hp : EPl X W L i 1 e0 pf) (he : EB X W L 0 e f)
    (hbase : attributeBase e0 "update" X.env (eval e0 X.env) = eval e0 X.env := by rfl)
    (hfew : ((backTo cpos (starEach [e] X.env)).all (fun x => !x.1) && (backToKw cpos (keywordEach [] X.env)).all (fun x => x.1.isSome)
      && decide ([e].length + ([] : List Keyword).length + (if ([] : List Keyword).isEmpty then 0 else 1) < 30)) = true := by rfl)
    (hline : (apos.endLine == cpos.line) = true := by rfl) (hs : starEach [e] X.env = (false, eval e X.env) :: starEach [] X.env := by rfl) (hplain : (backTo cpos (starEach [] X.env)).any (·.1) = false := by rfl)
    (hsw : swapsWith (.Call (.Attribute e0 "update" apos) [e] [] cpos) none pos.line X.env = pure false := by rfl) :
    SJ X W kr Lb L L (.Expr (.Call (.Attribute e0 "update" apos) [e] [] cpos) pos) (sUpdP i pf f) :=
  PS.imp (ps_expr (pe_bm PySem.F.plainAttrs_dict PySem.F.slot_dict_update PySem.F.type_dict_update mt_updD hp (pa_cons he pa_nil hs) hbase hfew hline hs hplain) hsw) fun Dn σ H ⟨ex0, Gs, ρ, fp, S, o⟩ => by
    unfold sUpdP at o
    refine ⟨_, ρ, fp, S.si, (flow_out S o).mono fun l q vi v g H1 hvi e1 F => ?_⟩
    obtain ⟨l1, l2⟩ := l
    cases l1 with
    | dic t ks vs0 =>
      cases t with
      | true => exact q.elim
      | false =>
        obtain ⟨a0, ws0, fps0, o0, rfl, ⟨c0, h20⟩, _, _⟩ := (RO.cn rfl).mp F.ro
        obtain ⟨kk0, _, _, _, rfl⟩ := dic_key c0
        refine ⟨.inr (.inr (.inl ⟨rfl, .inl ⟨_, e1 _ _ h20⟩⟩)), _, ρ, fp, S.si.same e1, ((flow_out S q).later e1).mono fun d q2 vn H2 e2 r2 => ?_⟩
        cases d with
        | dic t2 ks2 vs2 =>
          cases t2 with
          | true => exact q2.elim
          | false =>
            have q3 : FOut X W kr Lb L ex0 Gs Dn (if vs0.length + vs2.length ≤ sizeLine then .next (ρ.set i (some (l2 (.dic false (mergeD (ks, vs0) ks2 vs2).1 (mergeD (ks, vs0) ks2 vs2).2)))) else .err) := q2
            split at q3
            · rename_i hlt
              obtain ⟨a, ws, fps, o, ev, h1, h2, h3, n1, n2, old, new, fin⟩ := S.place (e1.trans e2) hvi [] (fun b hb => nomatch hb) (F.later (e1.trans e2) (exq fun b hb => nomatch hb)) rfl
              cases ev
              obtain ⟨kk, rfl, hl, nd, rfl⟩ := dic_key h1
              obtain ⟨b, us, rfl, cx, ru⟩ := (R.cn rfl).mp (show R X.K (exOf fp ex0) H2 (.dic false ks2 vs2) vn from r2)
              have hai : exOf fp ex0 a0 := by
                obtain ⟨a1, _, _, _, ev1, _, eg1, _⟩ := (RO.cn rfl).mp F.ro
                cases ev1
                exact .inl ⟨i, F.sub _ (by rw [eg1]; exact List.mem_cons_self)⟩
              rcases cx with ⟨o2, c2, rd2, nx2⟩ | ⟨⟨_, z⟩, _⟩
              · obtain ⟨kk2, rfl, hl2, nd2, rfl⟩ := dic_key c2
                have hv0 : vs0.length = ws.length := h3.length
                have hv2 : vs2.length = us.length := RL.length ru
                obtain ⟨kk', xs', m1, m2, m3, m4, m5⟩ := merge_zip (F := R X.K (exOf fp ex0) H2) (kk2.zip us) vs2 kk vs0 ws (by rw [zip_map2 hl2]; exact RL.pair ru) ((p3_zero (P3.mono (fun d u c r => (by
                  rw [RO] at r ⊢
                  exact ⟨r.1, R.less (fun b hb => .inl (.inr hb)) r.2⟩ : RO X.K (exOf fp ex0) H2 0 d u c)) h3)).2) hl nd
                rw [show ((kk2.zip us).map fun q => dKey q.1) = kk2.map dKey from by
                  have := congrArg (List.map dKey) (zip_map1 hl2)
                  rw [List.map_map] at this
                  exact this] at m4 m5
                have kp : Keep (exOf fp ex0) H2 (L2.upd H2 a0 (.dK (mergeK (kk.zip ws) (kk2.zip us)))) := Keep.upd (Same.refl _) h2 (fun _ q => nomatch q) hai
                obtain ⟨fps', p3, pf⟩ := of_pair (m5.mono fun a b r => R.keep (ex' := fun b => b ∈ ([] : List Addr) ∨ exOf fp ex0 b) kp (fun b hb => .inl (hb.elim (fun z => nomatch z) fun z => z)) a r)
                obtain ⟨fp', S', _⟩ := fin (.dK (mergeK (kk.zip ws) (kk2.zip us))) (.dic false _ _) xs' fps' ⟨kk', m4, m2, m3, by rw [m1]⟩ rfl p3 (by rw [pf]; exact List.nodup_nil) (fun b hb => by rw [pf] at hb; cases hb)
                refine ⟨a0, b, _, _, rfl, rfl, fun z => nx2 (by rw [← z]; exact hai), h2, rd2.rd, ?_, q3 _ _ _ S'⟩
                rw [List.length_zip, List.length_zip]
                omega
              · cases z
            · exact q3.elim
        | _ => exact q2.elim
    | _ => exact q.elim
end
end Px

namespace Px
open PySem PySem.Spec PyProof.Rows L2
/-! ### sorted(set(x)), len(set(x)) of a list or tuple of ints -/
section
variable {P : Program} {w : World} {A : Around} {E : Value → Shared → Prop} {s : Shared}
def newSet (w : World) : Obj := { cls := .type "set", dict := none, data := .set #[] 0 (.fresh 0 0 (!w.params.followText "set-order")) }
abbrev SetDone (w : World) (s : Shared) (ns : List Int) (r : Value) (z : Shared) : Prop := r = .none ∧ ∃ (g : Heap) (tk c : Nat), z = { s with heap := g, toks := tk } ∧ SetR w g s.heap.objs.size (fun j => decide (j ∈ ns)) c ∧ c ≤ ns.length ∧ ∀ b o, s.heap.get? b = some o → g.get? b = some o
theorem set_lst {l : Addr} {its : Array Value} {ns : List Int} {Q : Value → Shared → Prop} (hd : A.handled = none) (hi : IntsAre its.toList ns) (room : ns.length + 1 < scanBound) (hl : s.heap.IsList l its)
    (fin : ∀ (g : Heap) (tk c : Nat), SetR w g s.heap.objs.size (fun j => decide (j ∈ ns)) c → c ≤ ns.length → (∀ b o, s.heap.get? b = some o → g.get? b = some o) → Q (.ref s.heap.objs.size) { s with heap := g, toks := tk }) :
    wpAny (model P w) A (call (.type "set") [.ref l]) Q E s := by
  have lens : its.size = ns.length := Array.length_toList.symm.trans (IntsAre.length hi)
  have f1 := F.called_set.notType; have f2 := F.called_set.canCreate; have f3 := F.typeCall_set_1 (.ref l)
  have f4 := F.called_set.made; have f5 := F.called_set.sub
  obtain ⟨_, _, f6⟩ := F.called_set.mro
  refine wpAny_call (codeAny_of_tree (show wpAny _ _ (callAny (.type "set") _) _ _ _ from wpAny_pure ⟨Code.quiet_builtin _ (by decide +kernel), codeAny_builtin F.entry_type_call ?_⟩))
  rw [Around.under_plain (weight_type_call_type "set" [.ref l] []) rfl]
  repeat (any_goals (first | assumption | wp_step))
  have hN : (s.heap.push (newSet w)).get? s.heap.objs.size = some (newSet w) := Heap.get?_push_size _ rfl
  refine codeAny_mono (code_set_led1 (.ref l) (E := E) (Q₁ := fun r z => r = .ref s.heap.objs.size ∧ z = { s with heap := s.heap.push (newSet w) }) ⟨rfl, rfl⟩) fun r z hr => ?_
  rcases r with e | r
  · exact hr
  cases r <;> try exact hr.elim
  obtain ⟨rfl, rfl⟩ := hr
  have ty : Shared.TypeIs { s with heap := s.heap.push (newSet w) } (.ref s.heap.objs.size) "set" := ⟨_, hN, rfl⟩
  have g1 := F.called_set.init.lookup; have g2 := F.called_set.init.bind (.ref s.heap.objs.size)
  repeat (any_goals (first | assumption | wp_step))
  refine codeAny_mono (codeAny_call_builtin (R := wants (SetDone w s ns) E) F.called_set.init.plain F.entry_set_init (check_set_init_1 ty ?_)) fun r2 z2 h2 => ?_
  · obtain ⟨⟨oc, od, odat, osl⟩, hol, hcl, nl, hdl⟩ := hl
    simp only at hcl hdl
    subst hcl hdl
    have hol' : (s.heap.push (newSet w)).get? l = some { cls := .type "list", dict := od, data := .seq its nl, slots := osl } := Heap.get?_push_of_some _ hol
    have k1 := F.sub_list_set; have k2 := F.sub_list_frozenset
    have k3 : (Value.type "list" == Value.type "dict") = false := by decide
    have hl1 : (s.heap.push (newSet w)).IsList l its := ⟨_, hol', rfl, nl, rfl⟩
    unfold Builtin.«set.__init__» noKeywords Builtin.Frozenset.updateFrom
    generalize hPI : pyIter = PI
    wp_walk
    subst hPI
    refine wpAny_pyIter_list hl1 (wpAny_bind (wpAny_runValue ?_))
    have lt : l < s.heap.objs.size := Heap.lt_size hol
    have sz : (s.heap.push (newSet w)).objs.size = s.heap.objs.size + 1 := Heap.size_push ..
    have neI : l ≠ (s.heap.push (newSet w)).objs.size := by rw [sz]; exact Nat.ne_of_lt (Nat.lt_succ_of_lt lt)
    have nin : s.heap.objs.size ∉ [(s.heap.push (newSet w)).objs.size, l] := by
      rw [sz]; simp only [List.mem_cons, List.not_mem_nil, or_false, not_or]; exact ⟨Nat.ne_of_lt (Nat.lt_succ_self _), Nat.ne_of_gt lt⟩
    have val : ∀ (i : Nat) (v : Value), its[i]? = some v → ∃ k t, ns[i]? = some k ∧ v = .int k t := fun i v hv => by
      have lti : i < ns.length := by rw [← lens]; exact (Array.getElem?_eq_some_iff.mp hv).1
      obtain ⟨t, et⟩ := PyProof.Rows.IntsAre.int_at hi i v (by rw [Array.getElem?_toList]; exact hv)
      exact ⟨ns[i], t, List.getElem?_eq_getElem lti, by rw [et, List.getD_eq_getElem?_getD, List.getElem?_eq_getElem lti]; rfl⟩
    refine set_update_ints ((Walks.list (show A.in1.in1.in1.handled = none by simp [hd]) _ l neI its).toS) s.heap.objs.size nin ns lens room val (its.size - 0) 0 _ (by omega) (Nat.zero_le _) ⟨⟨_, Heap.get?_push_size _ rfl, rfl, rfl⟩, hl1.push _⟩ ⟨0, Nat.le_refl 0, setR_new_at (Heap.get?_push_of_some _ hN)⟩ ?_
    rintro ⟨g, gg, dd, tk, os⟩ c mv lc R
    obtain rfl : gg = s.gens := mv.gens
    obtain rfl : dd = s.drawn := mv.drawn
    obtain rfl : os = s.os := mv.os
    refine wpAny_pure (wpAny_pure ⟨rfl, g, tk, c, rfl, R, by rw [← lens]; exact lc, fun b o e => mv.heap b o ?_ (Heap.get?_push_of_some _ (Heap.get?_push_of_some _ e))⟩)
    have lb : b < s.heap.objs.size := Heap.lt_size e
    simp only [List.mem_cons, List.not_mem_nil, or_false, not_or, sz]; exact ⟨Nat.ne_of_lt lb, Nat.ne_of_lt (Nat.lt_succ_of_lt lb)⟩
  · rcases r2 with e | r2
    · exact h2
    cases r2 <;> try exact h2.elim
    obtain ⟨rfl, g, tk, c, rfl, R, lc, kp⟩ := h2
    repeat (any_goals (first | assumption | wp_step))
    exact fin _ _ _ R lc kp
end
end Px

namespace Px
open PySem PySem.Spec PyProof.Rows L2
/-! the members, once each, in order -/
def insU (k : Int) : List Int → List Int
  | [] => [k]
  | j :: r => if k < j then k :: j :: r else if k = j then j :: r else j :: insU k r
def srtU (ns : List Int) : List Int := ns.foldr insU []
theorem mem_insU {k x : Int} : ∀ {l : List Int}, x ∈ insU k l ↔ x = k ∨ x ∈ l
  | [] => by simp [insU]
  | j :: r => by
    unfold insU
    split
    · simp
    · split
      · rename_i h
        subst h
        simp
      · simp only [List.mem_cons, mem_insU (l := r)]
        constructor
        · rintro (h | h | h) <;> simp [h]
        · rintro (h | h | h) <;> simp [h]
theorem pw_insU {k : Int} : ∀ {l : List Int}, l.Pairwise (· < ·) → (insU k l).Pairwise (· < ·)
  | [], _ => by simp [insU]
  | j :: r, h => by
    obtain ⟨h1, h2⟩ := List.pairwise_cons.mp h
    unfold insU
    split
    · rename_i q
      refine List.pairwise_cons.mpr ⟨fun x hx => ?_, h⟩
      rcases List.mem_cons.mp hx with e | e
      · omega
      · have := h1 x e
        omega
    · split
      · exact h
      · refine List.pairwise_cons.mpr ⟨fun x hx => ?_, pw_insU h2⟩
        rcases mem_insU.mp hx with e | e
        · omega
        · exact h1 x e
theorem mem_srtU {x : Int} : ∀ {ns : List Int}, x ∈ srtU ns ↔ x ∈ ns
  | [] => by simp [srtU]
  | n :: ns => by
    show x ∈ insU n (srtU ns) ↔ _
    rw [mem_insU, mem_srtU, List.mem_cons]
theorem pw_srtU : ∀ ns : List Int, (srtU ns).Pairwise (· < ·)
  | [] => List.Pairwise.nil
  | n :: ns => pw_insU (pw_srtU ns)
theorem len_insU {k : Int} : ∀ {l : List Int}, (insU k l).length ≤ l.length + 1
  | [] => by simp [insU]
  | j :: r => by
    unfold insU
    split
    · simp
    · split
      · simp
      · have := len_insU (k := k) (l := r)
        simp only [List.length_cons]
        omega
theorem len_srtU : ∀ ns : List Int, (srtU ns).length ≤ ns.length
  | [] => Nat.le_refl _
  | n :: ns => by
    have := len_insU (k := n) (l := srtU ns)
    have := len_srtU ns
    show (insU n (srtU ns)).length ≤ _
    rw [List.length_cons]
    omega
theorem pw_ext : ∀ {l1 l2 : List Int}, l1.Pairwise (· < ·) → l2.Pairwise (· < ·) → (∀ k, k ∈ l1 ↔ k ∈ l2) → l1 = l2
  | [], [], _, _, _ => rfl
  | [], b :: _, _, _, h => by have := (h b).mpr List.mem_cons_self; cases this
  | a :: _, [], _, _, h => by have := (h a).mp List.mem_cons_self; cases this
  | a :: r, b :: t, h1, h2, h => by
    obtain ⟨a1, a2⟩ := List.pairwise_cons.mp h1
    obtain ⟨b1, b2⟩ := List.pairwise_cons.mp h2
    have e : a = b := by
      rcases List.mem_cons.mp ((h a).mp List.mem_cons_self) with q | q
      · exact q
      · rcases List.mem_cons.mp ((h b).mpr List.mem_cons_self) with z | z
        · exact z.symm
        · have := a1 b z
          have := b1 a q
          omega
    subst e
    rw [pw_ext a2 b2 fun k => ?_]
    constructor
    · intro hk
      rcases List.mem_cons.mp ((h k).mp (List.mem_cons_of_mem _ hk)) with q | q
      · have := a1 k hk
        omega
      · exact q
    · intro hk
      rcases List.mem_cons.mp ((h k).mpr (List.mem_cons_of_mem _ hk)) with q | q
      · have := b1 k hk
        omega
      · exact q
def iOf : D → Option Int
  | .int i => some i
  | _ => none
def iOfs : List D → Option (List Int)
  | [] => some []
  | d :: ds => match iOf d, iOfs ds with
    | some k, some ks => some (k :: ks)
    | _, _ => none
theorem iOfs_eq : ∀ {ds : List D} {ns : List Int}, iOfs ds = some ns → ds = ns.map .int
  | [], _, h => by cases h; rfl
  | d :: ds, ns, h => by
    rw [iOfs] at h
    split at h
    · rename_i a r h1 h2
      cases h
      cases d <;> cases h1
      rw [iOfs_eq h2]
      rfl
    · cases h
theorem iOfs_map : ∀ ns : List Int, iOfs (ns.map .int) = some ns
  | [] => rfl
  | n :: ns => by rw [List.map_cons, iOfs, iOfs_map ns]; rfl
def setOf (g : List Int → D) : D → Res D
  | .lst xs => match iOfs xs with
    | some ns => if ns.length < 64 then .ok (g (srtU ns)) else .err
    | none => .err
  | .tup xs => match iOfs xs with
    | some ns => if ns.length < 64 then .ok (g (srtU ns)) else .err
    | none => .err
  | _ => .err
def dSortedSet : D → Res D := setOf fun l => .lst (l.map .int)
def dLenSet : D → Res D := setOf fun l => .int l.length
theorem int_vals {K : PySem.W.Frag} {ex : AS} {H : Hp} {n : Nat} : ∀ {ns : List Int} {xs : List V}, Paired (RB K ex H n) (ns.map D.int) xs → xs = ns.map V.int
  | [], _, h => by cases h; rfl
  | k :: r, _, h => by
    rw [List.map_cons] at h
    cases h with
    | cons x t => rw [List.map_cons, ← int_vals t, RB.int x]
section
variable {X : Cx} {W : WX} {L : List Nat} {n k : Nat} {p p2 q pos : Pos} {a : Expr} {f : EF} {σ : L2.St} {s : Shared} {pins : List (Addr × Obj)} {H : Hp} {E : Value → Shared → Prop}
/-- set(x): a set of the ints, that stands somewhere new -/
theorem set_of {ns : List Int} {v : V} {u : Value} {d : D} {ex : AS} {Q : Value → Shared → Prop} (hc : X.calm = true) (I : Inv X pins σ H s) (r : RB X.K ex H 1 d v) (rv : RelV v u) (hd : d = .lst (ns.map .int) ∨ d = .tup (ns.map .int)) (hl : ns.length < 64)
    (fin : ∀ (g : Heap) (tk c : Nat), SetR X.w g s.heap.objs.size (fun j => decide (j ∈ ns)) c → c ≤ ns.length → (∀ b o, s.heap.get? b = some o → g.get? b = some o) → Q (.ref s.heap.objs.size) { s with heap := g, toks := tk }) :
    wpAny (model X.prog X.w) X.A (call (.type "set") [u]) Q E s := by
  have room : ns.length + 1 < scanBound := by unfold scanBound; omega
  rcases hd with rfl | rfl
  · obtain ⟨b, xs, rfl, sq, _, hp⟩ := RB.lst r
    rw [int_vals hp] at sq
    cases rv
    obtain ⟨its, rr, pl, _⟩ := I.list sq
    exact set_lst (I.ok.hd hc) (by simpa using RZ.intsAre_vals rr) room pl.isList fin
  · obtain ⟨b, xs, rfl, sq, _, hp⟩ := RB.tup r
    rw [int_vals (n := 0) hp] at sq
    cases rv
    obtain ⟨its, rr, pl, _⟩ := I.tuple sq
    exact call_set_tupI ns (I.ok.hd hc) pl (by simpa using RZ.intsAre_vals rr) room fin
theorem setOf_ok {g : List Int → D} {d r : D} (h : setOf g d = .ok r) : ∃ ns, (d = .lst (ns.map .int) ∨ d = .tup (ns.map .int)) ∧ ns.length < 64 ∧ r = g (srtU ns) := by
  unfold setOf at h
  split at h
  · split at h
    · rename_i ns e
      split at h
      · rename_i hl
        cases h
        exact ⟨ns, .inl (by rw [iOfs_eq e]), hl, rfl⟩
      · cases h
    · cases h
  · split at h
    · rename_i ns e
      split at h
      · rename_i hl
        cases h
        exact ⟨ns, .inr (by rw [iOfs_eq e]), hl, rfl⟩
      · cases h
    · cases h
  · cases h
theorem setOf_nx {g : List Int → D} : NoX1 (setOf g) := fun a c h => by
  unfold setOf at h
  split at h
  · split at h
    · split at h <;> cases h
    · cases h
  · split at h
    · split at h <;> cases h
    · cases h
  · cases h
def rSetI (K : PySem.W.Frag) (w : World) : List V → Hp → VK → Prop := fun xs H Q => ∃ (ex : AS) (d : D) (v : V) (ns : List Int), xs = [v] ∧ RB K ex H 1 d v ∧ (d = .lst (ns.map .int) ∨ d = .tup (ns.map .int)) ∧ ns.length < 64 ∧
  ∀ p c, H p = none → c ≤ ns.length → Q (.ref p) (upd H p (SetO w p (fun j => decide (j ∈ ns)) c))
theorem cr_setI (hc : X.calm = true) : CallR X (.type "set") (rSetI X.K X.w) := by
  intro pins s σ H xs us Q I r h
  obtain ⟨ex, d, v, ns, rfl, rb, hd, hl, q⟩ := h
  obtain ⟨u, rfl, ru⟩ := Vals.one r
  exact set_of hc I rb ru hd hl fun g tk c R lc kp => ⟨.ref s.heap.objs.size, _, I.laid (a := s.heap.objs.size) (o := SetO X.w s.heap.objs.size (fun j => decide (j ∈ ns)) c) (t' := tk) kp (Nat.le_refl _) (setO_new R), rfl, q _ c (I.hok.fresh (Nat.le_refl _)) lc⟩
def rLenSet (w : World) : List V → Hp → VK → Prop := fun vs H Q => ∃ (a : Addr) (S : Int → Bool) (n : Nat), vs = [V.ref a] ∧ H a = some (SetO w a S n) ∧ n < 64 ∧ ∀ ks : List Int, ks.Nodup → (∀ k : Int, k ∈ ks ↔ S k = true) → ks.length = n → Q (.int n) H
theorem cr_lenSet : CallR X (.builtin "len") (rLenSet X.w) := by
  intro pins s σ H xs us Q I r h
  obtain ⟨a, S, n, rfl, ha, hl, q⟩ := h
  rw [Vals.ref1 r]
  obtain ⟨o, es, ep, t, ho, hex, hd, g, nd, hm, hb, hf, hn, hr, hle⟩ := setO_get I ha
  exact call_len_set ho hex hd hf (by rw [hn]; omega) ⟨.int n, H, I.tok _, ⟨_, by rw [hn]⟩, q _ nd (fun k => (hm k).symm) (by rw [List.length_map, Array.length_toList]; exact hn)⟩
theorem nodup_len {l1 l2 : List Int} (h1 : l1.Nodup) (h2 : l2.Nodup) (h : ∀ k, k ∈ l1 ↔ k ∈ l2) : l1.length = l2.length := by
  have : l1.Perm l2 := (List.perm_ext_iff_of_nodup h1 h2).mpr h
  exact this.length_eq
theorem pw_nodup {l : List Int} (h : l.Pairwise (· < ·)) : l.Nodup := h.imp fun {a b} q e => by omega
theorem eo_sortedSet (hc : X.calm = true) (hg : Gl X "sorted") (hm : X.mg "sorted" = none) (hg2 : Gl X "set") (hm2 : X.mg "set" = none) (ha : EB X W L 1 a f)
    (na : starEach [a] X.env = (false, eval a X.env) :: starEach [] X.env := by rfl) : EO X W L 1 (.Call (.Name "sorted" p) [.Call (.Name "set" p2) [a] [] q] [] pos) (eUn dSortedSet f) :=
  PE.imp (pe_callB (cr_sortedSet hc) hg hm (by decide +kernel) (pa_cons (pe_callTy (cr_setI hc) hg2 hm2 (by decide +kernel) (pa_cons ha pa_nil na) (by decide) (by decide) na rfl) pa_nil rfl) (by decide) (by decide) rfl rfl) fun σ H Q ⟨ex, ρ, fp, I, o⟩ => by
    refine ⟨ex, ρ, fp, I, o.bind.mono fun d q v H1 e1 r1 => ?_⟩
    obtain ⟨z, ez, qz⟩ := no_exc q (setOf_nx d)
    obtain ⟨ns, hd, hl, rfl⟩ := setOf_ok ez
    refine ⟨ex, d, v, ns, rfl, r1, hd, hl, fun p c hp lc => ⟨p, _, c, rfl, upd_same, by omega, fun ks p2 pw hk hn hp2 => ?_⟩⟩
    have e : ks = srtU ns := pw_ext pw (pw_srtU ns) fun k => by rw [hk k, mem_srtU]; simp
    subst e
    have e2 : Same H1 (upd H1 p (SetO X.w p (fun j => decide (j ∈ ns)) c)) := same_upd hp
    have := len_srtU ns
    refine QO.lst (K := X.K) (ex := ex) (fun v H3 fq e3 ro nd nw => qz v H3 fq (e1.trans (e2.trans e3)) ro nd fun a ha => e1.free (e2.free (nw a ha))) ?_ hp2 (by rw [List.length_map, sizeLine_eq]; omega)
    exact RL.pair (rl_ints _)
theorem eo_lenSet (hc : X.calm = true) (hg : Gl X "len") (hm : X.mg "len" = none) (hg2 : Gl X "set") (hm2 : X.mg "set" = none) (ha : EB X W L 1 a f)
    (na : starEach [a] X.env = (false, eval a X.env) :: starEach [] X.env := by rfl) : EO X W L k (.Call (.Name "len" p) [.Call (.Name "set" p2) [a] [] q] [] pos) (eUn dLenSet f) :=
  PE.imp (pe_callB cr_lenSet hg hm (by decide +kernel) (pa_cons (pe_callTy (cr_setI hc) hg2 hm2 (by decide +kernel) (pa_cons ha pa_nil na) (by decide) (by decide) na rfl) pa_nil rfl) (by decide) (by decide) rfl rfl) fun σ H Q ⟨ex, ρ, fp, I, o⟩ => by
    refine ⟨ex, ρ, fp, I, o.bind.mono fun d q v H1 e1 r1 => ?_⟩
    obtain ⟨z, ez, qz⟩ := no_exc q (setOf_nx d)
    obtain ⟨ns, hd, hl, rfl⟩ := setOf_ok ez
    refine ⟨ex, d, v, ns, rfl, r1, hd, hl, fun p c hp lc => ⟨p, _, c, rfl, upd_same, by omega, fun ks nd hk hn => ?_⟩⟩
    have e : ks.length = (srtU ns).length := nodup_len nd (pw_nodup (pw_srtU ns)) fun k => by rw [hk k, mem_srtU]; simp
    have e2 : Same H1 (upd H1 p (SetO X.w p (fun j => decide (j ∈ ns)) c)) := same_upd hp
    have hz : (V.int (c : Int)) = .int ((srtU ns).length : Int) := by rw [← hn, e]
    rw [hz]
    exact QO.int (K := X.K) (ex := ex) (k := k) (fun v H3 fq e3 ro nd nw => qz v H3 fq (e1.trans (e2.trans e3)) ro nd fun a ha => e1.free (e2.free (nw a ha)))
end
end Px

namespace Px
open PySem PySem.Spec PyProof.Rows L2
/-! ### clauses as plain data; facts of one's own at the end -/
abbrev ClB := List Str × Option Nat × (Str → SF)
def pickB : List ClB → Str → Px.Env → Px.Flow
  | [], c, ρ => .exc c ρ
  | (l, none, G) :: r, c, ρ => if c ∈ l then G c ρ else pickB r c ρ
  | (l, some i, G) :: r, c, ρ => if c ∈ l then (if i < ρ.length then unE i (G c (ρ.set i none)) else .err) else pickB r c ρ
def sTryB (us : List Str) (F : SF) (hs : List ClB) : SF := fun ρ => match F ρ with
  | .exc c ρ' => if c ∈ us then pickB hs c ρ' else .err
  | r => r
theorem pickA_B : ∀ (hs : List Cl) (c : Str) (ρ : Px.Env), pickA hs c ρ = pickB (hs.map (·.2)) c ρ
  | [], _, _ => rfl
  | (_, l, none, G) :: r, c, ρ => by
    show (if c ∈ l then _ else _) = (if c ∈ l then _ else _)
    rw [pickA_B r]
  | (_, l, some i, G) :: r, c, ρ => by
    show (if c ∈ l then _ else _) = (if c ∈ l then _ else _)
    rw [pickA_B r]
section
variable {X : Cx} {W : WX} {kr : RM} {Lb L L' : List Nat}
theorem sj_tryB {body : List Stmt} {h₀ : ExceptHandler} {hds : List ExceptHandler} {pos : Pos} {F : SF} {us : List Str} (hs : List Cl) (hst : X.stack = X.env :: X.outer) (hf : X.env.frame = some X.env.locals) (tk : Takes X W)
    (hm : ∀ c ∈ us, ∀ h ∈ hs, ∀ C, X.mg c = some (.ref C) → PySem.W.exmOne X.K (.ref C) h.1 = some (decide (c ∈ h.2.1)))
    (hb : ∀ (W' : WX) (pn : List (Addr × Obj)) (xe : Value → Shared → Prop), Takes (X.tr pn xe) W' → PassesOwn (model X.prog X.w) X.A X.env xe → SJs (X.tr pn xe) W' kr Lb L L' body F)
    (hh : HdsA X (h₀ :: hds) (hs.map (clT X W kr Lb L'))) {hs' : List ClB} (e : hs.map (·.2) = hs' := by rfl) (h0 : ∀ h ∈ hs, ∀ i, h.2.2.1 = some i → kr.b = false ∨ i ≠ 0 := by first | exact fun _ _ _ _ => .inl rfl | (intro h hh i hi; right; revert hi; revert i; revert hh; revert h; decide)) : SJ X W kr Lb L L' (.Try body (h₀ :: hds) [] [] pos) (sTryB us F hs') := by
  have : sTryB us F hs' = sTryA us F hs := by
    funext ρ
    unfold sTryB sTryA
    cases F ρ with
    | exc c ρ' => simp only [pickA_B, e]
    | _ => rfl
  rw [this]
  exact sj_tryA hs hst hf tk hm hb hh h0
theorem hc_nA {c : Str} : ∀ h ∈ ([] : List Cl), ∀ C, X.mg c = some (.ref C) → PySem.W.exmOne X.K (.ref C) h.1 = some (decide (c ∈ h.2.1)) := fun h hh => nomatch hh
theorem hc_cA {c : Str} {C V : Addr} {l : List Str} {o : Option Nat} {G : Str → SF} {b : Bool} {hs : List Cl} (hC : X.mg c = some (.ref C)) (m : PySem.W.exmOne X.K (.ref C) (.ref V) = some b) (hb : b = decide (c ∈ l))
    (t : ∀ h ∈ hs, ∀ C, X.mg c = some (.ref C) → PySem.W.exmOne X.K (.ref C) h.1 = some (decide (c ∈ h.2.1))) : ∀ h ∈ ((.ref V, l, o, G) : Cl) :: hs, ∀ C, X.mg c = some (.ref C) → PySem.W.exmOne X.K (.ref C) h.1 = some (decide (c ∈ h.2.1)) := fun h hh C' hC' => by
  rcases List.mem_cons.mp hh with e | e
  · subst e
    cases hC.symm.trans hC'
    rw [← hb]
    exact m
  · exact t h e C' hC'
theorem hm_nA {hs : List Cl} : ∀ c ∈ ([] : List Str), ∀ h ∈ hs, ∀ C, X.mg c = some (.ref C) → PySem.W.exmOne X.K (.ref C) h.1 = some (decide (c ∈ h.2.1)) := fun c hc => nomatch hc
theorem hm_cA {c : Str} {us : List Str} {hs : List Cl} (h1 : ∀ h ∈ hs, ∀ C, X.mg c = some (.ref C) → PySem.W.exmOne X.K (.ref C) h.1 = some (decide (c ∈ h.2.1)))
    (t : ∀ c ∈ us, ∀ h ∈ hs, ∀ C, X.mg c = some (.ref C) → PySem.W.exmOne X.K (.ref C) h.1 = some (decide (c ∈ h.2.1))) : ∀ d ∈ c :: us, ∀ h ∈ hs, ∀ C, X.mg d = some (.ref C) → PySem.W.exmOne X.K (.ref C) h.1 = some (decide (d ∈ h.2.1)) := fun d hd => by
  rcases List.mem_cons.mp hd with e | e
  · subst e
    exact h1
  · exact t d e
/-- a clause's suite that tells whether the error is of a class -/
theorem cl_isB {k i : Nat} {l : List Str} {t : Expr} {q : Pos} {Bc : Str → Bool}
    (h : ∀ c ∈ l, ∀ (C a : Addr) (oe : Obj) (pn : List (Addr × Obj)), X.mg c = some (.ref C) → Zc (.ref C) none oe → (∃ vs, oe.data = .fields vs) → PE (X.suite a ((a, oe) :: pn)) t (fun σ H Q => σ[i]? = some (some (.ref a)) ∧ Q (.bl (Bc c)) H))
    (a : Addr) (oe : Obj) (cls : Value) (d : Option Addr) (pn : List (Addr × Obj)) (hz : Zc cls d oe) (hf : ∃ vs, oe.data = .fields vs) :
    PSs (X.suite a ((a, oe) :: pn)) [.Return (some t) q] (tsE X W (.r k) Lb L' l (some i) (fun c => sRet (eC (.bl (Bc c)))) a cls d) :=
  ⟨fun pins s σ H Dn I w => by
    obtain ⟨rfl, ha, c, C, rfl, hC, hl, hi, ex0, G0, ρ, fp, S, o⟩ := w
    refine (PSs.imp (pss_one (ps_ret (h c hl C a oe pn hC hz hf))) (t' := fun Dn σ H => σ[i]? = some (some (.ref a)) ∧ Dn.rt (.bl (Bc c)) H) fun Dn σ H h => h).run pins s σ H Dn I ⟨hi i rfl, ?_⟩
    exact o _ H [] S.same (RO.flat (by rw [R]) rfl) List.nodup_nil fun b hb => nomatch hb⟩
end
/-! facts that are looked at when the module has run -/
abbrev AlX : Type := He.Al × Bool
def obsX (fa : List He.Fa) (fn : List He.FnD) (xs : List (PySem.W.Frag → Bool)) (K : PySem.W.Frag) : AlX := (He.obsE fa fn K, xs.all fun f => f K)
def SaysX (fa : List He.Fa) (fn : List He.FnD) (xs : List (PySem.W.Frag → Bool)) (K : PySem.W.Frag) : Prop := obsX fa fn xs K = (He.valE fn, true)
def obsXG (n : Nat) (fa : List He.Fa) (fn : List He.FnD) (xs : List (PySem.W.Frag → Bool)) (g : Addr → Option Obj) : AlX := obsX fa fn xs (He.frG g (He.asG g n))
def hookX (n : Nat) (fa : List He.Fa) (fn : List He.FnD) (xs : List (PySem.W.Frag → Bool)) : PySem.W.Hook where
  α := AlX
  obs := fun s => obsXG n fa fn xs s.heap.get?
  val := fun _ => (He.valE fn, true)
  says := fun _ h => ∃ K : PySem.W.Frag, K.In h ∧ SaysX fa fn xs K
  of := fun _ _ e => ⟨_, He.frG_in, e⟩
  keeps := fun _ _ _ ⟨K, hK, c⟩ k => ⟨K, PySem.W.Frag.In.keeps hK k, c⟩
theorem obsXG_eq {n : Nat} {fa : List He.Fa} {fn : List He.FnD} {xs : List (PySem.W.Frag → Bool)} {g : Addr → Option Obj} {s : Shared} (h : ∀ a, g a = s.heap.get? a) : obsXG n fa fn xs g = (hookX n fa fn xs).obs s := by
  have e : g = s.heap.get? := funext h
  rw [e] <;> rfl
section
variable {fa : List He.Fa} {fn : List He.FnD} {xs : List (PySem.W.Frag → Bool)} {K : PySem.W.Frag}
theorem SaysX.e (c : SaysX fa fn xs K) : He.SaysE fa fn K := congrArg (fun z : AlX => z.1) c
theorem SaysX.x (c : SaysX fa fn xs K) (i : Nat) {f : PySem.W.Frag → Bool} (h : xs[i]? = some f := by rfl) : f K = true := List.all_eq_true.mp (congrArg (fun z : AlX => z.2) c) f (List.mem_of_getElem? h)
/-- what isinstance needs of an error's class -/
def excB (x : Str) (K : PySem.W.Frag) : Bool :=
  He.eqO (PySem.W.findIn K (.ref (He.ga K x)) "__getattribute__") (some (some (.builtin "BaseException.__getattribute__"))) && (He.eqO (PySem.W.findIn K (.ref (He.ga K x)) "__getattr__") (some none) && (decide (PySem.W.subIn K (.ref (He.ga K x)) (.type "BaseException") = some true) &&
  (PySem.W.hasDictIn K (He.ga K x) && (He.eqO (PySem.W.findIn K (.ref (He.ga K x)) "__class__") (some (some (.builtin "object.__class__"))) && (He.eqO (PySem.W.specialIn K (.builtin "object.__class__") "__get__") (some (some (.builtin "getset_descriptor.__get__"))) &&
  (decide (PySem.W.takesIn K (.builtin "object.__class__") = some true) && decide (PySem.W.mroIn K (He.ga K x) (.type "object") = some true)))))))
theorem excB_ok {x : Str} (h : excB x K = true) : ExcC K (He.ga K x) := by
  unfold excB at h
  simp only [Bool.and_eq_true, decide_eq_true_eq] at h
  obtain ⟨h1, h2, h3, h4, h5, h6, h7, h8⟩ := h
  exact ⟨He.eqO_ok h1, He.eqO_ok h2, h3, h4, He.eqO_ok h5, He.eqO_ok h6, h7, h8⟩
def kitF (y x : Str) (b : Bool) (K : PySem.W.Frag) : Bool := decide (PySem.W.kitOne K (.ref (He.ga K y)) (.ref (He.ga K x)) = some b)
theorem kitF_ok {y x : Str} {b : Bool} (h : kitF y x b K = true) : PySem.W.kitOne K (.ref (He.ga K y)) (.ref (He.ga K x)) = some b := of_decide_eq_true h
end
end Px

namespace Px
open PySem PySem.Spec PyProof.Rows L2
/-! ### sorted(d), list(d), dict(d): the keys of a dict -/
def sLt (x y : Str) : Bool := ltCps x.cps.toList y.cps.toList
theorem sLt_iff {x y : Str} : sLt x y = true ↔ x.cps.toList < y.cps.toList := by
  unfold sLt
  rw [ltCps_eq, decide_eq_true_eq]
theorem str_ext {x y : Str} (h : x.cps.toList = y.cps.toList) : x = y := by
  cases x
  cases y
  simp at h
  rw [h]
theorem sLt_irr (x : Str) : sLt x x = false := by
  cases h : sLt x x with
  | false => rfl
  | true => exact absurd (sLt_iff.mp h) (List.lt_irrefl _)
theorem sLt_trans {x y z : Str} (h1 : sLt x y = true) (h2 : sLt y z = true) : sLt x z = true := sLt_iff.mpr (List.lt_trans (sLt_iff.mp h1) (sLt_iff.mp h2))
theorem sLt_tri (x y : Str) : sLt x y = true ∨ x = y ∨ sLt y x = true := by
  by_cases h : x.cps.toList < y.cps.toList
  · exact .inl (sLt_iff.mpr h)
  · by_cases h2 : y.cps.toList < x.cps.toList
    · exact .inr (.inr (sLt_iff.mpr h2))
    · exact .inr (.inl (str_ext (List.le_antisymm (List.not_lt.mp h2) (List.not_lt.mp h))))
theorem sLt_asy {x y : Str} (h : sLt x y = true) : sLt y x = false := by
  cases q : sLt y x with
  | false => rfl
  | true => exact absurd (sLt_trans h q) (by rw [sLt_irr]; exact Bool.false_ne_true)
def insS (k : Str) : List Str → List Str
  | [] => [k]
  | j :: r => if sLt k j = true then k :: j :: r else if k = j then j :: r else j :: insS k r
def srtS (ss : List Str) : List Str := ss.foldr insS []
theorem mem_insS {k x : Str} : ∀ {l : List Str}, x ∈ insS k l ↔ x = k ∨ x ∈ l
  | [] => by simp [insS]
  | j :: r => by
    unfold insS
    split
    · simp
    · split
      · rename_i h
        subst h
        simp
      · simp only [List.mem_cons, mem_insS (l := r)]
        constructor
        · rintro (h | h | h) <;> simp [h]
        · rintro (h | h | h) <;> simp [h]
abbrev SrtS (l : List Str) : Prop := l.Pairwise fun a b => sLt a b = true
theorem pw_insS {k : Str} : ∀ {l : List Str}, SrtS l → SrtS (insS k l)
  | [], _ => by simp [insS, SrtS]
  | j :: r, h => by
    obtain ⟨h1, h2⟩ := List.pairwise_cons.mp h
    unfold insS
    split
    · rename_i q
      refine List.pairwise_cons.mpr ⟨fun x hx => ?_, h⟩
      rcases List.mem_cons.mp hx with e | e
      · rw [e]
        exact q
      · exact sLt_trans q (h1 x e)
    · rename_i q
      split
      · exact h
      · rename_i q2
        refine List.pairwise_cons.mpr ⟨fun x hx => ?_, pw_insS h2⟩
        rcases mem_insS.mp hx with e | e
        · rw [e]
          rcases sLt_tri k j with z | z | z
          · exact absurd z q
          · exact absurd z q2
          · exact z
        · exact h1 x e
theorem mem_srtS {x : Str} : ∀ {ns : List Str}, x ∈ srtS ns ↔ x ∈ ns
  | [] => by simp [srtS]
  | n :: ns => by
    show x ∈ insS n (srtS ns) ↔ _
    rw [mem_insS, mem_srtS, List.mem_cons]
theorem pw_srtS : ∀ ns : List Str, SrtS (srtS ns)
  | [] => List.Pairwise.nil
  | n :: ns => pw_insS (pw_srtS ns)
theorem len_insS {k : Str} : ∀ {l : List Str}, (insS k l).length ≤ l.length + 1
  | [] => by simp [insS]
  | j :: r => by
    unfold insS
    split
    · simp
    · split
      · simp
      · have := len_insS (k := k) (l := r)
        simp only [List.length_cons]
        omega
theorem len_srtS : ∀ ns : List Str, (srtS ns).length ≤ ns.length
  | [] => Nat.le_refl _
  | n :: ns => by
    have := len_insS (k := n) (l := srtS ns)
    have := len_srtS ns
    show (insS n (srtS ns)).length ≤ _
    rw [List.length_cons]
    omega
theorem pw_extS : ∀ {l1 l2 : List Str}, SrtS l1 → SrtS l2 → (∀ k, k ∈ l1 ↔ k ∈ l2) → l1 = l2
  | [], [], _, _, _ => rfl
  | [], b :: _, _, _, h => by have := (h b).mpr List.mem_cons_self; cases this
  | a :: _, [], _, _, h => by have := (h a).mp List.mem_cons_self; cases this
  | a :: r, b :: t, h1, h2, h => by
    obtain ⟨a1, a2⟩ := List.pairwise_cons.mp h1
    obtain ⟨b1, b2⟩ := List.pairwise_cons.mp h2
    have e : a = b := by
      rcases List.mem_cons.mp ((h a).mp List.mem_cons_self) with q | q
      · exact q
      · rcases List.mem_cons.mp ((h b).mpr List.mem_cons_self) with z | z
        · exact z.symm
        · exact absurd (b1 a q) (by rw [sLt_asy (a1 b z)]; exact Bool.false_ne_true)
    subst e
    rw [pw_extS a2 b2 fun k => ?_]
    constructor
    · intro hk
      rcases List.mem_cons.mp ((h k).mp (List.mem_cons_of_mem _ hk)) with q | q
      · rw [q] at hk
        exact absurd (a1 a hk) (by rw [sLt_irr]; exact Bool.false_ne_true)
      · exact q
    · intro hk
      rcases List.mem_cons.mp ((h k).mpr (List.mem_cons_of_mem _ hk)) with q | q
      · rw [q] at hk
        exact absurd (b1 a hk) (by rw [sLt_irr]; exact Bool.false_ne_true)
      · exact q
theorem rising_pw : ∀ (p : Str) (l : List Str), risingS p l = true → (p :: l).Pairwise fun a b => sLt b a = false
  | p, [], _ => by simp
  | p, x :: r, h => by
    unfold risingS at h
    rw [Bool.and_eq_true] at h
    have hx : sLt x p = false := by
      have := h.1
      unfold sLt
      cases q : ltCps x.cps.toList p.cps.toList
      · rfl
      · rw [q] at this
        cases this
    have ih := rising_pw x r h.2
    refine List.pairwise_cons.mpr ⟨fun y hy => ?_, ih⟩
    rcases List.mem_cons.mp hy with e | e
    · rw [e]
      exact hx
    · have h2 := (List.pairwise_cons.mp ih).1 y e
      cases q : sLt y p with
      | false => rfl
      | true =>
        rcases sLt_tri x p with z | z | z
        · rw [z] at hx
          cases hx
        · rw [← z, h2] at q
          cases q
        · rw [sLt_trans q z] at h2
          cases h2
theorem sorted_pw {l : List Str} (h : sortedS l = true) (nd : l.Nodup) : SrtS l := by
  have hp : l.Pairwise fun a b => sLt b a = false := by
    cases l with
    | nil => exact List.Pairwise.nil
    | cons x r => exact rising_pw x r h
  refine (hp.and nd).imp fun {a b} ⟨q, ne⟩ => ?_
  rcases sLt_tri a b with z | z | z
  · exact z
  · exact absurd z ne
  · rw [z] at q
    cases q
def sgOf : D → Option Str
  | .str s => some s
  | _ => none
def sgOfs : List D → Option (List Str)
  | [] => some []
  | d :: ds => match sgOf d, sgOfs ds with
    | some k, some ks => some (k :: ks)
    | _, _ => none
theorem sgOfs_eq : ∀ {ds : List D} {ns : List Str}, sgOfs ds = some ns → ds = ns.map .str
  | [], _, h => by cases h; rfl
  | d :: ds, ns, h => by
    rw [sgOfs] at h
    split at h
    · rename_i a r h1 h2
      cases h
      cases d <;> cases h1
      rw [sgOfs_eq h2]
      rfl
    · cases h
theorem sgOfs_map : ∀ ns : List Str, sgOfs (ns.map .str) = some ns
  | [] => rfl
  | n :: ns => by rw [List.map_cons, sgOfs, sgOfs_map ns]; rfl
def fSortedD : List D → Res D
  | [.dic false ks _] => (match iOfs ks with
    | some ns => if ns.length < 64 then .ok (.lst ((srtU ns).map .int)) else .err
    | none => (match sgOfs ks with
      | some ss => if ss.length < 64 then .ok (.lst ((srtS ss).map .str)) else .err
      | none => .err))
  | _ => .err
theorem fSortedD_nx : NoXL fSortedD := fun ds c h => by
  unfold fSortedD at h
  split at h
  · split at h
    · split at h <;> cases h
    · split at h
      · split at h <;> cases h
      · cases h
  · cases h
def fListD : List D → Res D
  | [.dic false ks _] => .ok (.lst ks)
  | _ => .err
theorem fListD_nx : NoXL fListD := fun ds c h => by
  unfold fListD at h
  split at h <;> cases h
def fDictD : List D → Res D
  | [.dic false ks vs] => .ok (.dic false ks vs)
  | _ => .err
theorem fDictD_nx : NoXL fDictD := fun ds c h => by
  unfold fDictD at h
  split at h <;> cases h
theorem rl_strs {K : PySem.W.Frag} {ex : AS} {H : Hp} : ∀ ns : List Str, RL K ex H (ns.map .str) (ns.map V.str)
  | [] => by rw [List.map_nil, List.map_nil, RL]
  | n :: ns => by
    rw [List.map_cons, List.map_cons, RL]
    exact ⟨_, _, rfl, by rw [R], rl_strs ns⟩
theorem keysI : ∀ {kk : List Key} {ns : List Int}, kk.map dKey = ns.map D.int → kk = ns.map Sum.inl
  | [], [], _ => rfl
  | [], _ :: _, h => by cases h
  | _ :: _, [], h => by cases h
  | k :: kk, n :: ns, h => by
    rw [List.map_cons, List.map_cons] at h
    obtain ⟨h1, h2⟩ := List.cons.inj h
    cases k with
    | inl i =>
      cases h1
      rw [List.map_cons, keysI h2]
    | inr s => cases h1
theorem keysS : ∀ {kk : List Key} {ns : List Str}, kk.map dKey = ns.map D.str → kk = ns.map Sum.inr
  | [], [], _ => rfl
  | [], _ :: _, h => by cases h
  | _ :: _, [], h => by cases h
  | k :: kk, n :: ns, h => by
    rw [List.map_cons, List.map_cons] at h
    obtain ⟨h1, h2⟩ := List.cons.inj h
    cases k with
    | inr i =>
      cases h1
      rw [List.map_cons, keysS h2]
    | inl s => cases h1
theorem nd_map {α β : Type} {f : α → β} {l : List α} (h : (l.map f).Nodup) : l.Nodup := List.Pairwise.of_map f (fun _ _ hne e => hne (congrArg f e)) h
theorem rb_dic {K : PySem.W.Frag} {ex : AS} {H : Hp} {n : Nat} {ks vs : List D} {v : V} (r : RB K ex H n (.dic false ks vs) v) : ∃ (a : Addr) (kk : List Key) (xs : List V), v = .ref a ∧ Rd H a (.dK (kk.zip xs)) ∧ ks = kk.map dKey ∧ kk.length = xs.length ∧ kk.Nodup ∧ Paired (RB K ex H (n - 1)) vs xs := by
  obtain ⟨a, xs, rfl, h1, h2⟩ := RB.cnr rfl r
  rcases h1 with ⟨o, c, rd⟩ | ⟨⟨_, z⟩, _⟩
  · obtain ⟨kk, rfl, hl, nd, rfl⟩ := dic_key c
    exact ⟨a, kk, xs, rfl, rd.rd, rfl, hl, nd, h2⟩
  · cases z
section
variable {X : Cx}
theorem c_sortedD (hc : X.calm = true) : CallD X 1 1 (.builtin "sorted") fSortedD := fun pins s σ H xs us Q I r h => by
  obtain ⟨ex, ds, d, ext, rs, e, q⟩ := h
  unfold fSortedD at e
  split at e
  · cases rs with
    | cons r1 t =>
      cases t
      obtain ⟨a, kk, zs, rfl, rd, ek, hl, nd, _⟩ := rb_dic r1
      split at e
      · rename_i ns hn
        split at e
        · rename_i h64
          cases e
          have hk := keysI (ek.symm.trans (iOfs_eq hn))
          rw [hk] at nd
          refine call_sortedDI hc pins s σ H _ us Q I r ⟨a, _, ns, rfl, rd, by rw [zip_map1 hl, hk], h64, fun ys p pm pw hp => ?_⟩
          have ndy : ys.Nodup := pm.nodup_iff.mpr (nd_map nd)
          have pw2 : ys.Pairwise (· < ·) := (pw.and ndy).imp fun {a b} ⟨h1, h2⟩ => by
            have h2 : a ≠ b := h2
            omega
          have e2 : ys = srtU ns := pw_ext pw2 (pw_srtU ns) fun k => by rw [mem_srtU]; exact pm.mem_iff
          subst e2
          have := len_srtU ns
          exact q.lst (RL.pair (rl_ints _)) hp (by rw [List.length_map, sizeLine_eq]; omega)
        · cases e
      · split at e
        · rename_i ss hn
          split at e
          · rename_i h64
            cases e
            have hk := keysS (ek.symm.trans (sgOfs_eq hn))
            rw [hk] at nd
            refine call_sortedD hc pins s σ H _ us Q I r ⟨a, _, ss, rfl, rd, by rw [zip_map1 hl, hk], h64, fun ys p pm pw hp => ?_⟩
            have ndy : ys.Nodup := pm.nodup_iff.mpr (nd_map nd)
            have e2 : ys = srtS ss := pw_extS (sorted_pw pw ndy) (pw_srtS ss) fun k => by rw [mem_srtS]; exact pm.mem_iff
            subst e2
            have := len_srtS ss
            exact q.lst (RL.pair (rl_strs _)) hp (by rw [List.length_map, sizeLine_eq]; omega)
          · cases e
        · cases e
  · cases e
theorem keys_rl {K : PySem.W.Frag} {ex : AS} {H : Hp} : ∀ kk : List Key, Paired (R K ex H) (kk.map dKey) (kk.map kV)
  | [] => .nil
  | .inl i :: r => .cons (by show R K ex H (.int i) (.int i); rw [R]) (keys_rl r)
  | .inr i :: r => .cons (by show R K ex H (.str i) (.str i); rw [R]) (keys_rl r)
theorem c_listD (hc : X.calm = true) : CallD X 1 1 (.type "list") fListD := fun pins s σ H xs us Q I r h => by
  obtain ⟨ex, ds, d, ext, rs, e, q⟩ := h
  unfold fListD at e
  split at e
  · cases rs with
    | cons r1 t =>
      cases t
      cases e
      obtain ⟨a, kk, zs, rfl, rd, rfl, hl, nd, _⟩ := rb_dic r1
      refine call_listD hc pins s σ H _ us Q I r ⟨a, _, rfl, rd, fun p hp => ?_⟩
      have e2 : ((kk.zip zs).map fun kv => kV kv.1) = kk.map kV := by
        have := congrArg (List.map kV) (zip_map1 hl)
        rw [List.map_map] at this
        exact this
      rw [e2]
      have hz : (kk.zip zs).length ≤ sizeLine := (dk_rd I.hok rd).1
      refine q.lst (keys_rl kk) hp ?_
      rw [List.length_zip] at hz
      rw [List.length_map]
      omega
  · cases e
/-- dict(d): a new dict, the same values -/
theorem c_dictD : CallD X 1 1 (.type "dict") fDictD := fun pins s σ H xs us Q I r h => by
  obtain ⟨ex, ds, d, ext, rs, e, q⟩ := h
  unfold fDictD at e
  split at e
  · rename_i ks vs
    cases rs with
    | cons r1 t =>
      cases t
      cases e
      obtain ⟨a, kk, zs, rfl, rd, rfl, hl, nd, hp⟩ := rb_dic r1
      refine call_dictD pins s σ H _ us Q I r ⟨a, _, rfl, rd, fun p hpn => ?_⟩
      obtain ⟨fps, p3, pf⟩ := of_pair (K := X.K) (ex := fun b => b ∈ [p] ∨ ex b) (H := upd H p (.dK (kk.zip zs))) ((show Paired (R X.K ex H) vs zs from hp).mono fun a b r => R.keep (Keep.same (same_upd hpn)) (new_less hpn) a r)
      exact q (.ref p) _ [p] (same_upd hpn) ((RO.cn rfl).mpr ⟨p, zs, fps, _, rfl, ⟨⟨kk, rfl, hl, nd, rfl⟩, upd_same⟩, by rw [pf], p3⟩) (List.nodup_cons.mpr ⟨List.not_mem_nil, List.nodup_nil⟩) fun b hb => by
        rw [List.mem_singleton.mp hb]
        exact hpn
  · cases e
end
end Px

namespace Px
open PySem PySem.Spec PyProof.Rows L2
/-! ### plain tools: loops by a measure, sorted ints, dicts with whole numbers as keys, instances -/
/-- a loop that goes down a measure: each turn goes on, or ends it -/
theorem while_inv {t : Px.Env → Res Bool} {F : SF} {P : Px.Env → Prop} {Q : Px.Flow → Prop} (μ : Px.Env → Nat)
    (st : ∀ ρ, P ρ → (t ρ = .ok false ∧ Q (.next ρ)) ∨ (t ρ = .ok true ∧ ((∃ ρ', (F ρ = .next ρ' ∨ F ρ = .cont ρ') ∧ P ρ' ∧ μ ρ' < μ ρ) ∨ (∃ d, F ρ = .ret d ∧ Q (.ret d))))) :
    ∀ (n : Nat) (ρ : Px.Env), P ρ → μ ρ < n → Q (whileE t F n ρ)
  | 0, _, _, h => by omega
  | n + 1, ρ, h, hm => by
    rw [whileE_succ]
    rcases st ρ h with ⟨e, q⟩ | ⟨e, q⟩
    · rw [e]
      exact q
    · rw [e]
      show Q (loopK (F ρ) (whileE t F n))
      rcases q with ⟨ρ', e2, p, hl⟩ | ⟨d, e2, q⟩
      · have ih := while_inv μ st n ρ' p (by omega)
        rcases e2 with e2 | e2 <;> (rw [e2]; exact ih)
      · rw [e2]
        exact q
theorem toP_N (n : Nat) : toP (dN n) = .int (n : Int) := by
  rw [dN_def, toP]
theorem dLe_N (a b : Nat) : dLe (dN a) (dN b) = decide (a ≤ b) := by
  have e : dLe (dN a) (dN b) = !PySem.W.dataLt (toP (dN b)) (toP (dN a)) := rfl
  rw [e, toP_N, toP_N, PySem.W.dataLt_int]
  by_cases h : a ≤ b
  · rw [decide_eq_true h, decide_eq_false (by omega)]
    rfl
  · rw [decide_eq_false h, decide_eq_true (by omega)]
    rfl
theorem pwN_ext {l1 l2 : List Nat} (h1 : l1.Pairwise (· < ·)) (h2 : l2.Pairwise (· < ·)) (h : ∀ k, k ∈ l1 ↔ k ∈ l2) : l1 = l2 := by
  have e : l1.map Int.ofNat = l2.map Int.ofNat := pw_ext (List.pairwise_map.mpr (h1.imp fun {a b} q => by simpa using q)) (List.pairwise_map.mpr (h2.imp fun {a b} q => by simpa using q)) fun k => by
    simp only [List.mem_map, h]
  exact List.map_inj_right (fun a b q => Int.ofNat.inj q) |>.mp e
theorem allN {xs : List D} {l : List Nat} (h : xs.Perm (l.map dN)) : ∃ m : List Nat, xs = m.map dN ∧ m.Perm l := by
  have : ∀ {xs : List D}, (∀ x ∈ xs, ∃ n, x = dN n) → ∃ m : List Nat, xs = m.map dN := by
    intro xs
    induction xs with
    | nil => exact fun _ => ⟨[], rfl⟩
    | cons x xs ih =>
      intro hx
      obtain ⟨n, rfl⟩ := hx x List.mem_cons_self
      obtain ⟨m, rfl⟩ := ih fun y hy => hx y (List.mem_cons_of_mem _ hy)
      exact ⟨n :: m, rfl⟩
  obtain ⟨m, rfl⟩ := this (xs := xs) fun x hx => by
    obtain ⟨n, _, e⟩ := List.mem_map.mp (h.mem_iff.mp hx)
    exact ⟨n, e.symm⟩
  have inj : ∀ a b : Nat, dN a = dN b → a = b := fun a b e => by
    rw [dN_def, dN_def] at e
    exact Int.ofNat.inj (D.int.inj e)
  refine ⟨m, rfl, ?_⟩
  have := h.map iOf
  rw [List.map_map, List.map_map] at this
  have e : ∀ l : List Nat, l.map (iOf ∘ dN) = (l.map Int.ofNat).map some := fun l => by rw [List.map_map]; rfl
  rw [e, e] at this
  have := (this.map (Option.getD · 0)).map Int.toNat
  simp only [List.map_map] at this
  have e2 : ∀ l : List Nat, l.map (Int.toNat ∘ (fun x : Option Int => x.getD 0) ∘ some ∘ Int.ofNat) = l := fun l => by
    conv => rhs; rw [← List.map_id l]
    exact List.map_congr_left fun a _ => by simp
  have e3 : ∀ l : List Nat, List.map (Int.toNat ∘ (fun x => x.getD 0) ∘ some ∘ Int.ofNat) l = l := e2
  rw [e3, e3] at this
  exact this
theorem sortN {xs l l' : List Nat} (hp : xs.Perm l') (h : l'.Pairwise (· < ·)) : fSorted [.lst (xs.map dN)] = .ok (.lst (l'.map dN)) := by
  have ok : srtOk (xs.map dN) = true := by
    unfold srtOk
    rw [Bool.and_eq_true, Bool.and_eq_true, okL_all]
    refine ⟨⟨List.all_eq_true.mpr fun x hx => ?_, List.all_eq_true.mpr fun x hx => List.all_eq_true.mpr fun y hy => ?_⟩, Bool.or_eq_true _ _ |>.mpr (.inr (List.all_eq_true.mpr fun x hx => ?_))⟩
    · obtain ⟨n, _, rfl⟩ := List.mem_map.mp hx
      rw [dN_def]
      exact ok_int _ _
    · obtain ⟨n, _, rfl⟩ := List.mem_map.mp hx
      obtain ⟨m, _, rfl⟩ := List.mem_map.mp hy
      rw [toP_N, toP_N, PySem.W.alike]
    · obtain ⟨n, _, rfl⟩ := List.mem_map.mp hx
      rfl
  have pm : ((xs.map dN).mergeSort dLe).Perm (xs.map dN) := List.mergeSort_perm _ dLe
  obtain ⟨m, em, hm⟩ := allN pm
  have pw : ((xs.map dN).mergeSort dLe).Pairwise (fun a b => dLe a b = true) := PySem.W.sort_pairwise (PySem.W.sortLe_total (listOrd itemOrd) false fun b => PySem.W.keyToks (toP b)) _
  rw [em] at pw
  have pw2 : m.Pairwise (· ≤ ·) := (List.pairwise_map.mp pw).imp fun {a b} q => by
    rw [dLe_N, decide_eq_true_eq] at q
    exact q
  have nd : m.Nodup := (hm.trans hp).nodup_iff.mpr (h.imp fun {a b} q e => by omega)
  have e : m = l' := pwN_ext ((pw2.and nd).imp fun {a b} ⟨q, ne⟩ => by
    have ne : a ≠ b := ne
    omega) h fun k => (hm.trans hp).mem_iff
  show (if srtOk (xs.map dN) = true then _ else _) = _
  rw [if_pos ok, em, e]
/-! dicts of whole numbers, all their values True: sets -/
def dT (ks : List Nat) : D := .dic false (ks.map dN) (List.replicate ks.length (.bl true))
theorem kOf_N (n : Nat) : kOf (dN n) = some (.inl (n : Int)) := rfl
theorem find_N (a : Nat) : ∀ ks : List Nat, ((ks.map dN).findIdx? fun j => decide (kOf j = kOf (dN a))) = ks.findIdx? fun j => decide (j = a)
  | [] => rfl
  | k :: ks => by
    rw [List.map_cons, List.findIdx?_cons, List.findIdx?_cons, find_N a ks, kOf_N, kOf_N]
    have : decide ((some (Sum.inl (k : Int)) : Option Key) = some (.inl (a : Int))) = decide (k = a) := by
      simp only [Option.some.injEq, Sum.inl.injEq]
      exact decide_eq_decide.mpr Int.ofNat_inj
    rw [this]
theorem dFind_N (a : Nat) (ks : List Nat) : dFind false (ks.map dN) (dN a) = .ok (ks.findIdx? fun j => decide (j = a)) := by
  show Res.ok _ = _
  rw [← find_N, kOf_N]
theorem isSome_N (a : Nat) (ks : List Nat) : (ks.findIdx? fun j => decide (j = a)).isSome = decide (a ∈ ks) := by
  rw [List.findIdx?_isSome]
  cases h : decide (a ∈ ks) with
  | true => exact List.any_eq_true.mpr ⟨a, of_decide_eq_true h, by simp⟩
  | false =>
    exact List.any_eq_false.mpr fun x hx q => of_decide_eq_false h (of_decide_eq_true q ▸ hx)
theorem dIn_T (a : Nat) (ks : List Nat) : dIn (dN a) (dT ks) = .ok (.bl (decide (a ∈ ks))) := by
  show (match dFind false (ks.map dN) (dN a) with
    | .ok o => Res.ok (D.bl o.isSome)
    | _ => .err) = _
  rw [dFind_N]
  show Res.ok _ = _
  rw [isSome_N]
def addN (ks : List Nat) (k : Nat) : List Nat := if k ∈ ks then ks else ks ++ [k]
theorem mem_addN {ks : List Nat} {k x : Nat} : x ∈ addN ks k ↔ x ∈ ks ∨ x = k := by
  unfold addN
  split
  · rename_i h
    constructor
    · exact .inl
    · rintro (q | q)
      · exact q
      · rw [q]
        exact h
  · simp
theorem nd_addN {ks : List Nat} {k : Nat} (h : ks.Nodup) : (addN ks k).Nodup := by
  unfold addN
  split
  · exact h
  · rename_i q
    exact nd_add h q
theorem len_addN {ks : List Nat} {k : Nat} : (addN ks k).length ≤ ks.length + 1 := by
  unfold addN
  split
  · omega
  · simp
theorem set_rep {α : Type} (a : α) : ∀ (n m : Nat), (List.replicate n a).set m a = List.replicate n a
  | 0, _ => rfl
  | n + 1, 0 => rfl
  | n + 1, m + 1 => by rw [List.replicate_succ, List.set_cons_succ, set_rep a n m]
theorem mPut_T (ks : List Nat) (k : Nat) : mPut (ks.map dN, List.replicate ks.length (.bl true)) (dN k) (.bl true) = ((addN ks k).map dN, List.replicate (addN ks k).length (.bl true)) := by
  unfold mPut
  simp only
  rw [find_N]
  cases h : ks.findIdx? fun j => decide (j = k) with
  | some n =>
    have hk : k ∈ ks := by
      have := isSome_N k ks
      rw [h] at this
      exact of_decide_eq_true this.symm
    unfold addN
    rw [if_pos hk]
    show (ks.map dN, (List.replicate ks.length (D.bl true)).set n (.bl true)) = _
    rw [set_rep]
  | none =>
    have hk : k ∉ ks := by
      have := isSome_N k ks
      rw [h] at this
      exact of_decide_eq_false this.symm
    unfold addN
    rw [if_neg hk]
    show (ks.map dN ++ [dN k], List.replicate ks.length (D.bl true) ++ [.bl true]) = _
    rw [List.map_append, List.length_append, List.length_singleton, List.replicate_succ']
    rfl
theorem merge_T : ∀ (more ks : List Nat), mergeD (ks.map dN, List.replicate ks.length (.bl true)) (more.map dN) (List.replicate more.length (.bl true)) = ((more.foldl addN ks).map dN, List.replicate (more.foldl addN ks).length (.bl true))
  | [], ks => rfl
  | k :: more, ks => by
    show mergeD (mPut _ _ _) (more.map dN) (List.replicate more.length (.bl true)) = _
    rw [mPut_T, merge_T more (addN ks k)]
    rfl
theorem mem_foldN {x : Nat} : ∀ (more ks : List Nat), x ∈ more.foldl addN ks ↔ x ∈ ks ∨ x ∈ more
  | [], ks => by simp
  | k :: more, ks => by
    rw [List.foldl_cons, mem_foldN more, mem_addN, List.mem_cons]
    constructor
    · rintro ((h | h) | h) <;> simp [h]
    · rintro (h | h | h) <;> simp [h]
theorem nd_foldN : ∀ (more ks : List Nat), ks.Nodup → (more.foldl addN ks).Nodup
  | [], ks, h => h
  | k :: more, ks, h => nd_foldN more _ (nd_addN h)
theorem len_foldN : ∀ (more ks : List Nat), (more.foldl addN ks).length ≤ ks.length + more.length
  | [], ks => Nat.le_refl _
  | k :: more, ks => by
    have := len_foldN more (addN ks k)
    have := len_addN (ks := ks) (k := k)
    rw [List.foldl_cons, List.length_cons]
    omega
theorem upd_T {i : Nat} {f : EF} {ρ : Px.Env} {ks more : List Nat} (h : ρ.getD i none = some (dT ks)) (hf : f ρ = .ok (dT more)) (hl : ks.length + more.length ≤ 16777216) : sUpdP i (plVar i) f ρ = .next (ρ.set i (some (dT (more.foldl addN ks)))) := by
  unfold sUpdP plVar
  rw [h]
  show Res.flow (f ρ) ρ _ = _
  rw [hf]
  show (if (List.replicate ks.length (D.bl true)).length + (List.replicate more.length (D.bl true)).length ≤ sizeLine then _ else _) = _
  rw [if_pos (by rw [List.length_replicate, List.length_replicate, sizeLine_eq]; exact hl), merge_T]
  rfl
theorem put_L {i n : Nat} {f fj : EF} {ρ : Px.Env} {xs : List D} {d : D} (h : ρ.getD i none = some (.lst xs)) (hf : f ρ = .ok d) (hj : fj ρ = .ok (.int (n : Nat))) (hn : n < xs.length) : sPutP i (plVar i) fj f ρ = .next (ρ.set i (some (.lst (xs.set n d)))) := by
  unfold sPutP plVar
  rw [hf]
  show Res.flow (match ρ.getD i none with
    | some d => .ok (d, fun x => x)
    | none => .err) ρ _ = _
  rw [h]
  show Res.flow (fj ρ) ρ _ = _
  rw [hj]
  show (match (match ixN xs.length (n : Int) with
    | some m => Res.ok (D.lst (xs.set m d))
    | none => .err) with
    | .ok c => Px.Flow.next (ρ.set i (some c))
    | _ => .err) = _
  have e : ixN xs.length (n : Int) = some n := by
    unfold ixN
    rw [if_pos (by omega), if_pos (by omega)]
    simp
  rw [e]
theorem x_eMeth (c m : Str) (C : List D → Res D) (f : EF) (fs : Px.Env → Res (List D)) (ρ : Px.Env) : eMeth c m C f fs ρ = f ρ >>= fun d => if mOk c m d = true then fs ρ >>= fun ds => C (d :: ds) else .err := id rfl
theorem x_eMake (c : Str) (C : List D → Res D) (fs : Px.Env → Res (List D)) (ρ : Px.Env) : eMake c C fs ρ = fs ρ >>= fun ds => C (.ins c [] [] :: ds) >>= madeOf := id rfl
theorem disp_one {f : EF} {ρ : Px.Env} {n : Nat} (hf : f ρ = .ok (dN n)) : eDisp [(f, eC (.bl true))] ρ = .ok (dT [n]) := by
  unfold eDisp evPairs
  simp only [hf, x_eC, Res.bind_ok, keyD, dN_def, evPairs]
  rfl
theorem lc_filter {α : Type} {gf : Px.Env → D → Res Px.Env} {tt : Px.Env → Res Bool} {f : EF} {ρ : Px.Env} {e : α → D} {p : α → Bool} {g : α → D} : ∀ {xs : List α}, (∀ x ∈ xs, ∃ ρ1, gf ρ (e x) = .ok ρ1 ∧ tt ρ1 = .ok (p x) ∧ f ρ1 = .ok (g x)) → lcE gf tt f ρ (xs.map e) = .ok ((xs.filter p).map g)
  | [], _ => rfl
  | x :: xs, h => by
    obtain ⟨ρ1, h1, h2, h3⟩ := h x List.mem_cons_self
    have ih := lc_filter (xs := xs) fun y hy => h y (List.mem_cons_of_mem _ hy)
    rw [List.map_cons]
    cases q : p x with
    | true => simp [lcE, h1, h2, h3, q, ih]
    | false => simp [lcE, h1, h2, q, ih]
theorem x_sTry (us : List Str) (F : SF) (hs : List (List Str × SF)) (ρ : Px.Env) : sTry us F hs ρ = sTry us F hs ρ := rfl
theorem ok_intsL (k : Nat) (l : List Nat) : okN (k + 1) (.lst (l.map dN)) = true := okN_lst fun x h => by
  obtain ⟨n, _, rfl⟩ := List.mem_map.mp h
  rw [dN_def]
  exact ok_int _ _
theorem any_N (a : Nat) : ∀ ks : List Nat, ((ks.map dN).any fun z => eqD z (dN a)) = decide (a ∈ ks)
  | [] => by simp
  | k :: ks => by
    rw [List.map_cons, List.any_cons, any_N a ks, eqD_N]
    by_cases h : k = a
    · simp [h]
    · simp [h, Ne.symm h]
theorem dIn_L (a : Nat) (ks : List Nat) : dIn (dN a) (.lst (ks.map dN)) = .ok (.bl (decide (a ∈ ks))) := by
  show (if okN 60 (dN a) && okN 60 (.lst (ks.map dN)) then Res.ok (D.bl ((ks.map dN).any fun z => eqD z (dN a))) else .err) = _
  rw [ok_intsL, dN_def, ok_int, any_N]
  rfl
theorem dIn_Tp (a : Nat) (ks : List Nat) : dIn (dN a) (.tup (ks.map dN)) = .ok (.bl (decide (a ∈ ks))) := by
  show (if okN 60 (dN a) && okN 60 (.tup (ks.map dN)) then Res.ok (D.bl ((ks.map dN).any fun z => eqD z (dN a))) else .err) = _
  rw [ok_ints, dN_def, ok_int, any_N]
  rfl
theorem dNotIn_of {a b : D} {x : Bool} (h : dIn a b = .ok (.bl x)) : dNotIn a b = .ok (.bl (!x)) := by
  unfold dNotIn
  rw [h]
theorem putF_new {c f : Str} {ns : List Str} {vs : List D} {x : D} (h : nIdx ns f = none) (hl : ns.length < 1000) : putFld c f (.ins c ns vs) x = .ok (.ins c (ns ++ [f]) (vs ++ [x])) := by
  show (if c = c ∧ ns.length < 1000 then Res.ok (D.ins c (match nIdx ns f with
    | some _ => ns
    | none => ns ++ [f]) (kPut (nIdx ns f) vs x)) else .err) = _
  rw [if_pos ⟨rfl, hl⟩, h]
  rfl
theorem putF_old {c f : Str} {ns : List Str} {vs : List D} {x : D} {m : Nat} (h : nIdx ns f = some m) (hl : ns.length < 1000) : putFld c f (.ins c ns vs) x = .ok (.ins c ns (vs.set m x)) := by
  show (if c = c ∧ ns.length < 1000 then Res.ok (D.ins c (match nIdx ns f with
    | some _ => ns
    | none => ns ++ [f]) (kPut (nIdx ns f) vs x)) else .err) = _
  rw [if_pos ⟨rfl, hl⟩, h]
  rfl
theorem fld_at {c f : Str} {ns : List Str} {vs : List D} {x : D} {m : Nat} (h : nIdx ns f = some m) (hx : vs[m]? = some x) : dFld c f (.ins c ns vs) = .ok x := by
  show ((if c = c then (match nIdx ns f with
    | some n => Res.ok n
    | none => .err) else .err) >>= fun m => match vs[m]? with
    | some x => Res.ok x
    | none => .err) = _
  rw [if_pos rfl, h]
  show (match vs[m]? with
    | some x => Res.ok x
    | none => .err) = _
  rw [hx]
theorem meth_of {c m : Str} {ns : List Str} {vs : List D} (h : nIdx ns m = none) : mOk c m (.ins c ns vs) = true := by
  show (decide (c = c) && (nIdx ns m).isNone) = true
  rw [h]
  simp
theorem x_fldP (c : Str) (i : Nat) (x : Str) (f : EF) (ρ : Px.Env) (d s y : D) (hf : f ρ = .ok d) (hs : ρ.getD i none = some s) (hy : putFld c x s d = .ok y) : sFldP c i (plVar i) x f ρ = .next (ρ.set i (some y)) := by
  unfold sFldP plVar
  rw [hf]
  show Res.flow (match ρ.getD i none with
    | some d => .ok (d, fun x => x)
    | none => .err) ρ _ = _
  rw [hs]
  show (match putFld c x s d with
    | .ok y => Px.Flow.next (ρ.set i (some y))
    | _ => .err) = _
  rw [hy]
theorem dRng2_nat (a b : Nat) (h : b ≤ 16777216) (h2 : a ≤ 16777216) : dRng2 [.int a, .int b] = .ok ((List.range (b - a)).map fun i => .int ((a : Int) + (i : Nat))) := by
  show (if _ then Res.ok (rng (a : Int) ((b : Int) - a).toNat) else .err) = _
  rw [if_pos ⟨by omega, by omega, by omega, by omega, by omega⟩, show ((b : Int) - a).toNat = b - a by omega]
  rfl
end Px

namespace K
open PySem PySem.Spec PyProof.Rows L2 Px
/-! _law_draws -/
def B__law_draws_2 : SF := (sSeq (sIf (eUn asB (eOp (dCmpI iGt) (eVar 5) (eC (.int 0)))) (sSeq (sAppend 2 (eOp dMod (eCall fInt (aCons (eVar 5) aNil)) (eC (.int 1009))))
  (sSet 5 (eOp dDiv (eVar 5) (eC (.int 1009))))) sNext)
  (sKill [6] sNext))
def B__law_draws_1 : SF := (sSeq (sSet 5 (eCall fAbs (aCons (eVar 4) aNil)))
  (sSeq (sSet 3 (eOp dMod (eCall fInt (aCons (eOp dAdd (eOp dAdd (eOp dMul (eVar 3) (eC (.int 48271))) (eVar 5)) (eC (.int 11))) aNil)) (eC (.int 2147483647))))
  (sSeq (sIf (eUn asB (eOp (dCmpI iGe) (eVar 5) (eOp dPow (eC (.int 10)) (eC (.int 18))))) (sSeq (sFor (iCall dRng1 (aCons (eC (.int 60)) aNil)) (gfName 6)
  B__law_draws_2)
  (sKill [5, 6] sNext)) (sAppend 2 (eOp dMod (eOp dDiv (eCall fInt (aCons (eOp dAdd (eOp dMul (eVar 3) (eC (.int 16807))) (eC (.int 5))) aNil)) (eC (.int 3))) (eC (.int 65521)))))
  (sKill [4, 5, 6] sNext))))
def B__law_draws_3 : SF := (sSeq (sIf (eUn asB (eOp (dCmpI iLt) (eCall fLen (aCons (eVar 2) aNil)) (eVar 1))) (sSeq (sSet 3 (eOp dMod (eCall fInt (aCons (eOp dAdd (eOp dAdd (eOp dMul (eVar 3) (eC (.int 69621))) (eVar 6)) (eC (.int 1))) aNil)) (eC (.int 2147483647))))
  (sAppend 2 (eOp dMod (eOp dDiv (eCall fInt (aCons (eVar 3) aNil)) (eC (.int 7))) (eC (.int 65521))))) sNext)
  (sKill [6] sNext))
def F__law_draws : SF := (sSeq (sSet 2 (eC (.lst [])))
  (sSeq (sSet 3 (eC (.int 7)))
  (sSeq (sFor (iSeq (eSl (eVar 0) oNone (oSome (eC (.int 63))))) (gfName 4)
  B__law_draws_1)
  (sKill [4, 5, 6] (sSeq (sFor (iCall dRng1 (aCons (eVar 1) aNil)) (gfName 6)
  B__law_draws_3)
  (sKill [3, 6] (sRet (eSl (eVar 2) oNone (oSome (eVar 1))))))))))
def C__law_draws : List D → Res D := fnE 7 F__law_draws
/-! _ancestors -/
def B__ancestors_3 : SF := (sUpdP 6 (plVar 6) (eOp dIx (eVar 1) (eVar 4)))
def B__ancestors_2 : SF := (sSeq (sSet 6 (eDisp (((eVar 3), (eC (.bl true))) :: [])))
  (sSeq (sFor (iSeq (eOp dIx (eVar 0) (eVar 3))) (gfName 4)
  B__ancestors_3)
  (sSeq (sPutP 1 (plVar 1) (eVar 3) (eVar 6))
  (sKill [6] sNext))))
def B__ancestors_1 : SF := (sSeq (sSet 5 (eLc (iSeq (eVar 2)) [3] (gfName 3) (eUn dTru (eCall fAll (aCons (eLc (iSeq (eOp dIx (eVar 0) (eVar 3))) [4] (gfName 4) bYes (eOp (dIsNot) (eOp dIx (eVar 1) (eVar 4)) (eC .non))) aNil))) (eVar 3)))
  (sSeq (sIf (eUn asB (eOp (dEq) (eCall fLen (aCons (eVar 5) aNil)) (eC (.int 0)))) (sRet (eC .non)) sNext)
  (sSeq (sFor (iSeq (eVar 5)) (gfName 3)
  B__ancestors_2)
  (sKill [6] (sSeq (sSet 2 (eLc (iSeq (eVar 2)) [3] (gfName 3) (eUn asB (eOp (dNotIn) (eVar 3) (eVar 5))) (eVar 3)))
  (sKill [5, 6] sNext))))))
def F__ancestors : SF := (sSeq (sSet 1 (eOp dRep (eLst (aCons (eC .non) aNil)) (eCall fLen (aCons (eVar 0) aNil))))
  (sSeq (sSet 2 (eRg1 .lst (eCall fLen (aCons (eVar 0) aNil))))
  (sSeq (sWhile 100000 (eUn asB (eOp (dCmpI iGt) (eCall fLen (aCons (eVar 2) aNil)) (eC (.int 0))))
  B__ancestors_1)
  (sKill [2, 3, 4, 5, 6] (sRet (eVar 1))))))
def C__ancestors : List D → Res D := fnE 7 F__ancestors
/-! ascends -/
def F_ascends : SF := (sRet (eCall fAll (aCons (eLc (iCall dRng1 (aCons (eOp dSub (eCall fLen (aCons (eVar 0) aNil)) (eC (.int 1))) aNil)) [1] (gfName 1) bYes (eOp (dCmpI iLt) (eOp dIx (eVar 0) (eVar 1)) (eOp dIx (eVar 0) (eOp dAdd (eVar 1) (eC (.int 1)))))) aNil)))
def C_ascends : List D → Res D := fnE 2 F_ascends
/-! is_whole -/
def F_is_whole : SF := (sRet (eAnd (eUn (dIsi isInt) (eVar 0)) (eAnd (eNot (eUn (dIsi isBool) (eVar 0))) (eChain (dCmpI iLe) (dCmpI iLe) (eVar 1) (eVar 0) (eVar 2)))))
def C_is_whole : List D → Res D := fnE 3 F_is_whole
/-! _are_parents -/
def B__are_parents_1 : SF := (sSeq (sIf (bOr (bNot (eUn dTru (eUn (dIsi isTup) (eVar 1)))) (bOr (bNot (eUn dTru (eCall fAll (aCons (eLc (iSeq (eVar 1)) [2] (gfName 2) bYes (eCall C_is_whole (aCons (eVar 2) (aCons (eC (.int 0)) (aCons (eOp dSub (eCall fLen (aCons (eVar 0) aNil)) (eC (.int 1))) aNil))))) aNil)))) (bNot (eUn dTru (eCall C_ascends (aCons (eVar 1) aNil)))))) (sRet (eC (.bl false))) sNext)
  (sKill [1] sNext))
def F__are_parents : SF := (sSeq (sIf (bOr (bNot (eUn dTru (eUn (dIsi isTup) (eVar 0)))) (bNot (eUn asB (eChain (dCmpI iLe) (dCmpI iLe) (eC (.int 1)) (eCall fLen (aCons (eVar 0) aNil)) (eC (.int 40)))))) (sRet (eC (.bl false))) sNext)
  (sSeq (sFor (iSeq (eVar 0)) (gfName 1)
  B__are_parents_1)
  (sKill [1] (sRet (eC (.bl true))))))
def C__are_parents : List D → Res D := fnE 3 F__are_parents
/-! History.__init__ -/
def F_History___init__ : SF := (sSeq (sIf (bNot (eUn dTru (eCall C__are_parents (aCons (eVar 1) aNil)))) (sRaise "BadHistory") sNext)
  (sSeq (sSet 2 (eCall C__ancestors (aCons (eVar 1) aNil)))
  (sSeq (sIf (eUn asB (eOp (dIs) (eVar 2) (eC .non))) (sRaise "BadHistory") sNext)
  (sSeq (sFldP "History" 0 (plVar 0) "parents" (eVar 1))
  (sSeq (sFldP "History" 0 (plVar 0) "size" (eCall fLen (aCons (eVar 1) aNil)))
  (sFldP "History" 0 (plVar 0) "_ancestors" (eVar 2)))))))
def C_History___init__ : List D → Res D := fnM 3 F_History___init__
/-! _law_parents -/
def B__law_parents_1 : SF := (sSeq (sSet 7 (eCall fInt (aCons (eOp dIx (eVar 0) (eOp dAdd (eVar 1) (eVar 6))) aNil)))
  (sSeq (sSet 8 (eOp dIx (eLst (aCons (eOp dMod (eVar 7) (eC (.int 3))) (aCons (eC (.int 1)) (aCons (eOp dAdd (eC (.int 1)) (eOp dMod (eVar 7) (eC (.int 2)))) (aCons (eOp dMod (eVar 7) (eC (.int 4))) aNil))))) (eVar 4)))
  (sSeq (sSet 9 (eLc (iCall dRng1 (aCons (eVar 8) aNil)) [14] (gfName 14) bYes (eOp dMod (eOp dDiv (eVar 7) (eOp dAdd (eOp dMul (eC (.int 3)) (eVar 14)) (eC (.int 2)))) (eCall fMin (aCons (eVar 6) (aCons (eOp dIx (eLst (aCons (eVar 6) (aCons (eVar 6) (aCons (eC (.int 4)) (aCons (eVar 6) aNil))))) (eVar 4)) aNil))))))
  (sSeq (sAppend 5 (eCall fTuple (aCons (eUn dSortedSet (eLc (iSeq (eVar 9)) [15] (gfName 15) bYes (eOp dSub (eOp dSub (eVar 6) (eC (.int 1))) (eVar 15)))) aNil)))
  (sKill [6, 7, 8, 9] sNext)))))
def B__law_parents_2 : SF := (sSeq (sSet 12 (eIf (eUn asB (eOp (dEq) (eOp dMod (eOp dDiv (eCall fInt (aCons (eOp dIx (eVar 0) (eVar 1)) aNil)) (eC (.int 7))) (eC (.int 2))) (eC (.int 0)))) (eOp dMod (eOp dDiv (eCall fInt (aCons (eOp dIx (eVar 0) (eOp dAdd (eVar 1) (eVar 6))) aNil)) (eC (.int 11))) (eCall fLen (aCons (eVar 11) aNil))) (eC (.int 0))))
  (sSeq (sAppend 10 (eOp dIx (eVar 11) (eVar 12)))
  (sSeq (sSet 11 (eOp dAdd (eSl (eVar 11) oNone (oSome (eVar 12))) (eSl (eVar 11) (oSome (eOp dAdd (eVar 12) (eC (.int 1)))) oNone)))
  (sKill [6, 12] sNext))))
def B__law_parents_3 : SF := (sSeq (sPutP 13 (plVar 13) (eOp dIx (eVar 10) (eVar 6)) (eCall fTuple (aCons (eCall fSorted (aCons (eLc (iSeq (eOp dIx (eVar 5) (eVar 6))) [15] (gfName 15) bYes (eOp dIx (eVar 10) (eVar 15))) aNil)) aNil)))
  (sKill [6] sNext))
def F__law_parents : SF := (sSeq (sPar [3, 4] [(eOp dAdd (eC (.int 1)) (eOp dMod (eCall fInt (aCons (eOp dIx (eVar 0) (eVar 1)) aNil)) (eVar 2))), (eOp dMod (eOp dDiv (eCall fInt (aCons (eOp dIx (eVar 0) (eVar 1)) aNil)) (eVar 2)) (eC (.int 4)))])
  (sSeq (sSet 5 (eLst (aCons (eTup aNil) aNil)))
  (sSeq (sFor (iCall dRng2 (aCons (eC (.int 1)) (aCons (eVar 3) aNil))) (gfName 6)
  B__law_parents_1)
  (sKill [6, 7, 8, 9] (sSeq (sPar [10, 11] [(eC (.lst [])), (eRg1 .lst (eVar 3))])
  (sSeq (sFor (iCall dRng1 (aCons (eVar 3) aNil)) (gfName 6)
  B__law_parents_2)
  (sKill [6, 11, 12] (sSeq (sSet 13 (eOp dRep (eLst (aCons (eTup aNil) aNil)) (eVar 3)))
  (sSeq (sFor (iCall dRng1 (aCons (eVar 3) aNil)) (gfName 6)
  B__law_parents_3)
  (sKill [6] (sRet (eCall fTuple (aCons (eVar 13) aNil)))))))))))))
def C__law_parents : List D → Res D := fnE 16 F__law_parents
/-! History.is_above -/
def F_History_is_above : SF := (sRet (eOp (dIn) (eVar 1) (eOp dIx (eUn (dFld "History" "_ancestors") (eVar 0)) (eVar 2))))
def C_History_is_above : List D → Res D := fnE 3 F_History_is_above
/-! _last_ones -/
def B__last_ones_1 : SF := (sSeq (sIf (bNot (eUn dTru (eCall fAny (aCons (eLc (iSeq (eVar 1)) [4] (gfName 4) bYes (eAnd (eOp (dNe) (eVar 4) (eVar 3)) (eMeth "History" "is_above" C_History_is_above (eVar 0) (aCons (eVar 3) (aCons (eVar 4) aNil))))) aNil)))) (sAppend 2 (eVar 3)) sNext)
  (sKill [3] sNext))
def F__last_ones : SF := (sSeq (sSet 2 (eC (.lst [])))
  (sSeq (sFor (iSeq (eVar 1)) (gfName 3)
  B__last_ones_1)
  (sKill [3] (sRet (eCall fTuple (aCons (eVar 2) aNil))))))
def C__last_ones : List D → Res D := fnE 5 F__last_ones
/-! lesser_parents -/
def F_lesser_parents : SF := (sRet (eMake "History" C_History___init__ (aCons (eCall fTuple (aCons (eLc (iSeq (eUn (dFld "History" "parents") (eVar 0))) [1] (gfName 1) bYes (eCall C__last_ones (aCons (eVar 0) (aCons (eVar 1) aNil)))) aNil)) aNil)))
def C_lesser_parents : List D → Res D := fnE 2 F_lesser_parents
/-! _law_above -/
def B__law_above_1 : SF := (sSeq (sSet 2 (eOp dAdd (eVar 2) (eLc (iSeq (eOp dIx (eVar 0) (eOp dIx (eVar 2) (eVar 3)))) [4] (gfName 4) (eUn asB (eOp (dNotIn) (eVar 4) (eVar 2))) (eVar 4))))
  (sSet 3 (eOp dAdd (eVar 3) (eC (.int 1)))))
def F__law_above : SF := (sSeq (sPar [2, 3] [(eLst (aCons (eVar 1) aNil)), (eC (.int 0))])
  (sSeq (sWhile 100000 (eUn asB (eOp (dCmpI iLt) (eVar 3) (eCall fLen (aCons (eVar 2) aNil))))
  B__law_above_1)
  (sKill [3] (sRet (eCall fSorted (aCons (eVar 2) aNil))))))
def C__law_above : List D → Res D := fnE 5 F__law_above
/-! check_versions -/
def F_check_versions : SF := (sIf (bNot (eUn dTru (eCall fAll (aCons (eLc (iSeq (eVar 1)) [2] (gfName 2) bYes (eCall C_is_whole (aCons (eVar 2) (aCons (eC (.int 0)) (aCons (eOp dSub (eUn (dFld "History" "size") (eVar 0)) (eC (.int 1))) aNil))))) aNil)))) (sRaise "BadVersion") sNext)
def C_check_versions : List D → Res D := fnE 3 F_check_versions
/-! History.above -/
def F_History_above : SF := (sRet (eCall fTuple (aCons (eCall fSortedD (aCons (eOp dIx (eUn (dFld "History" "_ancestors") (eVar 0)) (eVar 1)) aNil)) aNil)))
def C_History_above : List D → Res D := fnE 2 F_History_above
/-! nearest -/
def F_nearest : SF := (sSeq (sDrop (eCall C_check_versions (aCons (eVar 0) (aCons (eLst (aCons (eVar 1) (aCons (eVar 2) aNil))) aNil))))
  (sSeq (sSet 3 (eLc (iSeq (eMeth "History" "above" C_History_above (eVar 0) (aCons (eVar 1) aNil))) [4] (gfName 4) (eUn dTru (eMeth "History" "is_above" C_History_is_above (eVar 0) (aCons (eVar 4) (aCons (eVar 2) aNil)))) (eVar 4)))
  (sRet (eCall C__last_ones (aCons (eVar 0) (aCons (eVar 3) aNil))))))
def C_nearest : List D → Res D := fnE 5 F_nearest
/-! _law_refused -/
def F__law_refused : SF := (sSeq (sTry ["BadHistory", "BadVersion"] (sDrop (eCall C_nearest (aCons (eVar 0) (aCons (eVar 1) (aCons (eVar 2) aNil))))) [(["BadVersion"], (sNx (sRet (eC (.bl true)))))])
  (sRet (eC (.bl false))))
def C__law_refused : List D → Res D := fnE 3 F__law_refused
/-! law -/
def B_law_3 : SF := (sSeq (sSet 10 (eLc (iSeq (eOp dIx (eVar 7) (eVar 8))) [6] (gfName 6) (eUn asB (eOp (dIn) (eVar 6) (eOp dIx (eVar 7) (eVar 9)))) (eVar 6)))
  (sSeq (sSet 12 (eCall fTuple (aCons (eLc (iSeq (eVar 10)) [6] (gfName 6) (bNot (eUn dTru (eCall fAny (aCons (eLc (iSeq (eVar 10)) [11] (gfName 11) bYes (eAnd (eOp (dNe) (eVar 11) (eVar 6)) (eOp (dIn) (eVar 6) (eOp dIx (eVar 7) (eVar 11))))) aNil)))) (eVar 6)) aNil)))
  (sSeq (sSet 13 (eCall C_nearest (aCons (eVar 4) (aCons (eVar 8) (aCons (eVar 9) aNil)))))
  (sSeq (sIf (bOr (bNot (eUn dTru (eUn (dIsi isTup) (eVar 13)))) (bOr (eUn asB (eOp (dNe) (eVar 13) (eVar 12))) (bOr (eUn asB (eOp (dNe) (eCall C_nearest (aCons (eVar 4) (aCons (eVar 9) (aCons (eVar 8) aNil)))) (eVar 12))) (eUn dTru (eCall fAny (aCons (eLc (iSeq (eVar 13)) [6] (gfName 6) bYes (eUn (dIsi isBool) (eVar 6))) aNil)))))) (sRet (eC (.bl false))) sNext)
  (sSeq (sIf (bOr (bNot (eUn dTru (eCall fAll (aCons (eLc (iSeq (eVar 10)) [6] (gfName 6) bYes (eCall fAny (aCons (eLc (iSeq (eVar 13)) [11] (gfName 11) bYes (eOp (dIn) (eVar 6) (eOp dIx (eVar 7) (eVar 11)))) aNil))) aNil)))) (bAnd (eUn asB (eOp (dIn) (eVar 8) (eOp dIx (eVar 7) (eVar 9)))) (eUn asB (eOp (dNe) (eVar 13) (eTup (aCons (eVar 8) aNil)))))) (sRet (eC (.bl false))) sNext)
  (sKill [9, 10, 12, 13] sNext))))))
def B_law_2 : SF := (sSeq (sFor (iCall dRng1 (aCons (eOp dAdd (eVar 8) (eC (.int 1))) aNil)) (gfName 9)
  B_law_3)
  (sKill [9, 10, 12, 13] (sKill [8, 9, 10, 12, 13] sNext)))
def B_law_5 : SF := (sSeq (sSet 16 (eOp dAdd (eOp dAdd (eSl (eUn (dFld "History" "parents") (eVar 14)) oNone (oSome (eVar 6))) (eTup (aCons (eOp dAdd (eSl (eVar 15) oNone (oSome (eVar 11))) (eSl (eVar 15) (oSome (eOp dAdd (eVar 11) (eC (.int 1)))) oNone)) aNil))) (eSl (eUn (dFld "History" "parents") (eVar 14)) (oSome (eOp dAdd (eVar 6) (eC (.int 1)))) oNone)))
  (sSeq (sIf (eUn asB (eOp (dEq) (eCall C__law_above (aCons (eVar 16) (aCons (eVar 6) aNil))) (eOp dIx (eVar 7) (eVar 6)))) (sRet (eC (.bl false))) sNext)
  (sKill [16] sNext)))
def B_law_4 : SF := (sSeq (sSet 15 (eCall fTuple (aCons (eLc (iSeq (eOp dIx (eVar 3) (eVar 6))) [11] (gfName 11) (bNot (eUn dTru (eCall fAny (aCons (eLc (iSeq (eOp dIx (eVar 3) (eVar 6))) [19] (gfName 19) bYes (eAnd (eOp (dNe) (eVar 19) (eVar 11)) (eOp (dIn) (eVar 11) (eOp dIx (eVar 7) (eVar 19))))) aNil)))) (eVar 11)) aNil)))
  (sSeq (sIf (bOr (eUn asB (eOp (dNe) (eOp dIx (eUn (dFld "History" "parents") (eVar 14)) (eVar 6)) (eVar 15))) (eUn asB (eOp (dNe) (eCall C__law_above (aCons (eUn (dFld "History" "parents") (eVar 14)) (aCons (eVar 6) aNil))) (eOp dIx (eVar 7) (eVar 6))))) (sRet (eC (.bl false))) sNext)
  (sSeq (sFor (iCall dRng1 (aCons (eCall fLen (aCons (eVar 15) aNil)) aNil)) (gfName 11)
  B_law_5)
  (sKill [16] (sKill [15, 16] sNext)))))
def B_law_6 : SF := (sSeq (sIf (bOr (bNot (eUn dTru (eCall C__law_refused (aCons (eVar 4) (aCons (eVar 17) (aCons (eC (.int 0)) aNil)))))) (bNot (eUn dTru (eCall C__law_refused (aCons (eVar 4) (aCons (eC (.int 0)) (aCons (eVar 17) aNil))))))) (sRet (eC (.bl false))) sNext)
  (sKill [17] sNext))
def B_law_1 : SF := (sSeq (sSet 3 (eCall C__law_parents (aCons (eVar 1) (aCons (eOp dIx (eLst (aCons (eC (.int 0)) (aCons (eC (.int 8)) (aCons (eC (.int 16)) aNil)))) (eVar 2)) (aCons (eOp dIx (eLst (aCons (eC (.int 6)) (aCons (eC (.int 24)) (aCons (eC (.int 14)) aNil)))) (eVar 2)) aNil)))))
  (sSeq (sPar [4, 5] [(eMake "History" C_History___init__ (aCons (eVar 3) aNil)), (eCall fLen (aCons (eVar 3) aNil))])
  (sSeq (sSet 7 (eLc (iCall dRng1 (aCons (eVar 5) aNil)) [6] (gfName 6) bYes (eCall C__law_above (aCons (eVar 3) (aCons (eVar 6) aNil)))))
  (sSeq (sFor (iCall dRng1 (aCons (eVar 5) aNil)) (gfName 8)
  B_law_2)
  (sKill [8, 9, 10, 12, 13] (sSeq (sSet 14 (eCall C_lesser_parents (aCons (eVar 4) aNil)))
  (sSeq (sFor (iCall dRng1 (aCons (eVar 5) aNil)) (gfName 6)
  B_law_4)
  (sKill [15, 16] (sSeq (sFor (iSeq (eLst (aCons (eUn dNeg (eC (.int 1))) (aCons (eVar 5) (aCons (eC (.bl true)) (aCons (eC .non) (aCons (eC (.str "0")) aNil))))))) (gfName 17)
  B_law_6)
  (sKill [17] (sSeq (sIf (bOr (eUn asB (eOp (dNe) (eUn (dFld "History" "size") (eVar 14)) (eVar 5))) (eUn asB (eOp (dNe) (eUn (dFld "History" "parents") (eVar 4)) (eVar 3)))) (sRet (eC (.bl false))) sNext)
  (sKill [2, 3, 4, 5, 7, 8, 9, 10, 12, 13, 14, 15, 16, 17] sNext))))))))))))
def F_law : SF := (sSeq (sSet 1 (eCall C__law_draws (aCons (eVar 0) (aCons (eC (.int 70)) aNil))))
  (sSeq (sFor (iCall dRng1 (aCons (eC (.int 3)) aNil)) (gfName 2)
  B_law_1)
  (sKill [2, 3, 4, 5, 6, 7, 8, 9, 10, 11, 12, 13, 14, 15, 16, 17] (sSeq (sSet 18 (eMake "History" C_History___init__ (aCons (eTup (aCons (eTup aNil) (aCons (eTup aNil) (aCons (eTup (aCons (eC (.int 0)) (aCons (eC (.int 1)) aNil))) (aCons (eTup (aCons (eC (.int 0)) (aCons (eC (.int 1)) aNil))) (aCons (eTup (aCons (eC (.int 2)) (aCons (eC (.int 3)) aNil))) aNil)))))) aNil)))
  (sRet (eAnd (eOp (dEq) (eCall C_nearest (aCons (eVar 18) (aCons (eC (.int 2)) (aCons (eC (.int 3)) aNil)))) (eTup (aCons (eC (.int 0)) (aCons (eC (.int 1)) aNil)))) (eAnd (eOp (dEq) (eCall C_nearest (aCons (eMake "History" C_History___init__ (aCons (eTup (aCons (eTup aNil) (aCons (eTup aNil) aNil))) aNil)) (aCons (eC (.int 0)) (aCons (eC (.int 1)) aNil)))) (eTup aNil)) (eOp (dEq) (eCall C_nearest (aCons (eVar 18) (aCons (eC (.int 4)) (aCons (eC (.int 4)) aNil)))) (eTup (aCons (eC (.int 4)) aNil))))))))))
def C_law : List D → Res D := fnE 20 F_law
end K
namespace K
open PySem PySem.Spec PyProof.Rows L2 Px
def topS (i : Nat) : Stmt := PySem.Challenge.pw_patchwright_k30_nearest_ancestors.main.body.getD i (.Pass ⟨0, 0, 0, 0⟩)
def topM (i j : Nat) : Stmt := (clsBody (topS i)).getD j (.Pass ⟨0, 0, 0, 0⟩)
/-! _law_draws -/
abbrev s__law_draws : Stmt := topS 17
abbrev n__law_draws : List Str := ["script", "many", "draws", "seed", "cell", "number", "k"]
theorem sc__law_draws : FnScope n__law_draws ["script", "many"] (defScope s__law_draws) := ⟨rfl, rfl, rfl, by decide +kernel, rfl, by decide +kernel, by decide +kernel⟩
/-! _ancestors -/
abbrev s__ancestors : Stmt := topS 10
abbrev n__ancestors : List Str := ["parents", "found", "left", "one", "parent", "ready", "every"]
theorem sc__ancestors : FnScope n__ancestors ["parents"] (defScope s__ancestors) := ⟨rfl, rfl, rfl, by decide +kernel, rfl, by decide +kernel, by decide +kernel⟩
/-! ascends -/
abbrev s_ascends : Stmt := topS 8
abbrev n_ascends : List Str := ["value", "at"]
theorem sc_ascends : FnScope n_ascends ["value"] (defScope s_ascends) := ⟨rfl, rfl, rfl, by decide +kernel, rfl, by decide +kernel, by decide +kernel⟩
/-! is_whole -/
abbrev s_is_whole : Stmt := topS 7
abbrev n_is_whole : List Str := ["value", "least", "most"]
theorem sc_is_whole : FnScope n_is_whole ["value", "least", "most"] (defScope s_is_whole) := ⟨rfl, rfl, rfl, by decide +kernel, rfl, by decide +kernel, by decide +kernel⟩
/-! _are_parents -/
abbrev s__are_parents : Stmt := topS 9
abbrev n__are_parents : List Str := ["value", "row", "one"]
theorem sc__are_parents : FnScope n__are_parents ["value"] (defScope s__are_parents) := ⟨rfl, rfl, rfl, by decide +kernel, rfl, by decide +kernel, by decide +kernel⟩
/-! History.__init__ -/
abbrev s_History___init__ : Stmt := topM 11 0
abbrev n_History___init__ : List Str := ["self", "parents", "every"]
theorem sc_History___init__ : FnScope n_History___init__ ["self", "parents"] (defScope s_History___init__) := ⟨rfl, rfl, rfl, by decide +kernel, rfl, by decide +kernel, by decide +kernel⟩
/-! _law_parents -/
abbrev s__law_parents : Stmt := topS 18
abbrev n__law_parents : List Str := ["draws", "at", "most", "size", "kind", "rows", "k", "draw", "many", "near", "names", "left", "j", "found", "n", "one"]
theorem sc__law_parents : FnScope n__law_parents ["draws", "at", "most"] (defScope s__law_parents) := ⟨rfl, rfl, rfl, by decide +kernel, rfl, by decide +kernel, by decide +kernel⟩
/-! History.is_above -/
abbrev s_History_is_above : Stmt := topM 11 2
abbrev n_History_is_above : List Str := ["self", "one", "other"]
theorem sc_History_is_above : FnScope n_History_is_above ["self", "one", "other"] (defScope s_History_is_above) := ⟨rfl, rfl, rfl, by decide +kernel, rfl, by decide +kernel, by decide +kernel⟩
/-! _last_ones -/
abbrev s__last_ones : Stmt := topS 13
abbrev n__last_ones : List Str := ["history", "some", "found", "one", "other"]
theorem sc__last_ones : FnScope n__last_ones ["history", "some"] (defScope s__last_ones) := ⟨rfl, rfl, rfl, by decide +kernel, rfl, by decide +kernel, by decide +kernel⟩
/-! lesser_parents -/
abbrev s_lesser_parents : Stmt := topS 15
abbrev n_lesser_parents : List Str := ["history", "row"]
theorem sc_lesser_parents : FnScope n_lesser_parents ["history"] (defScope s_lesser_parents) := ⟨rfl, rfl, rfl, by decide +kernel, rfl, by decide +kernel, by decide +kernel⟩
/-! _law_above -/
abbrev s__law_above : Stmt := topS 19
abbrev n__law_above : List Str := ["parents", "version", "found", "at", "one"]
theorem sc__law_above : FnScope n__law_above ["parents", "version"] (defScope s__law_above) := ⟨rfl, rfl, rfl, by decide +kernel, rfl, by decide +kernel, by decide +kernel⟩
/-! check_versions -/
abbrev s_check_versions : Stmt := topS 12
abbrev n_check_versions : List Str := ["history", "values", "value"]
theorem sc_check_versions : FnScope n_check_versions ["history", "values"] (defScope s_check_versions) := ⟨rfl, rfl, rfl, by decide +kernel, rfl, by decide +kernel, by decide +kernel⟩
/-! History.above -/
abbrev s_History_above : Stmt := topM 11 1
abbrev n_History_above : List Str := ["self", "version"]
theorem sc_History_above : FnScope n_History_above ["self", "version"] (defScope s_History_above) := ⟨rfl, rfl, rfl, by decide +kernel, rfl, by decide +kernel, by decide +kernel⟩
/-! nearest -/
abbrev s_nearest : Stmt := topS 14
abbrev n_nearest : List Str := ["history", "one", "other", "common", "version"]
theorem sc_nearest : FnScope n_nearest ["history", "one", "other"] (defScope s_nearest) := ⟨rfl, rfl, rfl, by decide +kernel, rfl, by decide +kernel, by decide +kernel⟩
/-! _law_refused -/
abbrev s__law_refused : Stmt := topS 20
abbrev n__law_refused : List Str := ["history", "one", "other"]
theorem sc__law_refused : FnScope n__law_refused ["history", "one", "other"] (defScope s__law_refused) := ⟨rfl, rfl, rfl, by decide +kernel, rfl, by decide +kernel, by decide +kernel⟩
/-! law -/
abbrev s_law : Stmt := topS 21
abbrev n_law : List Str := ["script", "draws", "turn", "parents", "history", "size", "k", "above", "one", "other", "common", "n", "due", "told", "lesser", "rows", "bent", "wrong", "crossed", "m"]
theorem sc_law : FnScope n_law ["script"] (defScope s_law) := ⟨rfl, rfl, rfl, by decide +kernel, rfl, by decide +kernel, by decide +kernel⟩
structure Txt (K : PySem.W.Frag) (mg : Str → Option Value) : Prop where
  F__law_draws : ∃ fd, Fun K "_law_draws" "_law_draws" s__law_draws (He.ga K "_law_draws") fd ∧ BA fd ["script", "many"]
  g__law_draws : mg "_law_draws" = some (.ref (He.ga K "_law_draws"))
  F__ancestors : ∃ fd, Fun K "_ancestors" "_ancestors" s__ancestors (He.ga K "_ancestors") fd ∧ BA fd ["parents"]
  g__ancestors : mg "_ancestors" = some (.ref (He.ga K "_ancestors"))
  F_ascends : ∃ fd, Fun K "ascends" "ascends" s_ascends (He.ga K "ascends") fd ∧ BA fd ["value"]
  g_ascends : mg "ascends" = some (.ref (He.ga K "ascends"))
  F_is_whole : ∃ fd, Fun K "is_whole" "is_whole" s_is_whole (He.ga K "is_whole") fd ∧ BA fd ["value", "least", "most"]
  g_is_whole : mg "is_whole" = some (.ref (He.ga K "is_whole"))
  F__are_parents : ∃ fd, Fun K "_are_parents" "_are_parents" s__are_parents (He.ga K "_are_parents") fd ∧ BA fd ["value"]
  g__are_parents : mg "_are_parents" = some (.ref (He.ga K "_are_parents"))
  F_History___init__ : ∃ fd, Fun K "__init__" "History.__init__" s_History___init__ (He.ma K (He.ga K "History") "__init__") fd ∧ BA fd ["self", "parents"]
  m_History___init__ : Meth K (He.ga K "History") "__init__" (He.ma K (He.ga K "History") "__init__")
  F__law_parents : ∃ fd, Fun K "_law_parents" "_law_parents" s__law_parents (He.ga K "_law_parents") fd ∧ BA fd ["draws", "at", "most"]
  g__law_parents : mg "_law_parents" = some (.ref (He.ga K "_law_parents"))
  F_History_is_above : ∃ fd, Fun K "is_above" "History.is_above" s_History_is_above (He.ma K (He.ga K "History") "is_above") fd ∧ BA fd ["self", "one", "other"]
  m_History_is_above : Meth K (He.ga K "History") "is_above" (He.ma K (He.ga K "History") "is_above")
  F__last_ones : ∃ fd, Fun K "_last_ones" "_last_ones" s__last_ones (He.ga K "_last_ones") fd ∧ BA fd ["history", "some"]
  g__last_ones : mg "_last_ones" = some (.ref (He.ga K "_last_ones"))
  F_lesser_parents : ∃ fd, Fun K "lesser_parents" "lesser_parents" s_lesser_parents (He.ga K "lesser_parents") fd ∧ BA fd ["history"]
  g_lesser_parents : mg "lesser_parents" = some (.ref (He.ga K "lesser_parents"))
  F__law_above : ∃ fd, Fun K "_law_above" "_law_above" s__law_above (He.ga K "_law_above") fd ∧ BA fd ["parents", "version"]
  g__law_above : mg "_law_above" = some (.ref (He.ga K "_law_above"))
  F_check_versions : ∃ fd, Fun K "check_versions" "check_versions" s_check_versions (He.ga K "check_versions") fd ∧ BA fd ["history", "values"]
  g_check_versions : mg "check_versions" = some (.ref (He.ga K "check_versions"))
  F_History_above : ∃ fd, Fun K "above" "History.above" s_History_above (He.ma K (He.ga K "History") "above") fd ∧ BA fd ["self", "version"]
  m_History_above : Meth K (He.ga K "History") "above" (He.ma K (He.ga K "History") "above")
  F_nearest : ∃ fd, Fun K "nearest" "nearest" s_nearest (He.ga K "nearest") fd ∧ BA fd ["history", "one", "other"]
  g_nearest : mg "nearest" = some (.ref (He.ga K "nearest"))
  F__law_refused : ∃ fd, Fun K "_law_refused" "_law_refused" s__law_refused (He.ga K "_law_refused") fd ∧ BA fd ["history", "one", "other"]
  g__law_refused : mg "_law_refused" = some (.ref (He.ga K "_law_refused"))
  F_law : ∃ fd, Fun K "law" "law" s_law (He.ga K "law") fd ∧ BA fd ["script"]
  g_law : mg "law" = some (.ref (He.ga K "law"))
  z_abs : mg "abs" = none
  z_int : mg "int" = none
  z_range : mg "range" = none
  z_len : mg "len" = none
  z_list : mg "list" = none
  z_all : mg "all" = none
  z_isinstance : mg "isinstance" = none
  z_bool : mg "bool" = none
  z_tuple : mg "tuple" = none
  z_min : mg "min" = none
  z_sorted : mg "sorted" = none
  z_set : mg "set" = none
  z_any : mg "any" = none
  c_MOST_VERSIONS : ∃ t, mg "MOST_VERSIONS" = some (.int 40 t)
  e_BadHistory : mg "BadHistory" = some (.ref (He.ga K "BadHistory")) ∧ PySem.W.excIn K (He.ga K "BadHistory") He.veBase "ValueError.__new__" = true ∧ PySem.W.keepIn K (.ref (He.ga K "BadHistory")) = true ∧ PySem.W.subIn K (.ref (He.ga K "BadHistory")) (.type "BaseException") = some true ∧ PySem.W.typeIn K (.ref (He.ga K "BadHistory")) = some (.type "type")
  e_BadVersion : mg "BadVersion" = some (.ref (He.ga K "BadVersion")) ∧ PySem.W.excIn K (He.ga K "BadVersion") He.veBase "ValueError.__new__" = true ∧ PySem.W.keepIn K (.ref (He.ga K "BadVersion")) = true ∧ PySem.W.subIn K (.ref (He.ga K "BadVersion")) (.type "BaseException") = some true ∧ PySem.W.typeIn K (.ref (He.ga K "BadVersion")) = some (.type "type")
  m_BadHistory_BadVersion : PySem.W.exmOne K (.ref (He.ga K "BadHistory")) (.ref (He.ga K "BadVersion")) = some false
  m_BadVersion_BadVersion : PySem.W.exmOne K (.ref (He.ga K "BadVersion")) (.ref (He.ga K "BadVersion")) = some true
  k_History : Cls K (He.ga K "History")
  n_History_parents : NoAttr K (He.ga K "History") "parents"
  n_History_size : NoAttr K (He.ga K "History") "size"
  n_History__ancestors : NoAttr K (He.ga K "History") "_ancestors"
  i_History : Mk K (He.ga K "History") (He.ma K (He.ga K "History") "__init__")
  g_History : mg "History" = some (.ref (He.ga K "History"))
section
variable {P : Program} {w : World} {K : PySem.W.Frag} {mg : Str → Option Value}
theorem ok__law_draws (T : Txt K mg) : ∃ fd, (∀ base : Heap, FnOk P w K mg base (L2.CX P w) 1 (He.ga K "_law_draws") fd ["script", "many"] (Spec K mg 2 0 C__law_draws)) ∧ BA fd ["script", "many"] ∧ PySem.W.keepIn K (.ref (He.ga K "_law_draws")) = true := by
  obtain ⟨fd, F, b⟩ := T.F__law_draws
  exact ⟨fd, fun base => fn_ok (N := n__law_draws) (nN := 7) (k := 0) (kr := 0) (L := [0, 0, 0, 0, 0, 0, 0]) (L' := [0, 0, 0, 0, 0, 0, 0]) (FF := F__law_draws) F sc__law_draws rfl rfl rfl rfl fun cdv A outer s H E hr => ((sjs_cons (L1 := [0, 0, 1, 0, 0, 0, 0]) (sj_set (i := 2) (k := 1) sc__law_draws.nd rfl (.inl (by kernel_rfl)) (eo_nil) (by decide))
  (sjs_cons (L1 := [0, 0, 1, 0, 0, 0, 0]) (sj_set (i := 3) (k := 0) sc__law_draws.nd rfl (.inl (by kernel_rfl)) eo_int (by decide))
  (sjs_cons (L1 := [0, 0, 1, 0, 0, 0, 0]) (sj_for (passes_of rfl) rfl (ei_seq (EO.up (k := 1) (n := 0) (eo_sl (eb_var (n := 1) (i := 0) rfl (.inl (by kernel_rfl)) (by decide)) ep_none (ep_some (EO.up (k := 0) (n := 0) eo_int))))) (pg_name (i := 4) sc__law_draws.nd rfl (.inl (by kernel_rfl)) (.inl rfl)) (gs_name 4) (by decide)
  (sjs_cons (L1 := [0, 0, 1, 0, 0, 0, 0]) (sj_set (i := 5) (k := 0) sc__law_draws.nd rfl (.inl (by kernel_rfl)) (eo_callB c_abs fAbs_nx (gl_of (by kernel_rfl)) T.z_abs (by decide +kernel) (ea_cons (eb_var (n := 0) (i := 4) rfl (.inl (by kernel_rfl)) (by decide)) ea_nil)) (by decide))
  (sjs_cons (L1 := [0, 0, 1, 0, 0, 0, 0]) (sj_set (i := 3) (k := 0) sc__law_draws.nd rfl (.inl (by kernel_rfl)) (eo_op o_mod dMod_nx (EO.up (k := 0) (n := 0) (eo_callTy c_int fInt_nx (gl_of (by kernel_rfl)) T.z_int (by decide +kernel) (ea_cons (EO.up (k := 1) (n := 0) (eo_op o_add dAdd_nx (EO.up (k := 1) (n := 1) (eo_op o_add dAdd_nx (EO.up (k := 0) (n := 1) (eo_op o_mul dMul_nx (eb_var (n := 0) (i := 3) rfl (.inl (by kernel_rfl)) (by decide)) (EO.up (k := 0) (n := 0) eo_int))) (eb_var (n := 1) (i := 5) rfl (.inl (by kernel_rfl)) (by decide)))) (EO.up (k := 0) (n := 1) eo_int))) ea_nil))) (EO.up (k := 0) (n := 0) eo_int)) (by decide))
  (sjs_cons (L1 := [0, 0, 1, 0, 0, 0, 0]) (sj_if (et_cmp o_ge dCmpI_nx (eb_var (n := 0) (i := 5) rfl (.inl (by kernel_rfl)) (by decide)) (EO.up (k := 0) (n := 0) (eo_op o_pow dPow_nx (EO.up (k := 0) (n := 0) eo_int) (EO.up (k := 0) (n := 0) eo_int))) (nomark _)) (sjs_cons (L1 := [0, 0, 1, 0, 0, 0, 0]) (sj_for (passes_of rfl) rfl (ei_range1 (gl_of (by kernel_rfl)) T.z_range (ea_cons (EO.up (k := 0) (n := 0) eo_int) ea_nil)) (pg_name (i := 6) sc__law_draws.nd rfl (.inl (by kernel_rfl)) (.inl rfl)) (gs_name 6) (by decide)
  (sjs_cons (L1 := [0, 0, 1, 0, 0, 0, 0]) (sj_if (et_cmp o_gt dCmpI_nx (eb_var (n := 0) (i := 5) rfl (.inl (by kernel_rfl)) (by decide)) (EO.up (k := 0) (n := 0) eo_int) (nomark _)) (sjs_cons (L1 := [0, 0, 1, 0, 0, 0, 0]) (sj_append (i := 2) (k := 0) rfl (.inl (by kernel_rfl)) rfl (eo_op o_mod dMod_nx (EO.up (k := 0) (n := 0) (eo_callTy c_int fInt_nx (gl_of (by kernel_rfl)) T.z_int (by decide +kernel) (ea_cons (eb_var (n := 0) (i := 5) rfl (.inl (by kernel_rfl)) (by decide)) ea_nil))) (EO.up (k := 0) (n := 0) eo_int)))
  (sjs_one (sj_set (i := 5) (k := 0) sc__law_draws.nd rfl (.inl (by kernel_rfl)) (eo_op o_div dDiv_nx (eb_var (n := 0) (i := 5) rfl (.inl (by kernel_rfl)) (by decide)) (EO.up (k := 0) (n := 0) eo_int)) (by decide)))) sjs_nil)
  (sjs_kill [6] sjs_nil)))
  (sjs_kill [5, 6] sjs_nil)) (sjs_one (sj_append (i := 2) (k := 0) rfl (.inl (by kernel_rfl)) rfl (eo_op o_mod dMod_nx (EO.up (k := 0) (n := 0) (eo_op o_div dDiv_nx (EO.up (k := 0) (n := 0) (eo_callTy c_int fInt_nx (gl_of (by kernel_rfl)) T.z_int (by decide +kernel) (ea_cons (EO.up (k := 1) (n := 0) (eo_op o_add dAdd_nx (EO.up (k := 0) (n := 1) (eo_op o_mul dMul_nx (eb_var (n := 0) (i := 3) rfl (.inl (by kernel_rfl)) (by decide)) (EO.up (k := 0) (n := 0) eo_int))) (EO.up (k := 0) (n := 1) eo_int))) ea_nil))) (EO.up (k := 0) (n := 0) eo_int))) (EO.up (k := 0) (n := 0) eo_int)))))
  (sjs_kill [4, 5, 6] sjs_nil)))))
  (sjs_kill [4, 5, 6] (sjs_cons (L1 := [0, 0, 1, 0, 0, 0, 0]) (sj_for (passes_of rfl) rfl (ei_range1 (gl_of (by kernel_rfl)) T.z_range (ea_cons (eb_var (n := 0) (i := 1) rfl (.inl (by kernel_rfl)) (by decide)) ea_nil)) (pg_name (i := 6) sc__law_draws.nd rfl (.inl (by kernel_rfl)) (.inl rfl)) (gs_name 6) (by decide)
  (sjs_cons (L1 := [0, 0, 1, 0, 0, 0, 0]) (sj_if (et_cmp o_lt dCmpI_nx (EO.up (k := 0) (n := 0) (eo_callB c_len fLen_nx (gl_of (by kernel_rfl)) T.z_len (by decide +kernel) (ea_cons (eb_var (n := 1) (i := 2) rfl (.inl (by kernel_rfl)) (by decide)) ea_nil))) (eb_var (n := 0) (i := 1) rfl (.inl (by kernel_rfl)) (by decide)) (nomark _)) (sjs_cons (L1 := [0, 0, 1, 0, 0, 0, 0]) (sj_set (i := 3) (k := 0) sc__law_draws.nd rfl (.inl (by kernel_rfl)) (eo_op o_mod dMod_nx (EO.up (k := 0) (n := 0) (eo_callTy c_int fInt_nx (gl_of (by kernel_rfl)) T.z_int (by decide +kernel) (ea_cons (EO.up (k := 1) (n := 0) (eo_op o_add dAdd_nx (EO.up (k := 1) (n := 1) (eo_op o_add dAdd_nx (EO.up (k := 0) (n := 1) (eo_op o_mul dMul_nx (eb_var (n := 0) (i := 3) rfl (.inl (by kernel_rfl)) (by decide)) (EO.up (k := 0) (n := 0) eo_int))) (eb_var (n := 1) (i := 6) rfl (.inl (by kernel_rfl)) (by decide)))) (EO.up (k := 0) (n := 1) eo_int))) ea_nil))) (EO.up (k := 0) (n := 0) eo_int)) (by decide))
  (sjs_one (sj_append (i := 2) (k := 0) rfl (.inl (by kernel_rfl)) rfl (eo_op o_mod dMod_nx (EO.up (k := 0) (n := 0) (eo_op o_div dDiv_nx (EO.up (k := 0) (n := 0) (eo_callTy c_int fInt_nx (gl_of (by kernel_rfl)) T.z_int (by decide +kernel) (ea_cons (eb_var (n := 0) (i := 3) rfl (.inl (by kernel_rfl)) (by decide)) ea_nil))) (EO.up (k := 0) (n := 0) eo_int))) (EO.up (k := 0) (n := 0) eo_int))))) sjs_nil)
  (sjs_kill [6] sjs_nil)))
  (sjs_kill [3, 6] (sjs_one (sj_ret (EB.o (EO.b (k := 1) (eo_sl (eb_var (n := 1) (i := 2) rfl (.inl (by kernel_rfl)) (by decide)) ep_none (ep_some (eb_var (n := 0) (i := 1) rfl (.inl (by kernel_rfl)) (by decide))))))))))))))), b, F.kp⟩
theorem ok__ancestors (T : Txt K mg) : ∃ fd, (∀ base : Heap, FnOk P w K mg base (L2.CX P w) 1 (He.ga K "_ancestors") fd ["parents"] (Spec K mg 1 0 C__ancestors)) ∧ BA fd ["parents"] ∧ PySem.W.keepIn K (.ref (He.ga K "_ancestors")) = true := by
  obtain ⟨fd, F, b⟩ := T.F__ancestors
  exact ⟨fd, fun base => fn_ok (N := n__ancestors) (nN := 7) (k := 0) (kr := 0) (L := [0, 0, 0, 0, 0, 0, 0]) (L' := [0, 0, 0, 0, 0, 0, 0]) (FF := F__ancestors) F sc__ancestors rfl rfl rfl rfl fun cdv A outer s H E hr => ((sjs_cons (L1 := [0, 1, 0, 0, 0, 0, 0]) (sj_set (i := 1) (k := 1) sc__ancestors.nd rfl (.inr (by kernel_rfl)) (eo_rep (eo_lst (ea_cons (EO.up (k := 0) (n := 0) eo_non) ea_nil)) (EO.up (k := 0) (n := 0) (eo_callB c_len fLen_nx (gl_of (by kernel_rfl)) T.z_len (by decide +kernel) (ea_cons (eb_var (n := 1) (i := 0) rfl (.inr (.inl (by kernel_rfl))) (by decide)) ea_nil)))) (by decide))
  (sjs_cons (L1 := [0, 1, 0, 0, 0, 0, 0]) (sj_set (i := 2) (k := 0) sc__ancestors.nd rfl (.inl (by kernel_rfl)) (EB.o (EO.b (k := 1) (eo_lrg1 rfl (gl_of (by kernel_rfl)) T.z_list (gl_of (by kernel_rfl)) T.z_range (EO.up (k := 0) (n := 0) (eo_callB c_len fLen_nx (gl_of (by kernel_rfl)) T.z_len (by decide +kernel) (ea_cons (eb_var (n := 1) (i := 0) rfl (.inr (.inl (by kernel_rfl))) (by decide)) ea_nil)))))) (by decide))
  (sjs_cons (L1 := [0, 1, 0, 0, 0, 0, 0]) (sj_while 100000 (passes_of rfl) (et_cmp o_gt dCmpI_nx (EO.up (k := 0) (n := 0) (eo_callB c_len fLen_nx (gl_of (by kernel_rfl)) T.z_len (by decide +kernel) (ea_cons (eb_var (n := 1) (i := 2) rfl (.inl (by kernel_rfl)) (by decide)) ea_nil))) (EO.up (k := 0) (n := 0) eo_int) (nomark _))
  (sjs_cons (L1 := [0, 1, 0, 0, 0, 0, 0]) (sj_set (i := 5) (k := 0) sc__ancestors.nd rfl (.inr (by kernel_rfl)) (EB.o (EO.b (k := 1) (eo_lc (own := [("one", 3)]) rfl sc__ancestors.nd (ei_seq (eb_var (n := 1) (i := 2) rfl (.inl (by kernel_rfl)) (by decide))) (blkOk_by (by kernel_rfl)) (fun _ _ _ _ _ => (pg_name (i := 3) sc__ancestors.nd rfl (.inl (by kernel_rfl)) (.inr (by kernel_rfl)))) (fun _ _ _ _ _ => (ets_one (et_val (EO.up (k := 0) (n := 1) (eo_callB (c_all rfl) fAll_nx (gl_of (by kernel_rfl)) T.z_all (by decide +kernel) (ea_cons (EO.up (k := 1) (n := 1) (eo_lc (own := [("parent", 4)]) rfl sc__ancestors.nd (ei_seq (eb_ix (hu_of hr) (eb_var (n := 2) (i := 0) rfl (.inr (.inl (by kernel_rfl))) (by decide)) (eb_var (n := 0) (i := 3) rfl (.inl (by kernel_rfl)) (by decide)))) (blkOk_by (by kernel_rfl)) (fun _ _ _ _ _ => (pg_name (i := 4) sc__ancestors.nd rfl (.inl (by kernel_rfl)) (.inr (by kernel_rfl)))) (fun _ _ _ _ _ => ets_nil) (fun _ _ _ _ _ => (eo_cmp o_isNot dIsNot_nx (eb_ix (hu_of hr) (eb_var (n := 2) (i := 1) rfl (.inr (.inl (by kernel_rfl))) (by decide)) (eb_var (n := 0) (i := 4) rfl (.inl (by kernel_rfl)) (by decide))) (EO.up (k := 0) (n := 1) eo_non) (nomark _))) (gs_name 4) (by decide) (by decide))) ea_nil)))))) (fun _ _ _ _ _ => (EB.o (eb_var (n := 0) (i := 3) rfl (.inl (by kernel_rfl)) (by decide)))) (gs_name 3) (by decide) (by decide)))) (by decide))
  (sjs_cons (L1 := [0, 1, 0, 0, 0, 0, 0]) (sj_if (et_cmp (o_eq hr.units) dEq_nx (EO.up (k := 0) (n := 1) (eo_callB c_len fLen_nx (gl_of (by kernel_rfl)) T.z_len (by decide +kernel) (ea_cons (eb_var (n := 1) (i := 5) rfl (.inr (.inl (by kernel_rfl))) (by decide)) ea_nil))) (EO.up (k := 0) (n := 1) eo_int) (nomark _)) (sjs_one (sj_ret eo_non)) sjs_nil)
  (sjs_cons (L1 := [0, 1, 0, 0, 0, 0, 0]) (sj_for (passes_of rfl) rfl (ei_seq (eb_var (n := 0) (i := 5) rfl (.inr (.inl (by kernel_rfl))) (by decide))) (pg_name (i := 3) sc__ancestors.nd rfl (.inl (by kernel_rfl)) (.inl rfl)) (gs_name 3) (by decide)
  (sjs_cons (L1 := [0, 1, 0, 0, 0, 0, 1]) (sj_set (i := 6) (k := 1) sc__ancestors.nd rfl (.inl (by kernel_rfl)) (eo_disp (eps_cons (eb_var (n := 0) (i := 3) rfl (.inl (by kernel_rfl)) (by decide)) (EO.up (k := 0) (n := 0) eo_bl) eps_nil)) (by decide))
  (sjs_cons (L1 := [0, 1, 0, 0, 0, 0, 1]) (sj_for (passes_of rfl) rfl (ei_seq (eb_ix (hu_of hr) (eb_var (n := 1) (i := 0) rfl (.inr (.inl (by kernel_rfl))) (by decide)) (eb_var (n := 0) (i := 3) rfl (.inl (by kernel_rfl)) (by decide)))) (pg_name (i := 4) sc__ancestors.nd rfl (.inl (by kernel_rfl)) (.inl rfl)) (gs_name 4) (by decide)
  (sjs_one (sj_updP (epl_var (i := 6) (L := [0, 1, 0, 0, 0, 0, 1]) rfl (.inl (by kernel_rfl))) (eb_ix (hu_of hr) (eb_var (n := 1) (i := 1) rfl (.inr (.inl (by kernel_rfl))) (by decide)) (eb_var (n := 0) (i := 4) rfl (.inl (by kernel_rfl)) (by decide))))))
  (sjs_drop 6 (sjs_cons (L1 := [0, 1, 0, 0, 0, 0, 0]) (sj_putP (k := 0) (hu_of hr) (epl_var (i := 1) (L := [0, 1, 0, 0, 0, 0, 0]) rfl (.inr (.inl (by kernel_rfl)))) (eb_var (n := 0) (i := 3) rfl (.inl (by kernel_rfl)) (by decide)) (EB.o (eb_var (n := 0) (i := 6) rfl (.inl (by kernel_rfl)) (by decide))))
  (sjs_kill [6] sjs_nil))))))
  (sjs_kill [6] (sjs_cons (L1 := [0, 1, 1, 0, 0, 0, 0]) (sj_setLc (i := 2) (k := 0) (own := [("one", 3)]) rfl sc__ancestors.nd rfl (by kernel_rfl) (by decide) (sw_true rfl (by kernel_rfl) rfl (by decide +kernel)) (ei_seq (eb_var (n := 1) (i := 2) rfl (.inl (by kernel_rfl)) (by decide))) (blkOk_by (by kernel_rfl)) (fun _ _ _ _ _ => (pg_name (i := 3) sc__ancestors.nd rfl (.inl (by kernel_rfl)) (.inr (by kernel_rfl)))) (fun _ _ _ _ _ => (ets_one (et_cmp (o_notIn (hu65 hr)) dNotIn_nx (eb_var (n := 1) (i := 3) rfl (.inl (by kernel_rfl)) (by decide)) (eb_var (n := 1) (i := 5) rfl (.inr (.inl (by kernel_rfl))) (by decide)) (by rfl)))) (fun _ _ _ _ _ => (EB.o (eb_var (n := 0) (i := 3) rfl (.inl (by kernel_rfl)) (by decide)))) (gs_name 3) (by decide) (by decide))
  (sjs_kill [5, 6] (sjs_drop 2 sjs_nil))))))))
  (sjs_kill [2, 3, 4, 5, 6] (sjs_drop 1 (sjs_one (sj_ret (EB.o (eb_var (n := 0) (i := 1) rfl (.inr (.inl (by kernel_rfl))) (by decide))))))))))), b, F.kp⟩
theorem ok_ascends (T : Txt K mg) : ∃ fd, (∀ base : Heap, FnOk P w K mg base (L2.CX P w) 1 (He.ga K "ascends") fd ["value"] (Spec K mg 1 0 C_ascends)) ∧ BA fd ["value"] ∧ PySem.W.keepIn K (.ref (He.ga K "ascends")) = true := by
  obtain ⟨fd, F, b⟩ := T.F_ascends
  exact ⟨fd, fun base => fn_ok (N := n_ascends) (nN := 2) (k := 0) (kr := 0) (L := [0, 0]) (L' := [0, 0]) (FF := F_ascends) F sc_ascends rfl rfl rfl rfl fun cdv A outer s H E hr => ((sjs_one (sj_ret (eo_callB (c_all rfl) fAll_nx (gl_of (by kernel_rfl)) T.z_all (by decide +kernel) (ea_cons (EO.up (k := 1) (n := 1) (eo_lc (own := [("at", 1)]) rfl sc_ascends.nd (ei_range1 (gl_of (by kernel_rfl)) T.z_range (ea_cons (EO.up (k := 0) (n := 0) (eo_op o_sub dSub_nx (EO.up (k := 0) (n := 0) (eo_callB c_len fLen_nx (gl_of (by kernel_rfl)) T.z_len (by decide +kernel) (ea_cons (eb_var (n := 1) (i := 0) rfl (.inr (.inl (by kernel_rfl))) (by decide)) ea_nil))) (EO.up (k := 0) (n := 0) eo_int))) ea_nil)) (blkOk_by (by kernel_rfl)) (fun _ _ _ _ _ => (pg_name (i := 1) sc_ascends.nd rfl (.inl (by kernel_rfl)) (.inr (by kernel_rfl)))) (fun _ _ _ _ _ => ets_nil) (fun _ _ _ _ _ => (eo_cmp o_lt dCmpI_nx (eb_ix (hu_of hr) (eb_var (n := 1) (i := 0) rfl (.inr (.inl (by kernel_rfl))) (by decide)) (eb_var (n := 0) (i := 1) rfl (.inl (by kernel_rfl)) (by decide))) (eb_ix (hu_of hr) (eb_var (n := 1) (i := 0) rfl (.inr (.inl (by kernel_rfl))) (by decide)) (EO.up (k := 1) (n := 0) (eo_op o_add dAdd_nx (eb_var (n := 1) (i := 1) rfl (.inl (by kernel_rfl)) (by decide)) (EO.up (k := 0) (n := 1) eo_int)))) (nomark _))) (gs_name 1) (by decide) (by decide))) ea_nil))))), b, F.kp⟩
theorem ok_is_whole (T : Txt K mg) : ∃ fd, (∀ base : Heap, FnOk P w K mg base (L2.CX P w) 1 (He.ga K "is_whole") fd ["value", "least", "most"] (Spec K mg 3 0 C_is_whole)) ∧ BA fd ["value", "least", "most"] ∧ PySem.W.keepIn K (.ref (He.ga K "is_whole")) = true := by
  obtain ⟨fd, F, b⟩ := T.F_is_whole
  exact ⟨fd, fun base => fn_ok (N := n_is_whole) (nN := 3) (k := 0) (kr := 0) (L := [0, 0, 0]) (L' := [0, 0, 0]) (FF := F_is_whole) F sc_is_whole rfl rfl rfl rfl fun cdv A outer s H E hr => ((sjs_one (sj_ret (EB.o (eb_and (EO.up (k := 0) (n := 0) (eo_isi kind_int (gl_of (by kernel_rfl)) T.z_isinstance (gl_of (by kernel_rfl)) T.z_int (by decide +kernel) (eb_var (n := 1) (i := 0) rfl (.inl (by kernel_rfl)) (by decide)))) (eb_and (EO.up (k := 0) (n := 0) (eo_not (EO.up (k := 0) (n := 1) (eo_isi kind_bool (gl_of (by kernel_rfl)) T.z_isinstance (gl_of (by kernel_rfl)) T.z_bool (by decide +kernel) (eb_var (n := 1) (i := 0) rfl (.inl (by kernel_rfl)) (by decide)))))) (eb_one (EO.up (k := 0) (n := 0) (eo_chain o_le dCmpI_nx o_le dCmpI_nx (eb_var (n := 0) (i := 1) rfl (.inl (by kernel_rfl)) (by decide)) (eb_var (n := 0) (i := 0) rfl (.inl (by kernel_rfl)) (by decide)) (eb_var (n := 0) (i := 2) rfl (.inl (by kernel_rfl)) (by decide))))))))))), b, F.kp⟩
theorem ok__are_parents (T : Txt K mg) : ∃ fd, (∀ base : Heap, FnOk P w K mg base (L2.CX P w) 2 (He.ga K "_are_parents") fd ["value"] (Spec K mg 1 0 C__are_parents)) ∧ BA fd ["value"] ∧ PySem.W.keepIn K (.ref (He.ga K "_are_parents")) = true := by
  obtain ⟨fd, F, b⟩ := T.F__are_parents
  obtain ⟨fd_is_whole, G_is_whole, b_is_whole, k_is_whole⟩ := ok_is_whole (P := P) (w := w) T
  obtain ⟨fd_ascends, G_ascends, b_ascends, k_ascends⟩ := ok_ascends (P := P) (w := w) T
  exact ⟨fd, fun base => fn_ok (N := n__are_parents) (nN := 3) (k := 1) (kr := 0) (L := [0, 0, 0]) (L' := [0, 0, 0]) (FF := F__are_parents) F sc__are_parents rfl rfl rfl rfl fun cdv A outer s H E hr => ((sjs_cons (L1 := [0, 0, 0]) (sj_if (et_w (ew_or (et_not (et_val (EO.up (k := 0) (n := 1) (eo_isi kind_tup (gl_of (by kernel_rfl)) T.z_isinstance (gl_of (by kernel_rfl)) T.z_tuple (by decide +kernel) (eb_var (n := 1) (i := 0) rfl (.inr (.inl (by kernel_rfl))) (by decide)))))) (ew_or1 (et_not (et_chain o_le dCmpI_nx o_le dCmpI_nx (EO.up (k := 0) (n := 0) eo_int) (EO.up (k := 0) (n := 0) (eo_callB c_len fLen_nx (gl_of (by kernel_rfl)) T.z_len (by decide +kernel) (ea_cons (eb_var (n := 1) (i := 0) rfl (.inr (.inl (by kernel_rfl))) (by decide)) ea_nil))) (EO.up (k := 0) (n := 0) (eo_gint (gl_of (by kernel_rfl)) T.c_MOST_VERSIONS.choose_spec))))))) (sjs_one (sj_ret eo_bl)) sjs_nil)
  (sjs_cons (L1 := [0, 0, 0]) (sj_for (passes_of rfl) rfl (ei_seq (eb_var (n := 0) (i := 0) rfl (.inr (.inl (by kernel_rfl))) (by decide))) (pg_name (i := 1) sc__are_parents.nd rfl (.inl (by kernel_rfl)) (.inl rfl)) (gs_name 1) (by decide)
  (sjs_cons (L1 := [0, 0, 0]) (sj_if (et_w (ew_or (et_not (et_val (EO.up (k := 0) (n := 1) (eo_isi kind_tup (gl_of (by kernel_rfl)) T.z_isinstance (gl_of (by kernel_rfl)) T.z_tuple (by decide +kernel) (eb_var (n := 1) (i := 1) rfl (.inl (by kernel_rfl)) (by decide)))))) (ew_or (et_not (et_val (EO.up (k := 0) (n := 1) (eo_callB (c_all rfl) fAll_nx (gl_of (by kernel_rfl)) T.z_all (by decide +kernel) (ea_cons (EO.up (k := 1) (n := 1) (eo_lc (own := [("one", 2)]) rfl sc__are_parents.nd (ei_seq (eb_var (n := 1) (i := 1) rfl (.inl (by kernel_rfl)) (by decide))) (blkOk_by (by kernel_rfl)) (fun _ _ _ _ _ => (pg_name (i := 2) sc__are_parents.nd rfl (.inl (by kernel_rfl)) (.inr (by kernel_rfl)))) (fun _ _ _ _ _ => ets_nil) (fun _ _ _ _ _ => (eo_call (G_is_whole base) (hr.mono (by decide)) (gl_of (by kernel_rfl)) T.g_is_whole k_is_whole b_is_whole.b takes0 (ea_cons (eb_var (n := 0) (i := 2) rfl (.inl (by kernel_rfl)) (by decide)) (ea_cons (EO.up (k := 0) (n := 0) eo_int) (ea_cons (EO.up (k := 0) (n := 0) (eo_op o_sub dSub_nx (EO.up (k := 0) (n := 0) (eo_callB c_len fLen_nx (gl_of (by kernel_rfl)) T.z_len (by decide +kernel) (ea_cons (eb_var (n := 1) (i := 0) rfl (.inr (.inl (by kernel_rfl))) (by decide)) ea_nil))) (EO.up (k := 0) (n := 0) eo_int))) ea_nil))))) (gs_name 2) (by decide) (by decide))) ea_nil))))) (ew_or1 (et_not (et_val (EO.up (k := 0) (n := 1) (eo_call (G_ascends base) (hr.mono (by decide)) (gl_of (by kernel_rfl)) T.g_ascends k_ascends b_ascends.b (takes_of rfl rfl rfl rfl) (ea_cons (eb_var (n := 0) (i := 1) rfl (.inl (by kernel_rfl)) (by decide)) ea_nil))))))))) (sjs_one (sj_ret eo_bl)) sjs_nil)
  (sjs_kill [1] sjs_nil)))
  (sjs_kill [1] (sjs_one (sj_ret eo_bl)))))), b, F.kp⟩
theorem ok_History___init__ (T : Txt K mg) : ∃ fd, (∀ base : Heap, FnOk P w K mg base (L2.CX P w) 3 (He.ma K (He.ga K "History") "__init__") fd ["self", "parents"] (SpecM K mg 2 0 1 C_History___init__)) ∧ BA fd ["self", "parents"] := by
  obtain ⟨fd, F, b⟩ := T.F_History___init__
  obtain ⟨fd__are_parents, G__are_parents, b__are_parents, k__are_parents⟩ := ok__are_parents (P := P) (w := w) T
  obtain ⟨fd__ancestors, G__ancestors, b__ancestors, k__ancestors⟩ := ok__ancestors (P := P) (w := w) T
  exact ⟨fd, fun base => Px.meth_ok (N := n_History___init__) (nN := 3) (k := 2) (kr := 0) (km := 1) (L := [1, 0, 0]) (L' := [1, 0, 0]) (FF := F_History___init__) F sc_History___init__ rfl rfl rfl rfl (by decide) rfl fun cdv A outer s H E hr => ((sjs_cons (L1 := [1, 0, 0]) (sj_if (et_not (et_val (EO.up (k := 0) (n := 1) (eo_call (G__are_parents base) (hr.mono (by decide)) (gl_of (by kernel_rfl)) T.g__are_parents k__are_parents b__are_parents.b (takes_of rfl rfl rfl rfl) (ea_cons (eb_var (n := 0) (i := 1) rfl (.inl (by kernel_rfl)) (by decide)) ea_nil))))) (sjs_one (sj_raise rfl (takes_of rfl rfl rfl rfl) PySem.F.excBase_ValueError T.e_BadHistory.2.1 T.e_BadHistory.1 T.e_BadHistory.2.2.1 (raises_own T.e_BadHistory.2.2.2.1 T.e_BadHistory.2.2.2.2) (gl_of (by kernel_rfl)))) sjs_nil)
  (sjs_cons (L1 := [1, 0, 0]) (sj_set (i := 2) (k := 0) sc_History___init__.nd rfl (.inl (by kernel_rfl)) (eo_call (G__ancestors base) (hr.mono (by decide)) (gl_of (by kernel_rfl)) T.g__ancestors k__ancestors b__ancestors.b (takes_of rfl rfl rfl rfl) (ea_cons (eb_var (n := 0) (i := 1) rfl (.inl (by kernel_rfl)) (by decide)) ea_nil)) (by decide))
  (sjs_cons (L1 := [1, 0, 0]) (sj_if (et_cmp o_is dIs_nx (eb_var (n := 1) (i := 2) rfl (.inl (by kernel_rfl)) (by decide)) (EO.up (k := 0) (n := 1) eo_non) (nomark _)) (sjs_one (sj_raise rfl (takes_of rfl rfl rfl rfl) PySem.F.excBase_ValueError T.e_BadHistory.2.1 T.e_BadHistory.1 T.e_BadHistory.2.2.1 (raises_own T.e_BadHistory.2.2.2.1 T.e_BadHistory.2.2.2.2) (gl_of (by kernel_rfl)))) sjs_nil)
  (sjs_cons (L1 := [1, 0, 0]) (sj_fldP (k := 0) T.k_History T.n_History_parents (epl_var (i := 0) (L := [1, 0, 0]) rfl (.inl (by kernel_rfl))) (EB.o (eb_var (n := 0) (i := 1) rfl (.inl (by kernel_rfl)) (by decide))))
  (sjs_cons (L1 := [1, 0, 0]) (sj_fldP (k := 0) T.k_History T.n_History_size (epl_var (i := 0) (L := [1, 0, 0]) rfl (.inl (by kernel_rfl))) (eo_callB c_len fLen_nx (gl_of (by kernel_rfl)) T.z_len (by decide +kernel) (ea_cons (eb_var (n := 1) (i := 1) rfl (.inl (by kernel_rfl)) (by decide)) ea_nil)))
  (sjs_one (sj_fldP (k := 0) T.k_History T.n_History__ancestors (epl_var (i := 0) (L := [1, 0, 0]) rfl (.inl (by kernel_rfl))) (EB.o (eb_var (n := 0) (i := 2) rfl (.inl (by kernel_rfl)) (by decide))))))))))), b⟩
theorem ok__law_parents (T : Txt K mg) : ∃ fd, (∀ base : Heap, FnOk P w K mg base (L2.CX P w) 1 (He.ga K "_law_parents") fd ["draws", "at", "most"] (Spec K mg 3 0 C__law_parents)) ∧ BA fd ["draws", "at", "most"] ∧ PySem.W.keepIn K (.ref (He.ga K "_law_parents")) = true := by
  obtain ⟨fd, F, b⟩ := T.F__law_parents
  exact ⟨fd, fun base => fn_ok (N := n__law_parents) (nN := 16) (k := 0) (kr := 0) (L := [0, 0, 0, 0, 0, 0, 0, 0, 0, 0, 0, 0, 0, 0, 0, 0]) (L' := [0, 0, 0, 0, 0, 0, 0, 0, 0, 0, 0, 0, 0, 0, 0, 0]) (FF := F__law_parents) F sc__law_parents rfl rfl rfl rfl fun cdv A outer s H E hr => ((sjs_cons (L1 := [0, 0, 0, 0, 0, 0, 0, 0, 0, 0, 0, 0, 0, 0, 0, 0]) (sj_parT (is := [3, 4]) (ks := [0, 0]) (pg_tup rfl (pgs_cons (pg_name (i := 3) sc__law_parents.nd rfl (.inl (by kernel_rfl)) (.inl rfl)) (pgs_cons (pg_name (i := 4) sc__law_parents.nd rfl (.inr (by kernel_rfl)) (.inl rfl)) pgs_nil))) (eas_cons (k := 0) (EB.o (EO.b (k := 1) (eo_op o_add dAdd_nx (EO.up (k := 0) (n := 1) eo_int) (EO.up (k := 0) (n := 1) (eo_op o_mod dMod_nx (EO.up (k := 0) (n := 0) (eo_callTy c_int fInt_nx (gl_of (by kernel_rfl)) T.z_int (by decide +kernel) (ea_cons (eb_ix (hu_of hr) (eb_var (n := 1) (i := 0) rfl (.inl (by kernel_rfl)) (by decide)) (eb_var (n := 0) (i := 1) rfl (.inl (by kernel_rfl)) (by decide))) ea_nil))) (eb_var (n := 0) (i := 2) rfl (.inl (by kernel_rfl)) (by decide))))))) (eas_cons (k := 0) (eo_op o_mod dMod_nx (EO.up (k := 0) (n := 0) (eo_op o_div dDiv_nx (EO.up (k := 0) (n := 0) (eo_callTy c_int fInt_nx (gl_of (by kernel_rfl)) T.z_int (by decide +kernel) (ea_cons (eb_ix (hu_of hr) (eb_var (n := 1) (i := 0) rfl (.inl (by kernel_rfl)) (by decide)) (eb_var (n := 0) (i := 1) rfl (.inl (by kernel_rfl)) (by decide))) ea_nil))) (eb_var (n := 0) (i := 2) rfl (.inl (by kernel_rfl)) (by decide)))) (EO.up (k := 0) (n := 0) eo_int)) eas_nil)) (by decide) (by decide))
  (sjs_cons (L1 := [0, 0, 0, 0, 0, 1, 0, 0, 0, 0, 0, 0, 0, 0, 0, 0]) (sj_set (i := 5) (k := 1) sc__law_parents.nd rfl (.inl (by kernel_rfl)) (eo_lst (ea_cons (EO.up (k := 0) (n := 0) (eo_tup ea_nil)) ea_nil)) (by decide))
  (sjs_cons (L1 := [0, 0, 0, 0, 0, 1, 0, 0, 0, 0, 0, 0, 0, 0, 0, 0]) (sj_for (passes_of rfl) rfl (ei_range2 (gl_of (by kernel_rfl)) T.z_range (ea_cons (EO.up (k := 0) (n := 0) eo_int) (ea_cons (eb_var (n := 0) (i := 3) rfl (.inl (by kernel_rfl)) (by decide)) ea_nil))) (pg_name (i := 6) sc__law_parents.nd rfl (.inr (by kernel_rfl)) (.inl rfl)) (gs_name 6) (by decide)
  (sjs_cons (L1 := [0, 0, 0, 0, 0, 1, 0, 0, 0, 0, 0, 0, 0, 0, 0, 0]) (sj_set (i := 7) (k := 0) sc__law_parents.nd rfl (.inr (by kernel_rfl)) (eo_callTy c_int fInt_nx (gl_of (by kernel_rfl)) T.z_int (by decide +kernel) (ea_cons (eb_ix (hu_of hr) (eb_var (n := 1) (i := 0) rfl (.inl (by kernel_rfl)) (by decide)) (EO.up (k := 1) (n := 0) (eo_op o_add dAdd_nx (eb_var (n := 1) (i := 1) rfl (.inl (by kernel_rfl)) (by decide)) (eb_var (n := 1) (i := 6) rfl (.inr (.inl (by kernel_rfl))) (by decide))))) ea_nil)) (by decide))
  (sjs_cons (L1 := [0, 0, 0, 0, 0, 1, 0, 0, 0, 0, 0, 0, 0, 0, 0, 0]) (sj_set (i := 8) (k := 0) sc__law_parents.nd rfl (.inl (by kernel_rfl)) (EB.o (eb_ix (hu_of hr) (EO.up (k := 1) (n := 1) (eo_lst (ea_cons (EO.up (k := 0) (n := 0) (eo_op o_mod dMod_nx (eb_var (n := 0) (i := 7) rfl (.inr (.inl (by kernel_rfl))) (by decide)) (EO.up (k := 0) (n := 0) eo_int))) (ea_cons (EO.up (k := 0) (n := 0) eo_int) (ea_cons (EO.up (k := 1) (n := 0) (eo_op o_add dAdd_nx (EO.up (k := 0) (n := 1) eo_int) (EO.up (k := 0) (n := 1) (eo_op o_mod dMod_nx (eb_var (n := 0) (i := 7) rfl (.inr (.inl (by kernel_rfl))) (by decide)) (EO.up (k := 0) (n := 0) eo_int))))) (ea_cons (EO.up (k := 0) (n := 0) (eo_op o_mod dMod_nx (eb_var (n := 0) (i := 7) rfl (.inr (.inl (by kernel_rfl))) (by decide)) (EO.up (k := 0) (n := 0) eo_int))) ea_nil)))))) (eb_var (n := 0) (i := 4) rfl (.inr (.inl (by kernel_rfl))) (by decide)))) (by decide))
  (sjs_cons (L1 := [0, 0, 0, 0, 0, 1, 0, 0, 0, 1, 0, 0, 0, 0, 0, 0]) (sj_setLc (i := 9) (k := 0) (own := [("n", 14)]) rfl sc__law_parents.nd rfl (by kernel_rfl) (by decide) (sw_true rfl (by kernel_rfl) rfl (by decide +kernel)) (ei_range1 (gl_of (by kernel_rfl)) T.z_range (ea_cons (eb_var (n := 0) (i := 8) rfl (.inl (by kernel_rfl)) (by decide)) ea_nil)) (blkOk_by (by kernel_rfl)) (fun _ _ _ _ _ => (pg_name (i := 14) sc__law_parents.nd rfl (.inl (by kernel_rfl)) (.inr (by kernel_rfl)))) (fun _ _ _ _ _ => ets_nil) (fun _ _ _ _ _ => (eo_op o_mod dMod_nx (EO.up (k := 0) (n := 0) (eo_op o_div dDiv_nx (eb_var (n := 0) (i := 7) rfl (.inr (.inl (by kernel_rfl))) (by decide)) (EO.up (k := 1) (n := 0) (eo_op o_add dAdd_nx (EO.up (k := 0) (n := 1) (eo_op o_mul dMul_nx (EO.up (k := 0) (n := 0) eo_int) (eb_var (n := 0) (i := 14) rfl (.inl (by kernel_rfl)) (by decide)))) (EO.up (k := 0) (n := 1) eo_int))))) (EO.up (k := 0) (n := 0) (eo_callB (c_min rfl hr.hd hr.units) fMin_nx (gl_of (by kernel_rfl)) T.z_min (by decide +kernel) (ea_cons (eb_var (n := 1) (i := 6) rfl (.inr (.inl (by kernel_rfl))) (by decide)) (ea_cons (eb_ix (hu_of hr) (EO.up (k := 1) (n := 2) (eo_lst (ea_cons (eb_var (n := 0) (i := 6) rfl (.inr (.inl (by kernel_rfl))) (by decide)) (ea_cons (eb_var (n := 0) (i := 6) rfl (.inr (.inl (by kernel_rfl))) (by decide)) (ea_cons (EO.up (k := 0) (n := 0) eo_int) (ea_cons (eb_var (n := 0) (i := 6) rfl (.inr (.inl (by kernel_rfl))) (by decide)) ea_nil)))))) (eb_var (n := 0) (i := 4) rfl (.inr (.inl (by kernel_rfl))) (by decide))) ea_nil)))))) (gs_name 14) (by decide) (by decide))
  (sjs_cons (L1 := [0, 0, 0, 0, 0, 1, 0, 0, 0, 1, 0, 0, 0, 0, 0, 0]) (sj_append (i := 5) (k := 0) rfl (.inl (by kernel_rfl)) rfl (eo_callTy c_tuple fTuple_nx (gl_of (by kernel_rfl)) T.z_tuple (by decide +kernel) (ea_cons (EO.up (k := 1) (n := 1) (eo_sortedSet rfl (gl_of (by kernel_rfl)) T.z_sorted (gl_of (by kernel_rfl)) T.z_set (EO.up (k := 1) (n := 1) (eo_lc (own := [("one", 15)]) rfl sc__law_parents.nd (ei_seq (eb_var (n := 1) (i := 9) rfl (.inl (by kernel_rfl)) (by decide))) (blkOk_by (by kernel_rfl)) (fun _ _ _ _ _ => (pg_name (i := 15) sc__law_parents.nd rfl (.inl (by kernel_rfl)) (.inr (by kernel_rfl)))) (fun _ _ _ _ _ => ets_nil) (fun _ _ _ _ _ => (eo_op o_sub dSub_nx (EO.up (k := 0) (n := 0) (eo_op o_sub dSub_nx (eb_var (n := 0) (i := 6) rfl (.inr (.inl (by kernel_rfl))) (by decide)) (EO.up (k := 0) (n := 0) eo_int))) (eb_var (n := 0) (i := 15) rfl (.inl (by kernel_rfl)) (by decide)))) (gs_name 15) (by decide) (by decide))))) ea_nil)))
  (sjs_kill [6, 7, 8, 9] (sjs_drop 9 sjs_nil)))))))
  (sjs_kill [6, 7, 8, 9] (sjs_cons (L1 := [0, 0, 0, 0, 0, 1, 0, 0, 0, 0, 1, 0, 0, 0, 0, 0]) (sj_parT (is := [10, 11]) (ks := [1, 0]) (pg_tup rfl (pgs_cons (pg_name (i := 10) sc__law_parents.nd rfl (.inr (by kernel_rfl)) (.inl rfl)) (pgs_cons (pg_name (i := 11) sc__law_parents.nd rfl (.inl (by kernel_rfl)) (.inl rfl)) pgs_nil))) (eas_cons (k := 1) (eo_nil) (eas_cons (k := 0) (EB.o (EO.b (k := 1) (eo_lrg1 rfl (gl_of (by kernel_rfl)) T.z_list (gl_of (by kernel_rfl)) T.z_range (eb_var (n := 0) (i := 3) rfl (.inl (by kernel_rfl)) (by decide))))) eas_nil)) (by decide) (by decide))
  (sjs_cons (L1 := [0, 0, 0, 0, 0, 1, 0, 0, 0, 0, 1, 0, 0, 0, 0, 0]) (sj_for (passes_of rfl) rfl (ei_range1 (gl_of (by kernel_rfl)) T.z_range (ea_cons (eb_var (n := 0) (i := 3) rfl (.inl (by kernel_rfl)) (by decide)) ea_nil)) (pg_name (i := 6) sc__law_parents.nd rfl (.inr (by kernel_rfl)) (.inl rfl)) (gs_name 6) (by decide)
  (sjs_cons (L1 := [0, 0, 0, 0, 0, 1, 0, 0, 0, 0, 1, 0, 0, 0, 0, 0]) (sj_set (i := 12) (k := 0) sc__law_parents.nd rfl (.inl (by kernel_rfl)) (EB.o (eb_if (et_cmp (o_eq hr.units) dEq_nx (EO.up (k := 0) (n := 1) (eo_op o_mod dMod_nx (EO.up (k := 0) (n := 0) (eo_op o_div dDiv_nx (EO.up (k := 0) (n := 0) (eo_callTy c_int fInt_nx (gl_of (by kernel_rfl)) T.z_int (by decide +kernel) (ea_cons (eb_ix (hu_of hr) (eb_var (n := 1) (i := 0) rfl (.inl (by kernel_rfl)) (by decide)) (eb_var (n := 0) (i := 1) rfl (.inl (by kernel_rfl)) (by decide))) ea_nil))) (EO.up (k := 0) (n := 0) eo_int))) (EO.up (k := 0) (n := 0) eo_int))) (EO.up (k := 0) (n := 1) eo_int) (nomark _)) (EO.up (k := 0) (n := 0) (eo_op o_mod dMod_nx (EO.up (k := 0) (n := 0) (eo_op o_div dDiv_nx (EO.up (k := 0) (n := 0) (eo_callTy c_int fInt_nx (gl_of (by kernel_rfl)) T.z_int (by decide +kernel) (ea_cons (eb_ix (hu_of hr) (eb_var (n := 1) (i := 0) rfl (.inl (by kernel_rfl)) (by decide)) (EO.up (k := 1) (n := 0) (eo_op o_add dAdd_nx (eb_var (n := 1) (i := 1) rfl (.inl (by kernel_rfl)) (by decide)) (eb_var (n := 1) (i := 6) rfl (.inr (.inl (by kernel_rfl))) (by decide))))) ea_nil))) (EO.up (k := 0) (n := 0) eo_int))) (EO.up (k := 0) (n := 0) (eo_callB c_len fLen_nx (gl_of (by kernel_rfl)) T.z_len (by decide +kernel) (ea_cons (eb_var (n := 1) (i := 11) rfl (.inl (by kernel_rfl)) (by decide)) ea_nil))))) (EO.up (k := 0) (n := 0) eo_int))) (by decide))
  (sjs_cons (L1 := [0, 0, 0, 0, 0, 1, 0, 0, 0, 0, 1, 0, 0, 0, 0, 0]) (sj_append (i := 10) (k := 0) rfl (.inr (.inl (by kernel_rfl))) rfl (EB.o (eb_ix (hu_of hr) (eb_var (n := 1) (i := 11) rfl (.inl (by kernel_rfl)) (by decide)) (eb_var (n := 0) (i := 12) rfl (.inl (by kernel_rfl)) (by decide)))))
  (sjs_cons (L1 := [0, 0, 0, 0, 0, 1, 0, 0, 0, 0, 1, 0, 0, 0, 0, 0]) (sj_set (i := 11) (k := 0) sc__law_parents.nd rfl (.inl (by kernel_rfl)) (EB.o (EO.b (k := 1) (eo_op o_add dAdd_nx (EO.up (k := 1) (n := 1) (eo_sl (eb_var (n := 1) (i := 11) rfl (.inl (by kernel_rfl)) (by decide)) ep_none (ep_some (eb_var (n := 0) (i := 12) rfl (.inl (by kernel_rfl)) (by decide))))) (EO.up (k := 1) (n := 1) (eo_sl (eb_var (n := 1) (i := 11) rfl (.inl (by kernel_rfl)) (by decide)) (ep_some (EO.up (k := 1) (n := 0) (eo_op o_add dAdd_nx (eb_var (n := 1) (i := 12) rfl (.inl (by kernel_rfl)) (by decide)) (EO.up (k := 0) (n := 1) eo_int)))) ep_none))))) (by decide))
  (sjs_kill [6, 12] sjs_nil)))))
  (sjs_kill [6, 11, 12] (sjs_cons (L1 := [0, 0, 0, 0, 0, 1, 0, 0, 0, 0, 1, 0, 0, 1, 0, 0]) (sj_set (i := 13) (k := 1) sc__law_parents.nd rfl (.inl (by kernel_rfl)) (eo_rep (eo_lst (ea_cons (EO.up (k := 0) (n := 0) (eo_tup ea_nil)) ea_nil)) (eb_var (n := 0) (i := 3) rfl (.inl (by kernel_rfl)) (by decide))) (by decide))
  (sjs_cons (L1 := [0, 0, 0, 0, 0, 1, 0, 0, 0, 0, 1, 0, 0, 1, 0, 0]) (sj_for (passes_of rfl) rfl (ei_range1 (gl_of (by kernel_rfl)) T.z_range (ea_cons (eb_var (n := 0) (i := 3) rfl (.inl (by kernel_rfl)) (by decide)) ea_nil)) (pg_name (i := 6) sc__law_parents.nd rfl (.inr (by kernel_rfl)) (.inl rfl)) (gs_name 6) (by decide)
  (sjs_cons (L1 := [0, 0, 0, 0, 0, 1, 0, 0, 0, 0, 1, 0, 0, 1, 0, 0]) (sj_putP (k := 0) (hu_of hr) (epl_var (i := 13) (L := [0, 0, 0, 0, 0, 1, 0, 0, 0, 0, 1, 0, 0, 1, 0, 0]) rfl (.inl (by kernel_rfl))) (eb_ix (hu_of hr) (eb_var (n := 1) (i := 10) rfl (.inr (.inl (by kernel_rfl))) (by decide)) (eb_var (n := 0) (i := 6) rfl (.inr (.inl (by kernel_rfl))) (by decide))) (eo_callTy c_tuple fTuple_nx (gl_of (by kernel_rfl)) T.z_tuple (by decide +kernel) (ea_cons (EO.up (k := 1) (n := 1) (eo_callB (c_sorted hr.units) fSorted_nx (gl_of (by kernel_rfl)) T.z_sorted (by decide +kernel) (ea_cons (EO.up (k := 1) (n := 1) (eo_lc (own := [("one", 15)]) rfl sc__law_parents.nd (ei_seq (eb_ix (hu_of hr) (eb_var (n := 2) (i := 5) rfl (.inl (by kernel_rfl)) (by decide)) (eb_var (n := 0) (i := 6) rfl (.inr (.inl (by kernel_rfl))) (by decide)))) (blkOk_by (by kernel_rfl)) (fun _ _ _ _ _ => (pg_name (i := 15) sc__law_parents.nd rfl (.inl (by kernel_rfl)) (.inr (by kernel_rfl)))) (fun _ _ _ _ _ => ets_nil) (fun _ _ _ _ _ => (EB.o (eb_ix (hu_of hr) (eb_var (n := 1) (i := 10) rfl (.inr (.inl (by kernel_rfl))) (by decide)) (eb_var (n := 0) (i := 15) rfl (.inl (by kernel_rfl)) (by decide))))) (gs_name 15) (by decide) (by decide))) ea_nil))) ea_nil)))
  (sjs_kill [6] sjs_nil)))
  (sjs_kill [6] (sjs_one (sj_ret (eo_callTy c_tuple fTuple_nx (gl_of (by kernel_rfl)) T.z_tuple (by decide +kernel) (ea_cons (eb_var (n := 1) (i := 13) rfl (.inl (by kernel_rfl)) (by decide)) ea_nil))))))))))))))), b, F.kp⟩
theorem ok_History_is_above (T : Txt K mg) : ∃ fd, (∀ base : Heap, FnOk P w K mg base (L2.CX P w) 1 (He.ma K (He.ga K "History") "is_above") fd ["self", "one", "other"] (Spec K mg 3 0 C_History_is_above)) ∧ BA fd ["self", "one", "other"] := by
  obtain ⟨fd, F, b⟩ := T.F_History_is_above
  exact ⟨fd, fun base => fn_ok (N := n_History_is_above) (nN := 3) (k := 0) (kr := 0) (L := [0, 0, 0]) (L' := [0, 0, 0]) (FF := F_History_is_above) F sc_History_is_above rfl rfl rfl rfl fun cdv A outer s H E hr => ((sjs_one (sj_ret (eo_cmp (o_in (hu65 hr)) dIn_nx (eb_var (n := 1) (i := 1) rfl (.inl (by kernel_rfl)) (by decide)) (eb_ix (hu_of hr) (eb_fld T.k_History T.n_History__ancestors (eb_var (n := 3) (i := 0) rfl (.inl (by kernel_rfl)) (by decide))) (eb_var (n := 0) (i := 2) rfl (.inl (by kernel_rfl)) (by decide))) (by rfl))))), b⟩
theorem ok__last_ones (T : Txt K mg) : ∃ fd, (∀ base : Heap, FnOk P w K mg base (L2.CX P w) 2 (He.ga K "_last_ones") fd ["history", "some"] (Spec K mg 2 0 C__last_ones)) ∧ BA fd ["history", "some"] ∧ PySem.W.keepIn K (.ref (He.ga K "_last_ones")) = true := by
  obtain ⟨fd, F, b⟩ := T.F__last_ones
  obtain ⟨fd_History_is_above, G_History_is_above, b_History_is_above⟩ := ok_History_is_above (P := P) (w := w) T
  exact ⟨fd, fun base => fn_ok (N := n__last_ones) (nN := 5) (k := 1) (kr := 0) (L := [0, 0, 0, 0, 0]) (L' := [0, 0, 0, 0, 0]) (FF := F__last_ones) F sc__last_ones rfl rfl rfl rfl fun cdv A outer s H E hr => ((sjs_cons (L1 := [0, 0, 1, 0, 0]) (sj_set (i := 2) (k := 1) sc__last_ones.nd rfl (.inl (by kernel_rfl)) (eo_nil) (by decide))
  (sjs_cons (L1 := [0, 0, 1, 0, 0]) (sj_for (passes_of rfl) rfl (ei_seq (eb_var (n := 0) (i := 1) rfl (.inl (by kernel_rfl)) (by decide))) (pg_name (i := 3) sc__last_ones.nd rfl (.inr (by kernel_rfl)) (.inl rfl)) (gs_name 3) (by decide)
  (sjs_cons (L1 := [0, 0, 1, 0, 0]) (sj_if (et_not (et_val (EO.up (k := 0) (n := 1) (eo_callB (c_any rfl) fAny_nx (gl_of (by kernel_rfl)) T.z_any (by decide +kernel) (ea_cons (EO.up (k := 1) (n := 1) (eo_lc (own := [("other", 4)]) rfl sc__last_ones.nd (ei_seq (eb_var (n := 1) (i := 1) rfl (.inl (by kernel_rfl)) (by decide))) (blkOk_by (by kernel_rfl)) (fun _ _ _ _ _ => (pg_name (i := 4) sc__last_ones.nd rfl (.inl (by kernel_rfl)) (.inr (by kernel_rfl)))) (fun _ _ _ _ _ => ets_nil) (fun _ _ _ _ _ => (EB.o (eb_and (EO.up (k := 0) (n := 0) (eo_cmp (o_ne hr.units) dNe_nx (eb_var (n := 1) (i := 4) rfl (.inl (by kernel_rfl)) (by decide)) (eb_var (n := 1) (i := 3) rfl (.inr (.inl (by kernel_rfl))) (by decide)) (nomark _))) (eb_one (EO.up (k := 0) (n := 0) (eo_meth T.k_History T.m_History_is_above (G_History_is_above base) (hr.mono (by decide)) b_History_is_above.b takes0 (eb_var (n := 0) (i := 0) rfl (.inr (.inl (by kernel_rfl))) (by decide)) (ea_cons (eb_var (n := 0) (i := 3) rfl (.inr (.inl (by kernel_rfl))) (by decide)) (ea_cons (eb_var (n := 0) (i := 4) rfl (.inl (by kernel_rfl)) (by decide)) ea_nil)))))))) (gs_name 4) (by decide) (by decide))) ea_nil))))) (sjs_one (sj_append (i := 2) (k := 0) rfl (.inl (by kernel_rfl)) rfl (EB.o (eb_var (n := 0) (i := 3) rfl (.inr (.inl (by kernel_rfl))) (by decide))))) sjs_nil)
  (sjs_kill [3] sjs_nil)))
  (sjs_kill [3] (sjs_one (sj_ret (eo_callTy c_tuple fTuple_nx (gl_of (by kernel_rfl)) T.z_tuple (by decide +kernel) (ea_cons (eb_var (n := 1) (i := 2) rfl (.inl (by kernel_rfl)) (by decide)) ea_nil)))))))), b, F.kp⟩
theorem ok_lesser_parents (T : Txt K mg) : ∃ fd, (∀ base : Heap, FnOk P w K mg base (L2.CX P w) 5 (He.ga K "lesser_parents") fd ["history"] (Spec K mg 1 0 C_lesser_parents)) ∧ BA fd ["history"] ∧ PySem.W.keepIn K (.ref (He.ga K "lesser_parents")) = true := by
  obtain ⟨fd, F, b⟩ := T.F_lesser_parents
  obtain ⟨fd_History___init__, G_History___init__, b_History___init__⟩ := ok_History___init__ (P := P) (w := w) T
  obtain ⟨fd__last_ones, G__last_ones, b__last_ones, k__last_ones⟩ := ok__last_ones (P := P) (w := w) T
  exact ⟨fd, fun base => fn_ok (N := n_lesser_parents) (nN := 2) (k := 4) (kr := 0) (L := [0, 0]) (L' := [0, 0]) (FF := F_lesser_parents) F sc_lesser_parents rfl rfl rfl rfl fun cdv A outer s H E hr => ((sjs_one (sj_ret (EB.o (EO.b (k := 1) (eo_make (k := 0) T.i_History (G_History___init__ base) (hr.mono (by decide)) (gl_of (by kernel_rfl)) T.g_History b_History___init__.b (takes_of rfl rfl rfl rfl) (ea_cons (EO.up (k := 0) (n := 0) (eo_callTy c_tuple fTuple_nx (gl_of (by kernel_rfl)) T.z_tuple (by decide +kernel) (ea_cons (EO.up (k := 1) (n := 1) (eo_lc (own := [("row", 1)]) rfl sc_lesser_parents.nd (ei_seq (eb_fld T.k_History T.n_History_parents (eb_var (n := 2) (i := 0) rfl (.inr (.inl (by kernel_rfl))) (by decide)))) (blkOk_by (by kernel_rfl)) (fun _ _ _ _ _ => (pg_name (i := 1) sc_lesser_parents.nd rfl (.inl (by kernel_rfl)) (.inr (by kernel_rfl)))) (fun _ _ _ _ _ => ets_nil) (fun _ _ _ _ _ => (eo_call (G__last_ones base) (hr.mono (by decide)) (gl_of (by kernel_rfl)) T.g__last_ones k__last_ones b__last_ones.b takes0 (ea_cons (eb_var (n := 0) (i := 0) rfl (.inr (.inl (by kernel_rfl))) (by decide)) (ea_cons (eb_var (n := 0) (i := 1) rfl (.inl (by kernel_rfl)) (by decide)) ea_nil)))) (gs_name 1) (by decide) (by decide))) ea_nil))) ea_nil))))))), b, F.kp⟩
theorem ok__law_above (T : Txt K mg) : ∃ fd, (∀ base : Heap, FnOk P w K mg base (L2.CX P w) 1 (He.ga K "_law_above") fd ["parents", "version"] (Spec K mg 2 0 C__law_above)) ∧ BA fd ["parents", "version"] ∧ PySem.W.keepIn K (.ref (He.ga K "_law_above")) = true := by
  obtain ⟨fd, F, b⟩ := T.F__law_above
  exact ⟨fd, fun base => fn_ok (N := n__law_above) (nN := 5) (k := 0) (kr := 0) (L := [0, 0, 0, 0, 0]) (L' := [0, 0, 0, 0, 0]) (FF := F__law_above) F sc__law_above rfl rfl rfl rfl fun cdv A outer s H E hr => ((sjs_cons (L1 := [0, 0, 0, 0, 0]) (sj_parT (is := [2, 3]) (ks := [0, 0]) (pg_tup rfl (pgs_cons (pg_name (i := 2) sc__law_above.nd rfl (.inr (by kernel_rfl)) (.inl rfl)) (pgs_cons (pg_name (i := 3) sc__law_above.nd rfl (.inl (by kernel_rfl)) (.inl rfl)) pgs_nil))) (eas_cons (k := 0) (EB.o (EO.b (k := 1) (eo_lst (ea_cons (eb_var (n := 0) (i := 1) rfl (.inl (by kernel_rfl)) (by decide)) ea_nil)))) (eas_cons (k := 0) eo_int eas_nil)) (by decide) (by decide))
  (sjs_cons (L1 := [0, 0, 0, 0, 0]) (sj_while 100000 (passes_of rfl) (et_cmp o_lt dCmpI_nx (eb_var (n := 0) (i := 3) rfl (.inl (by kernel_rfl)) (by decide)) (EO.up (k := 0) (n := 0) (eo_callB c_len fLen_nx (gl_of (by kernel_rfl)) T.z_len (by decide +kernel) (ea_cons (eb_var (n := 1) (i := 2) rfl (.inr (.inl (by kernel_rfl))) (by decide)) ea_nil))) (nomark _))
  (sjs_cons (L1 := [0, 0, 0, 0, 0]) (sj_set (i := 2) (k := 0) sc__law_above.nd rfl (.inr (by kernel_rfl)) (EB.o (EO.b (k := 1) (eo_op o_add dAdd_nx (eb_var (n := 1) (i := 2) rfl (.inr (.inl (by kernel_rfl))) (by decide)) (EO.up (k := 1) (n := 1) (eo_lc (own := [("one", 4)]) rfl sc__law_above.nd (ei_seq (eb_ix (hu_of hr) (eb_var (n := 2) (i := 0) rfl (.inl (by kernel_rfl)) (by decide)) (eb_ix (hu_of hr) (eb_var (n := 1) (i := 2) rfl (.inr (.inl (by kernel_rfl))) (by decide)) (eb_var (n := 0) (i := 3) rfl (.inl (by kernel_rfl)) (by decide))))) (blkOk_by (by kernel_rfl)) (fun _ _ _ _ _ => (pg_name (i := 4) sc__law_above.nd rfl (.inl (by kernel_rfl)) (.inr (by kernel_rfl)))) (fun _ _ _ _ _ => (ets_one (et_cmp (o_notIn (hu65 hr)) dNotIn_nx (eb_var (n := 1) (i := 4) rfl (.inl (by kernel_rfl)) (by decide)) (eb_var (n := 1) (i := 2) rfl (.inr (.inl (by kernel_rfl))) (by decide)) (by rfl)))) (fun _ _ _ _ _ => (EB.o (eb_var (n := 0) (i := 4) rfl (.inl (by kernel_rfl)) (by decide)))) (gs_name 4) (by decide) (by decide)))))) (by decide))
  (sjs_one (sj_set (i := 3) (k := 0) sc__law_above.nd rfl (.inl (by kernel_rfl)) (EB.o (EO.b (k := 1) (eo_op o_add dAdd_nx (eb_var (n := 1) (i := 3) rfl (.inl (by kernel_rfl)) (by decide)) (EO.up (k := 0) (n := 1) eo_int)))) (by decide)))))
  (sjs_kill [3] (sjs_one (sj_ret (EB.o (EO.b (k := 1) (eo_callB (c_sorted hr.units) fSorted_nx (gl_of (by kernel_rfl)) T.z_sorted (by decide +kernel) (ea_cons (eb_var (n := 1) (i := 2) rfl (.inr (.inl (by kernel_rfl))) (by decide)) ea_nil)))))))))), b, F.kp⟩
theorem ok_check_versions (T : Txt K mg) : ∃ fd, (∀ base : Heap, FnOk P w K mg base (L2.CX P w) 2 (He.ga K "check_versions") fd ["history", "values"] (Spec K mg 2 0 C_check_versions)) ∧ BA fd ["history", "values"] ∧ PySem.W.keepIn K (.ref (He.ga K "check_versions")) = true := by
  obtain ⟨fd, F, b⟩ := T.F_check_versions
  obtain ⟨fd_is_whole, G_is_whole, b_is_whole, k_is_whole⟩ := ok_is_whole (P := P) (w := w) T
  exact ⟨fd, fun base => fn_ok (N := n_check_versions) (nN := 3) (k := 1) (kr := 0) (L := [0, 0, 0]) (L' := [0, 0, 0]) (FF := F_check_versions) F sc_check_versions rfl rfl rfl rfl fun cdv A outer s H E hr => ((sjs_one (sj_if (et_not (et_val (EO.up (k := 0) (n := 1) (eo_callB (c_all rfl) fAll_nx (gl_of (by kernel_rfl)) T.z_all (by decide +kernel) (ea_cons (EO.up (k := 1) (n := 1) (eo_lc (own := [("value", 2)]) rfl sc_check_versions.nd (ei_seq (eb_var (n := 1) (i := 1) rfl (.inl (by kernel_rfl)) (by decide))) (blkOk_by (by kernel_rfl)) (fun _ _ _ _ _ => (pg_name (i := 2) sc_check_versions.nd rfl (.inl (by kernel_rfl)) (.inr (by kernel_rfl)))) (fun _ _ _ _ _ => ets_nil) (fun _ _ _ _ _ => (eo_call (G_is_whole base) (hr.mono (by decide)) (gl_of (by kernel_rfl)) T.g_is_whole k_is_whole b_is_whole.b takes0 (ea_cons (eb_var (n := 0) (i := 2) rfl (.inl (by kernel_rfl)) (by decide)) (ea_cons (EO.up (k := 0) (n := 0) eo_int) (ea_cons (EO.up (k := 0) (n := 0) (eo_op o_sub dSub_nx (eb_fld T.k_History T.n_History_size (eb_var (n := 1) (i := 0) rfl (.inr (.inl (by kernel_rfl))) (by decide))) (EO.up (k := 0) (n := 0) eo_int))) ea_nil))))) (gs_name 2) (by decide) (by decide))) ea_nil))))) (sjs_one (sj_raise rfl (takes_of rfl rfl rfl rfl) PySem.F.excBase_ValueError T.e_BadVersion.2.1 T.e_BadVersion.1 T.e_BadVersion.2.2.1 (raises_own T.e_BadVersion.2.2.2.1 T.e_BadVersion.2.2.2.2) (gl_of (by kernel_rfl)))) sjs_nil))), b, F.kp⟩
theorem ok_History_above (T : Txt K mg) : ∃ fd, (∀ base : Heap, FnOk P w K mg base (L2.CX P w) 1 (He.ma K (He.ga K "History") "above") fd ["self", "version"] (Spec K mg 2 0 C_History_above)) ∧ BA fd ["self", "version"] := by
  obtain ⟨fd, F, b⟩ := T.F_History_above
  exact ⟨fd, fun base => fn_ok (N := n_History_above) (nN := 2) (k := 0) (kr := 0) (L := [0, 0]) (L' := [0, 0]) (FF := F_History_above) F sc_History_above rfl rfl rfl rfl fun cdv A outer s H E hr => ((sjs_one (sj_ret (eo_callTy c_tuple fTuple_nx (gl_of (by kernel_rfl)) T.z_tuple (by decide +kernel) (ea_cons (EO.up (k := 1) (n := 1) (eo_callB (c_sortedD rfl) fSortedD_nx (gl_of (by kernel_rfl)) T.z_sorted (by decide +kernel) (ea_cons (eb_ix (hu_of hr) (eb_fld T.k_History T.n_History__ancestors (eb_var (n := 3) (i := 0) rfl (.inl (by kernel_rfl)) (by decide))) (eb_var (n := 0) (i := 1) rfl (.inl (by kernel_rfl)) (by decide))) ea_nil))) ea_nil))))), b⟩
theorem ok_nearest (T : Txt K mg) : ∃ fd, (∀ base : Heap, FnOk P w K mg base (L2.CX P w) 3 (He.ga K "nearest") fd ["history", "one", "other"] (Spec K mg 3 0 C_nearest)) ∧ BA fd ["history", "one", "other"] ∧ PySem.W.keepIn K (.ref (He.ga K "nearest")) = true := by
  obtain ⟨fd, F, b⟩ := T.F_nearest
  obtain ⟨fd_check_versions, G_check_versions, b_check_versions, k_check_versions⟩ := ok_check_versions (P := P) (w := w) T
  obtain ⟨fd_History_above, G_History_above, b_History_above⟩ := ok_History_above (P := P) (w := w) T
  obtain ⟨fd_History_is_above, G_History_is_above, b_History_is_above⟩ := ok_History_is_above (P := P) (w := w) T
  obtain ⟨fd__last_ones, G__last_ones, b__last_ones, k__last_ones⟩ := ok__last_ones (P := P) (w := w) T
  exact ⟨fd, fun base => fn_ok (N := n_nearest) (nN := 5) (k := 2) (kr := 0) (L := [0, 0, 0, 0, 0]) (L' := [0, 0, 0, 0, 0]) (FF := F_nearest) F sc_nearest rfl rfl rfl rfl fun cdv A outer s H E hr => ((sjs_cons (L1 := [0, 0, 0, 0, 0]) (sj_expr (EO.up (k := 0) (n := 0) (eo_call (G_check_versions base) (hr.mono (by decide)) (gl_of (by kernel_rfl)) T.g_check_versions k_check_versions b_check_versions.b (takes_of rfl rfl rfl rfl) (ea_cons (eb_var (n := 0) (i := 0) rfl (.inr (.inl (by kernel_rfl))) (by decide)) (ea_cons (EO.up (k := 1) (n := 0) (eo_lst (ea_cons (eb_var (n := 0) (i := 1) rfl (.inl (by kernel_rfl)) (by decide)) (ea_cons (eb_var (n := 0) (i := 2) rfl (.inr (.inl (by kernel_rfl))) (by decide)) ea_nil)))) ea_nil)))))
  (sjs_cons (L1 := [0, 0, 0, 1, 0]) (sj_setLc (i := 3) (k := 0) (own := [("version", 4)]) rfl sc_nearest.nd rfl (by kernel_rfl) (by decide) (sw_true rfl (by kernel_rfl) rfl (by decide +kernel)) (ei_seq (EO.up (k := 0) (n := 1) (eo_meth T.k_History T.m_History_above (G_History_above base) (hr.mono (by decide)) b_History_above.b (takes_of rfl rfl rfl rfl) (eb_var (n := 0) (i := 0) rfl (.inr (.inl (by kernel_rfl))) (by decide)) (ea_cons (eb_var (n := 0) (i := 1) rfl (.inl (by kernel_rfl)) (by decide)) ea_nil)))) (blkOk_by (by kernel_rfl)) (fun _ _ _ _ _ => (pg_name (i := 4) sc_nearest.nd rfl (.inl (by kernel_rfl)) (.inr (by kernel_rfl)))) (fun _ _ _ _ _ => (ets_one (et_val (EO.up (k := 0) (n := 1) (eo_meth T.k_History T.m_History_is_above (G_History_is_above base) (hr.mono (by decide)) b_History_is_above.b takes0 (eb_var (n := 0) (i := 0) rfl (.inr (.inl (by kernel_rfl))) (by decide)) (ea_cons (eb_var (n := 0) (i := 4) rfl (.inl (by kernel_rfl)) (by decide)) (ea_cons (eb_var (n := 0) (i := 2) rfl (.inr (.inl (by kernel_rfl))) (by decide)) ea_nil))))))) (fun _ _ _ _ _ => (EB.o (eb_var (n := 0) (i := 4) rfl (.inl (by kernel_rfl)) (by decide)))) (gs_name 4) (by decide) (by decide))
  (sjs_drop 3 (sjs_one (sj_ret (eo_call (G__last_ones base) (hr.mono (by decide)) (gl_of (by kernel_rfl)) T.g__last_ones k__last_ones b__last_ones.b (takes_of rfl rfl rfl rfl) (ea_cons (eb_var (n := 0) (i := 0) rfl (.inr (.inl (by kernel_rfl))) (by decide)) (ea_cons (eb_var (n := 0) (i := 3) rfl (.inl (by kernel_rfl)) (by decide)) ea_nil))))))))), b, F.kp⟩
theorem ok__law_refused (T : Txt K mg) : ∃ fd, (∀ base : Heap, FnOk P w K mg base (L2.CX P w) 4 (He.ga K "_law_refused") fd ["history", "one", "other"] (Spec K mg 3 0 C__law_refused)) ∧ BA fd ["history", "one", "other"] ∧ PySem.W.keepIn K (.ref (He.ga K "_law_refused")) = true := by
  obtain ⟨fd, F, b⟩ := T.F__law_refused
  obtain ⟨fd_nearest, G_nearest, b_nearest, k_nearest⟩ := ok_nearest (P := P) (w := w) T
  exact ⟨fd, fun base => fn_ok (N := n__law_refused) (nN := 3) (k := 3) (kr := 0) (L := [0, 0, 0]) (L' := [0, 0, 0]) (FF := F__law_refused) F sc__law_refused rfl rfl rfl rfl fun cdv A outer s H E hr => ((sjs_cons (L1 := [0, 0, 0]) (sj_try (us := ["BadHistory", "BadVersion"]) [(.ref (He.ga K "BadVersion"), ["BadVersion"], (sNx (sRet (eC (.bl true)))))] rfl rfl (takes_of rfl rfl rfl rfl) (hm_c (hc_c T.e_BadHistory.1 T.m_BadHistory_BadVersion (by decide +kernel) hc_n) (hm_c (hc_c T.e_BadVersion.1 T.m_BadVersion_BadVersion (by decide +kernel) hc_n) hm_n)) (fun W2 pnX xeX tkX pasX => (sjs_one (sj_expr (EO.up (k := 0) (n := 0) (eo_call (G_nearest base) (hr.mono (by decide)) (gl_of (by kernel_rfl)) T.g_nearest k_nearest b_nearest.b tkX (ea_cons (eb_var (n := 0) (i := 0) rfl (.inl (by kernel_rfl)) (by decide)) (ea_cons (eb_var (n := 0) (i := 1) rfl (.inl (by kernel_rfl)) (by decide)) (ea_cons (eb_var (n := 0) (i := 2) rfl (.inl (by kernel_rfl)) (by decide)) ea_nil)))))))) (hp_cons 3 (names_g (gl_of (by kernel_rfl)) T.e_BadVersion.1) (fun _ _ => (sjs_one (sj_ret eo_bl))) hp_nil))
  (sjs_one (sj_ret eo_bl)))), b, F.kp⟩
theorem ok_law (T : Txt K mg) : ∃ fd, (∀ base : Heap, FnOk P w K mg base (L2.CX P w) 6 (He.ga K "law") fd ["script"] (Spec K mg 1 0 C_law)) ∧ BA fd ["script"] ∧ PySem.W.keepIn K (.ref (He.ga K "law")) = true := by
  obtain ⟨fd, F, b⟩ := T.F_law
  obtain ⟨fd__law_draws, G__law_draws, b__law_draws, k__law_draws⟩ := ok__law_draws (P := P) (w := w) T
  obtain ⟨fd__law_parents, G__law_parents, b__law_parents, k__law_parents⟩ := ok__law_parents (P := P) (w := w) T
  obtain ⟨fd_History___init__, G_History___init__, b_History___init__⟩ := ok_History___init__ (P := P) (w := w) T
  obtain ⟨fd__law_above, G__law_above, b__law_above, k__law_above⟩ := ok__law_above (P := P) (w := w) T
  obtain ⟨fd_nearest, G_nearest, b_nearest, k_nearest⟩ := ok_nearest (P := P) (w := w) T
  obtain ⟨fd_lesser_parents, G_lesser_parents, b_lesser_parents, k_lesser_parents⟩ := ok_lesser_parents (P := P) (w := w) T
  obtain ⟨fd__law_refused, G__law_refused, b__law_refused, k__law_refused⟩ := ok__law_refused (P := P) (w := w) T
  exact ⟨fd, fun base => fn_ok (N := n_law) (nN := 20) (k := 5) (kr := 0) (L := [0, 0, 0, 0, 0, 0, 0, 0, 0, 0, 0, 0, 0, 0, 0, 0, 0, 0, 0, 0]) (L' := [0, 0, 0, 0, 0, 0, 0, 0, 0, 0, 0, 0, 0, 0, 0, 0, 0, 0, 0, 0]) (FF := F_law) F sc_law rfl rfl rfl rfl fun cdv A outer s H E hr => ((sjs_cons (L1 := [0, 0, 0, 0, 0, 0, 0, 0, 0, 0, 0, 0, 0, 0, 0, 0, 0, 0, 0, 0]) (sj_set (i := 1) (k := 0) sc_law.nd rfl (.inl (by kernel_rfl)) (eo_call (G__law_draws base) (hr.mono (by decide)) (gl_of (by kernel_rfl)) T.g__law_draws k__law_draws b__law_draws.b (takes_of rfl rfl rfl rfl) (ea_cons (eb_var (n := 0) (i := 0) rfl (.inl (by kernel_rfl)) (by decide)) (ea_cons (EO.up (k := 0) (n := 0) eo_int) ea_nil))) (by decide))
  (sjs_cons (L1 := [0, 0, 0, 0, 0, 0, 0, 0, 0, 0, 0, 0, 0, 0, 0, 0, 0, 0, 0, 0]) (sj_for (passes_of rfl) rfl (ei_range1 (gl_of (by kernel_rfl)) T.z_range (ea_cons (EO.up (k := 0) (n := 0) eo_int) ea_nil)) (pg_name (i := 2) sc_law.nd rfl (.inl (by kernel_rfl)) (.inl rfl)) (gs_name 2) (by decide)
  (sjs_cons (L1 := [0, 0, 0, 0, 0, 0, 0, 0, 0, 0, 0, 0, 0, 0, 0, 0, 0, 0, 0, 0]) (sj_set (i := 3) (k := 0) sc_law.nd rfl (.inr (by kernel_rfl)) (eo_call (G__law_parents base) (hr.mono (by decide)) (gl_of (by kernel_rfl)) T.g__law_parents k__law_parents b__law_parents.b (takes_of rfl rfl rfl rfl) (ea_cons (eb_var (n := 0) (i := 1) rfl (.inl (by kernel_rfl)) (by decide)) (ea_cons (eb_ix (hu_of hr) (EO.up (k := 1) (n := 1) (eo_lst (ea_cons (EO.up (k := 0) (n := 0) eo_int) (ea_cons (EO.up (k := 0) (n := 0) eo_int) (ea_cons (EO.up (k := 0) (n := 0) eo_int) ea_nil))))) (eb_var (n := 0) (i := 2) rfl (.inl (by kernel_rfl)) (by decide))) (ea_cons (eb_ix (hu_of hr) (EO.up (k := 1) (n := 1) (eo_lst (ea_cons (EO.up (k := 0) (n := 0) eo_int) (ea_cons (EO.up (k := 0) (n := 0) eo_int) (ea_cons (EO.up (k := 0) (n := 0) eo_int) ea_nil))))) (eb_var (n := 0) (i := 2) rfl (.inl (by kernel_rfl)) (by decide))) ea_nil)))) (by decide))
  (sjs_cons (L1 := [0, 0, 0, 0, 0, 0, 0, 0, 0, 0, 0, 0, 0, 0, 0, 0, 0, 0, 0, 0]) (sj_par2 (i := 4) (j := 5) (k1 := 0) (k2 := 0) rfl sc_law.nd rfl rfl (by decide) (by kernel_rfl) (by kernel_rfl) (EB.o (EO.b (k := 1) (eo_make (k := 0) T.i_History (G_History___init__ base) (hr.mono (by decide)) (gl_of (by kernel_rfl)) T.g_History b_History___init__.b (takes_of rfl rfl rfl rfl) (ea_cons (eb_var (n := 0) (i := 3) rfl (.inr (.inl (by kernel_rfl))) (by decide)) ea_nil)))) (eo_callB c_len fLen_nx (gl_of (by kernel_rfl)) T.z_len (by decide +kernel) (ea_cons (eb_var (n := 1) (i := 3) rfl (.inr (.inl (by kernel_rfl))) (by decide)) ea_nil)) (by decide) (by decide) (by kernel_rfl))
  (sjs_cons (L1 := [0, 0, 0, 0, 0, 0, 0, 0, 0, 0, 0, 0, 0, 0, 0, 0, 0, 0, 0, 0]) (sj_set (i := 7) (k := 0) sc_law.nd rfl (.inr (by kernel_rfl)) (EB.o (EO.b (k := 1) (eo_lc (own := [("k", 6)]) rfl sc_law.nd (ei_range1 (gl_of (by kernel_rfl)) T.z_range (ea_cons (eb_var (n := 0) (i := 5) rfl (.inl (by kernel_rfl)) (by decide)) ea_nil)) (blkOk_by (by kernel_rfl)) (fun _ _ _ _ _ => (pg_name (i := 6) sc_law.nd rfl (.inl (by kernel_rfl)) (.inr (by kernel_rfl)))) (fun _ _ _ _ _ => ets_nil) (fun _ _ _ _ _ => (eo_call (G__law_above base) (hr.mono (by decide)) (gl_of (by kernel_rfl)) T.g__law_above k__law_above b__law_above.b takes0 (ea_cons (eb_var (n := 0) (i := 3) rfl (.inr (.inl (by kernel_rfl))) (by decide)) (ea_cons (eb_var (n := 0) (i := 6) rfl (.inl (by kernel_rfl)) (by decide)) ea_nil)))) (gs_name 6) (by decide) (by decide)))) (by decide))
  (sjs_cons (L1 := [0, 0, 0, 0, 0, 0, 0, 0, 0, 0, 0, 0, 0, 0, 0, 0, 0, 0, 0, 0]) (sj_for (passes_of rfl) rfl (ei_range1 (gl_of (by kernel_rfl)) T.z_range (ea_cons (eb_var (n := 0) (i := 5) rfl (.inl (by kernel_rfl)) (by decide)) ea_nil)) (pg_name (i := 8) sc_law.nd rfl (.inl (by kernel_rfl)) (.inl rfl)) (gs_name 8) (by decide)
  (sjs_cons (L1 := [0, 0, 0, 0, 0, 0, 0, 0, 0, 0, 0, 0, 0, 0, 0, 0, 0, 0, 0, 0]) (sj_for (passes_of rfl) rfl (ei_range1 (gl_of (by kernel_rfl)) T.z_range (ea_cons (EO.up (k := 1) (n := 0) (eo_op o_add dAdd_nx (eb_var (n := 1) (i := 8) rfl (.inl (by kernel_rfl)) (by decide)) (EO.up (k := 0) (n := 1) eo_int))) ea_nil)) (pg_name (i := 9) sc_law.nd rfl (.inr (by kernel_rfl)) (.inl rfl)) (gs_name 9) (by decide)
  (sjs_cons (L1 := [0, 0, 0, 0, 0, 0, 0, 0, 0, 0, 0, 0, 0, 0, 0, 0, 0, 0, 0, 0]) (sj_set (i := 10) (k := 0) sc_law.nd rfl (.inr (by kernel_rfl)) (EB.o (EO.b (k := 1) (eo_lc (own := [("k", 6)]) rfl sc_law.nd (ei_seq (eb_ix (hu_of hr) (eb_var (n := 2) (i := 7) rfl (.inr (.inl (by kernel_rfl))) (by decide)) (eb_var (n := 0) (i := 8) rfl (.inl (by kernel_rfl)) (by decide)))) (blkOk_by (by kernel_rfl)) (fun _ _ _ _ _ => (pg_name (i := 6) sc_law.nd rfl (.inl (by kernel_rfl)) (.inr (by kernel_rfl)))) (fun _ _ _ _ _ => (ets_one (et_cmp (o_in (hu65 hr)) dIn_nx (eb_var (n := 1) (i := 6) rfl (.inl (by kernel_rfl)) (by decide)) (eb_ix (hu_of hr) (eb_var (n := 2) (i := 7) rfl (.inr (.inl (by kernel_rfl))) (by decide)) (eb_var (n := 0) (i := 9) rfl (.inr (.inl (by kernel_rfl))) (by decide))) (by rfl)))) (fun _ _ _ _ _ => (EB.o (eb_var (n := 0) (i := 6) rfl (.inl (by kernel_rfl)) (by decide)))) (gs_name 6) (by decide) (by decide)))) (by decide))
  (sjs_cons (L1 := [0, 0, 0, 0, 0, 0, 0, 0, 0, 0, 0, 0, 0, 0, 0, 0, 0, 0, 0, 0]) (sj_set (i := 12) (k := 0) sc_law.nd rfl (.inl (by kernel_rfl)) (eo_callTy c_tuple fTuple_nx (gl_of (by kernel_rfl)) T.z_tuple (by decide +kernel) (ea_cons (EO.up (k := 1) (n := 1) (eo_lc (own := [("k", 6)]) rfl sc_law.nd (ei_seq (eb_var (n := 1) (i := 10) rfl (.inr (.inl (by kernel_rfl))) (by decide))) (blkOk_by (by kernel_rfl)) (fun _ _ _ _ _ => (pg_name (i := 6) sc_law.nd rfl (.inr (by kernel_rfl)) (.inl (by kernel_rfl)))) (fun _ _ _ _ _ => (ets_one (et_not (et_val (EO.up (k := 0) (n := 1) (eo_callB (c_any rfl) fAny_nx (gl_of (by kernel_rfl)) T.z_any (by decide +kernel) (ea_cons (EO.up (k := 1) (n := 1) (eo_lc (own := [("n", 11)]) rfl sc_law.nd (ei_seq (eb_var (n := 1) (i := 10) rfl (.inr (.inl (by kernel_rfl))) (by decide))) (blkOk_by (by kernel_rfl)) (fun _ _ _ _ _ => (pg_name (i := 11) sc_law.nd rfl (.inl (by kernel_rfl)) (.inr (by kernel_rfl)))) (fun _ _ _ _ _ => ets_nil) (fun _ _ _ _ _ => (EB.o (eb_and (EO.up (k := 0) (n := 0) (eo_cmp (o_ne hr.units) dNe_nx (eb_var (n := 1) (i := 11) rfl (.inl (by kernel_rfl)) (by decide)) (eb_var (n := 1) (i := 6) rfl (.inr (.inl (by kernel_rfl))) (by decide)) (nomark _))) (eb_one (EO.up (k := 0) (n := 0) (eo_cmp (o_in (hu65 hr)) dIn_nx (eb_var (n := 1) (i := 6) rfl (.inr (.inl (by kernel_rfl))) (by decide)) (eb_ix (hu_of hr) (eb_var (n := 2) (i := 7) rfl (.inr (.inl (by kernel_rfl))) (by decide)) (eb_var (n := 0) (i := 11) rfl (.inl (by kernel_rfl)) (by decide))) (by rfl))))))) (gs_name 11) (by decide) (by decide))) ea_nil))))))) (fun _ _ _ _ _ => (EB.o (eb_var (n := 0) (i := 6) rfl (.inr (.inl (by kernel_rfl))) (by decide)))) (gs_name 6) (by decide) (by decide))) ea_nil)) (by decide))
  (sjs_cons (L1 := [0, 0, 0, 0, 0, 0, 0, 0, 0, 0, 0, 0, 0, 0, 0, 0, 0, 0, 0, 0]) (sj_set (i := 13) (k := 0) sc_law.nd rfl (.inr (by kernel_rfl)) (eo_call (G_nearest base) (hr.mono (by decide)) (gl_of (by kernel_rfl)) T.g_nearest k_nearest b_nearest.b (takes_of rfl rfl rfl rfl) (ea_cons (eb_var (n := 0) (i := 4) rfl (.inl (by kernel_rfl)) (by decide)) (ea_cons (eb_var (n := 0) (i := 8) rfl (.inl (by kernel_rfl)) (by decide)) (ea_cons (eb_var (n := 0) (i := 9) rfl (.inr (.inl (by kernel_rfl))) (by decide)) ea_nil)))) (by decide))
  (sjs_cons (L1 := [0, 0, 0, 0, 0, 0, 0, 0, 0, 0, 0, 0, 0, 0, 0, 0, 0, 0, 0, 0]) (sj_if (et_w (ew_or (et_not (et_val (EO.up (k := 0) (n := 1) (eo_isi kind_tup (gl_of (by kernel_rfl)) T.z_isinstance (gl_of (by kernel_rfl)) T.z_tuple (by decide +kernel) (eb_var (n := 1) (i := 13) rfl (.inr (.inl (by kernel_rfl))) (by decide)))))) (ew_or (et_cmp (o_ne hr.units) dNe_nx (eb_var (n := 1) (i := 13) rfl (.inr (.inl (by kernel_rfl))) (by decide)) (eb_var (n := 1) (i := 12) rfl (.inl (by kernel_rfl)) (by decide)) (nomark _)) (ew_or (et_cmp (o_ne hr.units) dNe_nx (EO.up (k := 0) (n := 1) (eo_call (G_nearest base) (hr.mono (by decide)) (gl_of (by kernel_rfl)) T.g_nearest k_nearest b_nearest.b (takes_of rfl rfl rfl rfl) (ea_cons (eb_var (n := 0) (i := 4) rfl (.inl (by kernel_rfl)) (by decide)) (ea_cons (eb_var (n := 0) (i := 9) rfl (.inr (.inl (by kernel_rfl))) (by decide)) (ea_cons (eb_var (n := 0) (i := 8) rfl (.inl (by kernel_rfl)) (by decide)) ea_nil))))) (eb_var (n := 1) (i := 12) rfl (.inl (by kernel_rfl)) (by decide)) (nomark _)) (ew_or1 (et_val (EO.up (k := 0) (n := 1) (eo_callB (c_any rfl) fAny_nx (gl_of (by kernel_rfl)) T.z_any (by decide +kernel) (ea_cons (EO.up (k := 1) (n := 1) (eo_lc (own := [("k", 6)]) rfl sc_law.nd (ei_seq (eb_var (n := 1) (i := 13) rfl (.inr (.inl (by kernel_rfl))) (by decide))) (blkOk_by (by kernel_rfl)) (fun _ _ _ _ _ => (pg_name (i := 6) sc_law.nd rfl (.inl (by kernel_rfl)) (.inr (by kernel_rfl)))) (fun _ _ _ _ _ => ets_nil) (fun _ _ _ _ _ => (eo_isi kind_bool (gl_of (by kernel_rfl)) T.z_isinstance (gl_of (by kernel_rfl)) T.z_bool (by decide +kernel) (eb_var (n := 1) (i := 6) rfl (.inl (by kernel_rfl)) (by decide)))) (gs_name 6) (by decide) (by decide))) ea_nil))))))))) (sjs_one (sj_ret eo_bl)) sjs_nil)
  (sjs_cons (L1 := [0, 0, 0, 0, 0, 0, 0, 0, 0, 0, 0, 0, 0, 0, 0, 0, 0, 0, 0, 0]) (sj_if (et_w (ew_or (et_not (et_val (EO.up (k := 0) (n := 1) (eo_callB (c_all rfl) fAll_nx (gl_of (by kernel_rfl)) T.z_all (by decide +kernel) (ea_cons (EO.up (k := 1) (n := 1) (eo_lc (own := [("k", 6)]) rfl sc_law.nd (ei_seq (eb_var (n := 1) (i := 10) rfl (.inr (.inl (by kernel_rfl))) (by decide))) (blkOk_by (by kernel_rfl)) (fun _ _ _ _ _ => (pg_name (i := 6) sc_law.nd rfl (.inr (by kernel_rfl)) (.inl (by kernel_rfl)))) (fun _ _ _ _ _ => ets_nil) (fun _ _ _ _ _ => (eo_callB (c_any rfl) fAny_nx (gl_of (by kernel_rfl)) T.z_any (by decide +kernel) (ea_cons (EO.up (k := 1) (n := 1) (eo_lc (own := [("n", 11)]) rfl sc_law.nd (ei_seq (eb_var (n := 1) (i := 13) rfl (.inr (.inl (by kernel_rfl))) (by decide))) (blkOk_by (by kernel_rfl)) (fun _ _ _ _ _ => (pg_name (i := 11) sc_law.nd rfl (.inl (by kernel_rfl)) (.inr (by kernel_rfl)))) (fun _ _ _ _ _ => ets_nil) (fun _ _ _ _ _ => (eo_cmp (o_in (hu65 hr)) dIn_nx (eb_var (n := 1) (i := 6) rfl (.inr (.inl (by kernel_rfl))) (by decide)) (eb_ix (hu_of hr) (eb_var (n := 2) (i := 7) rfl (.inr (.inl (by kernel_rfl))) (by decide)) (eb_var (n := 0) (i := 11) rfl (.inl (by kernel_rfl)) (by decide))) (by rfl))) (gs_name 11) (by decide) (by decide))) ea_nil))) (gs_name 6) (by decide) (by decide))) ea_nil))))) (ew_or1 (et_w (ew_and (et_cmp (o_in (hu65 hr)) dIn_nx (eb_var (n := 1) (i := 8) rfl (.inl (by kernel_rfl)) (by decide)) (eb_ix (hu_of hr) (eb_var (n := 2) (i := 7) rfl (.inr (.inl (by kernel_rfl))) (by decide)) (eb_var (n := 0) (i := 9) rfl (.inr (.inl (by kernel_rfl))) (by decide))) (by rfl)) (ew_and1 (et_cmp (o_ne hr.units) dNe_nx (eb_var (n := 1) (i := 13) rfl (.inr (.inl (by kernel_rfl))) (by decide)) (EO.up (k := 0) (n := 1) (eo_tup (ea_cons (eb_var (n := 0) (i := 8) rfl (.inl (by kernel_rfl)) (by decide)) ea_nil))) (nomark _)))))))) (sjs_one (sj_ret eo_bl)) sjs_nil)
  (sjs_kill [9, 10, 12, 13] sjs_nil)))))))
  (sjs_kill [9, 10, 12, 13] (sjs_kill [8, 9, 10, 12, 13] sjs_nil))))
  (sjs_kill [8, 9, 10, 12, 13] (sjs_cons (L1 := [0, 0, 0, 0, 0, 0, 0, 0, 0, 0, 0, 0, 0, 0, 0, 0, 0, 0, 0, 0]) (sj_set (i := 14) (k := 0) sc_law.nd rfl (.inl (by kernel_rfl)) (eo_call (G_lesser_parents base) (hr.mono (by decide)) (gl_of (by kernel_rfl)) T.g_lesser_parents k_lesser_parents b_lesser_parents.b (takes_of rfl rfl rfl rfl) (ea_cons (eb_var (n := 0) (i := 4) rfl (.inl (by kernel_rfl)) (by decide)) ea_nil)) (by decide))
  (sjs_cons (L1 := [0, 0, 0, 0, 0, 0, 0, 0, 0, 0, 0, 0, 0, 0, 0, 0, 0, 0, 0, 0]) (sj_for (passes_of rfl) rfl (ei_range1 (gl_of (by kernel_rfl)) T.z_range (ea_cons (eb_var (n := 0) (i := 5) rfl (.inl (by kernel_rfl)) (by decide)) ea_nil)) (pg_name (i := 6) sc_law.nd rfl (.inr (by kernel_rfl)) (.inl rfl)) (gs_name 6) (by decide)
  (sjs_cons (L1 := [0, 0, 0, 0, 0, 0, 0, 0, 0, 0, 0, 0, 0, 0, 0, 0, 0, 0, 0, 0]) (sj_set (i := 15) (k := 0) sc_law.nd rfl (.inl (by kernel_rfl)) (eo_callTy c_tuple fTuple_nx (gl_of (by kernel_rfl)) T.z_tuple (by decide +kernel) (ea_cons (EO.up (k := 1) (n := 1) (eo_lc (own := [("n", 11)]) rfl sc_law.nd (ei_seq (eb_ix (hu_of hr) (eb_var (n := 2) (i := 3) rfl (.inr (.inl (by kernel_rfl))) (by decide)) (eb_var (n := 0) (i := 6) rfl (.inr (.inl (by kernel_rfl))) (by decide)))) (blkOk_by (by kernel_rfl)) (fun _ _ _ _ _ => (pg_name (i := 11) sc_law.nd rfl (.inr (by kernel_rfl)) (.inl (by kernel_rfl)))) (fun _ _ _ _ _ => (ets_one (et_not (et_val (EO.up (k := 0) (n := 1) (eo_callB (c_any rfl) fAny_nx (gl_of (by kernel_rfl)) T.z_any (by decide +kernel) (ea_cons (EO.up (k := 1) (n := 1) (eo_lc (own := [("m", 19)]) rfl sc_law.nd (ei_seq (eb_ix (hu_of hr) (eb_var (n := 2) (i := 3) rfl (.inr (.inl (by kernel_rfl))) (by decide)) (eb_var (n := 0) (i := 6) rfl (.inr (.inl (by kernel_rfl))) (by decide)))) (blkOk_by (by kernel_rfl)) (fun _ _ _ _ _ => (pg_name (i := 19) sc_law.nd rfl (.inl (by kernel_rfl)) (.inr (by kernel_rfl)))) (fun _ _ _ _ _ => ets_nil) (fun _ _ _ _ _ => (EB.o (eb_and (EO.up (k := 0) (n := 0) (eo_cmp (o_ne hr.units) dNe_nx (eb_var (n := 1) (i := 19) rfl (.inl (by kernel_rfl)) (by decide)) (eb_var (n := 1) (i := 11) rfl (.inr (.inl (by kernel_rfl))) (by decide)) (nomark _))) (eb_one (EO.up (k := 0) (n := 0) (eo_cmp (o_in (hu65 hr)) dIn_nx (eb_var (n := 1) (i := 11) rfl (.inr (.inl (by kernel_rfl))) (by decide)) (eb_ix (hu_of hr) (eb_var (n := 2) (i := 7) rfl (.inr (.inl (by kernel_rfl))) (by decide)) (eb_var (n := 0) (i := 19) rfl (.inl (by kernel_rfl)) (by decide))) (by rfl))))))) (gs_name 19) (by decide) (by decide))) ea_nil))))))) (fun _ _ _ _ _ => (EB.o (eb_var (n := 0) (i := 11) rfl (.inr (.inl (by kernel_rfl))) (by decide)))) (gs_name 11) (by decide) (by decide))) ea_nil)) (by decide))
  (sjs_cons (L1 := [0, 0, 0, 0, 0, 0, 0, 0, 0, 0, 0, 0, 0, 0, 0, 0, 0, 0, 0, 0]) (sj_if (et_w (ew_or (et_cmp (o_ne hr.units) dNe_nx (eb_ix (hu_of hr) (eb_fld T.k_History T.n_History_parents (eb_var (n := 3) (i := 14) rfl (.inl (by kernel_rfl)) (by decide))) (eb_var (n := 0) (i := 6) rfl (.inr (.inl (by kernel_rfl))) (by decide))) (eb_var (n := 1) (i := 15) rfl (.inl (by kernel_rfl)) (by decide)) (nomark _)) (ew_or1 (et_cmp (o_ne hr.units) dNe_nx (EO.up (k := 0) (n := 1) (eo_call (G__law_above base) (hr.mono (by decide)) (gl_of (by kernel_rfl)) T.g__law_above k__law_above b__law_above.b (takes_of rfl rfl rfl rfl) (ea_cons (eb_fld T.k_History T.n_History_parents (eb_var (n := 1) (i := 14) rfl (.inl (by kernel_rfl)) (by decide))) (ea_cons (eb_var (n := 0) (i := 6) rfl (.inr (.inl (by kernel_rfl))) (by decide)) ea_nil)))) (eb_ix (hu_of hr) (eb_var (n := 2) (i := 7) rfl (.inr (.inl (by kernel_rfl))) (by decide)) (eb_var (n := 0) (i := 6) rfl (.inr (.inl (by kernel_rfl))) (by decide))) (nomark _))))) (sjs_one (sj_ret eo_bl)) sjs_nil)
  (sjs_cons (L1 := [0, 0, 0, 0, 0, 0, 0, 0, 0, 0, 0, 0, 0, 0, 0, 0, 0, 0, 0, 0]) (sj_for (passes_of rfl) rfl (ei_range1 (gl_of (by kernel_rfl)) T.z_range (ea_cons (EO.up (k := 0) (n := 0) (eo_callB c_len fLen_nx (gl_of (by kernel_rfl)) T.z_len (by decide +kernel) (ea_cons (eb_var (n := 1) (i := 15) rfl (.inl (by kernel_rfl)) (by decide)) ea_nil))) ea_nil)) (pg_name (i := 11) sc_law.nd rfl (.inl (by kernel_rfl)) (.inl rfl)) (gs_name 11) (by decide)
  (sjs_cons (L1 := [0, 0, 0, 0, 0, 0, 0, 0, 0, 0, 0, 0, 0, 0, 0, 0, 0, 0, 0, 0]) (sj_set (i := 16) (k := 0) sc_law.nd rfl (.inl (by kernel_rfl)) (EB.o (EO.b (k := 1) (eo_op o_add dAdd_nx (EO.up (k := 1) (n := 1) (eo_op o_add dAdd_nx (EO.up (k := 1) (n := 1) (eo_sl (eb_fld T.k_History T.n_History_parents (eb_var (n := 2) (i := 14) rfl (.inl (by kernel_rfl)) (by decide))) ep_none (ep_some (eb_var (n := 0) (i := 6) rfl (.inr (.inl (by kernel_rfl))) (by decide))))) (EO.up (k := 0) (n := 1) (eo_tup (ea_cons (EO.up (k := 1) (n := 0) (eo_op o_add dAdd_nx (EO.up (k := 1) (n := 1) (eo_sl (eb_var (n := 1) (i := 15) rfl (.inl (by kernel_rfl)) (by decide)) ep_none (ep_some (eb_var (n := 0) (i := 11) rfl (.inl (by kernel_rfl)) (by decide))))) (EO.up (k := 1) (n := 1) (eo_sl (eb_var (n := 1) (i := 15) rfl (.inl (by kernel_rfl)) (by decide)) (ep_some (EO.up (k := 1) (n := 0) (eo_op o_add dAdd_nx (eb_var (n := 1) (i := 11) rfl (.inl (by kernel_rfl)) (by decide)) (EO.up (k := 0) (n := 1) eo_int)))) ep_none)))) ea_nil))))) (EO.up (k := 1) (n := 1) (eo_sl (eb_fld T.k_History T.n_History_parents (eb_var (n := 2) (i := 14) rfl (.inl (by kernel_rfl)) (by decide))) (ep_some (EO.up (k := 1) (n := 0) (eo_op o_add dAdd_nx (eb_var (n := 1) (i := 6) rfl (.inr (.inl (by kernel_rfl))) (by decide)) (EO.up (k := 0) (n := 1) eo_int)))) ep_none))))) (by decide))
  (sjs_cons (L1 := [0, 0, 0, 0, 0, 0, 0, 0, 0, 0, 0, 0, 0, 0, 0, 0, 0, 0, 0, 0]) (sj_if (et_cmp (o_eq hr.units) dEq_nx (EO.up (k := 0) (n := 1) (eo_call (G__law_above base) (hr.mono (by decide)) (gl_of (by kernel_rfl)) T.g__law_above k__law_above b__law_above.b (takes_of rfl rfl rfl rfl) (ea_cons (eb_var (n := 0) (i := 16) rfl (.inl (by kernel_rfl)) (by decide)) (ea_cons (eb_var (n := 0) (i := 6) rfl (.inr (.inl (by kernel_rfl))) (by decide)) ea_nil)))) (eb_ix (hu_of hr) (eb_var (n := 2) (i := 7) rfl (.inr (.inl (by kernel_rfl))) (by decide)) (eb_var (n := 0) (i := 6) rfl (.inr (.inl (by kernel_rfl))) (by decide))) (nomark _)) (sjs_one (sj_ret eo_bl)) sjs_nil)
  (sjs_kill [16] sjs_nil))))
  (sjs_kill [16] (sjs_kill [15, 16] sjs_nil))))))
  (sjs_kill [15, 16] (sjs_cons (L1 := [0, 0, 0, 0, 0, 0, 0, 0, 0, 0, 0, 0, 0, 0, 0, 0, 0, 0, 0, 0]) (sj_for (passes_of rfl) rfl (ei_seq (EO.up (k := 1) (n := 0) (eo_lst (ea_cons (EO.up (k := 0) (n := 0) (eo_un o_neg dNeg_nx (EO.up (k := 0) (n := 0) eo_int))) (ea_cons (eb_var (n := 0) (i := 5) rfl (.inl (by kernel_rfl)) (by decide)) (ea_cons (EO.up (k := 0) (n := 0) eo_bl) (ea_cons (EO.up (k := 0) (n := 0) eo_non) (ea_cons (EO.up (k := 0) (n := 0) eo_str) ea_nil)))))))) (pg_name (i := 17) sc_law.nd rfl (.inl (by kernel_rfl)) (.inl rfl)) (gs_name 17) (by decide)
  (sjs_cons (L1 := [0, 0, 0, 0, 0, 0, 0, 0, 0, 0, 0, 0, 0, 0, 0, 0, 0, 0, 0, 0]) (sj_if (et_w (ew_or (et_not (et_val (EO.up (k := 0) (n := 1) (eo_call (G__law_refused base) (hr.mono (by decide)) (gl_of (by kernel_rfl)) T.g__law_refused k__law_refused b__law_refused.b (takes_of rfl rfl rfl rfl) (ea_cons (eb_var (n := 0) (i := 4) rfl (.inl (by kernel_rfl)) (by decide)) (ea_cons (eb_var (n := 0) (i := 17) rfl (.inl (by kernel_rfl)) (by decide)) (ea_cons (EO.up (k := 0) (n := 0) eo_int) ea_nil))))))) (ew_or1 (et_not (et_val (EO.up (k := 0) (n := 1) (eo_call (G__law_refused base) (hr.mono (by decide)) (gl_of (by kernel_rfl)) T.g__law_refused k__law_refused b__law_refused.b (takes_of rfl rfl rfl rfl) (ea_cons (eb_var (n := 0) (i := 4) rfl (.inl (by kernel_rfl)) (by decide)) (ea_cons (EO.up (k := 0) (n := 0) eo_int) (ea_cons (eb_var (n := 0) (i := 17) rfl (.inl (by kernel_rfl)) (by decide)) ea_nil)))))))))) (sjs_one (sj_ret eo_bl)) sjs_nil)
  (sjs_kill [17] sjs_nil)))
  (sjs_kill [17] (sjs_cons (L1 := [0, 0, 0, 0, 0, 0, 0, 0, 0, 0, 0, 0, 0, 0, 0, 0, 0, 0, 0, 0]) (sj_if (et_w (ew_or (et_cmp (o_ne hr.units) dNe_nx (eb_fld T.k_History T.n_History_size (eb_var (n := 2) (i := 14) rfl (.inl (by kernel_rfl)) (by decide))) (eb_var (n := 1) (i := 5) rfl (.inl (by kernel_rfl)) (by decide)) (nomark _)) (ew_or1 (et_cmp (o_ne hr.units) dNe_nx (eb_fld T.k_History T.n_History_parents (eb_var (n := 2) (i := 4) rfl (.inl (by kernel_rfl)) (by decide))) (eb_var (n := 1) (i := 3) rfl (.inr (.inl (by kernel_rfl))) (by decide)) (nomark _))))) (sjs_one (sj_ret eo_bl)) sjs_nil)
  (sjs_kill [2, 3, 4, 5, 7, 8, 9, 10, 12, 13, 14, 15, 16, 17] sjs_nil)))))))))))))
  (sjs_kill [2, 3, 4, 5, 6, 7, 8, 9, 10, 11, 12, 13, 14, 15, 16, 17] (sjs_cons (L1 := [0, 0, 0, 0, 0, 0, 0, 0, 0, 0, 0, 0, 0, 0, 0, 0, 0, 0, 0, 0]) (sj_set (i := 18) (k := 0) sc_law.nd rfl (.inl (by kernel_rfl)) (EB.o (EO.b (k := 1) (eo_make (k := 0) T.i_History (G_History___init__ base) (hr.mono (by decide)) (gl_of (by kernel_rfl)) T.g_History b_History___init__.b (takes_of rfl rfl rfl rfl) (ea_cons (EO.up (k := 0) (n := 0) (eo_tup (ea_cons (EO.up (k := 0) (n := 0) (eo_tup ea_nil)) (ea_cons (EO.up (k := 0) (n := 0) (eo_tup ea_nil)) (ea_cons (EO.up (k := 0) (n := 0) (eo_tup (ea_cons (EO.up (k := 0) (n := 0) eo_int) (ea_cons (EO.up (k := 0) (n := 0) eo_int) ea_nil)))) (ea_cons (EO.up (k := 0) (n := 0) (eo_tup (ea_cons (EO.up (k := 0) (n := 0) eo_int) (ea_cons (EO.up (k := 0) (n := 0) eo_int) ea_nil)))) (ea_cons (EO.up (k := 0) (n := 0) (eo_tup (ea_cons (EO.up (k := 0) (n := 0) eo_int) (ea_cons (EO.up (k := 0) (n := 0) eo_int) ea_nil)))) ea_nil))))))) ea_nil)))) (by decide))
  (sjs_one (sj_ret (EB.o (eb_and (EO.up (k := 0) (n := 0) (eo_cmp (o_eq hr.units) dEq_nx (EO.up (k := 0) (n := 1) (eo_call (G_nearest base) (hr.mono (by decide)) (gl_of (by kernel_rfl)) T.g_nearest k_nearest b_nearest.b (takes_of rfl rfl rfl rfl) (ea_cons (eb_var (n := 0) (i := 18) rfl (.inl (by kernel_rfl)) (by decide)) (ea_cons (EO.up (k := 0) (n := 0) eo_int) (ea_cons (EO.up (k := 0) (n := 0) eo_int) ea_nil))))) (EO.up (k := 0) (n := 1) (eo_tup (ea_cons (EO.up (k := 0) (n := 0) eo_int) (ea_cons (EO.up (k := 0) (n := 0) eo_int) ea_nil)))) (nomark _))) (eb_and (EO.up (k := 0) (n := 0) (eo_cmp (o_eq hr.units) dEq_nx (EO.up (k := 0) (n := 1) (eo_call (G_nearest base) (hr.mono (by decide)) (gl_of (by kernel_rfl)) T.g_nearest k_nearest b_nearest.b (takes_of rfl rfl rfl rfl) (ea_cons (EO.up (k := 1) (n := 0) (eo_make (k := 0) T.i_History (G_History___init__ base) (hr.mono (by decide)) (gl_of (by kernel_rfl)) T.g_History b_History___init__.b (takes_of rfl rfl rfl rfl) (ea_cons (EO.up (k := 0) (n := 0) (eo_tup (ea_cons (EO.up (k := 0) (n := 0) (eo_tup ea_nil)) (ea_cons (EO.up (k := 0) (n := 0) (eo_tup ea_nil)) ea_nil)))) ea_nil))) (ea_cons (EO.up (k := 0) (n := 0) eo_int) (ea_cons (EO.up (k := 0) (n := 0) eo_int) ea_nil))))) (EO.up (k := 0) (n := 1) (eo_tup ea_nil)) (nomark _))) (eb_one (EO.up (k := 0) (n := 0) (eo_cmp (o_eq hr.units) dEq_nx (EO.up (k := 0) (n := 1) (eo_call (G_nearest base) (hr.mono (by decide)) (gl_of (by kernel_rfl)) T.g_nearest k_nearest b_nearest.b (takes_of rfl rfl rfl rfl) (ea_cons (eb_var (n := 0) (i := 18) rfl (.inl (by kernel_rfl)) (by decide)) (ea_cons (EO.up (k := 0) (n := 0) eo_int) (ea_cons (EO.up (k := 0) (n := 0) eo_int) ea_nil))))) (EO.up (k := 0) (n := 1) (eo_tup (ea_cons (EO.up (k := 0) (n := 0) eo_int) ea_nil))) (nomark _)))))))))))))), b, F.kp⟩
end
end K
namespace K
open PySem PySem.Spec PyProof.Rows L2 Px
def fa_0 : List He.Fa := [.keep "_law_draws", .glo "_law_draws", .keep "_ancestors", .glo "_ancestors", .keep "ascends", .glo "ascends", .keep "is_whole", .glo "is_whole", .keep "_are_parents", .glo "_are_parents", .meth "History" "__init__", .keep "_law_parents", .glo "_law_parents", .meth "History" "is_above", .keep "_last_ones", .glo "_last_ones", .keep "lesser_parents", .glo "lesser_parents", .keep "_law_above", .glo "_law_above", .keep "check_versions", .glo "check_versions", .meth "History" "above", .keep "nearest", .glo "nearest", .keep "_law_refused", .glo "_law_refused", .keep "law", .glo "law", .free "abs"]
def fa_1 : List He.Fa := [.free "int", .free "range", .free "len", .free "list", .free "all", .free "isinstance", .free "bool", .free "tuple", .free "min", .free "sorted", .free "set", .free "any", .int "MOST_VERSIONS" 40, .glo "BadHistory", .exc "BadHistory", .glo "BadVersion", .exc "BadVersion", .exm "BadHistory" "BadVersion" false, .exm "BadVersion" "BadVersion" true, .cls "History", .noat "History" "parents", .noat "History" "size", .noat "History" "_ancestors", .mkr "History", .glo "History"]
def fa : List He.Fa := fa_0 ++ fa_1
def fn_0 : List He.FnD := [⟨("_law_draws", none), "_law_draws", "_law_draws", defArgs s__law_draws, defBody s__law_draws, defScope s__law_draws⟩, ⟨("_ancestors", none), "_ancestors", "_ancestors", defArgs s__ancestors, defBody s__ancestors, defScope s__ancestors⟩, ⟨("ascends", none), "ascends", "ascends", defArgs s_ascends, defBody s_ascends, defScope s_ascends⟩, ⟨("is_whole", none), "is_whole", "is_whole", defArgs s_is_whole, defBody s_is_whole, defScope s_is_whole⟩, ⟨("_are_parents", none), "_are_parents", "_are_parents", defArgs s__are_parents, defBody s__are_parents, defScope s__are_parents⟩, ⟨("History", some "__init__"), "__init__", "History.__init__", defArgs s_History___init__, defBody s_History___init__, defScope s_History___init__⟩, ⟨("_law_parents", none), "_law_parents", "_law_parents", defArgs s__law_parents, defBody s__law_parents, defScope s__law_parents⟩, ⟨("History", some "is_above"), "is_above", "History.is_above", defArgs s_History_is_above, defBody s_History_is_above, defScope s_History_is_above⟩, ⟨("_last_ones", none), "_last_ones", "_last_ones", defArgs s__last_ones, defBody s__last_ones, defScope s__last_ones⟩, ⟨("lesser_parents", none), "lesser_parents", "lesser_parents", defArgs s_lesser_parents, defBody s_lesser_parents, defScope s_lesser_parents⟩, ⟨("_law_above", none), "_law_above", "_law_above", defArgs s__law_above, defBody s__law_above, defScope s__law_above⟩, ⟨("check_versions", none), "check_versions", "check_versions", defArgs s_check_versions, defBody s_check_versions, defScope s_check_versions⟩, ⟨("History", some "above"), "above", "History.above", defArgs s_History_above, defBody s_History_above, defScope s_History_above⟩, ⟨("nearest", none), "nearest", "nearest", defArgs s_nearest, defBody s_nearest, defScope s_nearest⟩, ⟨("_law_refused", none), "_law_refused", "_law_refused", defArgs s__law_refused, defBody s__law_refused, defScope s__law_refused⟩, ⟨("law", none), "law", "law", defArgs s_law, defBody s_law, defScope s_law⟩]
def fn : List He.FnD := fn_0
def xs_0 : List (PySem.W.Frag → Bool) := []
def xs : List (PySem.W.Frag → Bool) := xs_0
def loose_0 : List Str := ["_wall", "PatchError", "BadHistory", "BadVersion", "MOST_VERSIONS", "is_whole", "ascends", "_are_parents", "_ancestors", "History", "check_versions", "_last_ones", "nearest", "lesser_parents", "_law_draws", "_law_parents", "_law_above", "_law_refused"]
def loose : List Str := loose_0
abbrev R_ : PySem.W.OpenRow := PySem.W.OpenLaw.row PySem.Challenge.rw_patchwright_k30_nearest_ancestors
abbrev hk : PySem.W.Hook := hookX 5 fa fn xs
def ob (s : PySem.W.SharedT) : AlX := obsXG 5 fa fn xs (HandSHeadRun.getT s)
theorem ob_eq (s : PySem.W.SharedT) : ob s = hk.obs s.abs := obsXG_eq (HandSHeadRun.getT_eq s)
theorem run (w : World) : HandSHeadRun.RunEq R_ (PySem.W.view R_.prog [21]) hk ob 4000 loose w := by
  intro os
  kernel_rfl
theorem txt {K : PySem.W.Frag} {h : Heap} {mg : Str → Option Value} (X : K.In h) (G : h.Ns mainGlobals mg) (c0 : SaysX fa fn xs K) : Txt K mg :=
  have c := c0.e
  ⟨(txt_fun c 0 0 rfl rfl fun _ _ _ _ _ _ us hl => match us, hl with | [_, _], _ => rfl),
   (He.glo_ok X G (c.fact 1 rfl)),
   (txt_fun c 1 2 rfl rfl fun _ _ _ _ _ _ us hl => match us, hl with | [_], _ => rfl),
   (He.glo_ok X G (c.fact 3 rfl)),
   (txt_fun c 2 4 rfl rfl fun _ _ _ _ _ _ us hl => match us, hl with | [_], _ => rfl),
   (He.glo_ok X G (c.fact 5 rfl)),
   (txt_fun c 3 6 rfl rfl fun _ _ _ _ _ _ us hl => match us, hl with | [_, _, _], _ => rfl),
   (He.glo_ok X G (c.fact 7 rfl)),
   (txt_fun c 4 8 rfl rfl fun _ _ _ _ _ _ us hl => match us, hl with | [_], _ => rfl),
   (He.glo_ok X G (c.fact 9 rfl)),
   (txt_meth c 5 10 rfl rfl fun _ _ _ _ _ _ us hl => match us, hl with | [_, _], _ => rfl),
   (He.meth_ok (c.fact 10 rfl)),
   (txt_fun c 6 11 rfl rfl fun _ _ _ _ _ _ us hl => match us, hl with | [_, _, _], _ => rfl),
   (He.glo_ok X G (c.fact 12 rfl)),
   (txt_meth c 7 13 rfl rfl fun _ _ _ _ _ _ us hl => match us, hl with | [_, _, _], _ => rfl),
   (He.meth_ok (c.fact 13 rfl)),
   (txt_fun c 8 14 rfl rfl fun _ _ _ _ _ _ us hl => match us, hl with | [_, _], _ => rfl),
   (He.glo_ok X G (c.fact 15 rfl)),
   (txt_fun c 9 16 rfl rfl fun _ _ _ _ _ _ us hl => match us, hl with | [_], _ => rfl),
   (He.glo_ok X G (c.fact 17 rfl)),
   (txt_fun c 10 18 rfl rfl fun _ _ _ _ _ _ us hl => match us, hl with | [_, _], _ => rfl),
   (He.glo_ok X G (c.fact 19 rfl)),
   (txt_fun c 11 20 rfl rfl fun _ _ _ _ _ _ us hl => match us, hl with | [_, _], _ => rfl),
   (He.glo_ok X G (c.fact 21 rfl)),
   (txt_meth c 12 22 rfl rfl fun _ _ _ _ _ _ us hl => match us, hl with | [_, _], _ => rfl),
   (He.meth_ok (c.fact 22 rfl)),
   (txt_fun c 13 23 rfl rfl fun _ _ _ _ _ _ us hl => match us, hl with | [_, _, _], _ => rfl),
   (He.glo_ok X G (c.fact 24 rfl)),
   (txt_fun c 14 25 rfl rfl fun _ _ _ _ _ _ us hl => match us, hl with | [_, _, _], _ => rfl),
   (He.glo_ok X G (c.fact 26 rfl)),
   (txt_fun c 15 27 rfl rfl fun _ _ _ _ _ _ us hl => match us, hl with | [_], _ => rfl),
   (He.glo_ok X G (c.fact 28 rfl)),
   (He.free_ok X G (c.fact 29 rfl)),
   (He.free_ok X G (c.fact 30 rfl)),
   (He.free_ok X G (c.fact 31 rfl)),
   (He.free_ok X G (c.fact 32 rfl)),
   (He.free_ok X G (c.fact 33 rfl)),
   (He.free_ok X G (c.fact 34 rfl)),
   (He.free_ok X G (c.fact 35 rfl)),
   (He.free_ok X G (c.fact 36 rfl)),
   (He.free_ok X G (c.fact 37 rfl)),
   (He.free_ok X G (c.fact 38 rfl)),
   (He.free_ok X G (c.fact 39 rfl)),
   (He.free_ok X G (c.fact 40 rfl)),
   (He.free_ok X G (c.fact 41 rfl)),
   (He.int_ok X G (c.fact 42 rfl)),
   (txt_exc X G c 43 44 rfl rfl),
   (txt_exc X G c 45 46 rfl rfl),
   (He.exm_ok (c.fact 47 rfl)),
   (He.exm_ok (c.fact 48 rfl)),
   (He.cls_ok (c.fact 49 rfl)),
   (He.noat_ok (c.fact 50 rfl)),
   (He.noat_ok (c.fact 51 rfl)),
   (He.noat_ok (c.fact 52 rfl)),
   (He.mkr_ok (c.fact 53 rfl)),
   (He.glo_ok X G (c.fact 54 rfl))⟩
theorem top (pure : ∀ ns : List Int, ns.length ≤ 63 → C_law [.lst (ns.map .int)] = .ok (.bl true)) : PySem.Challenge.rw_patchwright_k30_nearest_ancestors.Holds := by
  w_on; o_law
  refine HandSHeadRun.head_any (r := PySem.W.OpenLaw.row PySem.Challenge.rw_patchwright_k30_nearest_ancestors) (q := PySem.W.view (PySem.W.OpenLaw.row PySem.Challenge.rw_patchwright_k30_nearest_ancestors).prog [21]) (H := hk) (ob := ob) (M := 4000) (loose := loose) (d := HandSHeadRun.topDef (PySem.W.OpenLaw.row PySem.Challenge.rw_patchwright_k30_nearest_ancestors).prog 21) (kwd := []) ob_eq
    (by kernel_rfl) (fun s => by kernel_rfl) run (by kernel_rfl) (by kernel_rfl) (by kernel_rfl) (by rfl) (by first | assumption | decide +kernel) (by decide +kernel) ⟨rfl, rfl, rfl, rfl, rfl, by decide +kernel⟩ ?hw ?hc
  case hw => w_witness2
  case hc =>
    refine walk_px (l := PySem.Challenge.rw_patchwright_k30_nearest_ancestors) (n := 63) (k := 6) (x := "script") rfl (by decide) (by kernel_rfl) ⟨rfl, by decide, by decide⟩ ?F
    intro w mg fa h Y G hmg0
    obtain ⟨K, KX, c⟩ := Y
    have T := txt KX G c
    have hmg : mg ("law" : PySem.Str) = some (.ref fa) := by
      have e : (HandSHeadRun.topDef (PySem.W.OpenLaw.row PySem.Challenge.rw_patchwright_k30_nearest_ancestors).prog 21).name = ("law" : PySem.Str) := by kernel_rfl
      rw [← e]
      exact hmg0
    have e := hmg.symm.trans T.g_law
    cases e
    obtain ⟨fd, Fl, b, kp⟩ := ok_law (P := (PySem.Challenge.rw_patchwright_k30_nearest_ancestors).prog) (w := w) T
    exact ⟨K, fd, Spec K mg 1 0 C_law, KX, fun s v => b s [v] rfl, fun H a ns hl _ _ hS => spec_law (pure ns hl) (Nat.le_trans hl (by decide)) hS, fun base _ _ => Fl base⟩
end K
namespace K
open PySem PySem.Spec PyProof.Rows L2 Px
/-! ### the law's draws -/
theorem dr_inner (sc : D) (many seed : Int) (cell : D) (ds : List Int) (num : Int) (k : D) (hl : ds.length < 16777216) (hd : ∀ d ∈ ds, 0 ≤ d ∧ d < 65521) :
    ∃ (ds' : List Int) (num' : Int), B__law_draws_2 [some sc, some (.int many), some (.lst (ds.map .int)), some (.int seed), some cell, some (.int num), some k] = .next [some sc, some (.int many), some (.lst (ds'.map .int)), some (.int seed), some cell, some (.int num'), none] ∧ ds'.length ≤ ds.length + 1 ∧ ∀ d ∈ ds', 0 ≤ d ∧ d < 65521 := by
  unfold B__law_draws_2
  by_cases h : 0 < num
  · refine ⟨ds ++ [num % 1009], num / 1009, ?_, by simp, ?_⟩
    · simp [h, sAppend, sl_eq, hl]
    · intro d hm
      rcases List.mem_append.mp hm with hm | hm
      · exact hd d hm
      · simp at hm
        omega
  · exact ⟨ds, num, by simp [h], by omega, hd⟩
theorem dr_outer (sc : D) (many seed : Int) (c : Int) (a b k : Option D) (ds : List Int) (hl : ds.length + 60 < 16777216) (hd : ∀ d ∈ ds, 0 ≤ d ∧ d < 65521) :
    ∃ (ds' : List Int) (seed' : Int), B__law_draws_1 [some sc, some (.int many), some (.lst (ds.map .int)), some (.int seed), some (.int c), a, b] = .next [some sc, some (.int many), some (.lst (ds'.map .int)), some (.int seed'), none, none, none] ∧ ds'.length ≤ ds.length + 60 ∧ ∀ d ∈ ds', 0 ≤ d ∧ d < 65521 := by
  unfold B__law_draws_1
  generalize hn : (if c < 0 then -c else c) = num
  by_cases h : 10 ^ 18 ≤ num
  · obtain ⟨ρ', e, p⟩ := for_inv (gf := gfName 6) (F := B__law_draws_2) (ds := (List.range 60).map fun i => .int (i : Nat)) (n := 0)
      (ρ := [some sc, some (.int many), some (.lst (ds.map .int)), some (.int ((seed * 48271 + num + 11) % 2147483647)), some (.int c), some (.int num), b])
      (P := fun m ρ => ∃ (ds' : List Int) (num' : Int) (k : Option D), ρ = [some sc, some (.int many), some (.lst (ds'.map .int)), some (.int ((seed * 48271 + num + 11) % 2147483647)), some (.int c), some (.int num'), k] ∧ ds'.length ≤ ds.length + m ∧ ∀ d ∈ ds', 0 ≤ d ∧ d < 65521)
      ⟨ds, num, b, rfl, by omega, hd⟩ (fun i d hi ρ hp => by
        obtain ⟨ds1, num1, k1, rfl, hl1, hd1⟩ := hp
        have hi2 : i < 60 := by
          have := (List.getElem?_eq_some_iff.mp hi).1
          simpa using this
        obtain ⟨ds2, num2, e2, hl2, hd2⟩ := dr_inner sc many ((seed * 48271 + num + 11) % 2147483647) (.int c) ds1 num1 d (by omega) hd1
        exact ⟨_, _, rfl, .inl e2, ds2, num2, none, rfl, by omega, hd2⟩)
    obtain ⟨ds', num', k', rfl, hl', hd'⟩ := p
    refine ⟨ds', (seed * 48271 + num + 11) % 2147483647, ?_, by simpa using hl', hd'⟩
    have hm : mulOk seed 48271 = true := mulOk_r _ _ (by decide)
    have e0 := dRng1_nat 60 (by omega)
    have e0 : dRng1 [.int 60] = .ok ((List.range 60).map fun i => .int (i : Nat)) := e0
    have h' : (1000000000000000000 : Int) ≤ num := h
    simp [hn, hm, h', x_sFor, e0, e]
  · refine ⟨ds ++ [((seed * 48271 + num + 11) % 2147483647 * 16807 + 5) / 3 % 65521], (seed * 48271 + num + 11) % 2147483647, ?_, by simp, ?_⟩
    · have hm : mulOk seed 48271 = true := mulOk_r _ _ (by decide)
      have hm2 : mulOk ((seed * 48271 + num + 11) % 2147483647) 16807 = true := mulOk_r _ _ (by decide)
      have h' : ¬ (1000000000000000000 : Int) ≤ num := h
      simp [hn, hm, hm2, h', sAppend, sl_eq, show ds.length < 16777216 by omega]
    · intro d hm
      rcases List.mem_append.mp hm with hm | hm
      · exact hd d hm
      · simp at hm
        omega
theorem dr_more (sc : D) (many : Nat) (seed : Int) (j : Nat) (ds : List Int) (hl : ds.length < 16777216) (hd : ∀ d ∈ ds, 0 ≤ d ∧ d < 65521) :
    ∃ (ds' : List Int) (seed' : Int), B__law_draws_3 [some sc, some (.int many), some (.lst (ds.map .int)), some (.int seed), none, none, some (.int (j : Nat))] = .next [some sc, some (.int many), some (.lst (ds'.map .int)), some (.int seed'), none, none, none] ∧ (∀ d ∈ ds', 0 ≤ d ∧ d < 65521) ∧
      (many ≤ ds.length → ds'.length = ds.length) ∧ (ds.length < many → ds'.length = ds.length + 1) := by
  unfold B__law_draws_3
  by_cases h : ds.length < many
  · have hm : mulOk seed 69621 = true := mulOk_r _ _ (by decide)
    refine ⟨ds ++ [(seed * 69621 + j + 1) % 2147483647 / 7 % 65521], (seed * 69621 + j + 1) % 2147483647, ?_, ?_, by omega, by simp⟩
    · simp [h, hm, sAppend, sl_eq, hl]
    · intro d hm
      rcases List.mem_append.mp hm with hm | hm
      · exact hd d hm
      · simp at hm
        omega
  · exact ⟨ds, seed, by simp [h], hd, fun _ => rfl, fun z => absurd z h⟩
theorem draws_ok (ns : List Int) (hn : ns.length ≤ 63) (many : Nat) (hm : many ≤ 1000) : ∃ ds : List Int, ds.length = many ∧ (∀ d ∈ ds, 0 ≤ d ∧ d < 65521) ∧ C__law_draws [.lst (ns.map .int), .int many] = .ok (.lst (ds.map .int)) := by
  obtain ⟨ρ1, e1, ds1, seed1, a1, b1, k1, rfl, hl1, hd1⟩ := for_inv (gf := gfName 4) (F := B__law_draws_1) (ds := (ns.map D.int).take 63) (n := 0)
      (ρ := [some (.lst (ns.map .int)), some (.int many), some (.lst []), some (.int 7), none, none, none])
      (P := fun m ρ => ∃ (ds' : List Int) (seed : Int) (a b c : Option D), ρ = [some (.lst (ns.map .int)), some (.int many), some (.lst (ds'.map .int)), some (.int seed), a, b, c] ∧ ds'.length ≤ 60 * m ∧ ∀ d ∈ ds', 0 ≤ d ∧ d < 65521)
      ⟨[], 7, none, none, none, rfl, by simp, by simp⟩ (fun i d hi ρ hp => by
        obtain ⟨ds1, seed, a, b, c, rfl, hl1, hd1⟩ := hp
        have hi2 := (List.getElem?_eq_some_iff.mp hi).1
        have hmem := List.mem_of_getElem? hi
        obtain ⟨z, hz, rfl⟩ := List.mem_map.mp (List.mem_of_mem_take hmem)
        simp at hi2
        obtain ⟨ds2, seed2, e2, hl2, hd2⟩ := dr_outer (.lst (ns.map .int)) many seed z b c none ds1 (by omega) hd1
        exact ⟨_, _, rfl, .inl e2, ds2, seed2, none, none, none, rfl, by omega, hd2⟩)
  have hl1' : ds1.length ≤ 60 * 63 := by
    simp at hl1
    omega
  obtain ⟨ρ2, e2, ds2, seed2, c2, rfl, hd2, hl2, hg2⟩ := for_inv (gf := gfName 6) (F := B__law_draws_3) (ds := (List.range many).map fun i => .int (i : Nat)) (n := 0)
      (ρ := [some (.lst (ns.map .int)), some (.int many), some (.lst (ds1.map .int)), some (.int seed1), none, none, none])
      (P := fun m ρ => ∃ (ds' : List Int) (seed : Int) (c : Option D), ρ = [some (.lst (ns.map .int)), some (.int many), some (.lst (ds'.map .int)), some (.int seed), none, none, c] ∧ (∀ d ∈ ds', 0 ≤ d ∧ d < 65521) ∧ ds'.length ≤ 60 * 63 + m ∧ (m ≤ ds'.length ∨ many ≤ ds'.length))
      ⟨ds1, seed1, none, rfl, hd1, by omega, .inl (by omega)⟩ (fun i d hi ρ hp => by
        obtain ⟨ds3, seed3, c3, rfl, hd3, hl3, hg3⟩ := hp
        have hi2 := (List.getElem?_eq_some_iff.mp hi).1
        simp at hi2
        have hd : d = .int (i : Nat) := by
          rw [List.getElem?_map, List.getElem?_range hi2] at hi
          exact (Option.some.inj hi).symm
        subst hd
        obtain ⟨ds4, seed4, e4, hd4, n4, y4⟩ := dr_more (.lst (ns.map .int)) many seed3 i ds3 (by omega) hd3
        refine ⟨_, _, rfl, .inl e4, ds4, seed4, none, rfl, hd4, ?_, ?_⟩
        · by_cases q : ds3.length < many
          · rw [y4 q]; omega
          · rw [n4 (by omega)]; omega
        · by_cases q : ds3.length < many
          · rw [y4 q]; omega
          · rw [n4 (by omega)]; omega)
  simp only [List.length_map, List.length_range, Nat.zero_add] at hl2 hg2
  refine ⟨ds2.take many, by simp; omega, fun d h => hd2 d (List.mem_of_mem_take h), ?_⟩
  have e0 := dRng1_nat many (by omega)
  have ec : cut (ns.map D.int) none (some 63) = (ns.map D.int).take 63 := cut_hi _ 63
  simp [C__law_draws, fnE, startE, F__law_draws, x_sFor, ec, e1, e0, e2, cut_hi]
/-- the draws as numbers from nought on -/
theorem drawsN (ns : List Int) (hn : ns.length ≤ 63) (many : Nat) (hm : many ≤ 1000) : ∃ ds : List Nat, ds.length = many ∧ (∀ d ∈ ds, d < 65521) ∧ C__law_draws [.lst (ns.map .int), .int many] = .ok (.lst (ds.map dN)) := by
  obtain ⟨ds, h1, h2, e⟩ := draws_ok ns hn many hm
  refine ⟨ds.map Int.toNat, by rw [List.length_map]; exact h1, fun d h => ?_, ?_⟩
  · obtain ⟨z, hz, rfl⟩ := List.mem_map.mp h
    have := h2 z hz
    omega
  · rw [e, List.map_map]
    congr 2
    refine List.map_congr_left fun z hz => ?_
    have := h2 z hz
    show D.int z = D.int ((z.toNat : Nat) : Int)
    rw [Int.toNat_of_nonneg this.1]
/-! ### histories: who is above whom -/
abbrev PP := List (List Nat)
def rowD (r : List Nat) : D := .tup (r.map dN)
def parD (P : PP) : D := .tup (P.map rowD)
inductive Up (P : PP) : Nat → Nat → Prop
  | me (i : Nat) : Up P i i
  | st {a x i : Nat} {row : List Nat} : P[i]? = some row → x ∈ row → Up P a x → Up P a i
structure VP (P : PP) : Prop where
  le : P.length ≤ 40
  pos : 1 ≤ P.length
  lt : ∀ (i : Nat) (row : List Nat), P[i]? = some row → ∀ x ∈ row, x < P.length
  asc : ∀ (i : Nat) (row : List Nat), P[i]? = some row → row.Pairwise (· < ·)
theorem Up.lt {P : PP} (v : VP P) {a i : Nat} (h : Up P a i) : i < P.length → a < P.length := by
  induction h with
  | me => exact fun q => q
  | st h1 h2 _ ih => exact fun _ => ih (v.lt _ _ h1 _ h2)
theorem Up.trans {P : PP} {a b c : Nat} (h1 : Up P a b) (h2 : Up P b c) : Up P a c := by
  induction h2 with
  | me => exact h1
  | st p q _ ih => exact .st p q ih
abbrev FF := List (Option (List Nat))
def oD : Option (List Nat) → D
  | none => .non
  | some ks => dT ks
structure AI (P : PP) (F : FF) (r : Nat → Nat) (t : Nat) : Prop where
  len : F.length = P.length
  ok : ∀ (i : Nat) (ks : List Nat), F[i]? = some (some ks) → ks.Nodup ∧ (∀ a, a ∈ ks ↔ Up P a i) ∧ ks.length ≤ 40 ∧ r i < t
  par : ∀ (i : Nat) (ks row : List Nat), F[i]? = some (some ks) → P[i]? = some row → ∀ x ∈ row, (∃ k', F[x]? = some (some k')) ∧ r x < r i
theorem nd_len {ks : List Nat} {n : Nat} (nd : ks.Nodup) (h : ∀ a ∈ ks, a < n) : ks.length ≤ n := by
  have pm : ks.Perm ((List.range n).filter fun a => decide (a ∈ ks)) := (List.perm_ext_iff_of_nodup nd (List.nodup_range.filter _)).mpr fun a => by
    rw [List.mem_filter, List.mem_range, decide_eq_true_eq]
    exact ⟨fun q => ⟨h a q, q⟩, fun q => q.2⟩
  have := List.length_filter_le (fun a => decide (a ∈ ks)) (List.range n)
  rw [pm.length_eq]
  rwa [List.length_range] at this
theorem upd_loop (p l o rd : Option D) (F : FF) : ∀ (row ks : List Nat) (z : Option D), (∀ x ∈ row, ∃ k', F[x]? = some (some k') ∧ k'.length ≤ 40) → ks.length + 40 * row.length ≤ 16777216 →
    ∃ z' L, forE (gfName 4) B__ancestors_3 (row.map dN) [p, some (.lst (F.map oD)), l, o, z, rd, some (dT ks)] = .next [p, some (.lst (F.map oD)), l, o, z', rd, some (dT L)] ∧ (ks.Nodup → L.Nodup) ∧
      ∀ a, a ∈ L ↔ a ∈ ks ∨ ∃ x ∈ row, ∃ k', F[x]? = some (some k') ∧ a ∈ k'
  | [], ks, z, _, _ => ⟨z, ks, rfl, fun h => h, fun a => by simp⟩
  | x :: row, ks, z, h, hl => by
    obtain ⟨k', hk, hk40⟩ := h x List.mem_cons_self
    rw [List.length_cons] at hl
    have hle := len_foldN k' ks
    obtain ⟨z', L, e, nd, mem⟩ := upd_loop p l o rd F row (k'.foldl addN ks) (some (dN x)) (fun y hy => h y (List.mem_cons_of_mem _ hy)) (by omega)
    refine ⟨z', L, ?_, fun q => nd (nd_foldN k' ks q), fun a => ?_⟩
    · rw [List.map_cons, forE_cons]
      have st : B__ancestors_3 [p, some (.lst (F.map oD)), l, o, some (dN x), rd, some (dT ks)] = .next [p, some (.lst (F.map oD)), l, o, some (dN x), rd, some (dT (k'.foldl addN ks))] := by
        have hi : dIx (.lst (F.map oD)) (.int (x : Nat)) = .ok (dT k') := dIx_lm (f := oD) hk
        exact upd_T (ks := ks) (more := k') rfl (by simp only [sSeq_x, x_min2, x_max2, x_eRg1, x_eMeth, x_eMake, x_sSet, x_sIf, x_sRet, x_sRetN, x_sPar, x_sUnp, resF_ok, x_sDrop, x_sNext, x_sBreak, x_sCont, x_sRaise, x_sAug, augK_ok, x_sFor, x_sWhile, sKill_x, x_wipe0, x_wipe1, x_evL0, x_evL1, x_setL0, x_setL1, x_eVar, x_eC, x_eOp, x_eUn, x_eCall, x_eMS, x_asStr, x_aNil, x_aCons, x_eTup, x_eLst, x_eIf, x_eNot, x_eAnd, x_eOr, x_bAnd, x_bOr, x_bNot, x_bYes, x_eSl, x_oNone, x_oSome, asI_int, x_iSeq, x_iCall, x_gfName, x_gfTup, eLc, noX_is, Res.bind_ok, Res.bind_exc, flow_ok, flow_exc, seqK_next, seqK_ret, seqK_exc, seqK_brk, seqK_cont, loopK_next, loopK_cont, loopK_brk, loopK_ret, loopK_exc, must_ok, List.set_cons_succ, List.set_cons_zero, List.getD_cons_succ, List.getD_cons_zero, vD_some, if_true, if_false, Bool.false_eq_true, reduceIte, List.map_cons, List.map_nil, List.length_cons, List.length_nil, List.cons_append, List.nil_append, List.replicate, Nat.reduceSub, Nat.reduceAdd, x_add, x_sub, x_cmp, x_eq_ii, x_ne_ii, x_int_i, x_len_t, x_len_l, x_tup_l, x_tup_t, x_list_l, x_list_t, x_dSl_t, x_dSl_l, x_items_t, x_items_l, x_tru_n, x_tru_b, x_tru_i, x_tru_t, x_tru_l, x_asB, x_is_n, x_isNot_n, isNon_n, isNon_i, isNon_s, isNon_t, isNon_l, isNon_b, Bool.not_true, Bool.not_false, List.length_map, fnE, startE, dN_def, hi]) (by omega)
      show loopK (B__ancestors_3 [p, some (.lst (F.map oD)), l, o, some (dN x), rd, some (dT ks)]) _ = _
      rw [st]
      exact e
    · rw [mem, mem_foldN]
      constructor
      · rintro ((q | q) | ⟨y, hy, k2, h2, q⟩)
        · exact .inl q
        · exact .inr ⟨x, List.mem_cons_self, k', hk, q⟩
        · exact .inr ⟨y, List.mem_cons_of_mem _ hy, k2, h2, q⟩
      · rintro (q | ⟨y, hy, k2, h2, q⟩)
        · exact .inl (.inl q)
        · rcases List.mem_cons.mp hy with e | e
          · rw [e, hk] at h2
            cases h2
            exact .inl (.inr q)
          · exact .inr ⟨y, e, k2, h2, q⟩

theorem oD_nn {o : Option (List Nat)} : isNon (oD o) = o.isNone := by
  cases o <;> rfl
/-- a turn for one version whose parents are found -/
theorem one_turn {P : PP} {F : FF} {r : Nat → Nat} {t : Nat} (v : VP P) (A : AI P F r t) (l rd e0 z : Option D) {i : Nat} {row : List Nat} (hi : P[i]? = some row) (hF : F[i]? = some none) (hx : ∀ x ∈ row, ∃ k', F[x]? = some (some k')) :
    ∃ z' L, B__ancestors_2 [some (parD P), some (.lst (F.map oD)), l, some (dN i), z, rd, e0] = .next [some (parD P), some (.lst ((F.set i (some L)).map oD)), l, some (dN i), z', rd, none] ∧ L.Nodup ∧ (∀ a, a ∈ L ↔ Up P a i) ∧ L.length ≤ 40 := by
  have hrow : row.length ≤ 40 := Nat.le_trans (nd_len ((v.asc i row hi).imp fun {a b} q e => by omega) (v.lt i row hi)) v.le
  obtain ⟨z', L, e, nd, mem⟩ := upd_loop (some (parD P)) l (some (dN i)) rd F row [i] z (fun x hxr => by
    obtain ⟨k', hk⟩ := hx x hxr
    exact ⟨k', hk, (A.ok x k' hk).2.2.1⟩) (by simp; omega)
  have mem2 : ∀ a, a ∈ L ↔ Up P a i := fun a => by
    rw [mem, List.mem_singleton]
    constructor
    · rintro (q | ⟨x, hxr, k', hk, q⟩)
      · rw [q]
        exact .me i
      · exact .st hi hxr (((A.ok x k' hk).2.1 a).mp q)
    · intro q
      cases q with
      | me => exact .inl rfl
      | st h1 h2 h3 =>
        rw [hi] at h1
        cases h1
        obtain ⟨k', hk⟩ := hx _ h2
        exact .inr ⟨_, h2, k', hk, ((A.ok _ k' hk).2.1 a).mpr h3⟩
  have hin : i < P.length := (List.getElem?_eq_some_iff.mp hi).1
  have nd2 := nd (List.nodup_cons.mpr ⟨List.not_mem_nil, List.nodup_nil⟩)
  refine ⟨z', L, ?_, nd2, mem2, Nat.le_trans (nd_len nd2 fun a ha => ((mem2 a).mp ha).lt v hin) v.le⟩
  have hp : dIx (parD P) (.int (i : Nat)) = .ok (rowD row) := dIx_tm (f := rowD) hi
  have hd : eDisp [(eVar 3, eC (.bl true))] [some (parD P), some (.lst (F.map oD)), l, some (dN i), z, rd, e0] = .ok (dT [i]) := disp_one (n := i) (by simp only [sSeq_x, x_min2, x_max2, x_eRg1, x_eMeth, x_eMake, x_sSet, x_sIf, x_sRet, x_sRetN, x_sPar, x_sUnp, resF_ok, x_sDrop, x_sNext, x_sBreak, x_sCont, x_sRaise, x_sAug, augK_ok, x_sFor, x_sWhile, sKill_x, x_wipe0, x_wipe1, x_evL0, x_evL1, x_setL0, x_setL1, x_eVar, x_eC, x_eOp, x_eUn, x_eCall, x_eMS, x_asStr, x_aNil, x_aCons, x_eTup, x_eLst, x_eIf, x_eNot, x_eAnd, x_eOr, x_bAnd, x_bOr, x_bNot, x_bYes, x_eSl, x_oNone, x_oSome, asI_int, x_iSeq, x_iCall, x_gfName, x_gfTup, eLc, noX_is, Res.bind_ok, Res.bind_exc, flow_ok, flow_exc, seqK_next, seqK_ret, seqK_exc, seqK_brk, seqK_cont, loopK_next, loopK_cont, loopK_brk, loopK_ret, loopK_exc, must_ok, List.set_cons_succ, List.set_cons_zero, List.getD_cons_succ, List.getD_cons_zero, vD_some, if_true, if_false, Bool.false_eq_true, reduceIte, List.map_cons, List.map_nil, List.length_cons, List.length_nil, List.cons_append, List.nil_append, List.replicate, Nat.reduceSub, Nat.reduceAdd, x_add, x_sub, x_cmp, x_eq_ii, x_ne_ii, x_int_i, x_len_t, x_len_l, x_tup_l, x_tup_t, x_list_l, x_list_t, x_dSl_t, x_dSl_l, x_items_t, x_items_l, x_tru_n, x_tru_b, x_tru_i, x_tru_t, x_tru_l, x_asB, x_is_n, x_isNot_n, isNon_n, isNon_i, isNon_s, isNon_t, isNon_l, isNon_b, Bool.not_true, Bool.not_false, List.length_map, fnE, startE])
  have hput := put_L (i := 1) (n := i) (f := eVar 6) (fj := eVar 3) (ρ := [some (parD P), some (.lst (F.map oD)), l, some (dN i), z', rd, some (dT L)]) (xs := F.map oD) (d := dT L) rfl rfl rfl (by rw [List.length_map, A.len]; exact hin)
  have es : (F.map oD).set i (dT L) = (F.set i (some L)).map oD := by
    rw [List.map_set]
    rfl
  rw [es] at hput
  unfold B__ancestors_2
  simp only [sSeq_x, x_min2, x_max2, x_eRg1, x_eMeth, x_eMake, x_sSet, x_sIf, x_sRet, x_sRetN, x_sPar, x_sUnp, resF_ok, x_sDrop, x_sNext, x_sBreak, x_sCont, x_sRaise, x_sAug, augK_ok, x_sFor, x_sWhile, sKill_x, x_wipe0, x_wipe1, x_evL0, x_evL1, x_setL0, x_setL1, x_eVar, x_eC, x_eOp, x_eUn, x_eCall, x_eMS, x_asStr, x_aNil, x_aCons, x_eTup, x_eLst, x_eIf, x_eNot, x_eAnd, x_eOr, x_bAnd, x_bOr, x_bNot, x_bYes, x_eSl, x_oNone, x_oSome, asI_int, x_iSeq, x_iCall, x_gfName, x_gfTup, eLc, noX_is, Res.bind_ok, Res.bind_exc, flow_ok, flow_exc, seqK_next, seqK_ret, seqK_exc, seqK_brk, seqK_cont, loopK_next, loopK_cont, loopK_brk, loopK_ret, loopK_exc, must_ok, List.set_cons_succ, List.set_cons_zero, List.getD_cons_succ, List.getD_cons_zero, vD_some, if_true, if_false, Bool.false_eq_true, reduceIte, List.map_cons, List.map_nil, List.length_cons, List.length_nil, List.cons_append, List.nil_append, List.replicate, Nat.reduceSub, Nat.reduceAdd, x_add, x_sub, x_cmp, x_eq_ii, x_ne_ii, x_int_i, x_len_t, x_len_l, x_tup_l, x_tup_t, x_list_l, x_list_t, x_dSl_t, x_dSl_l, x_items_t, x_items_l, x_tru_n, x_tru_b, x_tru_i, x_tru_t, x_tru_l, x_asB, x_is_n, x_isNot_n, isNon_n, isNon_i, isNon_s, isNon_t, isNon_l, isNon_b, Bool.not_true, Bool.not_false, List.length_map, fnE, startE, hd, hp, dN_def, rowD] at e hput ⊢
  rw [e]
  simp only [sSeq_x, x_min2, x_max2, x_eRg1, x_eMeth, x_eMake, x_sSet, x_sIf, x_sRet, x_sRetN, x_sPar, x_sUnp, resF_ok, x_sDrop, x_sNext, x_sBreak, x_sCont, x_sRaise, x_sAug, augK_ok, x_sFor, x_sWhile, sKill_x, x_wipe0, x_wipe1, x_evL0, x_evL1, x_setL0, x_setL1, x_eVar, x_eC, x_eOp, x_eUn, x_eCall, x_eMS, x_asStr, x_aNil, x_aCons, x_eTup, x_eLst, x_eIf, x_eNot, x_eAnd, x_eOr, x_bAnd, x_bOr, x_bNot, x_bYes, x_eSl, x_oNone, x_oSome, asI_int, x_iSeq, x_iCall, x_gfName, x_gfTup, eLc, noX_is, Res.bind_ok, Res.bind_exc, flow_ok, flow_exc, seqK_next, seqK_ret, seqK_exc, seqK_brk, seqK_cont, loopK_next, loopK_cont, loopK_brk, loopK_ret, loopK_exc, must_ok, List.set_cons_succ, List.set_cons_zero, List.getD_cons_succ, List.getD_cons_zero, vD_some, if_true, if_false, Bool.false_eq_true, reduceIte, List.map_cons, List.map_nil, List.length_cons, List.length_nil, List.cons_append, List.nil_append, List.replicate, Nat.reduceSub, Nat.reduceAdd, x_add, x_sub, x_cmp, x_eq_ii, x_ne_ii, x_int_i, x_len_t, x_len_l, x_tup_l, x_tup_t, x_list_l, x_list_t, x_dSl_t, x_dSl_l, x_items_t, x_items_l, x_tru_n, x_tru_b, x_tru_i, x_tru_t, x_tru_l, x_asB, x_is_n, x_isNot_n, isNon_n, isNon_i, isNon_s, isNon_t, isNon_l, isNon_b, Bool.not_true, Bool.not_false, List.length_map, fnE, startE]
  rw [hput]
  simp only [sSeq_x, x_min2, x_max2, x_eRg1, x_eMeth, x_eMake, x_sSet, x_sIf, x_sRet, x_sRetN, x_sPar, x_sUnp, resF_ok, x_sDrop, x_sNext, x_sBreak, x_sCont, x_sRaise, x_sAug, augK_ok, x_sFor, x_sWhile, sKill_x, x_wipe0, x_wipe1, x_evL0, x_evL1, x_setL0, x_setL1, x_eVar, x_eC, x_eOp, x_eUn, x_eCall, x_eMS, x_asStr, x_aNil, x_aCons, x_eTup, x_eLst, x_eIf, x_eNot, x_eAnd, x_eOr, x_bAnd, x_bOr, x_bNot, x_bYes, x_eSl, x_oNone, x_oSome, asI_int, x_iSeq, x_iCall, x_gfName, x_gfTup, eLc, noX_is, Res.bind_ok, Res.bind_exc, flow_ok, flow_exc, seqK_next, seqK_ret, seqK_exc, seqK_brk, seqK_cont, loopK_next, loopK_cont, loopK_brk, loopK_ret, loopK_exc, must_ok, List.set_cons_succ, List.set_cons_zero, List.getD_cons_succ, List.getD_cons_zero, vD_some, if_true, if_false, Bool.false_eq_true, reduceIte, List.map_cons, List.map_nil, List.length_cons, List.length_nil, List.cons_append, List.nil_append, List.replicate, Nat.reduceSub, Nat.reduceAdd, x_add, x_sub, x_cmp, x_eq_ii, x_ne_ii, x_int_i, x_len_t, x_len_l, x_tup_l, x_tup_t, x_list_l, x_list_t, x_dSl_t, x_dSl_l, x_items_t, x_items_l, x_tru_n, x_tru_b, x_tru_i, x_tru_t, x_tru_l, x_asB, x_is_n, x_isNot_n, isNon_n, isNon_i, isNon_s, isNon_t, isNon_l, isNon_b, Bool.not_true, Bool.not_false, List.length_map, fnE, startE]
def fnd (F : FF) (x : Nat) : Bool := match F[x]? with
  | some (some _) => true
  | _ => false
theorem fnd_iff {F : FF} {x : Nat} : fnd F x = true ↔ ∃ k, F[x]? = some (some k) := by
  unfold fnd
  constructor
  · intro h
    split at h
    · rename_i k e
      exact ⟨k, e⟩
    · cases h
  · rintro ⟨k, e⟩
    rw [e]
theorem AI.set {P : PP} {F : FF} {r : Nat → Nat} {t i : Nat} {row L : List Nat} (A : AI P F r t) (hi : P[i]? = some row) (hF : F[i]? = some none) (hx : ∀ x ∈ row, (∃ k', F[x]? = some (some k')) ∧ r x < r i) (nd : L.Nodup) (mem : ∀ a, a ∈ L ↔ Up P a i) (l40 : L.length ≤ 40) (hr : r i < t) : AI P (F.set i (some L)) r t := by
  have hiF : i < F.length := (List.getElem?_eq_some_iff.mp hF).1
  have up : ∀ x : Nat, (∃ k', F[x]? = some (some k')) → ∃ k', (F.set i (some L))[x]? = some (some k') := by
    rintro x ⟨k', hk⟩
    by_cases e : i = x
    · subst e
      exact ⟨L, List.getElem?_set_self hiF⟩
    · exact ⟨k', by rw [List.getElem?_set_ne e]; exact hk⟩
  refine ⟨by rw [List.length_set]; exact A.len, fun j ks h => ?_, fun j ks row' h hj x hxr => ?_⟩
  · by_cases e : i = j
    · subst e
      rw [List.getElem?_set_self hiF] at h
      cases h
      exact ⟨nd, mem, l40, hr⟩
    · rw [List.getElem?_set_ne e] at h
      exact A.ok j ks h
  · by_cases e : i = j
    · subst e
      rw [hi] at hj
      cases hj
      exact ⟨up x (hx x hxr).1, (hx x hxr).2⟩
    · rw [List.getElem?_set_ne e] at h
      have := A.par j ks row' h hj x hxr
      exact ⟨up x this.1, this.2⟩
theorem ready_loop {P : PP} {r : Nat → Nat} {t : Nat} (v : VP P) (l rd : Option D) : ∀ (rs : List Nat) (F : FF) (o z e0 : Option D), AI P F r t → rs.Nodup →
    (∀ i ∈ rs, F[i]? = some none ∧ r i < t ∧ ∃ row, P[i]? = some row ∧ ∀ x ∈ row, (∃ k', F[x]? = some (some k')) ∧ r x < r i) →
    ∃ o' z' e' F', forE (gfName 3) B__ancestors_2 (rs.map dN) [some (parD P), some (.lst (F.map oD)), l, o, z, rd, e0] = .next [some (parD P), some (.lst (F'.map oD)), l, o', z', rd, e'] ∧ AI P F' r t ∧ (∀ i, F'[i]? = some none ↔ F[i]? = some none ∧ i ∉ rs)
  | [], F, o, z, e0, A, _, _ => ⟨o, z, e0, F, rfl, A, fun i => by simp⟩
  | i :: rs, F, o, z, e0, A, nd, h => by
    obtain ⟨hF, hr, row, hi, hx⟩ := h i List.mem_cons_self
    obtain ⟨n1, n2⟩ := List.nodup_cons.mp nd
    obtain ⟨z1, L, e1, nd1, mem1, l1⟩ := one_turn v A l rd e0 z hi hF fun x hxr => (hx x hxr).1
    have A1 := A.set hi hF hx nd1 mem1 l1 hr
    have hiF : i < F.length := (List.getElem?_eq_some_iff.mp hF).1
    obtain ⟨o', z', e', F', e2, A2, m2⟩ := ready_loop v l rd rs (F.set i (some L)) (some (dN i)) z1 none A1 n2 fun j hj => by
      have hne : i ≠ j := fun q => n1 (q ▸ hj)
      obtain ⟨h1, h2, row', h3, h4⟩ := h j (List.mem_cons_of_mem _ hj)
      refine ⟨by rw [List.getElem?_set_ne hne]; exact h1, h2, row', h3, fun x hxr => ⟨?_, (h4 x hxr).2⟩⟩
      obtain ⟨k', hk⟩ := (h4 x hxr).1
      by_cases q : i = x
      · subst q
        exact ⟨L, List.getElem?_set_self hiF⟩
      · exact ⟨k', by rw [List.getElem?_set_ne q]; exact hk⟩
    refine ⟨o', z', e', F', ?_, A2, fun j => ?_⟩
    · rw [List.map_cons, forE_cons]
      show loopK (B__ancestors_2 [some (parD P), some (.lst (F.map oD)), l, some (dN i), z, rd, e0]) _ = _
      rw [e1]
      exact e2
    · rw [m2, List.mem_cons]
      by_cases q : i = j
      · subst q
        rw [List.getElem?_set_self hiF]
        simp
      · rw [List.getElem?_set_ne q]
        constructor
        · rintro ⟨a, b⟩
          exact ⟨a, fun z => z.elim (fun e => q e.symm) b⟩
        · rintro ⟨a, b⟩
          exact ⟨a, fun z => b (.inr z)⟩
def leftL (P : PP) (F : FF) : List Nat := (List.range P.length).filter fun i => !fnd F i
theorem mem_left {P : PP} {F : FF} (hl : F.length = P.length) {i : Nat} : i ∈ leftL P F ↔ F[i]? = some none := by
  unfold leftL
  rw [List.mem_filter, List.mem_range]
  constructor
  · rintro ⟨h1, h2⟩
    have hi : i < F.length := by omega
    have e := List.getElem?_eq_getElem hi
    unfold fnd at h2
    rw [e] at h2 ⊢
    cases q : F[i] with
    | none => rfl
    | some k => rw [q] at h2; cases h2
  · intro h
    have hi : i < F.length := (List.getElem?_eq_some_iff.mp h).1
    exact ⟨by omega, by unfold fnd; rw [h]; rfl⟩
theorem left_nodup (P : PP) (F : FF) : (leftL P F).Nodup := List.nodup_range.filter _
def rdyL (P : PP) (F : FF) : List Nat := (leftL P F).filter fun i => (P.getD i []).all (fnd F)
theorem ready_lc {P : PP} {F : FF} (v : VP P) (hl : F.length = P.length) (o z r e : Option D) :
    eLc (iSeq (eVar 2)) [3] (gfName 3) (eUn dTru (eCall fAll (aCons (eLc (iSeq (eOp dIx (eVar 0) (eVar 3))) [4] (gfName 4) bYes (eOp (dIsNot) (eOp dIx (eVar 1) (eVar 4)) (eC .non))) aNil))) (eVar 3)
      [some (parD P), some (.lst (F.map oD)), some (.lst ((leftL P F).map dN)), o, z, r, e] = .ok (.lst ((rdyL P F).map dN)) := by
  have key := lc_filter (gf := gfName 3) (tt := eUn dTru (eCall fAll (aCons (eLc (iSeq (eOp dIx (eVar 0) (eVar 3))) [4] (gfName 4) bYes (eOp (dIsNot) (eOp dIx (eVar 1) (eVar 4)) (eC .non))) aNil))) (f := eVar 3)
    (ρ := [some (parD P), some (.lst (F.map oD)), some (.lst ((leftL P F).map dN)), none, z, r, e]) (e := dN) (p := fun i => (P.getD i []).all (fnd F)) (g := dN) (xs := leftL P F) fun i hi => by
      have hin : i < P.length := by
        unfold leftL at hi
        exact List.mem_range.mp (List.mem_filter.mp hi).1
      have hrow : P[i]? = some (P.getD i []) := by
        rw [List.getD_eq_getElem?_getD, List.getElem?_eq_getElem hin]
        rfl
      refine ⟨_, rfl, ?_, rfl⟩
      have hp : dIx (parD P) (.int (i : Nat)) = .ok (rowD (P.getD i [])) := dIx_tm (f := rowD) hrow
      have inner := lc_fun (gf := gfName 4) (f := eOp (dIsNot) (eOp dIx (eVar 1) (eVar 4)) (eC .non)) (ρ := [some (parD P), some (.lst (F.map oD)), some (.lst ((leftL P F).map dN)), some (dN i), none, r, e]) (e := dN) (g := fun x => .bl (fnd F x)) (xs := P.getD i []) fun x hx => by
        refine ⟨_, rfl, ?_⟩
        have hxn : x < F.length := by rw [hl]; exact v.lt i _ hrow x hx
        have hi2 : dIx (.lst (F.map oD)) (.int (x : Nat)) = .ok (oD F[x]) := dIx_lm (f := oD) (List.getElem?_eq_getElem hxn)
        simp only [sSeq_x, x_min2, x_max2, x_eRg1, x_eMeth, x_eMake, x_sSet, x_sIf, x_sRet, x_sRetN, x_sPar, x_sUnp, resF_ok, x_sDrop, x_sNext, x_sBreak, x_sCont, x_sRaise, x_sAug, augK_ok, x_sFor, x_sWhile, sKill_x, x_wipe0, x_wipe1, x_evL0, x_evL1, x_setL0, x_setL1, x_eVar, x_eC, x_eOp, x_eUn, x_eCall, x_eMS, x_asStr, x_aNil, x_aCons, x_eTup, x_eLst, x_eIf, x_eNot, x_eAnd, x_eOr, x_bAnd, x_bOr, x_bNot, x_bYes, x_eSl, x_oNone, x_oSome, asI_int, x_iSeq, x_iCall, x_gfName, x_gfTup, eLc, noX_is, Res.bind_ok, Res.bind_exc, flow_ok, flow_exc, seqK_next, seqK_ret, seqK_exc, seqK_brk, seqK_cont, loopK_next, loopK_cont, loopK_brk, loopK_ret, loopK_exc, must_ok, List.set_cons_succ, List.set_cons_zero, List.getD_cons_succ, List.getD_cons_zero, vD_some, if_true, if_false, Bool.false_eq_true, reduceIte, List.map_cons, List.map_nil, List.length_cons, List.length_nil, List.cons_append, List.nil_append, List.replicate, Nat.reduceSub, Nat.reduceAdd, x_add, x_sub, x_cmp, x_eq_ii, x_ne_ii, x_int_i, x_len_t, x_len_l, x_tup_l, x_tup_t, x_list_l, x_list_t, x_dSl_t, x_dSl_l, x_items_t, x_items_l, x_tru_n, x_tru_b, x_tru_i, x_tru_t, x_tru_l, x_asB, x_is_n, x_isNot_n, isNon_n, isNon_i, isNon_s, isNon_t, isNon_l, isNon_b, Bool.not_true, Bool.not_false, List.length_map, fnE, startE, dN_def, hi2, oD_nn]
        unfold fnd
        rw [List.getElem?_eq_getElem hxn]
        cases F[x] <;> rfl
      simp only [sSeq_x, x_min2, x_max2, x_eRg1, x_eMeth, x_eMake, x_sSet, x_sIf, x_sRet, x_sRetN, x_sPar, x_sUnp, resF_ok, x_sDrop, x_sNext, x_sBreak, x_sCont, x_sRaise, x_sAug, augK_ok, x_sFor, x_sWhile, sKill_x, x_wipe0, x_wipe1, x_evL0, x_evL1, x_setL0, x_setL1, x_eVar, x_eC, x_eOp, x_eUn, x_eCall, x_eMS, x_asStr, x_aNil, x_aCons, x_eTup, x_eLst, x_eIf, x_eNot, x_eAnd, x_eOr, x_bAnd, x_bOr, x_bNot, x_bYes, x_eSl, x_oNone, x_oSome, asI_int, x_iSeq, x_iCall, x_gfName, x_gfTup, eLc, noX_is, Res.bind_ok, Res.bind_exc, flow_ok, flow_exc, seqK_next, seqK_ret, seqK_exc, seqK_brk, seqK_cont, loopK_next, loopK_cont, loopK_brk, loopK_ret, loopK_exc, must_ok, List.set_cons_succ, List.set_cons_zero, List.getD_cons_succ, List.getD_cons_zero, vD_some, if_true, if_false, Bool.false_eq_true, reduceIte, List.map_cons, List.map_nil, List.length_cons, List.length_nil, List.cons_append, List.nil_append, List.replicate, Nat.reduceSub, Nat.reduceAdd, x_add, x_sub, x_cmp, x_eq_ii, x_ne_ii, x_int_i, x_len_t, x_len_l, x_tup_l, x_tup_t, x_list_l, x_list_t, x_dSl_t, x_dSl_l, x_items_t, x_items_l, x_tru_n, x_tru_b, x_tru_i, x_tru_t, x_tru_l, x_asB, x_is_n, x_isNot_n, isNon_n, isNon_i, isNon_s, isNon_t, isNon_l, isNon_b, Bool.not_true, Bool.not_false, List.length_map, fnE, startE, dN_def, hp, rowD] at inner ⊢
      rw [inner]
      simp only [sSeq_x, x_min2, x_max2, x_eRg1, x_eMeth, x_eMake, x_sSet, x_sIf, x_sRet, x_sRetN, x_sPar, x_sUnp, resF_ok, x_sDrop, x_sNext, x_sBreak, x_sCont, x_sRaise, x_sAug, augK_ok, x_sFor, x_sWhile, sKill_x, x_wipe0, x_wipe1, x_evL0, x_evL1, x_setL0, x_setL1, x_eVar, x_eC, x_eOp, x_eUn, x_eCall, x_eMS, x_asStr, x_aNil, x_aCons, x_eTup, x_eLst, x_eIf, x_eNot, x_eAnd, x_eOr, x_bAnd, x_bOr, x_bNot, x_bYes, x_eSl, x_oNone, x_oSome, asI_int, x_iSeq, x_iCall, x_gfName, x_gfTup, eLc, noX_is, Res.bind_ok, Res.bind_exc, flow_ok, flow_exc, seqK_next, seqK_ret, seqK_exc, seqK_brk, seqK_cont, loopK_next, loopK_cont, loopK_brk, loopK_ret, loopK_exc, must_ok, List.set_cons_succ, List.set_cons_zero, List.getD_cons_succ, List.getD_cons_zero, vD_some, if_true, if_false, Bool.false_eq_true, reduceIte, List.map_cons, List.map_nil, List.length_cons, List.length_nil, List.cons_append, List.nil_append, List.replicate, Nat.reduceSub, Nat.reduceAdd, x_add, x_sub, x_cmp, x_eq_ii, x_ne_ii, x_int_i, x_len_t, x_len_l, x_tup_l, x_tup_t, x_list_l, x_list_t, x_dSl_t, x_dSl_l, x_items_t, x_items_l, x_tru_n, x_tru_b, x_tru_i, x_tru_t, x_tru_l, x_asB, x_is_n, x_isNot_n, isNon_n, isNon_i, isNon_s, isNon_t, isNon_l, isNon_b, Bool.not_true, Bool.not_false, List.length_map, fnE, startE, x_all_f]
  show (Res.ok ((leftL P F).map dN) >>= _) = _
  simp only [sSeq_x, x_min2, x_max2, x_eRg1, x_eMeth, x_eMake, x_sSet, x_sIf, x_sRet, x_sRetN, x_sPar, x_sUnp, resF_ok, x_sDrop, x_sNext, x_sBreak, x_sCont, x_sRaise, x_sAug, augK_ok, x_sFor, x_sWhile, sKill_x, x_wipe0, x_wipe1, x_evL0, x_evL1, x_setL0, x_setL1, x_eVar, x_eC, x_eOp, x_eUn, x_eCall, x_eMS, x_asStr, x_aNil, x_aCons, x_eTup, x_eLst, x_eIf, x_eNot, x_eAnd, x_eOr, x_bAnd, x_bOr, x_bNot, x_bYes, x_eSl, x_oNone, x_oSome, asI_int, x_iSeq, x_iCall, x_gfName, x_gfTup, eLc, noX_is, Res.bind_ok, Res.bind_exc, flow_ok, flow_exc, seqK_next, seqK_ret, seqK_exc, seqK_brk, seqK_cont, loopK_next, loopK_cont, loopK_brk, loopK_ret, loopK_exc, must_ok, List.set_cons_succ, List.set_cons_zero, List.getD_cons_succ, List.getD_cons_zero, vD_some, if_true, if_false, Bool.false_eq_true, reduceIte, List.map_cons, List.map_nil, List.length_cons, List.length_nil, List.cons_append, List.nil_append, List.replicate, Nat.reduceSub, Nat.reduceAdd, x_add, x_sub, x_cmp, x_eq_ii, x_ne_ii, x_int_i, x_len_t, x_len_l, x_tup_l, x_tup_t, x_list_l, x_list_t, x_dSl_t, x_dSl_l, x_items_t, x_items_l, x_tru_n, x_tru_b, x_tru_i, x_tru_t, x_tru_l, x_asB, x_is_n, x_isNot_n, isNon_n, isNon_i, isNon_s, isNon_t, isNon_l, isNon_b, Bool.not_true, Bool.not_false, List.length_map, fnE, startE] at key ⊢
  rw [key]
  rfl
def anS (P : PP) (F : FF) (o z r e : Option D) : Px.Env := [some (parD P), some (.lst (F.map oD)), some (.lst ((leftL P F).map dN)), o, z, r, e]
theorem left_step {P : PP} {F F' : FF} (hl : F.length = P.length) (hl' : F'.length = P.length) (h : ∀ i : Nat, F'[i]? = some none ↔ F[i]? = some none ∧ i ∉ rdyL P F) : (leftL P F).filter (fun i => !decide (i ∈ rdyL P F)) = leftL P F' := by
  show ((List.range P.length).filter fun i => !fnd F i).filter _ = (List.range P.length).filter fun i => !fnd F' i
  rw [List.filter_filter]
  refine List.filter_congr fun i hi => ?_
  have hin : i < P.length := List.mem_range.mp hi
  have a : (!fnd F i) = true ↔ F[i]? = some none := by
    rw [← mem_left hl]
    unfold leftL
    rw [List.mem_filter, List.mem_range]
    exact ⟨fun q => ⟨hin, q⟩, fun q => q.2⟩
  have b : (!fnd F' i) = true ↔ F'[i]? = some none := by
    rw [← mem_left hl']
    unfold leftL
    rw [List.mem_filter, List.mem_range]
    exact ⟨fun q => ⟨hin, q⟩, fun q => q.2⟩
  have c := h i
  rw [← a, ← b] at c
  cases h1 : !fnd F' i with
  | true =>
    have := c.mp h1
    rw [this.1, decide_eq_false this.2]
    rfl
  | false =>
    cases h2 : !fnd F i with
    | false => simp
    | true =>
      have hm : i ∈ rdyL P F := Classical.byContradiction fun q => by
        have := c.mpr ⟨h2, q⟩
        rw [h1] at this
        cases this
      rw [decide_eq_true hm]
      rfl
theorem round_ok {P : PP} {F : FF} {r : Nat → Nat} {t : Nat} (v : VP P) (A : AI P F r t) (o z r5 e6 : Option D) :
    (rdyL P F = [] ∧ B__ancestors_1 (anS P F o z r5 e6) = .ret .non) ∨
    ∃ F' r' o' z', B__ancestors_1 (anS P F o z r5 e6) = .next (anS P F' o' z' none none) ∧ AI P F' r' (t + 1) ∧ (leftL P F').length < (leftL P F).length := by
  have hlc := ready_lc v A.len o z r5 e6
  by_cases hr : rdyL P F = []
  · refine .inl ⟨hr, ?_⟩
    rw [hr] at hlc
    unfold B__ancestors_1 anS
    simp only [sSeq_x, x_min2, x_max2, x_eRg1, x_eMeth, x_eMake, x_sSet, x_sIf, x_sRet, x_sRetN, x_sPar, x_sUnp, resF_ok, x_sDrop, x_sNext, x_sBreak, x_sCont, x_sRaise, x_sAug, augK_ok, x_sFor, x_sWhile, sKill_x, x_wipe0, x_wipe1, x_evL0, x_evL1, x_setL0, x_setL1, x_eVar, x_eC, x_eOp, x_eUn, x_eCall, x_eMS, x_asStr, x_aNil, x_aCons, x_eTup, x_eLst, x_eIf, x_eNot, x_eAnd, x_eOr, x_bAnd, x_bOr, x_bNot, x_bYes, x_eSl, x_oNone, x_oSome, asI_int, x_iSeq, x_iCall, x_gfName, x_gfTup, eLc, noX_is, Res.bind_ok, Res.bind_exc, flow_ok, flow_exc, seqK_next, seqK_ret, seqK_exc, seqK_brk, seqK_cont, loopK_next, loopK_cont, loopK_brk, loopK_ret, loopK_exc, must_ok, List.set_cons_succ, List.set_cons_zero, List.getD_cons_succ, List.getD_cons_zero, vD_some, if_true, if_false, Bool.false_eq_true, reduceIte, List.map_cons, List.map_nil, List.length_cons, List.length_nil, List.cons_append, List.nil_append, List.replicate, Nat.reduceSub, Nat.reduceAdd, x_add, x_sub, x_cmp, x_eq_ii, x_ne_ii, x_int_i, x_len_t, x_len_l, x_tup_l, x_tup_t, x_list_l, x_list_t, x_dSl_t, x_dSl_l, x_items_t, x_items_l, x_tru_n, x_tru_b, x_tru_i, x_tru_t, x_tru_l, x_asB, x_is_n, x_isNot_n, isNon_n, isNon_i, isNon_s, isNon_t, isNon_l, isNon_b, Bool.not_true, Bool.not_false, List.length_map, fnE, startE] at hlc ⊢
    rw [hlc]
    simp only [sSeq_x, x_min2, x_max2, x_eRg1, x_eMeth, x_eMake, x_sSet, x_sIf, x_sRet, x_sRetN, x_sPar, x_sUnp, resF_ok, x_sDrop, x_sNext, x_sBreak, x_sCont, x_sRaise, x_sAug, augK_ok, x_sFor, x_sWhile, sKill_x, x_wipe0, x_wipe1, x_evL0, x_evL1, x_setL0, x_setL1, x_eVar, x_eC, x_eOp, x_eUn, x_eCall, x_eMS, x_asStr, x_aNil, x_aCons, x_eTup, x_eLst, x_eIf, x_eNot, x_eAnd, x_eOr, x_bAnd, x_bOr, x_bNot, x_bYes, x_eSl, x_oNone, x_oSome, asI_int, x_iSeq, x_iCall, x_gfName, x_gfTup, eLc, noX_is, Res.bind_ok, Res.bind_exc, flow_ok, flow_exc, seqK_next, seqK_ret, seqK_exc, seqK_brk, seqK_cont, loopK_next, loopK_cont, loopK_brk, loopK_ret, loopK_exc, must_ok, List.set_cons_succ, List.set_cons_zero, List.getD_cons_succ, List.getD_cons_zero, vD_some, if_true, if_false, Bool.false_eq_true, reduceIte, List.map_cons, List.map_nil, List.length_cons, List.length_nil, List.cons_append, List.nil_append, List.replicate, Nat.reduceSub, Nat.reduceAdd, x_add, x_sub, x_cmp, x_eq_ii, x_ne_ii, x_int_i, x_len_t, x_len_l, x_tup_l, x_tup_t, x_list_l, x_list_t, x_dSl_t, x_dSl_l, x_items_t, x_items_l, x_tru_n, x_tru_b, x_tru_i, x_tru_t, x_tru_l, x_asB, x_is_n, x_isNot_n, isNon_n, isNon_i, isNon_s, isNon_t, isNon_l, isNon_b, Bool.not_true, Bool.not_false, List.length_map, fnE, startE]
    rfl
  · refine .inr ?_
    have A' : AI P F (fun i => if fnd F i = true then r i else t) (t + 1) := by
      refine ⟨A.len, fun i ks h => ?_, fun i ks row h hi x hx => ?_⟩
      · obtain ⟨h1, h2, h3, h4⟩ := A.ok i ks h
        refine ⟨h1, h2, h3, ?_⟩
        show (if fnd F i = true then r i else t) < t + 1
        rw [if_pos (fnd_iff.mpr ⟨ks, h⟩)]
        omega
      · obtain ⟨h1, h2⟩ := A.par i ks row h hi x hx
        refine ⟨h1, ?_⟩
        show (if fnd F x = true then r x else t) < (if fnd F i = true then r i else t)
        rw [if_pos (fnd_iff.mpr ⟨ks, h⟩), if_pos (fnd_iff.mpr h1)]
        exact h2
    have nd : (rdyL P F).Nodup := (left_nodup P F).filter _
    obtain ⟨o', z', e', F', e1, A1, m1⟩ := ready_loop v (some (.lst ((leftL P F).map dN))) (some (.lst ((rdyL P F).map dN))) (rdyL P F) F o z e6 A' nd fun i hi => by
      unfold rdyL at hi
      obtain ⟨h1, h2⟩ := List.mem_filter.mp hi
      have hF := (mem_left A.len).mp h1
      have hin : i < P.length := by
        have := (List.getElem?_eq_some_iff.mp hF).1
        rw [A.len] at this
        exact this
      have hnf : fnd F i = false := by
        unfold fnd
        rw [hF]
      refine ⟨hF, by show (if fnd F i = true then r i else t) < t + 1; rw [hnf]; exact Nat.lt_succ_self t, P.getD i [], by rw [List.getD_eq_getElem?_getD, List.getElem?_eq_getElem hin]; rfl, fun x hx => ?_⟩
      have hf := List.all_eq_true.mp h2 x hx
      obtain ⟨k', hk⟩ := fnd_iff.mp hf
      refine ⟨⟨k', hk⟩, ?_⟩
      show (if fnd F x = true then r x else t) < (if fnd F i = true then r i else t)
      rw [hf, hnf]
      exact (A.ok x k' hk).2.2.2
    have hst := left_step A.len A1.len m1
    refine ⟨F', _, o', z', ?_, A1, ?_⟩
    · have lc2 := lc_filter (gf := gfName 3) (tt := eUn asB (eOp (dNotIn) (eVar 3) (eVar 5))) (f := eVar 3) (ρ := [some (parD P), some (.lst (F'.map oD)), some (.lst ((leftL P F).map dN)), none, z', some (.lst ((rdyL P F).map dN)), none])
        (e := dN) (p := fun i => !decide (i ∈ rdyL P F)) (g := dN) (xs := leftL P F) fun i hi => ⟨_, rfl, by
          have := dNotIn_of (dIn_L i (rdyL P F))
          simp only [sSeq_x, x_min2, x_max2, x_eRg1, x_eMeth, x_eMake, x_sSet, x_sIf, x_sRet, x_sRetN, x_sPar, x_sUnp, resF_ok, x_sDrop, x_sNext, x_sBreak, x_sCont, x_sRaise, x_sAug, augK_ok, x_sFor, x_sWhile, sKill_x, x_wipe0, x_wipe1, x_evL0, x_evL1, x_setL0, x_setL1, x_eVar, x_eC, x_eOp, x_eUn, x_eCall, x_eMS, x_asStr, x_aNil, x_aCons, x_eTup, x_eLst, x_eIf, x_eNot, x_eAnd, x_eOr, x_bAnd, x_bOr, x_bNot, x_bYes, x_eSl, x_oNone, x_oSome, asI_int, x_iSeq, x_iCall, x_gfName, x_gfTup, eLc, noX_is, Res.bind_ok, Res.bind_exc, flow_ok, flow_exc, seqK_next, seqK_ret, seqK_exc, seqK_brk, seqK_cont, loopK_next, loopK_cont, loopK_brk, loopK_ret, loopK_exc, must_ok, List.set_cons_succ, List.set_cons_zero, List.getD_cons_succ, List.getD_cons_zero, vD_some, if_true, if_false, Bool.false_eq_true, reduceIte, List.map_cons, List.map_nil, List.length_cons, List.length_nil, List.cons_append, List.nil_append, List.replicate, Nat.reduceSub, Nat.reduceAdd, x_add, x_sub, x_cmp, x_eq_ii, x_ne_ii, x_int_i, x_len_t, x_len_l, x_tup_l, x_tup_t, x_list_l, x_list_t, x_dSl_t, x_dSl_l, x_items_t, x_items_l, x_tru_n, x_tru_b, x_tru_i, x_tru_t, x_tru_l, x_asB, x_is_n, x_isNot_n, isNon_n, isNon_i, isNon_s, isNon_t, isNon_l, isNon_b, Bool.not_true, Bool.not_false, List.length_map, fnE, startE, this], rfl⟩
      rw [hst] at lc2
      have hlen : ((rdyL P F).map dN).length ≠ 0 := by
        rw [List.length_map]
        exact fun q => hr (List.length_eq_zero_iff.mp q)
      have hz : (((((rdyL P F).map dN).length : Nat) : Int) == 0) = false := by
        simp only [beq_eq_false_iff_ne]
        omega
      unfold B__ancestors_1 anS
      simp only [sSeq_x, x_min2, x_max2, x_eRg1, x_eMeth, x_eMake, x_sSet, x_sIf, x_sRet, x_sRetN, x_sPar, x_sUnp, resF_ok, x_sDrop, x_sNext, x_sBreak, x_sCont, x_sRaise, x_sAug, augK_ok, x_sFor, x_sWhile, sKill_x, x_wipe0, x_wipe1, x_evL0, x_evL1, x_setL0, x_setL1, x_eVar, x_eC, x_eOp, x_eUn, x_eCall, x_eMS, x_asStr, x_aNil, x_aCons, x_eTup, x_eLst, x_eIf, x_eNot, x_eAnd, x_eOr, x_bAnd, x_bOr, x_bNot, x_bYes, x_eSl, x_oNone, x_oSome, asI_int, x_iSeq, x_iCall, x_gfName, x_gfTup, eLc, noX_is, Res.bind_ok, Res.bind_exc, flow_ok, flow_exc, seqK_next, seqK_ret, seqK_exc, seqK_brk, seqK_cont, loopK_next, loopK_cont, loopK_brk, loopK_ret, loopK_exc, must_ok, List.set_cons_succ, List.set_cons_zero, List.getD_cons_succ, List.getD_cons_zero, vD_some, if_true, if_false, Bool.false_eq_true, reduceIte, List.map_cons, List.map_nil, List.length_cons, List.length_nil, List.cons_append, List.nil_append, List.replicate, Nat.reduceSub, Nat.reduceAdd, x_add, x_sub, x_cmp, x_eq_ii, x_ne_ii, x_int_i, x_len_t, x_len_l, x_tup_l, x_tup_t, x_list_l, x_list_t, x_dSl_t, x_dSl_l, x_items_t, x_items_l, x_tru_n, x_tru_b, x_tru_i, x_tru_t, x_tru_l, x_asB, x_is_n, x_isNot_n, isNon_n, isNon_i, isNon_s, isNon_t, isNon_l, isNon_b, Bool.not_true, Bool.not_false, List.length_map, fnE, startE] at hlc ⊢
      rw [hlc]
      rw [List.length_map] at hz
      simp only [sSeq_x, x_min2, x_max2, x_eRg1, x_eMeth, x_eMake, x_sSet, x_sIf, x_sRet, x_sRetN, x_sPar, x_sUnp, resF_ok, x_sDrop, x_sNext, x_sBreak, x_sCont, x_sRaise, x_sAug, augK_ok, x_sFor, x_sWhile, sKill_x, x_wipe0, x_wipe1, x_evL0, x_evL1, x_setL0, x_setL1, x_eVar, x_eC, x_eOp, x_eUn, x_eCall, x_eMS, x_asStr, x_aNil, x_aCons, x_eTup, x_eLst, x_eIf, x_eNot, x_eAnd, x_eOr, x_bAnd, x_bOr, x_bNot, x_bYes, x_eSl, x_oNone, x_oSome, asI_int, x_iSeq, x_iCall, x_gfName, x_gfTup, eLc, noX_is, Res.bind_ok, Res.bind_exc, flow_ok, flow_exc, seqK_next, seqK_ret, seqK_exc, seqK_brk, seqK_cont, loopK_next, loopK_cont, loopK_brk, loopK_ret, loopK_exc, must_ok, List.set_cons_succ, List.set_cons_zero, List.getD_cons_succ, List.getD_cons_zero, vD_some, if_true, if_false, Bool.false_eq_true, reduceIte, List.map_cons, List.map_nil, List.length_cons, List.length_nil, List.cons_append, List.nil_append, List.replicate, Nat.reduceSub, Nat.reduceAdd, x_add, x_sub, x_cmp, x_eq_ii, x_ne_ii, x_int_i, x_len_t, x_len_l, x_tup_l, x_tup_t, x_list_l, x_list_t, x_dSl_t, x_dSl_l, x_items_t, x_items_l, x_tru_n, x_tru_b, x_tru_i, x_tru_t, x_tru_l, x_asB, x_is_n, x_isNot_n, isNon_n, isNon_i, isNon_s, isNon_t, isNon_l, isNon_b, Bool.not_true, Bool.not_false, List.length_map, fnE, startE, hz]
      rw [e1]
      simp only [sSeq_x, x_min2, x_max2, x_eRg1, x_eMeth, x_eMake, x_sSet, x_sIf, x_sRet, x_sRetN, x_sPar, x_sUnp, resF_ok, x_sDrop, x_sNext, x_sBreak, x_sCont, x_sRaise, x_sAug, augK_ok, x_sFor, x_sWhile, sKill_x, x_wipe0, x_wipe1, x_evL0, x_evL1, x_setL0, x_setL1, x_eVar, x_eC, x_eOp, x_eUn, x_eCall, x_eMS, x_asStr, x_aNil, x_aCons, x_eTup, x_eLst, x_eIf, x_eNot, x_eAnd, x_eOr, x_bAnd, x_bOr, x_bNot, x_bYes, x_eSl, x_oNone, x_oSome, asI_int, x_iSeq, x_iCall, x_gfName, x_gfTup, eLc, noX_is, Res.bind_ok, Res.bind_exc, flow_ok, flow_exc, seqK_next, seqK_ret, seqK_exc, seqK_brk, seqK_cont, loopK_next, loopK_cont, loopK_brk, loopK_ret, loopK_exc, must_ok, List.set_cons_succ, List.set_cons_zero, List.getD_cons_succ, List.getD_cons_zero, vD_some, if_true, if_false, Bool.false_eq_true, reduceIte, List.map_cons, List.map_nil, List.length_cons, List.length_nil, List.cons_append, List.nil_append, List.replicate, Nat.reduceSub, Nat.reduceAdd, x_add, x_sub, x_cmp, x_eq_ii, x_ne_ii, x_int_i, x_len_t, x_len_l, x_tup_l, x_tup_t, x_list_l, x_list_t, x_dSl_t, x_dSl_l, x_items_t, x_items_l, x_tru_n, x_tru_b, x_tru_i, x_tru_t, x_tru_l, x_asB, x_is_n, x_isNot_n, isNon_n, isNon_i, isNon_s, isNon_t, isNon_l, isNon_b, Bool.not_true, Bool.not_false, List.length_map, fnE, startE] at lc2 ⊢
      rw [lc2]
      simp only [sSeq_x, x_min2, x_max2, x_eRg1, x_eMeth, x_eMake, x_sSet, x_sIf, x_sRet, x_sRetN, x_sPar, x_sUnp, resF_ok, x_sDrop, x_sNext, x_sBreak, x_sCont, x_sRaise, x_sAug, augK_ok, x_sFor, x_sWhile, sKill_x, x_wipe0, x_wipe1, x_evL0, x_evL1, x_setL0, x_setL1, x_eVar, x_eC, x_eOp, x_eUn, x_eCall, x_eMS, x_asStr, x_aNil, x_aCons, x_eTup, x_eLst, x_eIf, x_eNot, x_eAnd, x_eOr, x_bAnd, x_bOr, x_bNot, x_bYes, x_eSl, x_oNone, x_oSome, asI_int, x_iSeq, x_iCall, x_gfName, x_gfTup, eLc, noX_is, Res.bind_ok, Res.bind_exc, flow_ok, flow_exc, seqK_next, seqK_ret, seqK_exc, seqK_brk, seqK_cont, loopK_next, loopK_cont, loopK_brk, loopK_ret, loopK_exc, must_ok, List.set_cons_succ, List.set_cons_zero, List.getD_cons_succ, List.getD_cons_zero, vD_some, if_true, if_false, Bool.false_eq_true, reduceIte, List.map_cons, List.map_nil, List.length_cons, List.length_nil, List.cons_append, List.nil_append, List.replicate, Nat.reduceSub, Nat.reduceAdd, x_add, x_sub, x_cmp, x_eq_ii, x_ne_ii, x_int_i, x_len_t, x_len_l, x_tup_l, x_tup_t, x_list_l, x_list_t, x_dSl_t, x_dSl_l, x_items_t, x_items_l, x_tru_n, x_tru_b, x_tru_i, x_tru_t, x_tru_l, x_asB, x_is_n, x_isNot_n, isNon_n, isNon_i, isNon_s, isNon_t, isNon_l, isNon_b, Bool.not_true, Bool.not_false, List.length_map, fnE, startE]
    · rw [← hst]
      obtain ⟨i, hi⟩ := List.exists_mem_of_ne_nil _ hr
      refine List.length_filter_lt_length_iff_exists.mpr ⟨i, ?_, ?_⟩
      · unfold rdyL at hi
        exact (List.mem_filter.mp hi).1
      · rw [decide_eq_true hi]
        exact fun q => nomatch q

theorem rep_ok (d : D) {n : Nat} (h : n ≤ 16777216) : dRep (.lst [d]) (.int n) = .ok (.lst (List.replicate n d)) := by
  unfold dRep
  simp only [List.length_singleton, Int.toNat_natCast]
  rw [if_pos ⟨by rw [sizeLine_eq]; omega, by omega, by omega⟩]
  congr 2
  induction n with
  | zero => rfl
  | succ n ih => rw [List.replicate_succ, List.flatten_cons, ih (by omega)]; rfl
theorem up_rank {P : PP} {r : Nat → Nat} (h : ∀ i row, P[i]? = some row → ∀ x ∈ row, r x < r i) {a b : Nat} (u : Up P a b) : r a ≤ r b := by
  induction u with
  | me => exact Nat.le_refl _
  | st h1 h2 _ ih => exact Nat.le_trans ih (Nat.le_of_lt (h _ _ h1 _ h2))
/-- the ancestors, or a set of versions none of which can begin -/
theorem anc_ok {P : PP} (v : VP P) :
    (C__ancestors [parD P] = .ok .non ∧ ∃ S : List Nat, S ≠ [] ∧ ∀ i ∈ S, ∃ row, P[i]? = some row ∧ ∃ x ∈ row, x ∈ S) ∨
    ∃ (F : List (List Nat)) (r : Nat → Nat), C__ancestors [parD P] = .ok (.lst (F.map dT)) ∧ F.length = P.length ∧ (∀ (i : Nat) ks, F[i]? = some ks → ks.Nodup ∧ (∀ a, a ∈ ks ↔ Up P a i) ∧ ks.length ≤ 40) ∧ ∀ i row, P[i]? = some row → ∀ x ∈ row, r x < r i := by
  have hn := v.le
  have no_rep : ∀ (i : Nat) (ks : List Nat), (List.replicate P.length (none : Option (List Nat)))[i]? ≠ some (some ks) := fun i ks h => by
    rw [List.getElem?_replicate] at h
    split at h <;> cases h
  have F0 : AI P (List.replicate P.length none) (fun _ => 0) 0 := ⟨List.length_replicate, fun i ks h => absurd h (no_rep i ks), fun i ks row h => absurd h (no_rep i ks)⟩
  have left0 : leftL P (List.replicate P.length none) = List.range P.length := by
    unfold leftL
    refine List.filter_eq_self.mpr fun i hi => ?_
    cases q : fnd (List.replicate P.length none) i with
    | false => rfl
    | true =>
      obtain ⟨k, hk⟩ := fnd_iff.mp q
      exact absurd hk (no_rep i k)
  have key := while_inv (t := eUn asB (eOp (dCmpI iGt) (eCall fLen (aCons (eVar 2) aNil)) (eC (.int 0)))) (F := B__ancestors_1)
    (P := fun ρ => ∃ F r t o z r5 e6, ρ = anS P F o z r5 e6 ∧ AI P F r t)
    (Q := fun fl => (fl = .ret .non ∧ ∃ S : List Nat, S ≠ [] ∧ ∀ i ∈ S, ∃ row, P[i]? = some row ∧ ∃ x ∈ row, x ∈ S) ∨ ∃ F r t o z r5 e6, fl = .next (anS P F o z r5 e6) ∧ AI P F r t ∧ leftL P F = [])
    (fun ρ => match ρ.getD 2 none with
      | some (.lst xs) => xs.length
      | _ => 0) (fun ρ h => by
      obtain ⟨F, r, t, o, z, r5, e6, rfl, A⟩ := h
      by_cases hl : leftL P F = []
      · refine .inl ⟨?_, .inr ⟨F, r, t, o, z, r5, e6, rfl, A, hl⟩⟩
        unfold anS
        rw [hl]
        simp only [sSeq_x, x_min2, x_max2, x_eRg1, x_eMeth, x_eMake, x_sSet, x_sIf, x_sRet, x_sRetN, x_sPar, x_sUnp, resF_ok, x_sDrop, x_sNext, x_sBreak, x_sCont, x_sRaise, x_sAug, augK_ok, x_sFor, x_sWhile, sKill_x, x_wipe0, x_wipe1, x_evL0, x_evL1, x_setL0, x_setL1, x_eVar, x_eC, x_eOp, x_eUn, x_eCall, x_eMS, x_asStr, x_aNil, x_aCons, x_eTup, x_eLst, x_eIf, x_eNot, x_eAnd, x_eOr, x_bAnd, x_bOr, x_bNot, x_bYes, x_eSl, x_oNone, x_oSome, asI_int, x_iSeq, x_iCall, x_gfName, x_gfTup, eLc, noX_is, Res.bind_ok, Res.bind_exc, flow_ok, flow_exc, seqK_next, seqK_ret, seqK_exc, seqK_brk, seqK_cont, loopK_next, loopK_cont, loopK_brk, loopK_ret, loopK_exc, must_ok, List.set_cons_succ, List.set_cons_zero, List.getD_cons_succ, List.getD_cons_zero, vD_some, if_true, if_false, Bool.false_eq_true, reduceIte, List.map_cons, List.map_nil, List.length_cons, List.length_nil, List.cons_append, List.nil_append, List.replicate, Nat.reduceSub, Nat.reduceAdd, x_add, x_sub, x_cmp, x_eq_ii, x_ne_ii, x_int_i, x_len_t, x_len_l, x_tup_l, x_tup_t, x_list_l, x_list_t, x_dSl_t, x_dSl_l, x_items_t, x_items_l, x_tru_n, x_tru_b, x_tru_i, x_tru_t, x_tru_l, x_asB, x_is_n, x_isNot_n, isNon_n, isNon_i, isNon_s, isNon_t, isNon_l, isNon_b, Bool.not_true, Bool.not_false, List.length_map, fnE, startE]
        rfl
      · refine .inr ⟨?_, ?_⟩
        · have : 0 < (leftL P F).length := List.length_pos_iff.mpr hl
          unfold anS
          simp only [sSeq_x, x_min2, x_max2, x_eRg1, x_eMeth, x_eMake, x_sSet, x_sIf, x_sRet, x_sRetN, x_sPar, x_sUnp, resF_ok, x_sDrop, x_sNext, x_sBreak, x_sCont, x_sRaise, x_sAug, augK_ok, x_sFor, x_sWhile, sKill_x, x_wipe0, x_wipe1, x_evL0, x_evL1, x_setL0, x_setL1, x_eVar, x_eC, x_eOp, x_eUn, x_eCall, x_eMS, x_asStr, x_aNil, x_aCons, x_eTup, x_eLst, x_eIf, x_eNot, x_eAnd, x_eOr, x_bAnd, x_bOr, x_bNot, x_bYes, x_eSl, x_oNone, x_oSome, asI_int, x_iSeq, x_iCall, x_gfName, x_gfTup, eLc, noX_is, Res.bind_ok, Res.bind_exc, flow_ok, flow_exc, seqK_next, seqK_ret, seqK_exc, seqK_brk, seqK_cont, loopK_next, loopK_cont, loopK_brk, loopK_ret, loopK_exc, must_ok, List.set_cons_succ, List.set_cons_zero, List.getD_cons_succ, List.getD_cons_zero, vD_some, if_true, if_false, Bool.false_eq_true, reduceIte, List.map_cons, List.map_nil, List.length_cons, List.length_nil, List.cons_append, List.nil_append, List.replicate, Nat.reduceSub, Nat.reduceAdd, x_add, x_sub, x_cmp, x_eq_ii, x_ne_ii, x_int_i, x_len_t, x_len_l, x_tup_l, x_tup_t, x_list_l, x_list_t, x_dSl_t, x_dSl_l, x_items_t, x_items_l, x_tru_n, x_tru_b, x_tru_i, x_tru_t, x_tru_l, x_asB, x_is_n, x_isNot_n, isNon_n, isNon_i, isNon_s, isNon_t, isNon_l, isNon_b, Bool.not_true, Bool.not_false, List.length_map, fnE, startE]
          congr 1
          exact decide_eq_true (by omega)
        · rcases round_ok v A o z r5 e6 with ⟨hr, e⟩ | ⟨F', r', o', z', e, A', hlt⟩
          · refine .inr ⟨_, e, .inl ⟨rfl, leftL P F, hl, fun i hi => ?_⟩⟩
            have hF := (mem_left A.len).mp hi
            have hin : i < P.length := by
              have := (List.getElem?_eq_some_iff.mp hF).1
              rw [A.len] at this
              exact this
            have hrow : P[i]? = some (P.getD i []) := by rw [List.getD_eq_getElem?_getD, List.getElem?_eq_getElem hin]; rfl
            refine ⟨_, hrow, ?_⟩
            have hno : ¬ (P.getD i []).all (fnd F) = true := fun q => by
              have : i ∈ rdyL P F := List.mem_filter.mpr ⟨hi, q⟩
              rw [hr] at this
              cases this
            rw [List.all_eq_true] at hno
            obtain ⟨x, hx⟩ := Classical.not_forall.mp hno
            obtain ⟨hx1, hx2⟩ := Classical.not_imp.mp hx
            refine ⟨x, hx1, ?_⟩
            unfold leftL
            rw [List.mem_filter, List.mem_range]
            refine ⟨v.lt i _ hrow x hx1, ?_⟩
            cases q : fnd F x
            · rfl
            · exact absurd q hx2
          · refine .inl ⟨_, .inl e, ⟨F', r', _, _, _, _, _, rfl, A'⟩, ?_⟩
            show ((leftL P F').map dN).length < ((leftL P F).map dN).length
            rw [List.length_map, List.length_map]
            exact hlt) 100000 (anS P (List.replicate P.length none) none none none none) ⟨_, _, _, _, _, _, _, rfl, F0⟩ (by
      show ((leftL P _).map dN).length < 100000
      rw [List.length_map, left0, List.length_range]
      omega)
  have start : ∀ k, C__ancestors [parD P] = k → (match seqK (whileE (eUn asB (eOp (dCmpI iGt) (eCall fLen (aCons (eVar 2) aNil)) (eC (.int 0)))) B__ancestors_1 100000 (anS P (List.replicate P.length none) none none none none)) (sKill [2, 3, 4, 5, 6] (sRet (eVar 1))) with
    | .ret d => Res.ok d
    | .next _ => .ok .non
    | .exc c _ => .exc c
    | _ => .err) = k := fun k hk => by
    rw [← hk]
    have h1 : fLen [parD P] = .ok (.int (P.length : Nat)) := by
      unfold parD
      rw [x_len_t, List.length_map]
    have h2 := rep_ok .non (n := P.length) (by omega)
    have h3 := rgD_nat .lst P.length (by omega)
    have e1 : (List.replicate P.length (none : Option (List Nat))).map oD = List.replicate P.length .non := by rw [List.map_replicate]; rfl
    unfold C__ancestors F__ancestors anS
    simp only [sSeq_x, x_min2, x_max2, x_eRg1, x_eMeth, x_eMake, x_sSet, x_sIf, x_sRet, x_sRetN, x_sPar, x_sUnp, resF_ok, x_sDrop, x_sNext, x_sBreak, x_sCont, x_sRaise, x_sAug, augK_ok, x_sFor, x_sWhile, sKill_x, x_wipe0, x_wipe1, x_evL0, x_evL1, x_setL0, x_setL1, x_eVar, x_eC, x_eOp, x_eUn, x_eCall, x_eMS, x_asStr, x_aNil, x_aCons, x_eTup, x_eLst, x_eIf, x_eNot, x_eAnd, x_eOr, x_bAnd, x_bOr, x_bNot, x_bYes, x_eSl, x_oNone, x_oSome, asI_int, x_iSeq, x_iCall, x_gfName, x_gfTup, eLc, noX_is, Res.bind_ok, Res.bind_exc, flow_ok, flow_exc, seqK_next, seqK_ret, seqK_exc, seqK_brk, seqK_cont, loopK_next, loopK_cont, loopK_brk, loopK_ret, loopK_exc, must_ok, List.set_cons_succ, List.set_cons_zero, List.getD_cons_succ, List.getD_cons_zero, vD_some, if_true, if_false, Bool.false_eq_true, reduceIte, List.map_cons, List.map_nil, List.length_cons, List.length_nil, List.cons_append, List.nil_append, List.replicate, Nat.reduceSub, Nat.reduceAdd, x_add, x_sub, x_cmp, x_eq_ii, x_ne_ii, x_int_i, x_len_t, x_len_l, x_tup_l, x_tup_t, x_list_l, x_list_t, x_dSl_t, x_dSl_l, x_items_t, x_items_l, x_tru_n, x_tru_b, x_tru_i, x_tru_t, x_tru_l, x_asB, x_is_n, x_isNot_n, isNon_n, isNon_i, isNon_s, isNon_t, isNon_l, isNon_b, Bool.not_true, Bool.not_false, List.length_map, fnE, startE, h1, h2, h3, e1, left0]
    all_goals rfl
  have nn : ∀ k, C__ancestors [parD P] = k → k = C__ancestors [parD P] := fun k h => h.symm
  have start := start _ rfl
  rcases key with ⟨e, S, hS, hS2⟩ | ⟨F, r, t, o, z, r5, e6, e, A, hl⟩
  · rw [e] at start
    exact .inl ⟨start.symm, S, hS, hS2⟩
  · rw [e] at start
    have all : ∀ i, i < F.length → ∃ ks, F[i]? = some (some ks) := fun i hi => by
      have hnl : i ∉ leftL P F := by rw [hl]; exact List.not_mem_nil
      rw [mem_left A.len, List.getElem?_eq_getElem hi] at hnl
      rw [List.getElem?_eq_getElem hi]
      cases q : F[i] with
      | none => rw [q] at hnl; exact absurd rfl hnl
      | some ks => exact ⟨ks, rfl⟩
    have hF : F = (F.map fun o => o.getD []).map some := by
      rw [List.map_map]
      refine List.ext_getElem? fun i => ?_
      rw [List.getElem?_map]
      by_cases hi : i < F.length
      · obtain ⟨ks, h⟩ := all i hi
        rw [h]
        rfl
      · rw [List.getElem?_eq_none (by omega)]
        rfl
    refine .inr ⟨F.map fun o => o.getD [], r, ?_, by rw [List.length_map]; exact A.len, fun i ks h => ?_, fun i row hi x hx => ?_⟩
    · rw [← start]
      show Res.ok (D.lst (F.map oD)) = _
      conv => lhs; rw [hF]
      rw [List.map_map, List.map_map, List.map_map]
      rfl
    · have h2 : F[i]? = some (some ks) := by
        rw [hF, List.getElem?_map, h]
        rfl
      obtain ⟨a, b, c, _⟩ := A.ok i ks h2
      exact ⟨a, b, c⟩
    · have hin : i < F.length := by
        have := (List.getElem?_eq_some_iff.mp hi).1
        rw [A.len]
        exact this
      obtain ⟨ks, h⟩ := all i hin
      exact (A.par i ks row h hi x hx).2
/-! ### parents: which values are some -/
def smp (d : D) : Bool := (tyS d).isSome
theorem isi_ty {p : D → Bool} {d : D} (h : smp d = true) : dIsi p d = .ok (.bl (p d)) := by
  unfold dIsi
  cases d <;> first | rfl | cases h
def wh (d : D) (a b : Int) : Bool := match d with
  | .int i => decide (a ≤ i) && decide (i ≤ b)
  | _ => false
theorem whole_ok (d : D) (a b : Int) (h : smp d = true) : C_is_whole [d, .int a, .int b] = .ok (.bl (wh d a b)) := by
  unfold C_is_whole F_is_whole
  cases d with
  | int i =>
    by_cases h1 : a ≤ i
    · simp [eChain, wh, h1, iLe, fnE, startE]
    · simp [eChain, wh, h1, iLe, fnE, startE]
  | bl b => cases b <;> rfl
  | non => rfl
  | str s => rfl
  | tup xs => rfl
  | lst xs => rfl
  | dic t ks vs => first | rfl | cases h
  | ins c ns vs => first | rfl | cases h
  | set xs => cases h
  | exc c => cases h
  | oth => cases h
def ascI (ns : List Int) : Bool := (List.range (ns.length - 1)).all fun k => decide (ns.getD k 0 < ns.getD (k + 1) 0)
theorem asc_iff : ∀ ns : List Int, ascI ns = true ↔ ns.Pairwise (· < ·)
  | [] => by simp [ascI]
  | [x] => by simp [ascI]
  | x :: y :: r => by
    have ih := asc_iff (y :: r)
    have e : ascI (x :: y :: r) = (decide (x < y) && ascI (y :: r)) := by
      unfold ascI
      show ((List.range (r.length + 1)).all _) = _
      rw [List.range_succ_eq_map, List.all_cons, List.all_map]
      rfl
    rw [e, Bool.and_eq_true, decide_eq_true_eq, ih]
    constructor
    · rintro ⟨h1, h2⟩
      refine List.pairwise_cons.mpr ⟨fun z hz => ?_, h2⟩
      rcases List.mem_cons.mp hz with q | q
      · rw [q]
        exact h1
      · have := (List.pairwise_cons.mp h2).1 z q
        omega
    · intro h
      obtain ⟨h1, h2⟩ := List.pairwise_cons.mp h
      exact ⟨h1 y List.mem_cons_self, h2⟩
theorem asc_ok (ns : List Int) (h : ns.length ≤ 1000) : C_ascends [.tup (ns.map .int)] = .ok (.bl (ascI ns)) := by
  have r : dRng1 [.int ((ns.length : Int) - 1)] = .ok ((List.range (ns.length - 1)).map fun i => .int (i : Nat)) := by
    cases ns with
    | nil => rfl
    | cons x r =>
      have := dRng1_nat r.length (by simp at h; omega)
      simpa using this
  have lc := lc_fun (gf := gfName 1) (f := eOp (dCmpI iLt) (eOp dIx (eVar 0) (eVar 1)) (eOp dIx (eVar 0) (eOp dAdd (eVar 1) (eC (.int 1))))) (ρ := [some (.tup (ns.map .int)), none]) (e := fun i : Nat => .int (i : Nat)) (g := fun k => .bl (decide (ns.getD k 0 < ns.getD (k + 1) 0))) (xs := List.range (ns.length - 1)) fun k hk => by
    have hk2 := List.mem_range.mp hk
    refine ⟨_, rfl, ?_⟩
    have h1 : dIx (.tup (ns.map .int)) (.int (k : Nat)) = .ok (.int (ns.getD k 0)) := dIx_tm (f := D.int) (by rw [List.getD_eq_getElem?_getD, List.getElem?_eq_getElem (by omega)]; rfl)
    have h2 : dIx (.tup (ns.map .int)) (.int ((k : Int) + 1)) = .ok (.int (ns.getD (k + 1) 0)) := by
      have : dIx (.tup (ns.map D.int)) (.int ((k + 1 : Nat) : Int)) = .ok (.int (ns.getD (k + 1) 0)) := dIx_tm (f := D.int) (by rw [List.getD_eq_getElem?_getD, List.getElem?_eq_getElem (by omega)]; rfl)
      simpa using this
    simp only [sSeq_x, x_min2, x_max2, x_eRg1, x_eMeth, x_eMake, x_sSet, x_sIf, x_sRet, x_sRetN, x_sPar, x_sUnp, resF_ok, x_sDrop, x_sNext, x_sBreak, x_sCont, x_sRaise, x_sAug, augK_ok, x_sFor, x_sWhile, sKill_x, x_wipe0, x_wipe1, x_evL0, x_evL1, x_setL0, x_setL1, x_eVar, x_eC, x_eOp, x_eUn, x_eCall, x_eMS, x_asStr, x_aNil, x_aCons, x_eTup, x_eLst, x_eIf, x_eNot, x_eAnd, x_eOr, x_bAnd, x_bOr, x_bNot, x_bYes, x_eSl, x_oNone, x_oSome, asI_int, x_iSeq, x_iCall, x_gfName, x_gfTup, eLc, noX_is, Res.bind_ok, Res.bind_exc, flow_ok, flow_exc, seqK_next, seqK_ret, seqK_exc, seqK_brk, seqK_cont, loopK_next, loopK_cont, loopK_brk, loopK_ret, loopK_exc, must_ok, List.set_cons_succ, List.set_cons_zero, List.getD_cons_succ, List.getD_cons_zero, vD_some, if_true, if_false, Bool.false_eq_true, reduceIte, List.map_cons, List.map_nil, List.length_cons, List.length_nil, List.cons_append, List.nil_append, List.replicate, Nat.reduceSub, Nat.reduceAdd, x_add, x_sub, x_cmp, x_eq_ii, x_ne_ii, x_int_i, x_len_t, x_len_l, x_tup_l, x_tup_t, x_list_l, x_list_t, x_dSl_t, x_dSl_l, x_items_t, x_items_l, x_tru_n, x_tru_b, x_tru_i, x_tru_t, x_tru_l, x_asB, x_is_n, x_isNot_n, isNon_n, isNon_i, isNon_s, isNon_t, isNon_l, isNon_b, Bool.not_true, Bool.not_false, List.length_map, fnE, startE, h1, h2, iLt]
  unfold C_ascends F_ascends
  simp only [sSeq_x, x_min2, x_max2, x_eRg1, x_eMeth, x_eMake, x_sSet, x_sIf, x_sRet, x_sRetN, x_sPar, x_sUnp, resF_ok, x_sDrop, x_sNext, x_sBreak, x_sCont, x_sRaise, x_sAug, augK_ok, x_sFor, x_sWhile, sKill_x, x_wipe0, x_wipe1, x_evL0, x_evL1, x_setL0, x_setL1, x_eVar, x_eC, x_eOp, x_eUn, x_eCall, x_eMS, x_asStr, x_aNil, x_aCons, x_eTup, x_eLst, x_eIf, x_eNot, x_eAnd, x_eOr, x_bAnd, x_bOr, x_bNot, x_bYes, x_eSl, x_oNone, x_oSome, asI_int, x_iSeq, x_iCall, x_gfName, x_gfTup, eLc, noX_is, Res.bind_ok, Res.bind_exc, flow_ok, flow_exc, seqK_next, seqK_ret, seqK_exc, seqK_brk, seqK_cont, loopK_next, loopK_cont, loopK_brk, loopK_ret, loopK_exc, must_ok, List.set_cons_succ, List.set_cons_zero, List.getD_cons_succ, List.getD_cons_zero, vD_some, if_true, if_false, Bool.false_eq_true, reduceIte, List.map_cons, List.map_nil, List.length_cons, List.length_nil, List.cons_append, List.nil_append, List.replicate, Nat.reduceSub, Nat.reduceAdd, x_add, x_sub, x_cmp, x_eq_ii, x_ne_ii, x_int_i, x_len_t, x_len_l, x_tup_l, x_tup_t, x_list_l, x_list_t, x_dSl_t, x_dSl_l, x_items_t, x_items_l, x_tru_n, x_tru_b, x_tru_i, x_tru_t, x_tru_l, x_asB, x_is_n, x_isNot_n, isNon_n, isNon_i, isNon_s, isNon_t, isNon_l, isNon_b, Bool.not_true, Bool.not_false, List.length_map, fnE, startE, startE, r] at lc ⊢
  rw [lc]
  simp only [sSeq_x, x_min2, x_max2, x_eRg1, x_eMeth, x_eMake, x_sSet, x_sIf, x_sRet, x_sRetN, x_sPar, x_sUnp, resF_ok, x_sDrop, x_sNext, x_sBreak, x_sCont, x_sRaise, x_sAug, augK_ok, x_sFor, x_sWhile, sKill_x, x_wipe0, x_wipe1, x_evL0, x_evL1, x_setL0, x_setL1, x_eVar, x_eC, x_eOp, x_eUn, x_eCall, x_eMS, x_asStr, x_aNil, x_aCons, x_eTup, x_eLst, x_eIf, x_eNot, x_eAnd, x_eOr, x_bAnd, x_bOr, x_bNot, x_bYes, x_eSl, x_oNone, x_oSome, asI_int, x_iSeq, x_iCall, x_gfName, x_gfTup, eLc, noX_is, Res.bind_ok, Res.bind_exc, flow_ok, flow_exc, seqK_next, seqK_ret, seqK_exc, seqK_brk, seqK_cont, loopK_next, loopK_cont, loopK_brk, loopK_ret, loopK_exc, must_ok, List.set_cons_succ, List.set_cons_zero, List.getD_cons_succ, List.getD_cons_zero, vD_some, if_true, if_false, Bool.false_eq_true, reduceIte, List.map_cons, List.map_nil, List.length_cons, List.length_nil, List.cons_append, List.nil_append, List.replicate, Nat.reduceSub, Nat.reduceAdd, x_add, x_sub, x_cmp, x_eq_ii, x_ne_ii, x_int_i, x_len_t, x_len_l, x_tup_l, x_tup_t, x_list_l, x_list_t, x_dSl_t, x_dSl_l, x_items_t, x_items_l, x_tru_n, x_tru_b, x_tru_i, x_tru_t, x_tru_l, x_asB, x_is_n, x_isNot_n, isNon_n, isNon_i, isNon_s, isNon_t, isNon_l, isNon_b, Bool.not_true, Bool.not_false, List.length_map, fnE, startE, x_all_f]
  rfl
def ascD (xs : List D) : Bool := ascI (xs.map fun d => (iOf d).getD 0)
def okR (n : Int) : D → Bool
  | .tup xs => (xs.all fun d => wh d 0 (n - 1)) && ascD xs
  | _ => false
def rowF (d : D) : Prop := smp d = true ∧ ∀ xs, d = .tup xs → (∀ x ∈ xs, smp x = true) ∧ xs.length ≤ 1000
theorem row_step (rows : List D) (row : D) (y : Option D) (h : rowF row) : B__are_parents_1 [some (.tup rows), some row, y] = if okR rows.length row = true then .next [some (.tup rows), none, y] else .ret (.bl false) := by
  obtain ⟨h1, h2⟩ := h
  have hi := isi_ty (p := isTup) h1
  unfold B__are_parents_1
  cases row with
  | tup xs =>
    obtain ⟨h3, h4⟩ := h2 xs rfl
    have lc := lc_bools (gf := gfName 2) (f := eCall C_is_whole (aCons (eVar 2) (aCons (eC (.int 0)) (aCons (eOp dSub (eCall fLen (aCons (eVar 0) aNil)) (eC (.int 1))) aNil)))) (ρ := [some (.tup rows), some (.tup xs), none]) (p := fun d => wh d 0 ((rows.length : Int) - 1)) (ds := xs) fun d hd => by
      refine ⟨_, rfl, ?_⟩
      simp only [sSeq_x, x_min2, x_max2, x_eRg1, x_eMeth, x_eMake, x_sSet, x_sIf, x_sRet, x_sRetN, x_sPar, x_sUnp, resF_ok, x_sDrop, x_sNext, x_sBreak, x_sCont, x_sRaise, x_sAug, augK_ok, x_sFor, x_sWhile, sKill_x, x_wipe0, x_wipe1, x_evL0, x_evL1, x_setL0, x_setL1, x_eVar, x_eC, x_eOp, x_eUn, x_eCall, x_eMS, x_asStr, x_aNil, x_aCons, x_eTup, x_eLst, x_eIf, x_eNot, x_eAnd, x_eOr, x_bAnd, x_bOr, x_bNot, x_bYes, x_eSl, x_oNone, x_oSome, asI_int, x_iSeq, x_iCall, x_gfName, x_gfTup, eLc, noX_is, Res.bind_ok, Res.bind_exc, flow_ok, flow_exc, seqK_next, seqK_ret, seqK_exc, seqK_brk, seqK_cont, loopK_next, loopK_cont, loopK_brk, loopK_ret, loopK_exc, must_ok, List.set_cons_succ, List.set_cons_zero, List.getD_cons_succ, List.getD_cons_zero, vD_some, if_true, if_false, Bool.false_eq_true, reduceIte, List.map_cons, List.map_nil, List.length_cons, List.length_nil, List.cons_append, List.nil_append, List.replicate, Nat.reduceSub, Nat.reduceAdd, x_add, x_sub, x_cmp, x_eq_ii, x_ne_ii, x_int_i, x_len_t, x_len_l, x_tup_l, x_tup_t, x_list_l, x_list_t, x_dSl_t, x_dSl_l, x_items_t, x_items_l, x_tru_n, x_tru_b, x_tru_i, x_tru_t, x_tru_l, x_asB, x_is_n, x_isNot_n, isNon_n, isNon_i, isNon_s, isNon_t, isNon_l, isNon_b, Bool.not_true, Bool.not_false, List.length_map, fnE, startE, whole_ok d _ _ (h3 d hd)]
    cases hw : xs.all fun d => wh d 0 ((rows.length : Int) - 1) with
    | false =>
      simp only [sSeq_x, x_min2, x_max2, x_eRg1, x_eMeth, x_eMake, x_sSet, x_sIf, x_sRet, x_sRetN, x_sPar, x_sUnp, resF_ok, x_sDrop, x_sNext, x_sBreak, x_sCont, x_sRaise, x_sAug, augK_ok, x_sFor, x_sWhile, sKill_x, x_wipe0, x_wipe1, x_evL0, x_evL1, x_setL0, x_setL1, x_eVar, x_eC, x_eOp, x_eUn, x_eCall, x_eMS, x_asStr, x_aNil, x_aCons, x_eTup, x_eLst, x_eIf, x_eNot, x_eAnd, x_eOr, x_bAnd, x_bOr, x_bNot, x_bYes, x_eSl, x_oNone, x_oSome, asI_int, x_iSeq, x_iCall, x_gfName, x_gfTup, eLc, noX_is, Res.bind_ok, Res.bind_exc, flow_ok, flow_exc, seqK_next, seqK_ret, seqK_exc, seqK_brk, seqK_cont, loopK_next, loopK_cont, loopK_brk, loopK_ret, loopK_exc, must_ok, List.set_cons_succ, List.set_cons_zero, List.getD_cons_succ, List.getD_cons_zero, vD_some, if_true, if_false, Bool.false_eq_true, reduceIte, List.map_cons, List.map_nil, List.length_cons, List.length_nil, List.cons_append, List.nil_append, List.replicate, Nat.reduceSub, Nat.reduceAdd, x_add, x_sub, x_cmp, x_eq_ii, x_ne_ii, x_int_i, x_len_t, x_len_l, x_tup_l, x_tup_t, x_list_l, x_list_t, x_dSl_t, x_dSl_l, x_items_t, x_items_l, x_tru_n, x_tru_b, x_tru_i, x_tru_t, x_tru_l, x_asB, x_is_n, x_isNot_n, isNon_n, isNon_i, isNon_s, isNon_t, isNon_l, isNon_b, Bool.not_true, Bool.not_false, List.length_map, fnE, startE, x_all, List.all_map, Function.comp_def] at lc ⊢
      rw [lc]
      simp only [sSeq_x, x_min2, x_max2, x_eRg1, x_eMeth, x_eMake, x_sSet, x_sIf, x_sRet, x_sRetN, x_sPar, x_sUnp, resF_ok, x_sDrop, x_sNext, x_sBreak, x_sCont, x_sRaise, x_sAug, augK_ok, x_sFor, x_sWhile, sKill_x, x_wipe0, x_wipe1, x_evL0, x_evL1, x_setL0, x_setL1, x_eVar, x_eC, x_eOp, x_eUn, x_eCall, x_eMS, x_asStr, x_aNil, x_aCons, x_eTup, x_eLst, x_eIf, x_eNot, x_eAnd, x_eOr, x_bAnd, x_bOr, x_bNot, x_bYes, x_eSl, x_oNone, x_oSome, asI_int, x_iSeq, x_iCall, x_gfName, x_gfTup, eLc, noX_is, Res.bind_ok, Res.bind_exc, flow_ok, flow_exc, seqK_next, seqK_ret, seqK_exc, seqK_brk, seqK_cont, loopK_next, loopK_cont, loopK_brk, loopK_ret, loopK_exc, must_ok, List.set_cons_succ, List.set_cons_zero, List.getD_cons_succ, List.getD_cons_zero, vD_some, if_true, if_false, Bool.false_eq_true, reduceIte, List.map_cons, List.map_nil, List.length_cons, List.length_nil, List.cons_append, List.nil_append, List.replicate, Nat.reduceSub, Nat.reduceAdd, x_add, x_sub, x_cmp, x_eq_ii, x_ne_ii, x_int_i, x_len_t, x_len_l, x_tup_l, x_tup_t, x_list_l, x_list_t, x_dSl_t, x_dSl_l, x_items_t, x_items_l, x_tru_n, x_tru_b, x_tru_i, x_tru_t, x_tru_l, x_asB, x_is_n, x_isNot_n, isNon_n, isNon_i, isNon_s, isNon_t, isNon_l, isNon_b, Bool.not_true, Bool.not_false, List.length_map, fnE, startE, x_all, List.all_map, Function.comp_def, hw, okR, Bool.false_and, isi_t, k_tt]
    | true =>
      have ex : xs = (xs.map fun d => (iOf d).getD 0).map .int := by
        rw [List.map_map]
        conv => lhs; rw [← List.map_id xs]
        refine List.map_congr_left fun d hd => ?_
        have := List.all_eq_true.mp hw d hd
        cases d <;> first | rfl | cases this
      have ha : C_ascends [.tup xs] = .ok (.bl (ascD xs)) := by
        conv => lhs; rw [ex]
        exact asc_ok _ (by rw [List.length_map]; exact h4)
      simp only [sSeq_x, x_min2, x_max2, x_eRg1, x_eMeth, x_eMake, x_sSet, x_sIf, x_sRet, x_sRetN, x_sPar, x_sUnp, resF_ok, x_sDrop, x_sNext, x_sBreak, x_sCont, x_sRaise, x_sAug, augK_ok, x_sFor, x_sWhile, sKill_x, x_wipe0, x_wipe1, x_evL0, x_evL1, x_setL0, x_setL1, x_eVar, x_eC, x_eOp, x_eUn, x_eCall, x_eMS, x_asStr, x_aNil, x_aCons, x_eTup, x_eLst, x_eIf, x_eNot, x_eAnd, x_eOr, x_bAnd, x_bOr, x_bNot, x_bYes, x_eSl, x_oNone, x_oSome, asI_int, x_iSeq, x_iCall, x_gfName, x_gfTup, eLc, noX_is, Res.bind_ok, Res.bind_exc, flow_ok, flow_exc, seqK_next, seqK_ret, seqK_exc, seqK_brk, seqK_cont, loopK_next, loopK_cont, loopK_brk, loopK_ret, loopK_exc, must_ok, List.set_cons_succ, List.set_cons_zero, List.getD_cons_succ, List.getD_cons_zero, vD_some, if_true, if_false, Bool.false_eq_true, reduceIte, List.map_cons, List.map_nil, List.length_cons, List.length_nil, List.cons_append, List.nil_append, List.replicate, Nat.reduceSub, Nat.reduceAdd, x_add, x_sub, x_cmp, x_eq_ii, x_ne_ii, x_int_i, x_len_t, x_len_l, x_tup_l, x_tup_t, x_list_l, x_list_t, x_dSl_t, x_dSl_l, x_items_t, x_items_l, x_tru_n, x_tru_b, x_tru_i, x_tru_t, x_tru_l, x_asB, x_is_n, x_isNot_n, isNon_n, isNon_i, isNon_s, isNon_t, isNon_l, isNon_b, Bool.not_true, Bool.not_false, List.length_map, fnE, startE, x_all, List.all_map, Function.comp_def] at lc ⊢
      rw [lc]
      simp only [sSeq_x, x_min2, x_max2, x_eRg1, x_eMeth, x_eMake, x_sSet, x_sIf, x_sRet, x_sRetN, x_sPar, x_sUnp, resF_ok, x_sDrop, x_sNext, x_sBreak, x_sCont, x_sRaise, x_sAug, augK_ok, x_sFor, x_sWhile, sKill_x, x_wipe0, x_wipe1, x_evL0, x_evL1, x_setL0, x_setL1, x_eVar, x_eC, x_eOp, x_eUn, x_eCall, x_eMS, x_asStr, x_aNil, x_aCons, x_eTup, x_eLst, x_eIf, x_eNot, x_eAnd, x_eOr, x_bAnd, x_bOr, x_bNot, x_bYes, x_eSl, x_oNone, x_oSome, asI_int, x_iSeq, x_iCall, x_gfName, x_gfTup, eLc, noX_is, Res.bind_ok, Res.bind_exc, flow_ok, flow_exc, seqK_next, seqK_ret, seqK_exc, seqK_brk, seqK_cont, loopK_next, loopK_cont, loopK_brk, loopK_ret, loopK_exc, must_ok, List.set_cons_succ, List.set_cons_zero, List.getD_cons_succ, List.getD_cons_zero, vD_some, if_true, if_false, Bool.false_eq_true, reduceIte, List.map_cons, List.map_nil, List.length_cons, List.length_nil, List.cons_append, List.nil_append, List.replicate, Nat.reduceSub, Nat.reduceAdd, x_add, x_sub, x_cmp, x_eq_ii, x_ne_ii, x_int_i, x_len_t, x_len_l, x_tup_l, x_tup_t, x_list_l, x_list_t, x_dSl_t, x_dSl_l, x_items_t, x_items_l, x_tru_n, x_tru_b, x_tru_i, x_tru_t, x_tru_l, x_asB, x_is_n, x_isNot_n, isNon_n, isNon_i, isNon_s, isNon_t, isNon_l, isNon_b, Bool.not_true, Bool.not_false, List.length_map, fnE, startE, x_all, List.all_map, Function.comp_def, hw, okR, Bool.true_and, isi_t, k_tt, ha]
      cases ascD xs <;> simp only [sSeq_x, x_min2, x_max2, x_eRg1, x_eMeth, x_eMake, x_sSet, x_sIf, x_sRet, x_sRetN, x_sPar, x_sUnp, resF_ok, x_sDrop, x_sNext, x_sBreak, x_sCont, x_sRaise, x_sAug, augK_ok, x_sFor, x_sWhile, sKill_x, x_wipe0, x_wipe1, x_evL0, x_evL1, x_setL0, x_setL1, x_eVar, x_eC, x_eOp, x_eUn, x_eCall, x_eMS, x_asStr, x_aNil, x_aCons, x_eTup, x_eLst, x_eIf, x_eNot, x_eAnd, x_eOr, x_bAnd, x_bOr, x_bNot, x_bYes, x_eSl, x_oNone, x_oSome, asI_int, x_iSeq, x_iCall, x_gfName, x_gfTup, eLc, noX_is, Res.bind_ok, Res.bind_exc, flow_ok, flow_exc, seqK_next, seqK_ret, seqK_exc, seqK_brk, seqK_cont, loopK_next, loopK_cont, loopK_brk, loopK_ret, loopK_exc, must_ok, List.set_cons_succ, List.set_cons_zero, List.getD_cons_succ, List.getD_cons_zero, vD_some, if_true, if_false, Bool.false_eq_true, reduceIte, List.map_cons, List.map_nil, List.length_cons, List.length_nil, List.cons_append, List.nil_append, List.replicate, Nat.reduceSub, Nat.reduceAdd, x_add, x_sub, x_cmp, x_eq_ii, x_ne_ii, x_int_i, x_len_t, x_len_l, x_tup_l, x_tup_t, x_list_l, x_list_t, x_dSl_t, x_dSl_l, x_items_t, x_items_l, x_tru_n, x_tru_b, x_tru_i, x_tru_t, x_tru_l, x_asB, x_is_n, x_isNot_n, isNon_n, isNon_i, isNon_s, isNon_t, isNon_l, isNon_b, Bool.not_true, Bool.not_false, List.length_map, fnE, startE]
  | _ => simp only [sSeq_x, x_min2, x_max2, x_eRg1, x_eMeth, x_eMake, x_sSet, x_sIf, x_sRet, x_sRetN, x_sPar, x_sUnp, resF_ok, x_sDrop, x_sNext, x_sBreak, x_sCont, x_sRaise, x_sAug, augK_ok, x_sFor, x_sWhile, sKill_x, x_wipe0, x_wipe1, x_evL0, x_evL1, x_setL0, x_setL1, x_eVar, x_eC, x_eOp, x_eUn, x_eCall, x_eMS, x_asStr, x_aNil, x_aCons, x_eTup, x_eLst, x_eIf, x_eNot, x_eAnd, x_eOr, x_bAnd, x_bOr, x_bNot, x_bYes, x_eSl, x_oNone, x_oSome, asI_int, x_iSeq, x_iCall, x_gfName, x_gfTup, eLc, noX_is, Res.bind_ok, Res.bind_exc, flow_ok, flow_exc, seqK_next, seqK_ret, seqK_exc, seqK_brk, seqK_cont, loopK_next, loopK_cont, loopK_brk, loopK_ret, loopK_exc, must_ok, List.set_cons_succ, List.set_cons_zero, List.getD_cons_succ, List.getD_cons_zero, vD_some, if_true, if_false, Bool.false_eq_true, reduceIte, List.map_cons, List.map_nil, List.length_cons, List.length_nil, List.cons_append, List.nil_append, List.replicate, Nat.reduceSub, Nat.reduceAdd, x_add, x_sub, x_cmp, x_eq_ii, x_ne_ii, x_int_i, x_len_t, x_len_l, x_tup_l, x_tup_t, x_list_l, x_list_t, x_dSl_t, x_dSl_l, x_items_t, x_items_l, x_tru_n, x_tru_b, x_tru_i, x_tru_t, x_tru_l, x_asB, x_is_n, x_isNot_n, isNon_n, isNon_i, isNon_s, isNon_t, isNon_l, isNon_b, Bool.not_true, Bool.not_false, List.length_map, fnE, startE, hi]; first | rfl | (simp [isTup, okR]; done)
theorem rows_loop (R0 : List D) (y : Option D) : ∀ (rows : List D) (x : Option D), (∀ r ∈ rows, rowF r) → (rows.all (okR R0.length) = true ∧ ∃ x', forE (gfName 1) B__are_parents_1 rows [some (.tup R0), x, y] = .next [some (.tup R0), x', y]) ∨ (rows.all (okR R0.length) = false ∧ forE (gfName 1) B__are_parents_1 rows [some (.tup R0), x, y] = .ret (.bl false))
  | [], x, _ => .inl ⟨rfl, x, rfl⟩
  | r :: rows, x, h => by
    have st := row_step R0 r y (h r List.mem_cons_self)
    rw [List.all_cons, forE_cons]
    show (_ ∧ ∃ x', loopK (B__are_parents_1 [some (.tup R0), some r, y]) _ = _) ∨ (_ ∧ loopK (B__are_parents_1 [some (.tup R0), some r, y]) _ = _)
    rw [st]
    cases q : okR R0.length r with
    | false => exact .inr ⟨rfl, rfl⟩
    | true => exact rows_loop R0 y rows none fun r' hr => h r' (List.mem_cons_of_mem _ hr)
def okP2 (rows : List D) : Bool := decide (1 ≤ rows.length) && decide (rows.length ≤ 40) && rows.all (okR rows.length)
theorem are_ok (rows : List D) (h : ∀ r ∈ rows, rowF r) : C__are_parents [.tup rows] = .ok (.bl (okP2 rows)) := by
  unfold C__are_parents F__are_parents okP2
  by_cases h1 : 1 ≤ rows.length
  · by_cases h2 : rows.length ≤ 40
    · have a1 : iLe 1 (rows.length : Int) = true := decide_eq_true (by omega)
      have a2 : iLe (rows.length : Int) 40 = true := decide_eq_true (by omega)
      rw [decide_eq_true h1, decide_eq_true h2]
      rcases rows_loop rows none rows none h with ⟨q, x', e⟩ | ⟨q, e⟩
      · simp only [sSeq_x, x_min2, x_max2, x_eRg1, x_eMeth, x_eMake, x_sSet, x_sIf, x_sRet, x_sRetN, x_sPar, x_sUnp, resF_ok, x_sDrop, x_sNext, x_sBreak, x_sCont, x_sRaise, x_sAug, augK_ok, x_sFor, x_sWhile, sKill_x, x_wipe0, x_wipe1, x_evL0, x_evL1, x_setL0, x_setL1, x_eVar, x_eC, x_eOp, x_eUn, x_eCall, x_eMS, x_asStr, x_aNil, x_aCons, x_eTup, x_eLst, x_eIf, x_eNot, x_eAnd, x_eOr, x_bAnd, x_bOr, x_bNot, x_bYes, x_eSl, x_oNone, x_oSome, asI_int, x_iSeq, x_iCall, x_gfName, x_gfTup, eLc, noX_is, Res.bind_ok, Res.bind_exc, flow_ok, flow_exc, seqK_next, seqK_ret, seqK_exc, seqK_brk, seqK_cont, loopK_next, loopK_cont, loopK_brk, loopK_ret, loopK_exc, must_ok, List.set_cons_succ, List.set_cons_zero, List.getD_cons_succ, List.getD_cons_zero, vD_some, if_true, if_false, Bool.false_eq_true, reduceIte, List.map_cons, List.map_nil, List.length_cons, List.length_nil, List.cons_append, List.nil_append, List.replicate, Nat.reduceSub, Nat.reduceAdd, x_add, x_sub, x_cmp, x_eq_ii, x_ne_ii, x_int_i, x_len_t, x_len_l, x_tup_l, x_tup_t, x_list_l, x_list_t, x_dSl_t, x_dSl_l, x_items_t, x_items_l, x_tru_n, x_tru_b, x_tru_i, x_tru_t, x_tru_l, x_asB, x_is_n, x_isNot_n, isNon_n, isNon_i, isNon_s, isNon_t, isNon_l, isNon_b, Bool.not_true, Bool.not_false, List.length_map, fnE, startE, startE, eChain, isi_t, k_tt, a1, a2] at e ⊢
        rw [e, q]
        simp only [sSeq_x, x_min2, x_max2, x_eRg1, x_eMeth, x_eMake, x_sSet, x_sIf, x_sRet, x_sRetN, x_sPar, x_sUnp, resF_ok, x_sDrop, x_sNext, x_sBreak, x_sCont, x_sRaise, x_sAug, augK_ok, x_sFor, x_sWhile, sKill_x, x_wipe0, x_wipe1, x_evL0, x_evL1, x_setL0, x_setL1, x_eVar, x_eC, x_eOp, x_eUn, x_eCall, x_eMS, x_asStr, x_aNil, x_aCons, x_eTup, x_eLst, x_eIf, x_eNot, x_eAnd, x_eOr, x_bAnd, x_bOr, x_bNot, x_bYes, x_eSl, x_oNone, x_oSome, asI_int, x_iSeq, x_iCall, x_gfName, x_gfTup, eLc, noX_is, Res.bind_ok, Res.bind_exc, flow_ok, flow_exc, seqK_next, seqK_ret, seqK_exc, seqK_brk, seqK_cont, loopK_next, loopK_cont, loopK_brk, loopK_ret, loopK_exc, must_ok, List.set_cons_succ, List.set_cons_zero, List.getD_cons_succ, List.getD_cons_zero, vD_some, if_true, if_false, Bool.false_eq_true, reduceIte, List.map_cons, List.map_nil, List.length_cons, List.length_nil, List.cons_append, List.nil_append, List.replicate, Nat.reduceSub, Nat.reduceAdd, x_add, x_sub, x_cmp, x_eq_ii, x_ne_ii, x_int_i, x_len_t, x_len_l, x_tup_l, x_tup_t, x_list_l, x_list_t, x_dSl_t, x_dSl_l, x_items_t, x_items_l, x_tru_n, x_tru_b, x_tru_i, x_tru_t, x_tru_l, x_asB, x_is_n, x_isNot_n, isNon_n, isNon_i, isNon_s, isNon_t, isNon_l, isNon_b, Bool.not_true, Bool.not_false, List.length_map, fnE, startE]
        rfl
      · simp only [sSeq_x, x_min2, x_max2, x_eRg1, x_eMeth, x_eMake, x_sSet, x_sIf, x_sRet, x_sRetN, x_sPar, x_sUnp, resF_ok, x_sDrop, x_sNext, x_sBreak, x_sCont, x_sRaise, x_sAug, augK_ok, x_sFor, x_sWhile, sKill_x, x_wipe0, x_wipe1, x_evL0, x_evL1, x_setL0, x_setL1, x_eVar, x_eC, x_eOp, x_eUn, x_eCall, x_eMS, x_asStr, x_aNil, x_aCons, x_eTup, x_eLst, x_eIf, x_eNot, x_eAnd, x_eOr, x_bAnd, x_bOr, x_bNot, x_bYes, x_eSl, x_oNone, x_oSome, asI_int, x_iSeq, x_iCall, x_gfName, x_gfTup, eLc, noX_is, Res.bind_ok, Res.bind_exc, flow_ok, flow_exc, seqK_next, seqK_ret, seqK_exc, seqK_brk, seqK_cont, loopK_next, loopK_cont, loopK_brk, loopK_ret, loopK_exc, must_ok, List.set_cons_succ, List.set_cons_zero, List.getD_cons_succ, List.getD_cons_zero, vD_some, if_true, if_false, Bool.false_eq_true, reduceIte, List.map_cons, List.map_nil, List.length_cons, List.length_nil, List.cons_append, List.nil_append, List.replicate, Nat.reduceSub, Nat.reduceAdd, x_add, x_sub, x_cmp, x_eq_ii, x_ne_ii, x_int_i, x_len_t, x_len_l, x_tup_l, x_tup_t, x_list_l, x_list_t, x_dSl_t, x_dSl_l, x_items_t, x_items_l, x_tru_n, x_tru_b, x_tru_i, x_tru_t, x_tru_l, x_asB, x_is_n, x_isNot_n, isNon_n, isNon_i, isNon_s, isNon_t, isNon_l, isNon_b, Bool.not_true, Bool.not_false, List.length_map, fnE, startE, startE, eChain, isi_t, k_tt, a1, a2] at e ⊢
        rw [e, q]
        simp only [sSeq_x, x_min2, x_max2, x_eRg1, x_eMeth, x_eMake, x_sSet, x_sIf, x_sRet, x_sRetN, x_sPar, x_sUnp, resF_ok, x_sDrop, x_sNext, x_sBreak, x_sCont, x_sRaise, x_sAug, augK_ok, x_sFor, x_sWhile, sKill_x, x_wipe0, x_wipe1, x_evL0, x_evL1, x_setL0, x_setL1, x_eVar, x_eC, x_eOp, x_eUn, x_eCall, x_eMS, x_asStr, x_aNil, x_aCons, x_eTup, x_eLst, x_eIf, x_eNot, x_eAnd, x_eOr, x_bAnd, x_bOr, x_bNot, x_bYes, x_eSl, x_oNone, x_oSome, asI_int, x_iSeq, x_iCall, x_gfName, x_gfTup, eLc, noX_is, Res.bind_ok, Res.bind_exc, flow_ok, flow_exc, seqK_next, seqK_ret, seqK_exc, seqK_brk, seqK_cont, loopK_next, loopK_cont, loopK_brk, loopK_ret, loopK_exc, must_ok, List.set_cons_succ, List.set_cons_zero, List.getD_cons_succ, List.getD_cons_zero, vD_some, if_true, if_false, Bool.false_eq_true, reduceIte, List.map_cons, List.map_nil, List.length_cons, List.length_nil, List.cons_append, List.nil_append, List.replicate, Nat.reduceSub, Nat.reduceAdd, x_add, x_sub, x_cmp, x_eq_ii, x_ne_ii, x_int_i, x_len_t, x_len_l, x_tup_l, x_tup_t, x_list_l, x_list_t, x_dSl_t, x_dSl_l, x_items_t, x_items_l, x_tru_n, x_tru_b, x_tru_i, x_tru_t, x_tru_l, x_asB, x_is_n, x_isNot_n, isNon_n, isNon_i, isNon_s, isNon_t, isNon_l, isNon_b, Bool.not_true, Bool.not_false, List.length_map, fnE, startE]
        rfl
    · have a1 : iLe 1 (rows.length : Int) = true := decide_eq_true (by omega)
      have a2 : iLe (rows.length : Int) 40 = false := decide_eq_false (by omega)
      simp only [sSeq_x, x_min2, x_max2, x_eRg1, x_eMeth, x_eMake, x_sSet, x_sIf, x_sRet, x_sRetN, x_sPar, x_sUnp, resF_ok, x_sDrop, x_sNext, x_sBreak, x_sCont, x_sRaise, x_sAug, augK_ok, x_sFor, x_sWhile, sKill_x, x_wipe0, x_wipe1, x_evL0, x_evL1, x_setL0, x_setL1, x_eVar, x_eC, x_eOp, x_eUn, x_eCall, x_eMS, x_asStr, x_aNil, x_aCons, x_eTup, x_eLst, x_eIf, x_eNot, x_eAnd, x_eOr, x_bAnd, x_bOr, x_bNot, x_bYes, x_eSl, x_oNone, x_oSome, asI_int, x_iSeq, x_iCall, x_gfName, x_gfTup, eLc, noX_is, Res.bind_ok, Res.bind_exc, flow_ok, flow_exc, seqK_next, seqK_ret, seqK_exc, seqK_brk, seqK_cont, loopK_next, loopK_cont, loopK_brk, loopK_ret, loopK_exc, must_ok, List.set_cons_succ, List.set_cons_zero, List.getD_cons_succ, List.getD_cons_zero, vD_some, if_true, if_false, Bool.false_eq_true, reduceIte, List.map_cons, List.map_nil, List.length_cons, List.length_nil, List.cons_append, List.nil_append, List.replicate, Nat.reduceSub, Nat.reduceAdd, x_add, x_sub, x_cmp, x_eq_ii, x_ne_ii, x_int_i, x_len_t, x_len_l, x_tup_l, x_tup_t, x_list_l, x_list_t, x_dSl_t, x_dSl_l, x_items_t, x_items_l, x_tru_n, x_tru_b, x_tru_i, x_tru_t, x_tru_l, x_asB, x_is_n, x_isNot_n, isNon_n, isNon_i, isNon_s, isNon_t, isNon_l, isNon_b, Bool.not_true, Bool.not_false, List.length_map, fnE, startE, startE, eChain, isi_t, k_tt, a1, a2, decide_eq_false h2, Bool.and_false, Bool.false_and]
  · have a1 : iLe 1 (rows.length : Int) = false := decide_eq_false (by omega)
    simp only [sSeq_x, x_min2, x_max2, x_eRg1, x_eMeth, x_eMake, x_sSet, x_sIf, x_sRet, x_sRetN, x_sPar, x_sUnp, resF_ok, x_sDrop, x_sNext, x_sBreak, x_sCont, x_sRaise, x_sAug, augK_ok, x_sFor, x_sWhile, sKill_x, x_wipe0, x_wipe1, x_evL0, x_evL1, x_setL0, x_setL1, x_eVar, x_eC, x_eOp, x_eUn, x_eCall, x_eMS, x_asStr, x_aNil, x_aCons, x_eTup, x_eLst, x_eIf, x_eNot, x_eAnd, x_eOr, x_bAnd, x_bOr, x_bNot, x_bYes, x_eSl, x_oNone, x_oSome, asI_int, x_iSeq, x_iCall, x_gfName, x_gfTup, eLc, noX_is, Res.bind_ok, Res.bind_exc, flow_ok, flow_exc, seqK_next, seqK_ret, seqK_exc, seqK_brk, seqK_cont, loopK_next, loopK_cont, loopK_brk, loopK_ret, loopK_exc, must_ok, List.set_cons_succ, List.set_cons_zero, List.getD_cons_succ, List.getD_cons_zero, vD_some, if_true, if_false, Bool.false_eq_true, reduceIte, List.map_cons, List.map_nil, List.length_cons, List.length_nil, List.cons_append, List.nil_append, List.replicate, Nat.reduceSub, Nat.reduceAdd, x_add, x_sub, x_cmp, x_eq_ii, x_ne_ii, x_int_i, x_len_t, x_len_l, x_tup_l, x_tup_t, x_list_l, x_list_t, x_dSl_t, x_dSl_l, x_items_t, x_items_l, x_tru_n, x_tru_b, x_tru_i, x_tru_t, x_tru_l, x_asB, x_is_n, x_isNot_n, isNon_n, isNon_i, isNon_s, isNon_t, isNon_l, isNon_b, Bool.not_true, Bool.not_false, List.length_map, fnE, startE, startE, eChain, isi_t, k_tt, a1, decide_eq_false h1, Bool.false_and]
theorem are_no (d : D) (h : smp d = true) (ht : isTup d = false) : C__are_parents [d] = .ok (.bl false) := by
  unfold C__are_parents F__are_parents
  simp only [sSeq_x, x_min2, x_max2, x_eRg1, x_eMeth, x_eMake, x_sSet, x_sIf, x_sRet, x_sRetN, x_sPar, x_sUnp, resF_ok, x_sDrop, x_sNext, x_sBreak, x_sCont, x_sRaise, x_sAug, augK_ok, x_sFor, x_sWhile, sKill_x, x_wipe0, x_wipe1, x_evL0, x_evL1, x_setL0, x_setL1, x_eVar, x_eC, x_eOp, x_eUn, x_eCall, x_eMS, x_asStr, x_aNil, x_aCons, x_eTup, x_eLst, x_eIf, x_eNot, x_eAnd, x_eOr, x_bAnd, x_bOr, x_bNot, x_bYes, x_eSl, x_oNone, x_oSome, asI_int, x_iSeq, x_iCall, x_gfName, x_gfTup, eLc, noX_is, Res.bind_ok, Res.bind_exc, flow_ok, flow_exc, seqK_next, seqK_ret, seqK_exc, seqK_brk, seqK_cont, loopK_next, loopK_cont, loopK_brk, loopK_ret, loopK_exc, must_ok, List.set_cons_succ, List.set_cons_zero, List.getD_cons_succ, List.getD_cons_zero, vD_some, if_true, if_false, Bool.false_eq_true, reduceIte, List.map_cons, List.map_nil, List.length_cons, List.length_nil, List.cons_append, List.nil_append, List.replicate, Nat.reduceSub, Nat.reduceAdd, x_add, x_sub, x_cmp, x_eq_ii, x_ne_ii, x_int_i, x_len_t, x_len_l, x_tup_l, x_tup_t, x_list_l, x_list_t, x_dSl_t, x_dSl_l, x_items_t, x_items_l, x_tru_n, x_tru_b, x_tru_i, x_tru_t, x_tru_l, x_asB, x_is_n, x_isNot_n, isNon_n, isNon_i, isNon_s, isNon_t, isNon_l, isNon_b, Bool.not_true, Bool.not_false, List.length_map, fnE, startE, startE, isi_ty h, ht]
theorem rowF_row (r : List Nat) (h : r.length ≤ 1000) : rowF (rowD r) := ⟨rfl, fun xs e => by
  cases e
  refine ⟨fun x hx => ?_, by rw [List.length_map]; exact h⟩
  obtain ⟨n, _, rfl⟩ := List.mem_map.mp hx
  rfl⟩
theorem okR_row (n : Nat) (r : List Nat) : okR n (rowD r) = true ↔ (∀ x ∈ r, x < n) ∧ r.Pairwise (· < ·) := by
  show ((r.map dN).all (fun d => wh d 0 ((n : Int) - 1)) && ascI ((r.map dN).map fun d => (iOf d).getD 0)) = true ↔ _
  rw [Bool.and_eq_true, asc_iff, List.map_map, List.all_map, List.all_eq_true]
  have e : r.map ((fun d : D => (iOf d).getD 0) ∘ dN) = r.map Int.ofNat := rfl
  rw [e, List.pairwise_map]
  constructor
  · rintro ⟨h1, h2⟩
    refine ⟨fun x hx => ?_, h2.imp fun {a b} q => by simpa using q⟩
    have := h1 x hx
    simp only [Function.comp_apply, dN_def, wh, Bool.and_eq_true, decide_eq_true_eq] at this
    omega
  · rintro ⟨h1, h2⟩
    refine ⟨fun x hx => ?_, h2.imp fun {a b} q => by simpa using q⟩
    have := h1 x hx
    simp only [Function.comp_apply, dN_def, wh, Bool.and_eq_true, decide_eq_true_eq]
    omega
theorem VP.row_len {P : PP} (v : VP P) {i : Nat} {row : List Nat} (h : P[i]? = some row) : row.length ≤ 40 := Nat.le_trans (nd_len ((v.asc i row h).imp fun {a b} q e => by omega) (v.lt i row h)) v.le
theorem VP.of {P : PP} (h : okP2 (P.map rowD) = true) : VP P := by
  unfold okP2 at h
  simp only [Bool.and_eq_true, decide_eq_true_eq, List.length_map, List.all_map, List.all_eq_true] at h
  obtain ⟨⟨h1, h2⟩, h3⟩ := h
  exact ⟨h2, h1, fun i row hi => ((okR_row _ _).mp (h3 row (List.mem_of_getElem? hi))).1, fun i row hi => ((okR_row _ _).mp (h3 row (List.mem_of_getElem? hi))).2⟩
theorem VP.ok {P : PP} (v : VP P) : okP2 (P.map rowD) = true := by
  unfold okP2
  simp only [Bool.and_eq_true, decide_eq_true_eq, List.length_map, List.all_map, List.all_eq_true]
  refine ⟨⟨v.pos, v.le⟩, fun row hr => ?_⟩
  obtain ⟨i, hi⟩ := List.mem_iff_getElem?.mp hr
  exact (okR_row _ _).mpr ⟨v.lt i row hi, v.asc i row hi⟩
theorem VP.are {P : PP} (v : VP P) : C__are_parents [parD P] = .ok (.bl true) := by
  have := are_ok (P.map rowD) fun r hr => by
    obtain ⟨row, h, rfl⟩ := List.mem_map.mp hr
    obtain ⟨i, hi⟩ := List.mem_iff_getElem?.mp h
    exact rowF_row row (Nat.le_trans (v.row_len hi) (by omega))
  rw [v.ok] at this
  exact this
def hisD (P : PP) (F : List (List Nat)) : D := .ins "History" ["parents", "size", "_ancestors"] [parD P, dN P.length, .lst (F.map dT)]
theorem fld1 (d : D) : putFld "History" "parents" (.ins "History" [] []) d = .ok (.ins "History" ["parents"] [d]) := putF_new rfl (by decide)
theorem fld2 (d e : D) : putFld "History" "size" (.ins "History" ["parents"] [d]) e = .ok (.ins "History" ["parents", "size"] [d, e]) := putF_new (by decide +kernel) (by decide)
theorem fld3 (d e f : D) : putFld "History" "_ancestors" (.ins "History" ["parents", "size"] [d, e]) f = .ok (.ins "History" ["parents", "size", "_ancestors"] [d, e, f]) := putF_new (by decide +kernel) (by decide)
theorem init_ok {P : PP} {F : List (List Nat)} (v : VP P) (hF : C__ancestors [parD P] = .ok (.lst (F.map dT))) : C_History___init__ [.ins "History" [] [], parD P] = .ok (.tup [.non, hisD P F]) := by
  have hl : fLen [parD P] = .ok (dN P.length) := by
    unfold parD
    rw [x_len_t, List.length_map, dN_def]
  unfold C_History___init__ F_History___init__ fnM
  simp only [sSeq_x, x_min2, x_max2, x_eRg1, x_eMeth, x_eMake, x_sSet, x_sIf, x_sRet, x_sRetN, x_sPar, x_sUnp, resF_ok, x_sDrop, x_sNext, x_sBreak, x_sCont, x_sRaise, x_sAug, augK_ok, x_sFor, x_sWhile, sKill_x, x_wipe0, x_wipe1, x_evL0, x_evL1, x_setL0, x_setL1, x_eVar, x_eC, x_eOp, x_eUn, x_eCall, x_eMS, x_asStr, x_aNil, x_aCons, x_eTup, x_eLst, x_eIf, x_eNot, x_eAnd, x_eOr, x_bAnd, x_bOr, x_bNot, x_bYes, x_eSl, x_oNone, x_oSome, asI_int, x_iSeq, x_iCall, x_gfName, x_gfTup, eLc, noX_is, Res.bind_ok, Res.bind_exc, flow_ok, flow_exc, seqK_next, seqK_ret, seqK_exc, seqK_brk, seqK_cont, loopK_next, loopK_cont, loopK_brk, loopK_ret, loopK_exc, must_ok, List.set_cons_succ, List.set_cons_zero, List.getD_cons_succ, List.getD_cons_zero, vD_some, if_true, if_false, Bool.false_eq_true, reduceIte, List.map_cons, List.map_nil, List.length_cons, List.length_nil, List.cons_append, List.nil_append, List.replicate, Nat.reduceSub, Nat.reduceAdd, x_add, x_sub, x_cmp, x_eq_ii, x_ne_ii, x_int_i, x_len_t, x_len_l, x_tup_l, x_tup_t, x_list_l, x_list_t, x_dSl_t, x_dSl_l, x_items_t, x_items_l, x_tru_n, x_tru_b, x_tru_i, x_tru_t, x_tru_l, x_asB, x_is_n, x_isNot_n, isNon_n, isNon_i, isNon_s, isNon_t, isNon_l, isNon_b, Bool.not_true, Bool.not_false, List.length_map, fnE, startE, startE, v.are, hF]
  rw [x_fldP _ 0 _ _ _ (parD P) _ _ rfl rfl (fld1 _)]
  simp only [sSeq_x, x_min2, x_max2, x_eRg1, x_eMeth, x_eMake, x_sSet, x_sIf, x_sRet, x_sRetN, x_sPar, x_sUnp, resF_ok, x_sDrop, x_sNext, x_sBreak, x_sCont, x_sRaise, x_sAug, augK_ok, x_sFor, x_sWhile, sKill_x, x_wipe0, x_wipe1, x_evL0, x_evL1, x_setL0, x_setL1, x_eVar, x_eC, x_eOp, x_eUn, x_eCall, x_eMS, x_asStr, x_aNil, x_aCons, x_eTup, x_eLst, x_eIf, x_eNot, x_eAnd, x_eOr, x_bAnd, x_bOr, x_bNot, x_bYes, x_eSl, x_oNone, x_oSome, asI_int, x_iSeq, x_iCall, x_gfName, x_gfTup, eLc, noX_is, Res.bind_ok, Res.bind_exc, flow_ok, flow_exc, seqK_next, seqK_ret, seqK_exc, seqK_brk, seqK_cont, loopK_next, loopK_cont, loopK_brk, loopK_ret, loopK_exc, must_ok, List.set_cons_succ, List.set_cons_zero, List.getD_cons_succ, List.getD_cons_zero, vD_some, if_true, if_false, Bool.false_eq_true, reduceIte, List.map_cons, List.map_nil, List.length_cons, List.length_nil, List.cons_append, List.nil_append, List.replicate, Nat.reduceSub, Nat.reduceAdd, x_add, x_sub, x_cmp, x_eq_ii, x_ne_ii, x_int_i, x_len_t, x_len_l, x_tup_l, x_tup_t, x_list_l, x_list_t, x_dSl_t, x_dSl_l, x_items_t, x_items_l, x_tru_n, x_tru_b, x_tru_i, x_tru_t, x_tru_l, x_asB, x_is_n, x_isNot_n, isNon_n, isNon_i, isNon_s, isNon_t, isNon_l, isNon_b, Bool.not_true, Bool.not_false, List.length_map, fnE, startE]
  rw [x_fldP _ 0 _ _ _ (dN P.length) _ _ (by simp only [sSeq_x, x_min2, x_max2, x_eRg1, x_eMeth, x_eMake, x_sSet, x_sIf, x_sRet, x_sRetN, x_sPar, x_sUnp, resF_ok, x_sDrop, x_sNext, x_sBreak, x_sCont, x_sRaise, x_sAug, augK_ok, x_sFor, x_sWhile, sKill_x, x_wipe0, x_wipe1, x_evL0, x_evL1, x_setL0, x_setL1, x_eVar, x_eC, x_eOp, x_eUn, x_eCall, x_eMS, x_asStr, x_aNil, x_aCons, x_eTup, x_eLst, x_eIf, x_eNot, x_eAnd, x_eOr, x_bAnd, x_bOr, x_bNot, x_bYes, x_eSl, x_oNone, x_oSome, asI_int, x_iSeq, x_iCall, x_gfName, x_gfTup, eLc, noX_is, Res.bind_ok, Res.bind_exc, flow_ok, flow_exc, seqK_next, seqK_ret, seqK_exc, seqK_brk, seqK_cont, loopK_next, loopK_cont, loopK_brk, loopK_ret, loopK_exc, must_ok, List.set_cons_succ, List.set_cons_zero, List.getD_cons_succ, List.getD_cons_zero, vD_some, if_true, if_false, Bool.false_eq_true, reduceIte, List.map_cons, List.map_nil, List.length_cons, List.length_nil, List.cons_append, List.nil_append, List.replicate, Nat.reduceSub, Nat.reduceAdd, x_add, x_sub, x_cmp, x_eq_ii, x_ne_ii, x_int_i, x_len_t, x_len_l, x_tup_l, x_tup_t, x_list_l, x_list_t, x_dSl_t, x_dSl_l, x_items_t, x_items_l, x_tru_n, x_tru_b, x_tru_i, x_tru_t, x_tru_l, x_asB, x_is_n, x_isNot_n, isNon_n, isNon_i, isNon_s, isNon_t, isNon_l, isNon_b, Bool.not_true, Bool.not_false, List.length_map, fnE, startE, hl]) rfl (fld2 _ _)]
  simp only [sSeq_x, x_min2, x_max2, x_eRg1, x_eMeth, x_eMake, x_sSet, x_sIf, x_sRet, x_sRetN, x_sPar, x_sUnp, resF_ok, x_sDrop, x_sNext, x_sBreak, x_sCont, x_sRaise, x_sAug, augK_ok, x_sFor, x_sWhile, sKill_x, x_wipe0, x_wipe1, x_evL0, x_evL1, x_setL0, x_setL1, x_eVar, x_eC, x_eOp, x_eUn, x_eCall, x_eMS, x_asStr, x_aNil, x_aCons, x_eTup, x_eLst, x_eIf, x_eNot, x_eAnd, x_eOr, x_bAnd, x_bOr, x_bNot, x_bYes, x_eSl, x_oNone, x_oSome, asI_int, x_iSeq, x_iCall, x_gfName, x_gfTup, eLc, noX_is, Res.bind_ok, Res.bind_exc, flow_ok, flow_exc, seqK_next, seqK_ret, seqK_exc, seqK_brk, seqK_cont, loopK_next, loopK_cont, loopK_brk, loopK_ret, loopK_exc, must_ok, List.set_cons_succ, List.set_cons_zero, List.getD_cons_succ, List.getD_cons_zero, vD_some, if_true, if_false, Bool.false_eq_true, reduceIte, List.map_cons, List.map_nil, List.length_cons, List.length_nil, List.cons_append, List.nil_append, List.replicate, Nat.reduceSub, Nat.reduceAdd, x_add, x_sub, x_cmp, x_eq_ii, x_ne_ii, x_int_i, x_len_t, x_len_l, x_tup_l, x_tup_t, x_list_l, x_list_t, x_dSl_t, x_dSl_l, x_items_t, x_items_l, x_tru_n, x_tru_b, x_tru_i, x_tru_t, x_tru_l, x_asB, x_is_n, x_isNot_n, isNon_n, isNon_i, isNon_s, isNon_t, isNon_l, isNon_b, Bool.not_true, Bool.not_false, List.length_map, fnE, startE]
  rw [x_fldP _ 0 _ _ _ (.lst (F.map dT)) _ _ rfl rfl (fld3 _ _ _)]
  rfl
theorem init_no {d : D} (h : C__are_parents [d] = .ok (.bl false)) : C_History___init__ [.ins "History" [] [], d] = .exc "BadHistory" := by
  unfold C_History___init__ F_History___init__ fnM
  simp only [sSeq_x, x_min2, x_max2, x_eRg1, x_eMeth, x_eMake, x_sSet, x_sIf, x_sRet, x_sRetN, x_sPar, x_sUnp, resF_ok, x_sDrop, x_sNext, x_sBreak, x_sCont, x_sRaise, x_sAug, augK_ok, x_sFor, x_sWhile, sKill_x, x_wipe0, x_wipe1, x_evL0, x_evL1, x_setL0, x_setL1, x_eVar, x_eC, x_eOp, x_eUn, x_eCall, x_eMS, x_asStr, x_aNil, x_aCons, x_eTup, x_eLst, x_eIf, x_eNot, x_eAnd, x_eOr, x_bAnd, x_bOr, x_bNot, x_bYes, x_eSl, x_oNone, x_oSome, asI_int, x_iSeq, x_iCall, x_gfName, x_gfTup, eLc, noX_is, Res.bind_ok, Res.bind_exc, flow_ok, flow_exc, seqK_next, seqK_ret, seqK_exc, seqK_brk, seqK_cont, loopK_next, loopK_cont, loopK_brk, loopK_ret, loopK_exc, must_ok, List.set_cons_succ, List.set_cons_zero, List.getD_cons_succ, List.getD_cons_zero, vD_some, if_true, if_false, Bool.false_eq_true, reduceIte, List.map_cons, List.map_nil, List.length_cons, List.length_nil, List.cons_append, List.nil_append, List.replicate, Nat.reduceSub, Nat.reduceAdd, x_add, x_sub, x_cmp, x_eq_ii, x_ne_ii, x_int_i, x_len_t, x_len_l, x_tup_l, x_tup_t, x_list_l, x_list_t, x_dSl_t, x_dSl_l, x_items_t, x_items_l, x_tru_n, x_tru_b, x_tru_i, x_tru_t, x_tru_l, x_asB, x_is_n, x_isNot_n, isNon_n, isNon_i, isNon_s, isNon_t, isNon_l, isNon_b, Bool.not_true, Bool.not_false, List.length_map, fnE, startE, startE, h]
theorem init_cyc {P : PP} (v : VP P) (h : C__ancestors [parD P] = .ok .non) : C_History___init__ [.ins "History" [] [], parD P] = .exc "BadHistory" := by
  unfold C_History___init__ F_History___init__ fnM
  simp only [sSeq_x, x_min2, x_max2, x_eRg1, x_eMeth, x_eMake, x_sSet, x_sIf, x_sRet, x_sRetN, x_sPar, x_sUnp, resF_ok, x_sDrop, x_sNext, x_sBreak, x_sCont, x_sRaise, x_sAug, augK_ok, x_sFor, x_sWhile, sKill_x, x_wipe0, x_wipe1, x_evL0, x_evL1, x_setL0, x_setL1, x_eVar, x_eC, x_eOp, x_eUn, x_eCall, x_eMS, x_asStr, x_aNil, x_aCons, x_eTup, x_eLst, x_eIf, x_eNot, x_eAnd, x_eOr, x_bAnd, x_bOr, x_bNot, x_bYes, x_eSl, x_oNone, x_oSome, asI_int, x_iSeq, x_iCall, x_gfName, x_gfTup, eLc, noX_is, Res.bind_ok, Res.bind_exc, flow_ok, flow_exc, seqK_next, seqK_ret, seqK_exc, seqK_brk, seqK_cont, loopK_next, loopK_cont, loopK_brk, loopK_ret, loopK_exc, must_ok, List.set_cons_succ, List.set_cons_zero, List.getD_cons_succ, List.getD_cons_zero, vD_some, if_true, if_false, Bool.false_eq_true, reduceIte, List.map_cons, List.map_nil, List.length_cons, List.length_nil, List.cons_append, List.nil_append, List.replicate, Nat.reduceSub, Nat.reduceAdd, x_add, x_sub, x_cmp, x_eq_ii, x_ne_ii, x_int_i, x_len_t, x_len_l, x_tup_l, x_tup_t, x_list_l, x_list_t, x_dSl_t, x_dSl_l, x_items_t, x_items_l, x_tru_n, x_tru_b, x_tru_i, x_tru_t, x_tru_l, x_asB, x_is_n, x_isNot_n, isNon_n, isNon_i, isNon_s, isNon_t, isNon_l, isNon_b, Bool.not_true, Bool.not_false, List.length_map, fnE, startE, startE, v.are, h]
noncomputable def upB (P : PP) (a v : Nat) : Bool := @decide (Up P a v) (Classical.propDecidable _)
theorem upB_iff {P : PP} {a v : Nat} : upB P a v = true ↔ Up P a v := by
  unfold upB
  exact @decide_eq_true_iff _ (Classical.propDecidable _)
noncomputable def upL (P : PP) (v : Nat) : List Nat := (List.range P.length).filter fun a => upB P a v
theorem mem_upL {P : PP} {a v : Nat} : a ∈ upL P v ↔ a < P.length ∧ Up P a v := by
  unfold upL
  rw [List.mem_filter, List.mem_range, upB_iff]
theorem up_upL {P : PP} (v : VP P) {a i : Nat} (hi : i < P.length) : a ∈ upL P i ↔ Up P a i := by
  rw [mem_upL]
  exact ⟨fun h => h.2, fun h => ⟨h.lt v hi, h⟩⟩
theorem upL_pw (P : PP) (v : Nat) : (upL P v).Pairwise (· < ·) := List.pairwise_lt_range.filter _
theorem upL_len (P : PP) (v : Nat) : (upL P v).length ≤ P.length := by
  have := List.length_filter_le (fun a => upB P a v) (List.range P.length)
  rw [List.length_range] at this
  exact this
theorem row_at {P : PP} {i : Nat} (h : i < P.length) : P[i]? = some (P.getD i []) := by
  rw [List.getD_eq_getElem?_getD, List.getElem?_eq_getElem h]
  rfl
theorem above_ok {P : PP} (v : VP P) (i : Nat) (hi : i < P.length) : C__law_above [parD P, dN i] = .ok (.lst ((upL P i).map dN)) := by
  have hn := v.le
  have key := while_inv (t := eUn asB (eOp (dCmpI iLt) (eVar 3) (eCall fLen (aCons (eVar 2) aNil)))) (F := B__law_above_1)
    (P := fun ρ => ∃ (L : List Nat) (at_ : Nat), ρ = [some (parD P), some (dN i), some (.lst (L.map dN)), some (dN at_), none] ∧ L.Nodup ∧ (∀ a ∈ L, Up P a i) ∧ i ∈ L ∧ at_ ≤ L.length ∧ ∀ j, j < at_ → ∀ y, L[j]? = some y → ∀ x ∈ P.getD y [], x ∈ L)
    (Q := fun fl => ∃ (L : List Nat), fl = .next [some (parD P), some (dN i), some (.lst (L.map dN)), some (dN L.length), none] ∧ L.Nodup ∧ ∀ a, a ∈ L ↔ Up P a i)
    (fun ρ => match ρ.getD 3 none with
      | some (.int k) => 41 - k.toNat
      | _ => 0) (fun ρ h => by
      obtain ⟨L, at_, rfl, nd, hL, hiL, hat, cl⟩ := h
      have hlen : L.length ≤ P.length := nd_len nd fun a ha => (hL a ha).lt v hi
      by_cases hlt : at_ < L.length
      · refine .inr ⟨?_, .inl ?_⟩
        · have : iLt (at_ : Int) (L.length : Int) = true := decide_eq_true (by omega)
          simp only [sSeq_x, x_min2, x_max2, x_eRg1, x_eMeth, x_eMake, x_sSet, x_sIf, x_sRet, x_sRetN, x_sPar, x_sUnp, resF_ok, x_sDrop, x_sNext, x_sBreak, x_sCont, x_sRaise, x_sAug, augK_ok, x_sFor, x_sWhile, sKill_x, x_wipe0, x_wipe1, x_evL0, x_evL1, x_setL0, x_setL1, x_eVar, x_eC, x_eOp, x_eUn, x_eCall, x_eMS, x_asStr, x_aNil, x_aCons, x_eTup, x_eLst, x_eIf, x_eNot, x_eAnd, x_eOr, x_bAnd, x_bOr, x_bNot, x_bYes, x_eSl, x_oNone, x_oSome, asI_int, x_iSeq, x_iCall, x_gfName, x_gfTup, eLc, noX_is, Res.bind_ok, Res.bind_exc, flow_ok, flow_exc, seqK_next, seqK_ret, seqK_exc, seqK_brk, seqK_cont, loopK_next, loopK_cont, loopK_brk, loopK_ret, loopK_exc, must_ok, List.set_cons_succ, List.set_cons_zero, List.getD_cons_succ, List.getD_cons_zero, vD_some, if_true, if_false, Bool.false_eq_true, reduceIte, List.map_cons, List.map_nil, List.length_cons, List.length_nil, List.cons_append, List.nil_append, List.replicate, Nat.reduceSub, Nat.reduceAdd, x_add, x_sub, x_cmp, x_eq_ii, x_ne_ii, x_int_i, x_len_t, x_len_l, x_tup_l, x_tup_t, x_list_l, x_list_t, x_dSl_t, x_dSl_l, x_items_t, x_items_l, x_tru_n, x_tru_b, x_tru_i, x_tru_t, x_tru_l, x_asB, x_is_n, x_isNot_n, isNon_n, isNon_i, isNon_s, isNon_t, isNon_l, isNon_b, Bool.not_true, Bool.not_false, List.length_map, fnE, startE, dN_def, this]
        · have hy : L[at_]? = some (L[at_]) := List.getElem?_eq_getElem hlt
          have hyP : L[at_] < P.length := (hL _ (List.mem_of_getElem? hy)).lt v hi
          have h1 : dIx (.lst (L.map dN)) (.int (at_ : Nat)) = .ok (dN L[at_]) := dIx_lm (f := dN) hy
          have h2 : dIx (parD P) (.int (L[at_] : Nat)) = .ok (rowD (P.getD L[at_] [])) := dIx_tm (f := rowD) (row_at hyP)
          have lc := lc_filter (gf := gfName 4) (tt := eUn asB (eOp (dNotIn) (eVar 4) (eVar 2))) (f := eVar 4) (ρ := [some (parD P), some (dN i), some (.lst (L.map dN)), some (dN at_), none]) (e := dN) (p := fun x => !decide (x ∈ L)) (g := dN) (xs := P.getD L[at_] []) fun x _ => ⟨_, rfl, by
            have := dNotIn_of (dIn_L x L)
            simp only [sSeq_x, x_min2, x_max2, x_eRg1, x_eMeth, x_eMake, x_sSet, x_sIf, x_sRet, x_sRetN, x_sPar, x_sUnp, resF_ok, x_sDrop, x_sNext, x_sBreak, x_sCont, x_sRaise, x_sAug, augK_ok, x_sFor, x_sWhile, sKill_x, x_wipe0, x_wipe1, x_evL0, x_evL1, x_setL0, x_setL1, x_eVar, x_eC, x_eOp, x_eUn, x_eCall, x_eMS, x_asStr, x_aNil, x_aCons, x_eTup, x_eLst, x_eIf, x_eNot, x_eAnd, x_eOr, x_bAnd, x_bOr, x_bNot, x_bYes, x_eSl, x_oNone, x_oSome, asI_int, x_iSeq, x_iCall, x_gfName, x_gfTup, eLc, noX_is, Res.bind_ok, Res.bind_exc, flow_ok, flow_exc, seqK_next, seqK_ret, seqK_exc, seqK_brk, seqK_cont, loopK_next, loopK_cont, loopK_brk, loopK_ret, loopK_exc, must_ok, List.set_cons_succ, List.set_cons_zero, List.getD_cons_succ, List.getD_cons_zero, vD_some, if_true, if_false, Bool.false_eq_true, reduceIte, List.map_cons, List.map_nil, List.length_cons, List.length_nil, List.cons_append, List.nil_append, List.replicate, Nat.reduceSub, Nat.reduceAdd, x_add, x_sub, x_cmp, x_eq_ii, x_ne_ii, x_int_i, x_len_t, x_len_l, x_tup_l, x_tup_t, x_list_l, x_list_t, x_dSl_t, x_dSl_l, x_items_t, x_items_l, x_tru_n, x_tru_b, x_tru_i, x_tru_t, x_tru_l, x_asB, x_is_n, x_isNot_n, isNon_n, isNon_i, isNon_s, isNon_t, isNon_l, isNon_b, Bool.not_true, Bool.not_false, List.length_map, fnE, startE, this], rfl⟩
          have hrl : (P.getD L[at_] []).length ≤ 40 := v.row_len (row_at hyP)
          have hfl := List.length_filter_le (fun x => !decide (x ∈ L)) (P.getD L[at_] [])
          have ha : dAdd (.lst (L.map dN)) (.lst (((P.getD L[at_] []).filter fun x => !decide (x ∈ L)).map dN)) = .ok (.lst ((L ++ (P.getD L[at_] []).filter fun x => !decide (x ∈ L)).map dN)) := by
            rw [x_add_l, if_pos (by rw [List.length_map, List.length_map, sizeLine_eq]; omega), List.map_append]
          refine ⟨_, .inl ?_, ⟨L ++ (P.getD L[at_] []).filter fun x => !decide (x ∈ L), at_ + 1, rfl, ?_, ?_, ?_, ?_, ?_⟩, ?_⟩
          · unfold B__law_above_1
            simp only [sSeq_x, x_min2, x_max2, x_eRg1, x_eMeth, x_eMake, x_sSet, x_sIf, x_sRet, x_sRetN, x_sPar, x_sUnp, resF_ok, x_sDrop, x_sNext, x_sBreak, x_sCont, x_sRaise, x_sAug, augK_ok, x_sFor, x_sWhile, sKill_x, x_wipe0, x_wipe1, x_evL0, x_evL1, x_setL0, x_setL1, x_eVar, x_eC, x_eOp, x_eUn, x_eCall, x_eMS, x_asStr, x_aNil, x_aCons, x_eTup, x_eLst, x_eIf, x_eNot, x_eAnd, x_eOr, x_bAnd, x_bOr, x_bNot, x_bYes, x_eSl, x_oNone, x_oSome, asI_int, x_iSeq, x_iCall, x_gfName, x_gfTup, eLc, noX_is, Res.bind_ok, Res.bind_exc, flow_ok, flow_exc, seqK_next, seqK_ret, seqK_exc, seqK_brk, seqK_cont, loopK_next, loopK_cont, loopK_brk, loopK_ret, loopK_exc, must_ok, List.set_cons_succ, List.set_cons_zero, List.getD_cons_succ, List.getD_cons_zero, vD_some, if_true, if_false, Bool.false_eq_true, reduceIte, List.map_cons, List.map_nil, List.length_cons, List.length_nil, List.cons_append, List.nil_append, List.replicate, Nat.reduceSub, Nat.reduceAdd, x_add, x_sub, x_cmp, x_eq_ii, x_ne_ii, x_int_i, x_len_t, x_len_l, x_tup_l, x_tup_t, x_list_l, x_list_t, x_dSl_t, x_dSl_l, x_items_t, x_items_l, x_tru_n, x_tru_b, x_tru_i, x_tru_t, x_tru_l, x_asB, x_is_n, x_isNot_n, isNon_n, isNon_i, isNon_s, isNon_t, isNon_l, isNon_b, Bool.not_true, Bool.not_false, List.length_map, fnE, startE, dN_def, h1] at lc h2 ⊢
            rw [h2]
            simp only [sSeq_x, x_min2, x_max2, x_eRg1, x_eMeth, x_eMake, x_sSet, x_sIf, x_sRet, x_sRetN, x_sPar, x_sUnp, resF_ok, x_sDrop, x_sNext, x_sBreak, x_sCont, x_sRaise, x_sAug, augK_ok, x_sFor, x_sWhile, sKill_x, x_wipe0, x_wipe1, x_evL0, x_evL1, x_setL0, x_setL1, x_eVar, x_eC, x_eOp, x_eUn, x_eCall, x_eMS, x_asStr, x_aNil, x_aCons, x_eTup, x_eLst, x_eIf, x_eNot, x_eAnd, x_eOr, x_bAnd, x_bOr, x_bNot, x_bYes, x_eSl, x_oNone, x_oSome, asI_int, x_iSeq, x_iCall, x_gfName, x_gfTup, eLc, noX_is, Res.bind_ok, Res.bind_exc, flow_ok, flow_exc, seqK_next, seqK_ret, seqK_exc, seqK_brk, seqK_cont, loopK_next, loopK_cont, loopK_brk, loopK_ret, loopK_exc, must_ok, List.set_cons_succ, List.set_cons_zero, List.getD_cons_succ, List.getD_cons_zero, vD_some, if_true, if_false, Bool.false_eq_true, reduceIte, List.map_cons, List.map_nil, List.length_cons, List.length_nil, List.cons_append, List.nil_append, List.replicate, Nat.reduceSub, Nat.reduceAdd, x_add, x_sub, x_cmp, x_eq_ii, x_ne_ii, x_int_i, x_len_t, x_len_l, x_tup_l, x_tup_t, x_list_l, x_list_t, x_dSl_t, x_dSl_l, x_items_t, x_items_l, x_tru_n, x_tru_b, x_tru_i, x_tru_t, x_tru_l, x_asB, x_is_n, x_isNot_n, isNon_n, isNon_i, isNon_s, isNon_t, isNon_l, isNon_b, Bool.not_true, Bool.not_false, List.length_map, fnE, startE, rowD] at lc ⊢
            rw [lc]
            simp only [sSeq_x, x_min2, x_max2, x_eRg1, x_eMeth, x_eMake, x_sSet, x_sIf, x_sRet, x_sRetN, x_sPar, x_sUnp, resF_ok, x_sDrop, x_sNext, x_sBreak, x_sCont, x_sRaise, x_sAug, augK_ok, x_sFor, x_sWhile, sKill_x, x_wipe0, x_wipe1, x_evL0, x_evL1, x_setL0, x_setL1, x_eVar, x_eC, x_eOp, x_eUn, x_eCall, x_eMS, x_asStr, x_aNil, x_aCons, x_eTup, x_eLst, x_eIf, x_eNot, x_eAnd, x_eOr, x_bAnd, x_bOr, x_bNot, x_bYes, x_eSl, x_oNone, x_oSome, asI_int, x_iSeq, x_iCall, x_gfName, x_gfTup, eLc, noX_is, Res.bind_ok, Res.bind_exc, flow_ok, flow_exc, seqK_next, seqK_ret, seqK_exc, seqK_brk, seqK_cont, loopK_next, loopK_cont, loopK_brk, loopK_ret, loopK_exc, must_ok, List.set_cons_succ, List.set_cons_zero, List.getD_cons_succ, List.getD_cons_zero, vD_some, if_true, if_false, Bool.false_eq_true, reduceIte, List.map_cons, List.map_nil, List.length_cons, List.length_nil, List.cons_append, List.nil_append, List.replicate, Nat.reduceSub, Nat.reduceAdd, x_add, x_sub, x_cmp, x_eq_ii, x_ne_ii, x_int_i, x_len_t, x_len_l, x_tup_l, x_tup_t, x_list_l, x_list_t, x_dSl_t, x_dSl_l, x_items_t, x_items_l, x_tru_n, x_tru_b, x_tru_i, x_tru_t, x_tru_l, x_asB, x_is_n, x_isNot_n, isNon_n, isNon_i, isNon_s, isNon_t, isNon_l, isNon_b, Bool.not_true, Bool.not_false, List.length_map, fnE, startE] at ha ⊢
            rw [ha]
            simp only [sSeq_x, x_min2, x_max2, x_eRg1, x_eMeth, x_eMake, x_sSet, x_sIf, x_sRet, x_sRetN, x_sPar, x_sUnp, resF_ok, x_sDrop, x_sNext, x_sBreak, x_sCont, x_sRaise, x_sAug, augK_ok, x_sFor, x_sWhile, sKill_x, x_wipe0, x_wipe1, x_evL0, x_evL1, x_setL0, x_setL1, x_eVar, x_eC, x_eOp, x_eUn, x_eCall, x_eMS, x_asStr, x_aNil, x_aCons, x_eTup, x_eLst, x_eIf, x_eNot, x_eAnd, x_eOr, x_bAnd, x_bOr, x_bNot, x_bYes, x_eSl, x_oNone, x_oSome, asI_int, x_iSeq, x_iCall, x_gfName, x_gfTup, eLc, noX_is, Res.bind_ok, Res.bind_exc, flow_ok, flow_exc, seqK_next, seqK_ret, seqK_exc, seqK_brk, seqK_cont, loopK_next, loopK_cont, loopK_brk, loopK_ret, loopK_exc, must_ok, List.set_cons_succ, List.set_cons_zero, List.getD_cons_succ, List.getD_cons_zero, vD_some, if_true, if_false, Bool.false_eq_true, reduceIte, List.map_cons, List.map_nil, List.length_cons, List.length_nil, List.cons_append, List.nil_append, List.replicate, Nat.reduceSub, Nat.reduceAdd, x_add, x_sub, x_cmp, x_eq_ii, x_ne_ii, x_int_i, x_len_t, x_len_l, x_tup_l, x_tup_t, x_list_l, x_list_t, x_dSl_t, x_dSl_l, x_items_t, x_items_l, x_tru_n, x_tru_b, x_tru_i, x_tru_t, x_tru_l, x_asB, x_is_n, x_isNot_n, isNon_n, isNon_i, isNon_s, isNon_t, isNon_l, isNon_b, Bool.not_true, Bool.not_false, List.length_map, fnE, startE]
            rfl
          · refine List.nodup_append.mpr ⟨nd, ((v.asc _ _ (row_at hyP)).imp fun {a b} q e => by omega).filter _, fun a ha b hb e => ?_⟩
            subst e
            have := (List.mem_filter.mp hb).2
            simp at this
            exact this ha
          · intro a ha
            rcases List.mem_append.mp ha with q | q
            · exact hL a q
            · have hu := hL _ (List.mem_of_getElem? hy)
              exact Up.trans (.st (row_at hyP) (List.mem_filter.mp q).1 (.me a)) hu
          · exact List.mem_append_left _ hiL
          · rw [List.length_append]
            omega
          · intro j hj y hjy x hx
            by_cases q : j < at_
            · have hjy2 : L[j]? = some y := by
                rw [List.getElem?_append_left (by omega)] at hjy
                exact hjy
              exact List.mem_append_left _ (cl j q y hjy2 x hx)
            · have e : j = at_ := by omega
              subst e
              rw [List.getElem?_append_left hlt, hy] at hjy
              cases hjy
              by_cases hm : x ∈ L
              · exact List.mem_append_left _ hm
              · exact List.mem_append_right _ (List.mem_filter.mpr ⟨hx, by simp [hm]⟩)
          · show 41 - ((at_ + 1 : Nat) : Int).toNat < 41 - (at_ : Int).toNat
            omega
      · have e : at_ = L.length := by omega
        subst e
        refine .inl ⟨?_, L, rfl, nd, fun a => ⟨hL a, fun hu => ?_⟩⟩
        · have : iLt (L.length : Int) (L.length : Int) = false := decide_eq_false (by omega)
          simp only [sSeq_x, x_min2, x_max2, x_eRg1, x_eMeth, x_eMake, x_sSet, x_sIf, x_sRet, x_sRetN, x_sPar, x_sUnp, resF_ok, x_sDrop, x_sNext, x_sBreak, x_sCont, x_sRaise, x_sAug, augK_ok, x_sFor, x_sWhile, sKill_x, x_wipe0, x_wipe1, x_evL0, x_evL1, x_setL0, x_setL1, x_eVar, x_eC, x_eOp, x_eUn, x_eCall, x_eMS, x_asStr, x_aNil, x_aCons, x_eTup, x_eLst, x_eIf, x_eNot, x_eAnd, x_eOr, x_bAnd, x_bOr, x_bNot, x_bYes, x_eSl, x_oNone, x_oSome, asI_int, x_iSeq, x_iCall, x_gfName, x_gfTup, eLc, noX_is, Res.bind_ok, Res.bind_exc, flow_ok, flow_exc, seqK_next, seqK_ret, seqK_exc, seqK_brk, seqK_cont, loopK_next, loopK_cont, loopK_brk, loopK_ret, loopK_exc, must_ok, List.set_cons_succ, List.set_cons_zero, List.getD_cons_succ, List.getD_cons_zero, vD_some, if_true, if_false, Bool.false_eq_true, reduceIte, List.map_cons, List.map_nil, List.length_cons, List.length_nil, List.cons_append, List.nil_append, List.replicate, Nat.reduceSub, Nat.reduceAdd, x_add, x_sub, x_cmp, x_eq_ii, x_ne_ii, x_int_i, x_len_t, x_len_l, x_tup_l, x_tup_t, x_list_l, x_list_t, x_dSl_t, x_dSl_l, x_items_t, x_items_l, x_tru_n, x_tru_b, x_tru_i, x_tru_t, x_tru_l, x_asB, x_is_n, x_isNot_n, isNon_n, isNon_i, isNon_s, isNon_t, isNon_l, isNon_b, Bool.not_true, Bool.not_false, List.length_map, fnE, startE, dN_def, this]
        · have : ∀ {a b : Nat}, Up P a b → b ∈ L → a ∈ L := by
            intro a b h
            induction h with
            | me => exact fun q => q
            | st h1 h2 _ ih =>
              intro q
              obtain ⟨j, hj⟩ := List.mem_iff_getElem?.mp q
              refine ih (cl j (List.getElem?_eq_some_iff.mp hj).1 _ hj _ ?_)
              rw [List.getD_eq_getElem?_getD, h1]
              exact h2
          exact this hu hiL) 100000 [some (parD P), some (dN i), some (.lst ([i].map dN)), some (dN 0), none] ⟨[i], 0, rfl, by simp, fun a ha => by
        rw [List.mem_singleton.mp ha]
        exact .me i, List.mem_singleton.mpr rfl, Nat.zero_le _, fun j hj => by omega⟩ (by show 41 - (0 : Int).toNat < 100000; omega)
  obtain ⟨L, e, nd, mem⟩ := key
  have hs := sortN (xs := L) (l := []) (l' := upL P i) ((List.perm_ext_iff_of_nodup nd ((upL_pw P i).imp fun {a b} q e => by omega)).mpr fun a => by rw [mem, up_upL v hi]) (upL_pw P i)
  unfold C__law_above F__law_above
  simp only [sSeq_x, x_min2, x_max2, x_eRg1, x_eMeth, x_eMake, x_sSet, x_sIf, x_sRet, x_sRetN, x_sPar, x_sUnp, resF_ok, x_sDrop, x_sNext, x_sBreak, x_sCont, x_sRaise, x_sAug, augK_ok, x_sFor, x_sWhile, sKill_x, x_wipe0, x_wipe1, x_evL0, x_evL1, x_setL0, x_setL1, x_eVar, x_eC, x_eOp, x_eUn, x_eCall, x_eMS, x_asStr, x_aNil, x_aCons, x_eTup, x_eLst, x_eIf, x_eNot, x_eAnd, x_eOr, x_bAnd, x_bOr, x_bNot, x_bYes, x_eSl, x_oNone, x_oSome, asI_int, x_iSeq, x_iCall, x_gfName, x_gfTup, eLc, noX_is, Res.bind_ok, Res.bind_exc, flow_ok, flow_exc, seqK_next, seqK_ret, seqK_exc, seqK_brk, seqK_cont, loopK_next, loopK_cont, loopK_brk, loopK_ret, loopK_exc, must_ok, List.set_cons_succ, List.set_cons_zero, List.getD_cons_succ, List.getD_cons_zero, vD_some, if_true, if_false, Bool.false_eq_true, reduceIte, List.map_cons, List.map_nil, List.length_cons, List.length_nil, List.cons_append, List.nil_append, List.replicate, Nat.reduceSub, Nat.reduceAdd, x_add, x_sub, x_cmp, x_eq_ii, x_ne_ii, x_int_i, x_len_t, x_len_l, x_tup_l, x_tup_t, x_list_l, x_list_t, x_dSl_t, x_dSl_l, x_items_t, x_items_l, x_tru_n, x_tru_b, x_tru_i, x_tru_t, x_tru_l, x_asB, x_is_n, x_isNot_n, isNon_n, isNon_i, isNon_s, isNon_t, isNon_l, isNon_b, Bool.not_true, Bool.not_false, List.length_map, fnE, startE, startE, dN_def] at e ⊢
  rw [show (0 : Int) = ((0 : Nat) : Int) from rfl, e]
  simp only [sSeq_x, x_min2, x_max2, x_eRg1, x_eMeth, x_eMake, x_sSet, x_sIf, x_sRet, x_sRetN, x_sPar, x_sUnp, resF_ok, x_sDrop, x_sNext, x_sBreak, x_sCont, x_sRaise, x_sAug, augK_ok, x_sFor, x_sWhile, sKill_x, x_wipe0, x_wipe1, x_evL0, x_evL1, x_setL0, x_setL1, x_eVar, x_eC, x_eOp, x_eUn, x_eCall, x_eMS, x_asStr, x_aNil, x_aCons, x_eTup, x_eLst, x_eIf, x_eNot, x_eAnd, x_eOr, x_bAnd, x_bOr, x_bNot, x_bYes, x_eSl, x_oNone, x_oSome, asI_int, x_iSeq, x_iCall, x_gfName, x_gfTup, eLc, noX_is, Res.bind_ok, Res.bind_exc, flow_ok, flow_exc, seqK_next, seqK_ret, seqK_exc, seqK_brk, seqK_cont, loopK_next, loopK_cont, loopK_brk, loopK_ret, loopK_exc, must_ok, List.set_cons_succ, List.set_cons_zero, List.getD_cons_succ, List.getD_cons_zero, vD_some, if_true, if_false, Bool.false_eq_true, reduceIte, List.map_cons, List.map_nil, List.length_cons, List.length_nil, List.cons_append, List.nil_append, List.replicate, Nat.reduceSub, Nat.reduceAdd, x_add, x_sub, x_cmp, x_eq_ii, x_ne_ii, x_int_i, x_len_t, x_len_l, x_tup_l, x_tup_t, x_list_l, x_list_t, x_dSl_t, x_dSl_l, x_items_t, x_items_l, x_tru_n, x_tru_b, x_tru_i, x_tru_t, x_tru_l, x_asB, x_is_n, x_isNot_n, isNon_n, isNon_i, isNon_s, isNon_t, isNon_l, isNon_b, Bool.not_true, Bool.not_false, List.length_map, fnE, startE] at hs ⊢
  rw [hs]
  rfl
/-! ### drawn parents -/
def rwsD (R : PP) : D := .lst (R.map rowD)
theorem srtU_nat (l : List Nat) : ∃ m : List Nat, srtU (l.map Int.ofNat) = m.map Int.ofNat ∧ m.Pairwise (· < ·) ∧ ∀ a, a ∈ m ↔ a ∈ l := by
  have e : srtU (l.map Int.ofNat) = ((srtU (l.map Int.ofNat)).map Int.toNat).map Int.ofNat := by
    rw [List.map_map]
    conv => lhs; rw [← List.map_id (srtU (l.map Int.ofNat))]
    refine List.map_congr_left fun z hz => ?_
    obtain ⟨n, _, rfl⟩ := List.mem_map.mp (mem_srtU.mp hz)
    rfl
  refine ⟨(srtU (l.map Int.ofNat)).map Int.toNat, e, ?_, fun a => ?_⟩
  · have := pw_srtU (l.map Int.ofNat)
    rw [e] at this
    exact (List.pairwise_map.mp this).imp fun {a b} q => by simpa using q
  · rw [List.mem_map]
    constructor
    · rintro ⟨z, hz, rfl⟩
      obtain ⟨n, hn, rfl⟩ := List.mem_map.mp (mem_srtU.mp hz)
      exact hn
    · intro ha
      exact ⟨(a : Int), mem_srtU.mpr (List.mem_map.mpr ⟨a, ha, rfl⟩), rfl⟩
theorem four (a b c d : D) (k : Nat) (h : k < 4) : ∃ z, dIx (.lst [a, b, c, d]) (.int (k : Nat)) = .ok z ∧ (z = a ∨ z = b ∨ z = c ∨ z = d) := by
  match k, h with
  | 0, _ => exact ⟨a, rfl, by simp⟩
  | 1, _ => exact ⟨b, rfl, by simp⟩
  | 2, _ => exact ⟨c, rfl, by simp⟩
  | 3, _ => exact ⟨d, rfl, by simp⟩
theorem prow_ok (dl : List Nat) (at_ kind k : Nat) (most size : D) (R : PP) (x10 x11 x12 x13 : Option D) (x7 x8 x9 : Option D) (hk : 1 ≤ k) (hk2 : k ≤ 1000) (hat : at_ + k < dl.length) (hkind : kind < 4) (hR : R.length = k) :
    ∃ row : List Nat, B__law_parents_1 [some (.lst (dl.map dN)), some (dN at_), some most, some size, some (dN kind), some (rwsD R), some (dN k), x7, x8, x9, x10, x11, x12, x13, none, none] =
      .next [some (.lst (dl.map dN)), some (dN at_), some most, some size, some (dN kind), some (rwsD (R ++ [row])), none, none, none, none, x10, x11, x12, x13, none, none] ∧ row.Pairwise (· < ·) ∧ ∀ x ∈ row, x < k := by
  have hd : dl[at_ + k]? = some (dl.getD (at_ + k) 0) := by
    rw [List.getD_eq_getElem?_getD, List.getElem?_eq_getElem hat]
    rfl
  generalize dl.getD (at_ + k) 0 = d at hd
  have h1 : dIx (.lst (dl.map dN)) (.int ((at_ : Int) + k)) = .ok (.int (d : Nat)) := by
    have := dIx_lm (f := dN) hd
    simpa using this
  obtain ⟨z1, e1, c1⟩ := four (dN (d % 3)) (dN 1) (dN (1 + d % 2)) (dN (d % 4)) kind hkind
  obtain ⟨m, rfl, hm⟩ : ∃ m : Nat, z1 = dN m ∧ m < 4 := by
    rcases c1 with q | q | q | q
    · exact ⟨_, q, by omega⟩
    · exact ⟨_, q, by omega⟩
    · exact ⟨_, q, by omega⟩
    · exact ⟨_, q, by omega⟩
  obtain ⟨z2, e2, c2⟩ := four (dN k) (dN k) (dN 4) (dN k) kind hkind
  obtain ⟨w, rfl, hw⟩ : ∃ w : Nat, z2 = dN w ∧ 1 ≤ w := by
    rcases c2 with q | q | q | q
    · exact ⟨_, q, by omega⟩
    · exact ⟨_, q, by omega⟩
    · exact ⟨_, q, by omega⟩
    · exact ⟨_, q, by omega⟩
  have r1 := dRng1_nat m (by omega)
  have lc1 := lc_fun (gf := gfName 14) (f := eOp dMod (eOp dDiv (eVar 7) (eOp dAdd (eOp dMul (eC (.int 3)) (eVar 14)) (eC (.int 2)))) (eCall fMin (aCons (eVar 6) (aCons (eOp dIx (eLst (aCons (eVar 6) (aCons (eVar 6) (aCons (eC (.int 4)) (aCons (eVar 6) aNil))))) (eVar 4)) aNil))))
    (ρ := [some (.lst (dl.map dN)), some (dN at_), some most, some size, some (dN kind), some (rwsD R), some (dN k), some (dN d), some (dN m), x9, x10, x11, x12, x13, none, none]) (e := fun i : Nat => .int (i : Nat)) (g := fun n => dN (d / (3 * n + 2) % min k w)) (xs := List.range m) fun n hn => by
      have hn2 := List.mem_range.mp hn
      refine ⟨_, rfl, ?_⟩
      have a1 : mulOk 3 (n : Int) = true := mulOk_l _ _ (by decide)
      have a2 : (0 : Int) < 3 * (n : Int) + 2 ∧ 3 * (n : Int) + 2 < 1073741824 := by omega
      have a3 : (if ((w : Nat) : Int) < (k : Int) then ((w : Nat) : Int) else (k : Int)) = ((min k w : Nat) : Int) := by
        split <;> omega
      have a4 : (0 : Int) < ((min k w : Nat) : Int) := by omega
      have e3 : dIx (.lst [.int (k : Nat), .int (k : Nat), .int 4, .int (k : Nat)]) (.int (kind : Nat)) = .ok (.int (w : Nat)) := e2
      simp only [dN_def]
      have a5 : (d : Int) / (3 * (n : Int) + 2) % ((min k w : Nat) : Int) = ((d / (3 * n + 2) % min k w : Nat) : Int) := by
        rw [show 3 * (n : Int) + 2 = ((3 * n + 2 : Nat) : Int) by omega, Int.natCast_emod, Int.natCast_ediv]
      simp only [sSeq_x, x_min2, x_max2, x_eRg1, x_eMeth, x_eMake, x_sSet, x_sIf, x_sRet, x_sRetN, x_sPar, x_sUnp, resF_ok, x_sDrop, x_sNext, x_sBreak, x_sCont, x_sRaise, x_sAug, augK_ok, x_sFor, x_sWhile, sKill_x, x_wipe0, x_wipe1, x_evL0, x_evL1, x_setL0, x_setL1, x_eVar, x_eC, x_eOp, x_eUn, x_eCall, x_eMS, x_asStr, x_aNil, x_aCons, x_eTup, x_eLst, x_eIf, x_eNot, x_eAnd, x_eOr, x_bAnd, x_bOr, x_bNot, x_bYes, x_eSl, x_oNone, x_oSome, asI_int, x_iSeq, x_iCall, x_gfName, x_gfTup, eLc, noX_is, Res.bind_ok, Res.bind_exc, flow_ok, flow_exc, seqK_next, seqK_ret, seqK_exc, seqK_brk, seqK_cont, loopK_next, loopK_cont, loopK_brk, loopK_ret, loopK_exc, must_ok, List.set_cons_succ, List.set_cons_zero, List.getD_cons_succ, List.getD_cons_zero, vD_some, if_true, if_false, Bool.false_eq_true, reduceIte, List.map_cons, List.map_nil, List.length_cons, List.length_nil, List.cons_append, List.nil_append, List.replicate, Nat.reduceSub, Nat.reduceAdd, x_add, x_sub, x_cmp, x_eq_ii, x_ne_ii, x_int_i, x_len_t, x_len_l, x_tup_l, x_tup_t, x_list_l, x_list_t, x_dSl_t, x_dSl_l, x_items_t, x_items_l, x_tru_n, x_tru_b, x_tru_i, x_tru_t, x_tru_l, x_asB, x_is_n, x_isNot_n, isNon_n, isNon_i, isNon_s, isNon_t, isNon_l, isNon_b, Bool.not_true, Bool.not_false, List.length_map, fnE, startE, dMul_i _ _ a1, dDiv_i _ _ a2, e3, a3, x_mod _ _ a4, a5]
  have lt : ∀ n, d / (3 * n + 2) % min k w < k := fun n => Nat.lt_of_lt_of_le (Nat.mod_lt _ (by omega)) (Nat.min_le_left _ _)
  obtain ⟨row, er, pw, mem⟩ := srtU_nat ((List.range m).map fun n => k - 1 - d / (3 * n + 2) % min k w)
  have lc2 := lc_fun (gf := gfName 15) (f := eOp dSub (eOp dSub (eVar 6) (eC (.int 1))) (eVar 15))
    (ρ := [some (.lst (dl.map dN)), some (dN at_), some most, some size, some (dN kind), some (rwsD R), some (dN k), some (dN d), some (dN m), some (.lst ((List.range m).map fun n => dN (d / (3 * n + 2) % min k w))), x10, x11, x12, x13, none, none])
    (e := fun n : Nat => dN (d / (3 * n + 2) % min k w)) (g := fun n => dN (k - 1 - d / (3 * n + 2) % min k w)) (xs := List.range m) fun n _ => by
      refine ⟨_, rfl, ?_⟩
      have := lt n
      simp only [sSeq_x, x_min2, x_max2, x_eRg1, x_eMeth, x_eMake, x_sSet, x_sIf, x_sRet, x_sRetN, x_sPar, x_sUnp, resF_ok, x_sDrop, x_sNext, x_sBreak, x_sCont, x_sRaise, x_sAug, augK_ok, x_sFor, x_sWhile, sKill_x, x_wipe0, x_wipe1, x_evL0, x_evL1, x_setL0, x_setL1, x_eVar, x_eC, x_eOp, x_eUn, x_eCall, x_eMS, x_asStr, x_aNil, x_aCons, x_eTup, x_eLst, x_eIf, x_eNot, x_eAnd, x_eOr, x_bAnd, x_bOr, x_bNot, x_bYes, x_eSl, x_oNone, x_oSome, asI_int, x_iSeq, x_iCall, x_gfName, x_gfTup, eLc, noX_is, Res.bind_ok, Res.bind_exc, flow_ok, flow_exc, seqK_next, seqK_ret, seqK_exc, seqK_brk, seqK_cont, loopK_next, loopK_cont, loopK_brk, loopK_ret, loopK_exc, must_ok, List.set_cons_succ, List.set_cons_zero, List.getD_cons_succ, List.getD_cons_zero, vD_some, if_true, if_false, Bool.false_eq_true, reduceIte, List.map_cons, List.map_nil, List.length_cons, List.length_nil, List.cons_append, List.nil_append, List.replicate, Nat.reduceSub, Nat.reduceAdd, x_add, x_sub, x_cmp, x_eq_ii, x_ne_ii, x_int_i, x_len_t, x_len_l, x_tup_l, x_tup_t, x_list_l, x_list_t, x_dSl_t, x_dSl_l, x_items_t, x_items_l, x_tru_n, x_tru_b, x_tru_i, x_tru_t, x_tru_l, x_asB, x_is_n, x_isNot_n, isNon_n, isNon_i, isNon_s, isNon_t, isNon_l, isNon_b, Bool.not_true, Bool.not_false, List.length_map, fnE, startE, dN_def]
      congr 2
      omega
  have hs : dSortedSet (.lst ((List.range m).map fun n => dN (k - 1 - d / (3 * n + 2) % min k w))) = .ok (.lst (row.map dN)) := by
    have e : ((List.range m).map fun n => dN (k - 1 - d / (3 * n + 2) % min k w)) = (((List.range m).map fun n => k - 1 - d / (3 * n + 2) % min k w).map Int.ofNat).map D.int := by
      rw [List.map_map, List.map_map]
      rfl
    show (match iOfs ((List.range m).map fun n => dN (k - 1 - d / (3 * n + 2) % min k w)) with
      | some ns => if ns.length < 64 then Res.ok (D.lst ((srtU ns).map .int)) else .err
      | none => .err) = _
    rw [e, iOfs_map]
    show (if _ then _ else _) = _
    rw [if_pos (by rw [List.length_map, List.length_map, List.length_range]; omega), er, List.map_map]
    rfl
  refine ⟨row, ?_, pw, fun x hx => ?_⟩
  · unfold B__law_parents_1
    simp only [dN_def] at e1 lc1 lc2 hs ⊢
    have hm3 : (d : Int) % 3 = ((d % 3 : Nat) : Int) := by omega
    have hm2 : 1 + (d : Int) % 2 = ((1 + d % 2 : Nat) : Int) := by omega
    have hm4 : (d : Int) % 4 = ((d % 4 : Nat) : Int) := by omega
    have happ : ∀ (x14 x15 : Option D), sAppend 5 (eCall fTuple (aCons (eUn dSortedSet (eLc (iSeq (eVar 9)) [15] (gfName 15) bYes (eOp dSub (eOp dSub (eVar 6) (eC (.int 1))) (eVar 15)))) aNil)) [some (.lst (dl.map dN)), some (.int at_), some most, some size, some (.int kind), some (rwsD R), some (.int k), some (.int d), some (.int m), some (.lst ((List.range m).map fun n => D.int ((d / (3 * n + 2) % min k w : Nat) : Int))), x10, x11, x12, x13, none, none] =
        .next [some (.lst (dl.map dN)), some (.int at_), some most, some size, some (.int kind), some (rwsD (R ++ [row])), some (.int k), some (.int d), some (.int m), some (.lst ((List.range m).map fun n => D.int ((d / (3 * n + 2) % min k w : Nat) : Int))), x10, x11, x12, x13, none, none] := fun _ _ => by
      rw [app_ok (xs := R.map rowD) (d := rowD row) rfl (by simp only [sSeq_x, x_min2, x_max2, x_eRg1, x_eMeth, x_eMake, x_sSet, x_sIf, x_sRet, x_sRetN, x_sPar, x_sUnp, resF_ok, x_sDrop, x_sNext, x_sBreak, x_sCont, x_sRaise, x_sAug, augK_ok, x_sFor, x_sWhile, sKill_x, x_wipe0, x_wipe1, x_evL0, x_evL1, x_setL0, x_setL1, x_eVar, x_eC, x_eOp, x_eUn, x_eCall, x_eMS, x_asStr, x_aNil, x_aCons, x_eTup, x_eLst, x_eIf, x_eNot, x_eAnd, x_eOr, x_bAnd, x_bOr, x_bNot, x_bYes, x_eSl, x_oNone, x_oSome, asI_int, x_iSeq, x_iCall, x_gfName, x_gfTup, eLc, noX_is, Res.bind_ok, Res.bind_exc, flow_ok, flow_exc, seqK_next, seqK_ret, seqK_exc, seqK_brk, seqK_cont, loopK_next, loopK_cont, loopK_brk, loopK_ret, loopK_exc, must_ok, List.set_cons_succ, List.set_cons_zero, List.getD_cons_succ, List.getD_cons_zero, vD_some, if_true, if_false, Bool.false_eq_true, reduceIte, List.map_cons, List.map_nil, List.length_cons, List.length_nil, List.cons_append, List.nil_append, List.replicate, Nat.reduceSub, Nat.reduceAdd, x_add, x_sub, x_cmp, x_eq_ii, x_ne_ii, x_int_i, x_len_t, x_len_l, x_tup_l, x_tup_t, x_list_l, x_list_t, x_dSl_t, x_dSl_l, x_items_t, x_items_l, x_tru_n, x_tru_b, x_tru_i, x_tru_t, x_tru_l, x_asB, x_is_n, x_isNot_n, isNon_n, isNon_i, isNon_s, isNon_t, isNon_l, isNon_b, Bool.not_true, Bool.not_false, List.length_map, fnE, startE] at lc2 ⊢; rw [lc2]; simp only [sSeq_x, x_min2, x_max2, x_eRg1, x_eMeth, x_eMake, x_sSet, x_sIf, x_sRet, x_sRetN, x_sPar, x_sUnp, resF_ok, x_sDrop, x_sNext, x_sBreak, x_sCont, x_sRaise, x_sAug, augK_ok, x_sFor, x_sWhile, sKill_x, x_wipe0, x_wipe1, x_evL0, x_evL1, x_setL0, x_setL1, x_eVar, x_eC, x_eOp, x_eUn, x_eCall, x_eMS, x_asStr, x_aNil, x_aCons, x_eTup, x_eLst, x_eIf, x_eNot, x_eAnd, x_eOr, x_bAnd, x_bOr, x_bNot, x_bYes, x_eSl, x_oNone, x_oSome, asI_int, x_iSeq, x_iCall, x_gfName, x_gfTup, eLc, noX_is, Res.bind_ok, Res.bind_exc, flow_ok, flow_exc, seqK_next, seqK_ret, seqK_exc, seqK_brk, seqK_cont, loopK_next, loopK_cont, loopK_brk, loopK_ret, loopK_exc, must_ok, List.set_cons_succ, List.set_cons_zero, List.getD_cons_succ, List.getD_cons_zero, vD_some, if_true, if_false, Bool.false_eq_true, reduceIte, List.map_cons, List.map_nil, List.length_cons, List.length_nil, List.cons_append, List.nil_append, List.replicate, Nat.reduceSub, Nat.reduceAdd, x_add, x_sub, x_cmp, x_eq_ii, x_ne_ii, x_int_i, x_len_t, x_len_l, x_tup_l, x_tup_t, x_list_l, x_list_t, x_dSl_t, x_dSl_l, x_items_t, x_items_l, x_tru_n, x_tru_b, x_tru_i, x_tru_t, x_tru_l, x_asB, x_is_n, x_isNot_n, isNon_n, isNon_i, isNon_s, isNon_t, isNon_l, isNon_b, Bool.not_true, Bool.not_false, List.length_map, fnE, startE, hs]; rfl) (by rw [List.length_map, sizeLine_eq]; omega)]
      unfold rwsD
      rw [List.map_append]
      rfl
    simp only [sSeq_x, x_min2, x_max2, x_eRg1, x_eMeth, x_eMake, x_sSet, x_sIf, x_sRet, x_sRetN, x_sPar, x_sUnp, resF_ok, x_sDrop, x_sNext, x_sBreak, x_sCont, x_sRaise, x_sAug, augK_ok, x_sFor, x_sWhile, sKill_x, x_wipe0, x_wipe1, x_evL0, x_evL1, x_setL0, x_setL1, x_eVar, x_eC, x_eOp, x_eUn, x_eCall, x_eMS, x_asStr, x_aNil, x_aCons, x_eTup, x_eLst, x_eIf, x_eNot, x_eAnd, x_eOr, x_bAnd, x_bOr, x_bNot, x_bYes, x_eSl, x_oNone, x_oSome, asI_int, x_iSeq, x_iCall, x_gfName, x_gfTup, eLc, noX_is, Res.bind_ok, Res.bind_exc, flow_ok, flow_exc, seqK_next, seqK_ret, seqK_exc, seqK_brk, seqK_cont, loopK_next, loopK_cont, loopK_brk, loopK_ret, loopK_exc, must_ok, List.set_cons_succ, List.set_cons_zero, List.getD_cons_succ, List.getD_cons_zero, vD_some, if_true, if_false, Bool.false_eq_true, reduceIte, List.map_cons, List.map_nil, List.length_cons, List.length_nil, List.cons_append, List.nil_append, List.replicate, Nat.reduceSub, Nat.reduceAdd, x_add, x_sub, x_cmp, x_eq_ii, x_ne_ii, x_int_i, x_len_t, x_len_l, x_tup_l, x_tup_t, x_list_l, x_list_t, x_dSl_t, x_dSl_l, x_items_t, x_items_l, x_tru_n, x_tru_b, x_tru_i, x_tru_t, x_tru_l, x_asB, x_is_n, x_isNot_n, isNon_n, isNon_i, isNon_s, isNon_t, isNon_l, isNon_b, Bool.not_true, Bool.not_false, List.length_map, fnE, startE, h1, x_mod _ _ (show (0 : Int) < 3 by decide), x_mod _ _ (show (0 : Int) < 2 by decide), x_mod _ _ (show (0 : Int) < 4 by decide), hm3, hm2, hm4] at lc1 ⊢
    have e4 : dIx (.lst [.int ((d % 3 : Nat) : Int), .int 1, .int ((1 + d % 2 : Nat) : Int), .int ((d % 4 : Nat) : Int)]) (.int (kind : Nat)) = .ok (.int (m : Nat)) := e1
    rw [e4]
    simp only [sSeq_x, x_min2, x_max2, x_eRg1, x_eMeth, x_eMake, x_sSet, x_sIf, x_sRet, x_sRetN, x_sPar, x_sUnp, resF_ok, x_sDrop, x_sNext, x_sBreak, x_sCont, x_sRaise, x_sAug, augK_ok, x_sFor, x_sWhile, sKill_x, x_wipe0, x_wipe1, x_evL0, x_evL1, x_setL0, x_setL1, x_eVar, x_eC, x_eOp, x_eUn, x_eCall, x_eMS, x_asStr, x_aNil, x_aCons, x_eTup, x_eLst, x_eIf, x_eNot, x_eAnd, x_eOr, x_bAnd, x_bOr, x_bNot, x_bYes, x_eSl, x_oNone, x_oSome, asI_int, x_iSeq, x_iCall, x_gfName, x_gfTup, eLc, noX_is, Res.bind_ok, Res.bind_exc, flow_ok, flow_exc, seqK_next, seqK_ret, seqK_exc, seqK_brk, seqK_cont, loopK_next, loopK_cont, loopK_brk, loopK_ret, loopK_exc, must_ok, List.set_cons_succ, List.set_cons_zero, List.getD_cons_succ, List.getD_cons_zero, vD_some, if_true, if_false, Bool.false_eq_true, reduceIte, List.map_cons, List.map_nil, List.length_cons, List.length_nil, List.cons_append, List.nil_append, List.replicate, Nat.reduceSub, Nat.reduceAdd, x_add, x_sub, x_cmp, x_eq_ii, x_ne_ii, x_int_i, x_len_t, x_len_l, x_tup_l, x_tup_t, x_list_l, x_list_t, x_dSl_t, x_dSl_l, x_items_t, x_items_l, x_tru_n, x_tru_b, x_tru_i, x_tru_t, x_tru_l, x_asB, x_is_n, x_isNot_n, isNon_n, isNon_i, isNon_s, isNon_t, isNon_l, isNon_b, Bool.not_true, Bool.not_false, List.length_map, fnE, startE, r1] at lc1 ⊢
    rw [lc1]
    simp only [sSeq_x, x_min2, x_max2, x_eRg1, x_eMeth, x_eMake, x_sSet, x_sIf, x_sRet, x_sRetN, x_sPar, x_sUnp, resF_ok, x_sDrop, x_sNext, x_sBreak, x_sCont, x_sRaise, x_sAug, augK_ok, x_sFor, x_sWhile, sKill_x, x_wipe0, x_wipe1, x_evL0, x_evL1, x_setL0, x_setL1, x_eVar, x_eC, x_eOp, x_eUn, x_eCall, x_eMS, x_asStr, x_aNil, x_aCons, x_eTup, x_eLst, x_eIf, x_eNot, x_eAnd, x_eOr, x_bAnd, x_bOr, x_bNot, x_bYes, x_eSl, x_oNone, x_oSome, asI_int, x_iSeq, x_iCall, x_gfName, x_gfTup, eLc, noX_is, Res.bind_ok, Res.bind_exc, flow_ok, flow_exc, seqK_next, seqK_ret, seqK_exc, seqK_brk, seqK_cont, loopK_next, loopK_cont, loopK_brk, loopK_ret, loopK_exc, must_ok, List.set_cons_succ, List.set_cons_zero, List.getD_cons_succ, List.getD_cons_zero, vD_some, if_true, if_false, Bool.false_eq_true, reduceIte, List.map_cons, List.map_nil, List.length_cons, List.length_nil, List.cons_append, List.nil_append, List.replicate, Nat.reduceSub, Nat.reduceAdd, x_add, x_sub, x_cmp, x_eq_ii, x_ne_ii, x_int_i, x_len_t, x_len_l, x_tup_l, x_tup_t, x_list_l, x_list_t, x_dSl_t, x_dSl_l, x_items_t, x_items_l, x_tru_n, x_tru_b, x_tru_i, x_tru_t, x_tru_l, x_asB, x_is_n, x_isNot_n, isNon_n, isNon_i, isNon_s, isNon_t, isNon_l, isNon_b, Bool.not_true, Bool.not_false, List.length_map, fnE, startE]
    rw [happ none none]
    simp only [sSeq_x, x_min2, x_max2, x_eRg1, x_eMeth, x_eMake, x_sSet, x_sIf, x_sRet, x_sRetN, x_sPar, x_sUnp, resF_ok, x_sDrop, x_sNext, x_sBreak, x_sCont, x_sRaise, x_sAug, augK_ok, x_sFor, x_sWhile, sKill_x, x_wipe0, x_wipe1, x_evL0, x_evL1, x_setL0, x_setL1, x_eVar, x_eC, x_eOp, x_eUn, x_eCall, x_eMS, x_asStr, x_aNil, x_aCons, x_eTup, x_eLst, x_eIf, x_eNot, x_eAnd, x_eOr, x_bAnd, x_bOr, x_bNot, x_bYes, x_eSl, x_oNone, x_oSome, asI_int, x_iSeq, x_iCall, x_gfName, x_gfTup, eLc, noX_is, Res.bind_ok, Res.bind_exc, flow_ok, flow_exc, seqK_next, seqK_ret, seqK_exc, seqK_brk, seqK_cont, loopK_next, loopK_cont, loopK_brk, loopK_ret, loopK_exc, must_ok, List.set_cons_succ, List.set_cons_zero, List.getD_cons_succ, List.getD_cons_zero, vD_some, if_true, if_false, Bool.false_eq_true, reduceIte, List.map_cons, List.map_nil, List.length_cons, List.length_nil, List.cons_append, List.nil_append, List.replicate, Nat.reduceSub, Nat.reduceAdd, x_add, x_sub, x_cmp, x_eq_ii, x_ne_ii, x_int_i, x_len_t, x_len_l, x_tup_l, x_tup_t, x_list_l, x_list_t, x_dSl_t, x_dSl_l, x_items_t, x_items_l, x_tru_n, x_tru_b, x_tru_i, x_tru_t, x_tru_l, x_asB, x_is_n, x_isNot_n, isNon_n, isNon_i, isNon_s, isNon_t, isNon_l, isNon_b, Bool.not_true, Bool.not_false, List.length_map, fnE, startE]
  · rw [mem, List.mem_map] at hx
    obtain ⟨n, _, rfl⟩ := hx
    omega
theorem names_step (dl : List Nat) (at_ k sz : Nat) (most kind : D) (rows : Option D) (Ns Lf : List Nat) (x12 : Option D) (hat : at_ + k < dl.length) (hk : k < sz) (hsz : sz ≤ 1000) (hN : Ns.length = k) (pm : (Ns ++ Lf).Perm (List.range sz)) :
    ∃ Ns' Lf' : List Nat, B__law_parents_2 [some (.lst (dl.map dN)), some (dN at_), some most, some (dN sz), some kind, rows, some (dN k), none, none, none, some (.lst (Ns.map dN)), some (.lst (Lf.map dN)), x12, none, none, none] =
      .next [some (.lst (dl.map dN)), some (dN at_), some most, some (dN sz), some kind, rows, none, none, none, none, some (.lst (Ns'.map dN)), some (.lst (Lf'.map dN)), none, none, none, none] ∧ Ns'.length = k + 1 ∧ (Ns' ++ Lf').Perm (List.range sz) := by
  have hl : Ns.length + Lf.length = sz := by
    have := pm.length_eq
    rw [List.length_append, List.length_range] at this
    exact this
  have hd : dl[at_ + k]? = some (dl.getD (at_ + k) 0) := by
    rw [List.getD_eq_getElem?_getD, List.getElem?_eq_getElem hat]
    rfl
  have hd0 : dl[at_]? = some (dl.getD at_ 0) := by
    rw [List.getD_eq_getElem?_getD, List.getElem?_eq_getElem (by omega)]
    rfl
  generalize dl.getD (at_ + k) 0 = d at hd
  generalize dl.getD at_ 0 = d0 at hd0
  have h1 : dIx (.lst (dl.map dN)) (.int ((at_ : Int) + k)) = .ok (.int (d : Nat)) := by
    have := dIx_lm (f := dN) hd
    simpa using this
  have h0 : dIx (.lst (dl.map dN)) (.int (at_ : Nat)) = .ok (.int (d0 : Nat)) := dIx_lm (f := dN) hd0
  have hlen : (0 : Int) < (Lf.length : Int) := by omega
  obtain ⟨j, hj, ej⟩ : ∃ j : Nat, j < Lf.length ∧ (if ((d0 : Int) / 7 % 2 == 0) = true then (d : Int) / 11 % (Lf.length : Int) else 0) = (j : Int) := by
    split
    · refine ⟨d / 11 % Lf.length, Nat.mod_lt _ (by omega), ?_⟩
      rw [Int.natCast_emod, Int.natCast_ediv]
      rfl
    · exact ⟨0, by omega, rfl⟩
  have hjl : Lf[j]? = some Lf[j] := List.getElem?_eq_getElem hj
  have h2 : dIx (.lst (Lf.map dN)) (.int (j : Nat)) = .ok (dN Lf[j]) := dIx_lm (f := dN) hjl
  have c1 : cut (Lf.map dN) none (some (j : Int)) = (Lf.take j).map dN := by rw [cut_map, cut_hi]
  have c2 : cut (Lf.map dN) (some ((j : Int) + 1)) none = (Lf.drop (j + 1)).map dN := by
    rw [cut_map, show (j : Int) + 1 = ((j + 1 : Nat) : Int) by omega, cut_lo]
  have ha : dAdd (.lst ((Lf.take j).map dN)) (.lst ((Lf.drop (j + 1)).map dN)) = .ok (.lst ((Lf.take j ++ Lf.drop (j + 1)).map dN)) := by
    rw [x_add_l, if_pos (by rw [List.length_map, List.length_map, List.length_take, List.length_drop, sizeLine_eq]; omega), List.map_append]
  refine ⟨Ns ++ [Lf[j]], Lf.take j ++ Lf.drop (j + 1), ?_, by simp [hN], ?_⟩
  · have happ : sAppend 10 (eOp dIx (eVar 11) (eVar 12)) [some (.lst (dl.map dN)), some (dN at_), some most, some (dN sz), some kind, rows, some (dN k), none, none, none, some (.lst (Ns.map dN)), some (.lst (Lf.map dN)), some (.int (j : Nat)), none, none, none] =
        .next [some (.lst (dl.map dN)), some (dN at_), some most, some (dN sz), some kind, rows, some (dN k), none, none, none, some (.lst ((Ns ++ [Lf[j]]).map dN)), some (.lst (Lf.map dN)), some (.int (j : Nat)), none, none, none] := by
      rw [app_ok (xs := Ns.map dN) (d := dN Lf[j]) rfl (by simp only [sSeq_x, x_min2, x_max2, x_eRg1, x_eMeth, x_eMake, x_sSet, x_sIf, x_sRet, x_sRetN, x_sPar, x_sUnp, resF_ok, x_sDrop, x_sNext, x_sBreak, x_sCont, x_sRaise, x_sAug, augK_ok, x_sFor, x_sWhile, sKill_x, x_wipe0, x_wipe1, x_evL0, x_evL1, x_setL0, x_setL1, x_eVar, x_eC, x_eOp, x_eUn, x_eCall, x_eMS, x_asStr, x_aNil, x_aCons, x_eTup, x_eLst, x_eIf, x_eNot, x_eAnd, x_eOr, x_bAnd, x_bOr, x_bNot, x_bYes, x_eSl, x_oNone, x_oSome, asI_int, x_iSeq, x_iCall, x_gfName, x_gfTup, eLc, noX_is, Res.bind_ok, Res.bind_exc, flow_ok, flow_exc, seqK_next, seqK_ret, seqK_exc, seqK_brk, seqK_cont, loopK_next, loopK_cont, loopK_brk, loopK_ret, loopK_exc, must_ok, List.set_cons_succ, List.set_cons_zero, List.getD_cons_succ, List.getD_cons_zero, vD_some, if_true, if_false, Bool.false_eq_true, reduceIte, List.map_cons, List.map_nil, List.length_cons, List.length_nil, List.cons_append, List.nil_append, List.replicate, Nat.reduceSub, Nat.reduceAdd, x_add, x_sub, x_cmp, x_eq_ii, x_ne_ii, x_int_i, x_len_t, x_len_l, x_tup_l, x_tup_t, x_list_l, x_list_t, x_dSl_t, x_dSl_l, x_items_t, x_items_l, x_tru_n, x_tru_b, x_tru_i, x_tru_t, x_tru_l, x_asB, x_is_n, x_isNot_n, isNon_n, isNon_i, isNon_s, isNon_t, isNon_l, isNon_b, Bool.not_true, Bool.not_false, List.length_map, fnE, startE, h2]) (by rw [List.length_map, sizeLine_eq]; omega), List.map_append]
      rfl
    unfold B__law_parents_2
    have hif : (eIf (eUn asB (eOp (dEq) (eOp dMod (eOp dDiv (eCall fInt (aCons (eOp dIx (eVar 0) (eVar 1)) aNil)) (eC (.int 7))) (eC (.int 2))) (eC (.int 0)))) (eOp dMod (eOp dDiv (eCall fInt (aCons (eOp dIx (eVar 0) (eOp dAdd (eVar 1) (eVar 6))) aNil)) (eC (.int 11))) (eCall fLen (aCons (eVar 11) aNil))) (eC (.int 0)))
        [some (.lst (dl.map dN)), some (dN at_), some most, some (dN sz), some kind, rows, some (dN k), none, none, none, some (.lst (Ns.map dN)), some (.lst (Lf.map dN)), x12, none, none, none] = .ok (.int (j : Nat)) := by
      rw [← ej]
      simp only [sSeq_x, x_min2, x_max2, x_eRg1, x_eMeth, x_eMake, x_sSet, x_sIf, x_sRet, x_sRetN, x_sPar, x_sUnp, resF_ok, x_sDrop, x_sNext, x_sBreak, x_sCont, x_sRaise, x_sAug, augK_ok, x_sFor, x_sWhile, sKill_x, x_wipe0, x_wipe1, x_evL0, x_evL1, x_setL0, x_setL1, x_eVar, x_eC, x_eOp, x_eUn, x_eCall, x_eMS, x_asStr, x_aNil, x_aCons, x_eTup, x_eLst, x_eIf, x_eNot, x_eAnd, x_eOr, x_bAnd, x_bOr, x_bNot, x_bYes, x_eSl, x_oNone, x_oSome, asI_int, x_iSeq, x_iCall, x_gfName, x_gfTup, eLc, noX_is, Res.bind_ok, Res.bind_exc, flow_ok, flow_exc, seqK_next, seqK_ret, seqK_exc, seqK_brk, seqK_cont, loopK_next, loopK_cont, loopK_brk, loopK_ret, loopK_exc, must_ok, List.set_cons_succ, List.set_cons_zero, List.getD_cons_succ, List.getD_cons_zero, vD_some, if_true, if_false, Bool.false_eq_true, reduceIte, List.map_cons, List.map_nil, List.length_cons, List.length_nil, List.cons_append, List.nil_append, List.replicate, Nat.reduceSub, Nat.reduceAdd, x_add, x_sub, x_cmp, x_eq_ii, x_ne_ii, x_int_i, x_len_t, x_len_l, x_tup_l, x_tup_t, x_list_l, x_list_t, x_dSl_t, x_dSl_l, x_items_t, x_items_l, x_tru_n, x_tru_b, x_tru_i, x_tru_t, x_tru_l, x_asB, x_is_n, x_isNot_n, isNon_n, isNon_i, isNon_s, isNon_t, isNon_l, isNon_b, Bool.not_true, Bool.not_false, List.length_map, fnE, startE, dN_def, h0, h1, dDiv_i _ 7 (by decide), dDiv_i _ 11 (by decide), x_mod _ 2 (by decide), x_mod _ _ hlen]
      split <;> rfl
    simp only [sSeq_x, x_sSet, hif, flow_ok, seqK_next]
    simp only [sSeq_x, x_min2, x_max2, x_eRg1, x_eMeth, x_eMake, x_sSet, x_sIf, x_sRet, x_sRetN, x_sPar, x_sUnp, resF_ok, x_sDrop, x_sNext, x_sBreak, x_sCont, x_sRaise, x_sAug, augK_ok, x_sFor, x_sWhile, sKill_x, x_wipe0, x_wipe1, x_evL0, x_evL1, x_setL0, x_setL1, x_eVar, x_eC, x_eOp, x_eUn, x_eCall, x_eMS, x_asStr, x_aNil, x_aCons, x_eTup, x_eLst, x_eIf, x_eNot, x_eAnd, x_eOr, x_bAnd, x_bOr, x_bNot, x_bYes, x_eSl, x_oNone, x_oSome, asI_int, x_iSeq, x_iCall, x_gfName, x_gfTup, eLc, noX_is, Res.bind_ok, Res.bind_exc, flow_ok, flow_exc, seqK_next, seqK_ret, seqK_exc, seqK_brk, seqK_cont, loopK_next, loopK_cont, loopK_brk, loopK_ret, loopK_exc, must_ok, List.set_cons_succ, List.set_cons_zero, List.getD_cons_succ, List.getD_cons_zero, vD_some, if_true, if_false, Bool.false_eq_true, reduceIte, List.map_cons, List.map_nil, List.length_cons, List.length_nil, List.cons_append, List.nil_append, List.replicate, Nat.reduceSub, Nat.reduceAdd, x_add, x_sub, x_cmp, x_eq_ii, x_ne_ii, x_int_i, x_len_t, x_len_l, x_tup_l, x_tup_t, x_list_l, x_list_t, x_dSl_t, x_dSl_l, x_items_t, x_items_l, x_tru_n, x_tru_b, x_tru_i, x_tru_t, x_tru_l, x_asB, x_is_n, x_isNot_n, isNon_n, isNon_i, isNon_s, isNon_t, isNon_l, isNon_b, Bool.not_true, Bool.not_false, List.length_map, fnE, startE]
    rw [happ]
    simp only [sSeq_x, x_min2, x_max2, x_eRg1, x_eMeth, x_eMake, x_sSet, x_sIf, x_sRet, x_sRetN, x_sPar, x_sUnp, resF_ok, x_sDrop, x_sNext, x_sBreak, x_sCont, x_sRaise, x_sAug, augK_ok, x_sFor, x_sWhile, sKill_x, x_wipe0, x_wipe1, x_evL0, x_evL1, x_setL0, x_setL1, x_eVar, x_eC, x_eOp, x_eUn, x_eCall, x_eMS, x_asStr, x_aNil, x_aCons, x_eTup, x_eLst, x_eIf, x_eNot, x_eAnd, x_eOr, x_bAnd, x_bOr, x_bNot, x_bYes, x_eSl, x_oNone, x_oSome, asI_int, x_iSeq, x_iCall, x_gfName, x_gfTup, eLc, noX_is, Res.bind_ok, Res.bind_exc, flow_ok, flow_exc, seqK_next, seqK_ret, seqK_exc, seqK_brk, seqK_cont, loopK_next, loopK_cont, loopK_brk, loopK_ret, loopK_exc, must_ok, List.set_cons_succ, List.set_cons_zero, List.getD_cons_succ, List.getD_cons_zero, vD_some, if_true, if_false, Bool.false_eq_true, reduceIte, List.map_cons, List.map_nil, List.length_cons, List.length_nil, List.cons_append, List.nil_append, List.replicate, Nat.reduceSub, Nat.reduceAdd, x_add, x_sub, x_cmp, x_eq_ii, x_ne_ii, x_int_i, x_len_t, x_len_l, x_tup_l, x_tup_t, x_list_l, x_list_t, x_dSl_t, x_dSl_l, x_items_t, x_items_l, x_tru_n, x_tru_b, x_tru_i, x_tru_t, x_tru_l, x_asB, x_is_n, x_isNot_n, isNon_n, isNon_i, isNon_s, isNon_t, isNon_l, isNon_b, Bool.not_true, Bool.not_false, List.length_map, fnE, startE, c1, c2, ha]
  · have e : Lf.Perm (Lf[j] :: (Lf.take j ++ Lf.drop (j + 1))) := by
      have : Lf = Lf.take j ++ Lf[j] :: Lf.drop (j + 1) := by
        conv => lhs; rw [← List.take_append_drop j Lf]
        rw [List.drop_eq_getElem_cons hj]
      conv => lhs; rw [this]
      exact List.perm_middle
    rw [List.append_assoc]
    exact ((List.Perm.refl Ns).append e.symm).trans pm
theorem sorted_img (row Ns : List Nat) (nd : row.Nodup) (nN : Ns.Nodup) (h : ∀ x ∈ row, x < Ns.length) : ∃ l : List Nat, fSorted [.lst ((row.map fun x => Ns.getD x 0).map dN)] = .ok (.lst (l.map dN)) ∧ l.Pairwise (· < ·) ∧ ∀ a, a ∈ l ↔ ∃ x ∈ row, Ns.getD x 0 = a := by
  obtain ⟨l, _, pw, mem⟩ := srtU_nat (row.map fun x => Ns.getD x 0)
  have inj : ∀ x ∈ row, ∀ y ∈ row, Ns.getD x 0 = Ns.getD y 0 → x = y := fun x hx y hy e => by
    rw [List.getD_eq_getElem?_getD, List.getD_eq_getElem?_getD, List.getElem?_eq_getElem (h x hx), List.getElem?_eq_getElem (h y hy)] at e
    exact (List.getElem_inj nN).mp e
  have nd2 : (row.map fun x => Ns.getD x 0).Nodup := List.pairwise_map.mpr (nd.imp_of_mem fun {a b} ha hb ne q => ne (inj a ha b hb q))
  refine ⟨l, sortN (l := []) ((List.perm_ext_iff_of_nodup nd2 (pw.imp fun {a b} q e => by omega)).mpr fun a => (mem a).symm) pw, pw, fun a => by rw [mem, List.mem_map]⟩
theorem found_step (dl : List Nat) (at_ k sz : Nat) (most kind : D) (R G : PP) (Ns : List Nat) (hk : k < sz) (hsz : sz ≤ 1000) (hN : Ns.length = sz) (nN : Ns.Nodup) (lN : ∀ a ∈ Ns, a < sz) (hR : R.length = sz) (hG : G.length = sz)
    (hr1 : (R.getD k []).Pairwise (· < ·)) (hr2 : ∀ x ∈ R.getD k [], x < k) :
    ∃ l : List Nat, B__law_parents_3 [some (.lst (dl.map dN)), some (dN at_), some most, some (dN sz), some kind, some (rwsD R), some (dN k), none, none, none, some (.lst (Ns.map dN)), none, none, some (.lst (G.map rowD)), none, none] =
      .next [some (.lst (dl.map dN)), some (dN at_), some most, some (dN sz), some kind, some (rwsD R), none, none, none, none, some (.lst (Ns.map dN)), none, none, some (.lst ((G.set (Ns.getD k 0) l).map rowD)), none, none] ∧ l.Pairwise (· < ·) ∧ ∀ a, a ∈ l ↔ ∃ x ∈ R.getD k [], Ns.getD x 0 = a := by
  obtain ⟨l, hs, pw, mem⟩ := sorted_img (R.getD k []) Ns (hr1.imp fun {a b} q e => by omega) nN fun x hx => by have := hr2 x hx; omega
  refine ⟨l, ?_, pw, mem⟩
  have hNk : Ns[k]? = some (Ns.getD k 0) := by
    rw [List.getD_eq_getElem?_getD, List.getElem?_eq_getElem (by omega)]
    rfl
  have hRk : R[k]? = some (R.getD k []) := by
    rw [List.getD_eq_getElem?_getD, List.getElem?_eq_getElem (by omega)]
    rfl
  have h1 : dIx (rwsD R) (.int (k : Nat)) = .ok (rowD (R.getD k [])) := dIx_lm (f := rowD) hRk
  have h2 : dIx (.lst (Ns.map dN)) (.int (k : Nat)) = .ok (dN (Ns.getD k 0)) := dIx_lm (f := dN) hNk
  have lc := lc_fun (gf := gfName 15) (f := eOp dIx (eVar 10) (eVar 15)) (ρ := [some (.lst (dl.map dN)), some (dN at_), some most, some (dN sz), some kind, some (rwsD R), some (dN k), none, none, none, some (.lst (Ns.map dN)), none, none, some (.lst (G.map rowD)), none, none]) (e := dN) (g := fun x => dN (Ns.getD x 0)) (xs := R.getD k []) fun x hx => by
    have hx2 := hr2 x hx
    have : dIx (.lst (Ns.map dN)) (.int (x : Nat)) = .ok (dN (Ns.getD x 0)) := dIx_lm (f := dN) (by
      rw [List.getD_eq_getElem?_getD, List.getElem?_eq_getElem (by omega)]
      rfl)
    exact ⟨_, rfl, by simp only [sSeq_x, x_min2, x_max2, x_eRg1, x_eMeth, x_eMake, x_sSet, x_sIf, x_sRet, x_sRetN, x_sPar, x_sUnp, resF_ok, x_sDrop, x_sNext, x_sBreak, x_sCont, x_sRaise, x_sAug, augK_ok, x_sFor, x_sWhile, sKill_x, x_wipe0, x_wipe1, x_evL0, x_evL1, x_setL0, x_setL1, x_eVar, x_eC, x_eOp, x_eUn, x_eCall, x_eMS, x_asStr, x_aNil, x_aCons, x_eTup, x_eLst, x_eIf, x_eNot, x_eAnd, x_eOr, x_bAnd, x_bOr, x_bNot, x_bYes, x_eSl, x_oNone, x_oSome, asI_int, x_iSeq, x_iCall, x_gfName, x_gfTup, eLc, noX_is, Res.bind_ok, Res.bind_exc, flow_ok, flow_exc, seqK_next, seqK_ret, seqK_exc, seqK_brk, seqK_cont, loopK_next, loopK_cont, loopK_brk, loopK_ret, loopK_exc, must_ok, List.set_cons_succ, List.set_cons_zero, List.getD_cons_succ, List.getD_cons_zero, vD_some, if_true, if_false, Bool.false_eq_true, reduceIte, List.map_cons, List.map_nil, List.length_cons, List.length_nil, List.cons_append, List.nil_append, List.replicate, Nat.reduceSub, Nat.reduceAdd, x_add, x_sub, x_cmp, x_eq_ii, x_ne_ii, x_int_i, x_len_t, x_len_l, x_tup_l, x_tup_t, x_list_l, x_list_t, x_dSl_t, x_dSl_l, x_items_t, x_items_l, x_tru_n, x_tru_b, x_tru_i, x_tru_t, x_tru_l, x_asB, x_is_n, x_isNot_n, isNon_n, isNon_i, isNon_s, isNon_t, isNon_l, isNon_b, Bool.not_true, Bool.not_false, List.length_map, fnE, startE, dN_def, this]⟩
  have hput := put_L (i := 13) (n := Ns.getD k 0) (f := eCall fTuple (aCons (eCall fSorted (aCons (eLc (iSeq (eOp dIx (eVar 5) (eVar 6))) [15] (gfName 15) bYes (eOp dIx (eVar 10) (eVar 15))) aNil)) aNil)) (fj := eOp dIx (eVar 10) (eVar 6))
    (ρ := [some (.lst (dl.map dN)), some (dN at_), some most, some (dN sz), some kind, some (rwsD R), some (dN k), none, none, none, some (.lst (Ns.map dN)), none, none, some (.lst (G.map rowD)), none, none]) (xs := G.map rowD) (d := rowD l) rfl (by
      simp only [sSeq_x, x_min2, x_max2, x_eRg1, x_eMeth, x_eMake, x_sSet, x_sIf, x_sRet, x_sRetN, x_sPar, x_sUnp, resF_ok, x_sDrop, x_sNext, x_sBreak, x_sCont, x_sRaise, x_sAug, augK_ok, x_sFor, x_sWhile, sKill_x, x_wipe0, x_wipe1, x_evL0, x_evL1, x_setL0, x_setL1, x_eVar, x_eC, x_eOp, x_eUn, x_eCall, x_eMS, x_asStr, x_aNil, x_aCons, x_eTup, x_eLst, x_eIf, x_eNot, x_eAnd, x_eOr, x_bAnd, x_bOr, x_bNot, x_bYes, x_eSl, x_oNone, x_oSome, asI_int, x_iSeq, x_iCall, x_gfName, x_gfTup, eLc, noX_is, Res.bind_ok, Res.bind_exc, flow_ok, flow_exc, seqK_next, seqK_ret, seqK_exc, seqK_brk, seqK_cont, loopK_next, loopK_cont, loopK_brk, loopK_ret, loopK_exc, must_ok, List.set_cons_succ, List.set_cons_zero, List.getD_cons_succ, List.getD_cons_zero, vD_some, if_true, if_false, Bool.false_eq_true, reduceIte, List.map_cons, List.map_nil, List.length_cons, List.length_nil, List.cons_append, List.nil_append, List.replicate, Nat.reduceSub, Nat.reduceAdd, x_add, x_sub, x_cmp, x_eq_ii, x_ne_ii, x_int_i, x_len_t, x_len_l, x_tup_l, x_tup_t, x_list_l, x_list_t, x_dSl_t, x_dSl_l, x_items_t, x_items_l, x_tru_n, x_tru_b, x_tru_i, x_tru_t, x_tru_l, x_asB, x_is_n, x_isNot_n, isNon_n, isNon_i, isNon_s, isNon_t, isNon_l, isNon_b, Bool.not_true, Bool.not_false, List.length_map, fnE, startE, dN_def, h1, rowD] at lc ⊢
      rw [lc]
      rw [List.map_map] at hs
      simp only [sSeq_x, x_min2, x_max2, x_eRg1, x_eMeth, x_eMake, x_sSet, x_sIf, x_sRet, x_sRetN, x_sPar, x_sUnp, resF_ok, x_sDrop, x_sNext, x_sBreak, x_sCont, x_sRaise, x_sAug, augK_ok, x_sFor, x_sWhile, sKill_x, x_wipe0, x_wipe1, x_evL0, x_evL1, x_setL0, x_setL1, x_eVar, x_eC, x_eOp, x_eUn, x_eCall, x_eMS, x_asStr, x_aNil, x_aCons, x_eTup, x_eLst, x_eIf, x_eNot, x_eAnd, x_eOr, x_bAnd, x_bOr, x_bNot, x_bYes, x_eSl, x_oNone, x_oSome, asI_int, x_iSeq, x_iCall, x_gfName, x_gfTup, eLc, noX_is, Res.bind_ok, Res.bind_exc, flow_ok, flow_exc, seqK_next, seqK_ret, seqK_exc, seqK_brk, seqK_cont, loopK_next, loopK_cont, loopK_brk, loopK_ret, loopK_exc, must_ok, List.set_cons_succ, List.set_cons_zero, List.getD_cons_succ, List.getD_cons_zero, vD_some, if_true, if_false, Bool.false_eq_true, reduceIte, List.map_cons, List.map_nil, List.length_cons, List.length_nil, List.cons_append, List.nil_append, List.replicate, Nat.reduceSub, Nat.reduceAdd, x_add, x_sub, x_cmp, x_eq_ii, x_ne_ii, x_int_i, x_len_t, x_len_l, x_tup_l, x_tup_t, x_list_l, x_list_t, x_dSl_t, x_dSl_l, x_items_t, x_items_l, x_tru_n, x_tru_b, x_tru_i, x_tru_t, x_tru_l, x_asB, x_is_n, x_isNot_n, isNon_n, isNon_i, isNon_s, isNon_t, isNon_l, isNon_b, Bool.not_true, Bool.not_false, List.length_map, fnE, startE, Function.comp_def, dN_def] at hs ⊢
      rw [hs]
      simp only [sSeq_x, x_min2, x_max2, x_eRg1, x_eMeth, x_eMake, x_sSet, x_sIf, x_sRet, x_sRetN, x_sPar, x_sUnp, resF_ok, x_sDrop, x_sNext, x_sBreak, x_sCont, x_sRaise, x_sAug, augK_ok, x_sFor, x_sWhile, sKill_x, x_wipe0, x_wipe1, x_evL0, x_evL1, x_setL0, x_setL1, x_eVar, x_eC, x_eOp, x_eUn, x_eCall, x_eMS, x_asStr, x_aNil, x_aCons, x_eTup, x_eLst, x_eIf, x_eNot, x_eAnd, x_eOr, x_bAnd, x_bOr, x_bNot, x_bYes, x_eSl, x_oNone, x_oSome, asI_int, x_iSeq, x_iCall, x_gfName, x_gfTup, eLc, noX_is, Res.bind_ok, Res.bind_exc, flow_ok, flow_exc, seqK_next, seqK_ret, seqK_exc, seqK_brk, seqK_cont, loopK_next, loopK_cont, loopK_brk, loopK_ret, loopK_exc, must_ok, List.set_cons_succ, List.set_cons_zero, List.getD_cons_succ, List.getD_cons_zero, vD_some, if_true, if_false, Bool.false_eq_true, reduceIte, List.map_cons, List.map_nil, List.length_cons, List.length_nil, List.cons_append, List.nil_append, List.replicate, Nat.reduceSub, Nat.reduceAdd, x_add, x_sub, x_cmp, x_eq_ii, x_ne_ii, x_int_i, x_len_t, x_len_l, x_tup_l, x_tup_t, x_list_l, x_list_t, x_dSl_t, x_dSl_l, x_items_t, x_items_l, x_tru_n, x_tru_b, x_tru_i, x_tru_t, x_tru_l, x_asB, x_is_n, x_isNot_n, isNon_n, isNon_i, isNon_s, isNon_t, isNon_l, isNon_b, Bool.not_true, Bool.not_false, List.length_map, fnE, startE]) (by simp only [sSeq_x, x_min2, x_max2, x_eRg1, x_eMeth, x_eMake, x_sSet, x_sIf, x_sRet, x_sRetN, x_sPar, x_sUnp, resF_ok, x_sDrop, x_sNext, x_sBreak, x_sCont, x_sRaise, x_sAug, augK_ok, x_sFor, x_sWhile, sKill_x, x_wipe0, x_wipe1, x_evL0, x_evL1, x_setL0, x_setL1, x_eVar, x_eC, x_eOp, x_eUn, x_eCall, x_eMS, x_asStr, x_aNil, x_aCons, x_eTup, x_eLst, x_eIf, x_eNot, x_eAnd, x_eOr, x_bAnd, x_bOr, x_bNot, x_bYes, x_eSl, x_oNone, x_oSome, asI_int, x_iSeq, x_iCall, x_gfName, x_gfTup, eLc, noX_is, Res.bind_ok, Res.bind_exc, flow_ok, flow_exc, seqK_next, seqK_ret, seqK_exc, seqK_brk, seqK_cont, loopK_next, loopK_cont, loopK_brk, loopK_ret, loopK_exc, must_ok, List.set_cons_succ, List.set_cons_zero, List.getD_cons_succ, List.getD_cons_zero, vD_some, if_true, if_false, Bool.false_eq_true, reduceIte, List.map_cons, List.map_nil, List.length_cons, List.length_nil, List.cons_append, List.nil_append, List.replicate, Nat.reduceSub, Nat.reduceAdd, x_add, x_sub, x_cmp, x_eq_ii, x_ne_ii, x_int_i, x_len_t, x_len_l, x_tup_l, x_tup_t, x_list_l, x_list_t, x_dSl_t, x_dSl_l, x_items_t, x_items_l, x_tru_n, x_tru_b, x_tru_i, x_tru_t, x_tru_l, x_asB, x_is_n, x_isNot_n, isNon_n, isNon_i, isNon_s, isNon_t, isNon_l, isNon_b, Bool.not_true, Bool.not_false, List.length_map, fnE, startE, dN_def, h2]) (by rw [List.length_map, hG]; exact lN _ (List.mem_of_getElem? hNk))
  unfold B__law_parents_3
  rw [show (G.map rowD).set (Ns.getD k 0) (rowD l) = (G.set (Ns.getD k 0) l).map rowD from by rw [List.map_set]] at hput
  simp only [sSeq_x]
  rw [hput]
  simp only [sSeq_x, x_min2, x_max2, x_eRg1, x_eMeth, x_eMake, x_sSet, x_sIf, x_sRet, x_sRetN, x_sPar, x_sUnp, resF_ok, x_sDrop, x_sNext, x_sBreak, x_sCont, x_sRaise, x_sAug, augK_ok, x_sFor, x_sWhile, sKill_x, x_wipe0, x_wipe1, x_evL0, x_evL1, x_setL0, x_setL1, x_eVar, x_eC, x_eOp, x_eUn, x_eCall, x_eMS, x_asStr, x_aNil, x_aCons, x_eTup, x_eLst, x_eIf, x_eNot, x_eAnd, x_eOr, x_bAnd, x_bOr, x_bNot, x_bYes, x_eSl, x_oNone, x_oSome, asI_int, x_iSeq, x_iCall, x_gfName, x_gfTup, eLc, noX_is, Res.bind_ok, Res.bind_exc, flow_ok, flow_exc, seqK_next, seqK_ret, seqK_exc, seqK_brk, seqK_cont, loopK_next, loopK_cont, loopK_brk, loopK_ret, loopK_exc, must_ok, List.set_cons_succ, List.set_cons_zero, List.getD_cons_succ, List.getD_cons_zero, vD_some, if_true, if_false, Bool.false_eq_true, reduceIte, List.map_cons, List.map_nil, List.length_cons, List.length_nil, List.cons_append, List.nil_append, List.replicate, Nat.reduceSub, Nat.reduceAdd, x_add, x_sub, x_cmp, x_eq_ii, x_ne_ii, x_int_i, x_len_t, x_len_l, x_tup_l, x_tup_t, x_list_l, x_list_t, x_dSl_t, x_dSl_l, x_items_t, x_items_l, x_tru_n, x_tru_b, x_tru_i, x_tru_t, x_tru_l, x_asB, x_is_n, x_isNot_n, isNon_n, isNon_i, isNon_s, isNon_t, isNon_l, isNon_b, Bool.not_true, Bool.not_false, List.length_map, fnE, startE]
theorem parents_ok (dl : List Nat) (at_ most : Nat) (h : at_ + most ≤ dl.length) (h1 : 1 ≤ most) (h40 : most ≤ 40) :
    ∃ (P : PP) (r : Nat → Nat), C__law_parents [.lst (dl.map dN), dN at_, dN most] = .ok (parD P) ∧ VP P ∧ P.length = 1 + dl.getD at_ 0 % most ∧ ∀ i row, P[i]? = some row → ∀ x ∈ row, r x < r i := by
  have hd0 : dl[at_]? = some (dl.getD at_ 0) := by
    rw [List.getD_eq_getElem?_getD, List.getElem?_eq_getElem (by omega)]
    rfl
  generalize hg : dl.getD at_ 0 = d0 at hd0
  have h0 : dIx (.lst (dl.map dN)) (.int (at_ : Nat)) = .ok (.int (d0 : Nat)) := dIx_lm (f := dN) hd0
  have hsm : d0 % most < most := Nat.mod_lt _ h1
  generalize hsz : 1 + d0 % most = sz
  generalize hkd : d0 / most % 4 = kd
  have hkd4 : kd < 4 := by omega
  have hsz1 : 1 ≤ sz := by omega
  have hsz2 : sz ≤ most := by omega
  -- the rows
  obtain ⟨ρ1, e1, x6, R, rfl, hR, hrow⟩ := for_inv (gf := gfName 6) (F := B__law_parents_1) (ds := (List.range (sz - 1)).map fun i => D.int ((i + 1 : Nat) : Int)) (n := 0)
    (ρ := [some (.lst (dl.map dN)), some (dN at_), some (dN most), some (dN sz), some (dN kd), some (rwsD [[]]), none, none, none, none, none, none, none, none, none, none])
    (P := fun m ρ => ∃ (x6 : Option D) (R : PP), ρ = [some (.lst (dl.map dN)), some (dN at_), some (dN most), some (dN sz), some (dN kd), some (rwsD R), x6, none, none, none, none, none, none, none, none, none] ∧ R.length = m + 1 ∧ ∀ k, k < m + 1 → (R.getD k []).Pairwise (· < ·) ∧ ∀ x ∈ R.getD k [], x < k)
    ⟨none, [[]], rfl, rfl, fun k hk => by
      have : k = 0 := by omega
      subst this
      exact ⟨.nil, fun x hx => nomatch hx⟩⟩ (fun i d hi ρ hp => by
      obtain ⟨x6, R, rfl, hR, hrow⟩ := hp
      have hi2 := (List.getElem?_eq_some_iff.mp hi).1
      simp at hi2
      have hd : d = .int ((i + 1 : Nat) : Int) := by
        rw [List.getElem?_map, List.getElem?_range hi2] at hi
        exact (Option.some.inj hi).symm
      subst hd
      obtain ⟨row, e, pw, lt⟩ := prow_ok dl at_ kd (i + 1) (dN most) (dN sz) R none none none none none none none (by omega) (by omega) (by omega) hkd4 (by omega)
      refine ⟨_, _, rfl, .inl e, none, R ++ [row], rfl, by simp; omega, fun k hk => ?_⟩
      by_cases q : k < R.length
      · rw [List.getD_eq_getElem?_getD, List.getElem?_append_left q, ← List.getD_eq_getElem?_getD]
        exact hrow k (by omega)
      · have : k = R.length := by omega
        subst this
        rw [List.getD_eq_getElem?_getD, List.getElem?_append_right (Nat.le_refl _)]
        simp only [Nat.sub_self, List.getElem?_cons_zero, Option.getD_some]
        exact ⟨pw, fun x hx => by have := lt x hx; omega⟩)
  simp only [List.length_map, List.length_range, Nat.zero_add] at hR hrow
  rw [show sz - 1 + 1 = sz by omega] at hR hrow
  -- the names
  obtain ⟨ρ2, e2, x6', x12, Ns, Lf, rfl, hN, pm⟩ := for_inv (gf := gfName 6) (F := B__law_parents_2) (ds := (List.range sz).map fun i => D.int (i : Nat)) (n := 0)
    (ρ := [some (.lst (dl.map dN)), some (dN at_), some (dN most), some (dN sz), some (dN kd), some (rwsD R), none, none, none, none, some (.lst []), some (.lst ((List.range sz).map fun i => D.int (i : Nat))), none, none, none, none])
    (P := fun m ρ => ∃ (x6 x12 : Option D) (Ns Lf : List Nat), ρ = [some (.lst (dl.map dN)), some (dN at_), some (dN most), some (dN sz), some (dN kd), some (rwsD R), x6, none, none, none, some (.lst (Ns.map dN)), some (.lst (Lf.map dN)), x12, none, none, none] ∧ Ns.length = m ∧ (Ns ++ Lf).Perm (List.range sz))
    ⟨none, none, [], List.range sz, rfl, rfl, List.Perm.refl _⟩ (fun i d hi ρ hp => by
      obtain ⟨x6, x12, Ns, Lf, rfl, hN, pm⟩ := hp
      have hi2 := (List.getElem?_eq_some_iff.mp hi).1
      simp at hi2
      have hd : d = .int (i : Nat) := by
        rw [List.getElem?_map, List.getElem?_range hi2] at hi
        exact (Option.some.inj hi).symm
      subst hd
      obtain ⟨Ns', Lf', e, hN', pm'⟩ := names_step dl at_ i sz (dN most) (dN kd) (some (rwsD R)) Ns Lf x12 (by omega) hi2 (by omega) (by omega) pm
      exact ⟨_, _, rfl, .inl e, none, none, Ns', Lf', rfl, by omega, pm'⟩)
  simp only [List.length_map, List.length_range, Nat.zero_add] at hN
  have hLf : Lf = [] := by
    have := pm.length_eq
    rw [List.length_append, List.length_range, hN] at this
    exact List.length_eq_zero_iff.mp (by omega)
  subst hLf
  rw [List.append_nil] at pm
  have nN : Ns.Nodup := pm.nodup_iff.mpr List.nodup_range
  have lN : ∀ a, a ∈ Ns ↔ a < sz := fun a => by rw [pm.mem_iff, List.mem_range]
  -- the parents
  obtain ⟨ρ3, e3, x6'', G, rfl, hG, hG2⟩ := for_inv (gf := gfName 6) (F := B__law_parents_3) (ds := (List.range sz).map fun i => D.int (i : Nat)) (n := 0)
    (ρ := [some (.lst (dl.map dN)), some (dN at_), some (dN most), some (dN sz), some (dN kd), some (rwsD R), none, none, none, none, some (.lst (Ns.map dN)), none, none, some (.lst (List.replicate sz (.tup []))), none, none])
    (P := fun m ρ => ∃ (x6 : Option D) (G : PP), ρ = [some (.lst (dl.map dN)), some (dN at_), some (dN most), some (dN sz), some (dN kd), some (rwsD R), x6, none, none, none, some (.lst (Ns.map dN)), none, none, some (.lst (G.map rowD)), none, none] ∧ G.length = sz ∧
      ∀ k, k < m → (G.getD (Ns.getD k 0) []).Pairwise (· < ·) ∧ ∀ a, a ∈ G.getD (Ns.getD k 0) [] ↔ ∃ x ∈ R.getD k [], Ns.getD x 0 = a)
    ⟨none, List.replicate sz [], by rw [List.map_replicate]; rfl, List.length_replicate, fun k hk => by omega⟩ (fun i d hi ρ hp => by
      obtain ⟨x6, G, rfl, hG, hG2⟩ := hp
      have hi2 := (List.getElem?_eq_some_iff.mp hi).1
      simp at hi2
      have hd : d = .int (i : Nat) := by
        rw [List.getElem?_map, List.getElem?_range hi2] at hi
        exact (Option.some.inj hi).symm
      subst hd
      obtain ⟨l, e, pw, mem⟩ := found_step dl at_ i sz (dN most) (dN kd) R G Ns hi2 (by omega) hN nN (fun a ha => (lN a).mp ha) hR hG (hrow i hi2).1 (hrow i hi2).2
      have hni : Ns.getD i 0 < G.length := by
        rw [hG]
        refine (lN _).mp ?_
        rw [List.getD_eq_getElem?_getD, List.getElem?_eq_getElem (by omega)]
        exact List.getElem_mem _
      refine ⟨_, _, rfl, .inl e, none, _, rfl, by rw [List.length_set]; exact hG, fun k hk => ?_⟩
      by_cases q : k = i
      · subst q
        rw [List.getD_eq_getElem?_getD, List.getElem?_set_self hni]
        exact ⟨pw, mem⟩
      · have hne : Ns.getD i 0 ≠ Ns.getD k 0 := fun z => q (by
          rw [List.getD_eq_getElem?_getD, List.getD_eq_getElem?_getD, List.getElem?_eq_getElem (show i < Ns.length by omega), List.getElem?_eq_getElem (show k < Ns.length by omega)] at z
          exact ((List.getElem_inj nN).mp z).symm)
        rw [List.getD_eq_getElem?_getD, List.getElem?_set_ne hne, ← List.getD_eq_getElem?_getD]
        exact hG2 k (by omega))
  simp only [List.length_map, List.length_range, Nat.zero_add] at hG2
  have at_i : ∀ i, i < sz → ∃ k, k < sz ∧ Ns.getD k 0 = i := fun i hi => by
    obtain ⟨k, hk⟩ := List.mem_iff_getElem?.mp ((lN i).mpr hi)
    have := (List.getElem?_eq_some_iff.mp hk).1
    exact ⟨k, by omega, by rw [List.getD_eq_getElem?_getD, hk]; rfl⟩
  have rk : ∀ k, k < sz → Ns.idxOf (Ns.getD k 0) = k := fun k hk => by
    rw [List.getD_eq_getElem?_getD, List.getElem?_eq_getElem (by omega)]
    exact List.Nodup.idxOf_getElem nN k (by omega)
  refine ⟨G, fun a => Ns.idxOf a, ?_, ⟨by omega, by omega, fun i row hi x hx => ?_, fun i row hi => ?_⟩, hG, fun i row hi x hx => ?_⟩
  · have hr : dRng2 [.int 1, .int (sz : Nat)] = .ok ((List.range (sz - 1)).map fun i => D.int ((i + 1 : Nat) : Int)) := by
      have := dRng2_nat 1 sz (by omega) (by omega)
      rw [show ((1 : Nat) : Int) = 1 from rfl] at this
      rw [this]
      congr 1
      exact List.map_congr_left fun i _ => by congr 1; omega
    have r1 := dRng1_nat sz (by omega)
    have r2 := rgD_nat .lst sz (by omega)
    have rp := rep_ok (.tup []) (n := sz) (by omega)
    have a1 : (1 : Int) + (d0 : Int) % (most : Int) = (sz : Nat) := by rw [← hsz]; push_cast; rfl
    have a2 : (d0 : Int) / (most : Int) % 4 = (kd : Nat) := by rw [← hkd, Int.natCast_emod, Int.natCast_ediv]; rfl
    have b1 : (0 : Int) < (most : Int) := by omega
    have b2 : (0 : Int) < (most : Int) ∧ (most : Int) < 1073741824 := by omega
    unfold C__law_parents F__law_parents
    simp only [sSeq_x, x_min2, x_max2, x_eRg1, x_eMeth, x_eMake, x_sSet, x_sIf, x_sRet, x_sRetN, x_sPar, x_sUnp, resF_ok, x_sDrop, x_sNext, x_sBreak, x_sCont, x_sRaise, x_sAug, augK_ok, x_sFor, x_sWhile, sKill_x, x_wipe0, x_wipe1, x_evL0, x_evL1, x_setL0, x_setL1, x_eVar, x_eC, x_eOp, x_eUn, x_eCall, x_eMS, x_asStr, x_aNil, x_aCons, x_eTup, x_eLst, x_eIf, x_eNot, x_eAnd, x_eOr, x_bAnd, x_bOr, x_bNot, x_bYes, x_eSl, x_oNone, x_oSome, asI_int, x_iSeq, x_iCall, x_gfName, x_gfTup, eLc, noX_is, Res.bind_ok, Res.bind_exc, flow_ok, flow_exc, seqK_next, seqK_ret, seqK_exc, seqK_brk, seqK_cont, loopK_next, loopK_cont, loopK_brk, loopK_ret, loopK_exc, must_ok, List.set_cons_succ, List.set_cons_zero, List.getD_cons_succ, List.getD_cons_zero, vD_some, if_true, if_false, Bool.false_eq_true, reduceIte, List.map_cons, List.map_nil, List.length_cons, List.length_nil, List.cons_append, List.nil_append, List.replicate, Nat.reduceSub, Nat.reduceAdd, x_add, x_sub, x_cmp, x_eq_ii, x_ne_ii, x_int_i, x_len_t, x_len_l, x_tup_l, x_tup_t, x_list_l, x_list_t, x_dSl_t, x_dSl_l, x_items_t, x_items_l, x_tru_n, x_tru_b, x_tru_i, x_tru_t, x_tru_l, x_asB, x_is_n, x_isNot_n, isNon_n, isNon_i, isNon_s, isNon_t, isNon_l, isNon_b, Bool.not_true, Bool.not_false, List.length_map, fnE, startE, startE, dN_def, h0, x_mod _ _ b1, dDiv_i _ _ b2, x_mod _ 4 (by decide), a1, a2, hr, r1, r2, rp] at e1 e2 e3 ⊢
    have z1 : rwsD [[]] = .lst [.tup []] := rfl
    rw [z1] at e1
    rw [e1]
    simp only [sSeq_x, x_min2, x_max2, x_eRg1, x_eMeth, x_eMake, x_sSet, x_sIf, x_sRet, x_sRetN, x_sPar, x_sUnp, resF_ok, x_sDrop, x_sNext, x_sBreak, x_sCont, x_sRaise, x_sAug, augK_ok, x_sFor, x_sWhile, sKill_x, x_wipe0, x_wipe1, x_evL0, x_evL1, x_setL0, x_setL1, x_eVar, x_eC, x_eOp, x_eUn, x_eCall, x_eMS, x_asStr, x_aNil, x_aCons, x_eTup, x_eLst, x_eIf, x_eNot, x_eAnd, x_eOr, x_bAnd, x_bOr, x_bNot, x_bYes, x_eSl, x_oNone, x_oSome, asI_int, x_iSeq, x_iCall, x_gfName, x_gfTup, eLc, noX_is, Res.bind_ok, Res.bind_exc, flow_ok, flow_exc, seqK_next, seqK_ret, seqK_exc, seqK_brk, seqK_cont, loopK_next, loopK_cont, loopK_brk, loopK_ret, loopK_exc, must_ok, List.set_cons_succ, List.set_cons_zero, List.getD_cons_succ, List.getD_cons_zero, vD_some, if_true, if_false, Bool.false_eq_true, reduceIte, List.map_cons, List.map_nil, List.length_cons, List.length_nil, List.cons_append, List.nil_append, List.replicate, Nat.reduceSub, Nat.reduceAdd, x_add, x_sub, x_cmp, x_eq_ii, x_ne_ii, x_int_i, x_len_t, x_len_l, x_tup_l, x_tup_t, x_list_l, x_list_t, x_dSl_t, x_dSl_l, x_items_t, x_items_l, x_tru_n, x_tru_b, x_tru_i, x_tru_t, x_tru_l, x_asB, x_is_n, x_isNot_n, isNon_n, isNon_i, isNon_s, isNon_t, isNon_l, isNon_b, Bool.not_true, Bool.not_false, List.length_map, fnE, startE, r1, r2] at e2 ⊢
    rw [e2]
    simp only [sSeq_x, x_min2, x_max2, x_eRg1, x_eMeth, x_eMake, x_sSet, x_sIf, x_sRet, x_sRetN, x_sPar, x_sUnp, resF_ok, x_sDrop, x_sNext, x_sBreak, x_sCont, x_sRaise, x_sAug, augK_ok, x_sFor, x_sWhile, sKill_x, x_wipe0, x_wipe1, x_evL0, x_evL1, x_setL0, x_setL1, x_eVar, x_eC, x_eOp, x_eUn, x_eCall, x_eMS, x_asStr, x_aNil, x_aCons, x_eTup, x_eLst, x_eIf, x_eNot, x_eAnd, x_eOr, x_bAnd, x_bOr, x_bNot, x_bYes, x_eSl, x_oNone, x_oSome, asI_int, x_iSeq, x_iCall, x_gfName, x_gfTup, eLc, noX_is, Res.bind_ok, Res.bind_exc, flow_ok, flow_exc, seqK_next, seqK_ret, seqK_exc, seqK_brk, seqK_cont, loopK_next, loopK_cont, loopK_brk, loopK_ret, loopK_exc, must_ok, List.set_cons_succ, List.set_cons_zero, List.getD_cons_succ, List.getD_cons_zero, vD_some, if_true, if_false, Bool.false_eq_true, reduceIte, List.map_cons, List.map_nil, List.length_cons, List.length_nil, List.cons_append, List.nil_append, List.replicate, Nat.reduceSub, Nat.reduceAdd, x_add, x_sub, x_cmp, x_eq_ii, x_ne_ii, x_int_i, x_len_t, x_len_l, x_tup_l, x_tup_t, x_list_l, x_list_t, x_dSl_t, x_dSl_l, x_items_t, x_items_l, x_tru_n, x_tru_b, x_tru_i, x_tru_t, x_tru_l, x_asB, x_is_n, x_isNot_n, isNon_n, isNon_i, isNon_s, isNon_t, isNon_l, isNon_b, Bool.not_true, Bool.not_false, List.length_map, fnE, startE, rp, r1] at e3 ⊢
    rw [e3]
    simp only [sSeq_x, x_min2, x_max2, x_eRg1, x_eMeth, x_eMake, x_sSet, x_sIf, x_sRet, x_sRetN, x_sPar, x_sUnp, resF_ok, x_sDrop, x_sNext, x_sBreak, x_sCont, x_sRaise, x_sAug, augK_ok, x_sFor, x_sWhile, sKill_x, x_wipe0, x_wipe1, x_evL0, x_evL1, x_setL0, x_setL1, x_eVar, x_eC, x_eOp, x_eUn, x_eCall, x_eMS, x_asStr, x_aNil, x_aCons, x_eTup, x_eLst, x_eIf, x_eNot, x_eAnd, x_eOr, x_bAnd, x_bOr, x_bNot, x_bYes, x_eSl, x_oNone, x_oSome, asI_int, x_iSeq, x_iCall, x_gfName, x_gfTup, eLc, noX_is, Res.bind_ok, Res.bind_exc, flow_ok, flow_exc, seqK_next, seqK_ret, seqK_exc, seqK_brk, seqK_cont, loopK_next, loopK_cont, loopK_brk, loopK_ret, loopK_exc, must_ok, List.set_cons_succ, List.set_cons_zero, List.getD_cons_succ, List.getD_cons_zero, vD_some, if_true, if_false, Bool.false_eq_true, reduceIte, List.map_cons, List.map_nil, List.length_cons, List.length_nil, List.cons_append, List.nil_append, List.replicate, Nat.reduceSub, Nat.reduceAdd, x_add, x_sub, x_cmp, x_eq_ii, x_ne_ii, x_int_i, x_len_t, x_len_l, x_tup_l, x_tup_t, x_list_l, x_list_t, x_dSl_t, x_dSl_l, x_items_t, x_items_l, x_tru_n, x_tru_b, x_tru_i, x_tru_t, x_tru_l, x_asB, x_is_n, x_isNot_n, isNon_n, isNon_i, isNon_s, isNon_t, isNon_l, isNon_b, Bool.not_true, Bool.not_false, List.length_map, fnE, startE]
    rfl
  · have hin := (List.getElem?_eq_some_iff.mp hi).1
    obtain ⟨k, hk, rfl⟩ := at_i i (by omega)
    have hrw : G.getD (Ns.getD k 0) [] = row := by rw [List.getD_eq_getElem?_getD, hi]; rfl
    rw [← hrw] at hx
    obtain ⟨y, hy, rfl⟩ := ((hG2 k hk).2 x).mp hx
    have := (hrow k hk).2 y hy
    rw [hG]
    refine (lN _).mp ?_
    rw [List.getD_eq_getElem?_getD, List.getElem?_eq_getElem (by omega)]
    exact List.getElem_mem _
  · have hin := (List.getElem?_eq_some_iff.mp hi).1
    obtain ⟨k, hk, rfl⟩ := at_i i (by omega)
    have hrw : G.getD (Ns.getD k 0) [] = row := by rw [List.getD_eq_getElem?_getD, hi]; rfl
    rw [← hrw]
    exact (hG2 k hk).1
  · have hin := (List.getElem?_eq_some_iff.mp hi).1
    obtain ⟨k, hk, rfl⟩ := at_i i (by omega)
    have hrw : G.getD (Ns.getD k 0) [] = row := by rw [List.getD_eq_getElem?_getD, hi]; rfl
    rw [← hrw] at hx
    obtain ⟨y, hy, rfl⟩ := ((hG2 k hk).2 x).mp hx
    have := (hrow k hk).2 y hy
    show Ns.idxOf (Ns.getD y 0) < Ns.idxOf (Ns.getD k 0)
    rw [rk k hk, rk y (by omega)]
    exact this
/-! ### a history's methods -/
structure HK (P : PP) (F : List (List Nat)) : Prop where
  v : VP P
  len : F.length = P.length
  ok : ∀ (i : Nat) ks, F[i]? = some ks → ks.Nodup ∧ (∀ a, a ∈ ks ↔ Up P a i) ∧ ks.length ≤ 40
section
variable {P : PP} {F : List (List Nat)}
theorem his_par : dFld "History" "parents" (hisD P F) = .ok (parD P) := fld_at (m := 0) (by decide +kernel) rfl
theorem his_size : dFld "History" "size" (hisD P F) = .ok (dN P.length) := fld_at (m := 1) (by decide +kernel) rfl
theorem his_anc : dFld "History" "_ancestors" (hisD P F) = .ok (.lst (F.map dT)) := fld_at (m := 2) (by decide +kernel) rfl
theorem m_above : mOk "History" "above" (hisD P F) = true := meth_of (by decide +kernel)
theorem m_isabove : mOk "History" "is_above" (hisD P F) = true := meth_of (by decide +kernel)
theorem HK.at_ (k : HK P F) {i : Nat} (hi : i < P.length) : ∃ ks, F[i]? = some ks ∧ ks.Nodup ∧ (∀ a, a ∈ ks ↔ Up P a i) ∧ ks.length ≤ 40 := by
  have e := List.getElem?_eq_getElem (show i < F.length by rw [k.len]; exact hi)
  exact ⟨_, e, k.ok i _ e⟩
theorem habove (k : HK P F) {i : Nat} (hi : i < P.length) : C_History_above [hisD P F, dN i] = .ok (.tup ((upL P i).map dN)) := by
  obtain ⟨ks, h1, h2, h3, h4⟩ := k.at_ hi
  have a1 : dIx (.lst (F.map dT)) (.int (i : Nat)) = .ok (dT ks) := dIx_lm (f := dT) h1
  have a2 : fSortedD [dT ks] = .ok (.lst ((upL P i).map dN)) := by
    show (match iOfs (ks.map dN) with
      | some ns => if ns.length < 64 then Res.ok (D.lst ((srtU ns).map .int)) else .err
      | none => _) = _
    rw [show ks.map dN = (ks.map Int.ofNat).map .int by rw [List.map_map]; rfl, iOfs_map]
    show (if _ then _ else _) = _
    rw [if_pos (by rw [List.length_map]; omega)]
    have e : srtU (ks.map Int.ofNat) = (upL P i).map Int.ofNat := pw_ext (pw_srtU _) (List.pairwise_map.mpr ((upL_pw P i).imp fun {a b} q => by simpa using q)) fun z => by
      rw [mem_srtU, List.mem_map, List.mem_map]
      constructor
      · rintro ⟨a, ha, rfl⟩
        exact ⟨a, (up_upL k.v hi).mpr ((h3 a).mp ha), rfl⟩
      · rintro ⟨a, ha, rfl⟩
        exact ⟨a, (h3 a).mpr ((up_upL k.v hi).mp ha), rfl⟩
    rw [e, List.map_map]
    rfl
  unfold C_History_above F_History_above
  simp only [sSeq_x, x_min2, x_max2, x_eRg1, x_eMeth, x_eMake, x_sSet, x_sIf, x_sRet, x_sRetN, x_sPar, x_sUnp, resF_ok, x_sDrop, x_sNext, x_sBreak, x_sCont, x_sRaise, x_sAug, augK_ok, x_sFor, x_sWhile, sKill_x, x_wipe0, x_wipe1, x_evL0, x_evL1, x_setL0, x_setL1, x_eVar, x_eC, x_eOp, x_eUn, x_eCall, x_eMS, x_asStr, x_aNil, x_aCons, x_eTup, x_eLst, x_eIf, x_eNot, x_eAnd, x_eOr, x_bAnd, x_bOr, x_bNot, x_bYes, x_eSl, x_oNone, x_oSome, asI_int, x_iSeq, x_iCall, x_gfName, x_gfTup, eLc, noX_is, Res.bind_ok, Res.bind_exc, flow_ok, flow_exc, seqK_next, seqK_ret, seqK_exc, seqK_brk, seqK_cont, loopK_next, loopK_cont, loopK_brk, loopK_ret, loopK_exc, must_ok, List.set_cons_succ, List.set_cons_zero, List.getD_cons_succ, List.getD_cons_zero, vD_some, if_true, if_false, Bool.false_eq_true, reduceIte, List.map_cons, List.map_nil, List.length_cons, List.length_nil, List.cons_append, List.nil_append, List.replicate, Nat.reduceSub, Nat.reduceAdd, x_add, x_sub, x_cmp, x_eq_ii, x_ne_ii, x_int_i, x_len_t, x_len_l, x_tup_l, x_tup_t, x_list_l, x_list_t, x_dSl_t, x_dSl_l, x_items_t, x_items_l, x_tru_n, x_tru_b, x_tru_i, x_tru_t, x_tru_l, x_asB, x_is_n, x_isNot_n, isNon_n, isNon_i, isNon_s, isNon_t, isNon_l, isNon_b, Bool.not_true, Bool.not_false, List.length_map, fnE, startE, startE, his_anc, dN_def, a1, a2]
theorem hisabove (k : HK P F) {i a : Nat} (hi : i < P.length) : C_History_is_above [hisD P F, dN a, dN i] = .ok (.bl (upB P a i)) := by
  obtain ⟨ks, h1, h2, h3, h4⟩ := k.at_ hi
  have a1 : dIx (.lst (F.map dT)) (.int (i : Nat)) = .ok (dT ks) := dIx_lm (f := dT) h1
  have a2 : decide (a ∈ ks) = upB P a i := by
    cases q : upB P a i with
    | true => exact decide_eq_true ((h3 a).mpr (upB_iff.mp q))
    | false =>
      exact decide_eq_false fun z => by
        have := upB_iff.mpr ((h3 a).mp z)
        rw [q] at this
        cases this
  unfold C_History_is_above F_History_is_above
  have a3 := dIn_T a ks
  simp only [sSeq_x, x_min2, x_max2, x_eRg1, x_eMeth, x_eMake, x_sSet, x_sIf, x_sRet, x_sRetN, x_sPar, x_sUnp, resF_ok, x_sDrop, x_sNext, x_sBreak, x_sCont, x_sRaise, x_sAug, augK_ok, x_sFor, x_sWhile, sKill_x, x_wipe0, x_wipe1, x_evL0, x_evL1, x_setL0, x_setL1, x_eVar, x_eC, x_eOp, x_eUn, x_eCall, x_eMS, x_asStr, x_aNil, x_aCons, x_eTup, x_eLst, x_eIf, x_eNot, x_eAnd, x_eOr, x_bAnd, x_bOr, x_bNot, x_bYes, x_eSl, x_oNone, x_oSome, asI_int, x_iSeq, x_iCall, x_gfName, x_gfTup, eLc, noX_is, Res.bind_ok, Res.bind_exc, flow_ok, flow_exc, seqK_next, seqK_ret, seqK_exc, seqK_brk, seqK_cont, loopK_next, loopK_cont, loopK_brk, loopK_ret, loopK_exc, must_ok, List.set_cons_succ, List.set_cons_zero, List.getD_cons_succ, List.getD_cons_zero, vD_some, if_true, if_false, Bool.false_eq_true, reduceIte, List.map_cons, List.map_nil, List.length_cons, List.length_nil, List.cons_append, List.nil_append, List.replicate, Nat.reduceSub, Nat.reduceAdd, x_add, x_sub, x_cmp, x_eq_ii, x_ne_ii, x_int_i, x_len_t, x_len_l, x_tup_l, x_tup_t, x_list_l, x_list_t, x_dSl_t, x_dSl_l, x_items_t, x_items_l, x_tru_n, x_tru_b, x_tru_i, x_tru_t, x_tru_l, x_asB, x_is_n, x_isNot_n, isNon_n, isNon_i, isNon_s, isNon_t, isNon_l, isNon_b, Bool.not_true, Bool.not_false, List.length_map, fnE, startE, startE, his_anc, dN_def, a1] at a3 ⊢
  rw [a3, a2]
  rfl
/-- the versions asked for are whole numbers below the size, or BadVersion -/
theorem check_ok (vs : List D) (h : ∀ d ∈ vs, smp d = true) : C_check_versions [hisD P F, .lst vs] = if vs.all (fun d => wh d 0 ((P.length : Int) - 1)) = true then .ok .non else .exc "BadVersion" := by
  have lc := lc_bools (gf := gfName 2) (f := eCall C_is_whole (aCons (eVar 2) (aCons (eC (.int 0)) (aCons (eOp dSub (eUn (dFld "History" "size") (eVar 0)) (eC (.int 1))) aNil)))) (ρ := [some (hisD P F), some (.lst vs), none]) (p := fun d => wh d 0 ((P.length : Int) - 1)) (ds := vs) fun d hd => by
    refine ⟨_, rfl, ?_⟩
    simp only [sSeq_x, x_min2, x_max2, x_eRg1, x_eMeth, x_eMake, x_sSet, x_sIf, x_sRet, x_sRetN, x_sPar, x_sUnp, resF_ok, x_sDrop, x_sNext, x_sBreak, x_sCont, x_sRaise, x_sAug, augK_ok, x_sFor, x_sWhile, sKill_x, x_wipe0, x_wipe1, x_evL0, x_evL1, x_setL0, x_setL1, x_eVar, x_eC, x_eOp, x_eUn, x_eCall, x_eMS, x_asStr, x_aNil, x_aCons, x_eTup, x_eLst, x_eIf, x_eNot, x_eAnd, x_eOr, x_bAnd, x_bOr, x_bNot, x_bYes, x_eSl, x_oNone, x_oSome, asI_int, x_iSeq, x_iCall, x_gfName, x_gfTup, eLc, noX_is, Res.bind_ok, Res.bind_exc, flow_ok, flow_exc, seqK_next, seqK_ret, seqK_exc, seqK_brk, seqK_cont, loopK_next, loopK_cont, loopK_brk, loopK_ret, loopK_exc, must_ok, List.set_cons_succ, List.set_cons_zero, List.getD_cons_succ, List.getD_cons_zero, vD_some, if_true, if_false, Bool.false_eq_true, reduceIte, List.map_cons, List.map_nil, List.length_cons, List.length_nil, List.cons_append, List.nil_append, List.replicate, Nat.reduceSub, Nat.reduceAdd, x_add, x_sub, x_cmp, x_eq_ii, x_ne_ii, x_int_i, x_len_t, x_len_l, x_tup_l, x_tup_t, x_list_l, x_list_t, x_dSl_t, x_dSl_l, x_items_t, x_items_l, x_tru_n, x_tru_b, x_tru_i, x_tru_t, x_tru_l, x_asB, x_is_n, x_isNot_n, isNon_n, isNon_i, isNon_s, isNon_t, isNon_l, isNon_b, Bool.not_true, Bool.not_false, List.length_map, fnE, startE, his_size, dN_def, whole_ok d _ _ (h d hd)]
  unfold C_check_versions F_check_versions
  simp only [sSeq_x, x_min2, x_max2, x_eRg1, x_eMeth, x_eMake, x_sSet, x_sIf, x_sRet, x_sRetN, x_sPar, x_sUnp, resF_ok, x_sDrop, x_sNext, x_sBreak, x_sCont, x_sRaise, x_sAug, augK_ok, x_sFor, x_sWhile, sKill_x, x_wipe0, x_wipe1, x_evL0, x_evL1, x_setL0, x_setL1, x_eVar, x_eC, x_eOp, x_eUn, x_eCall, x_eMS, x_asStr, x_aNil, x_aCons, x_eTup, x_eLst, x_eIf, x_eNot, x_eAnd, x_eOr, x_bAnd, x_bOr, x_bNot, x_bYes, x_eSl, x_oNone, x_oSome, asI_int, x_iSeq, x_iCall, x_gfName, x_gfTup, eLc, noX_is, Res.bind_ok, Res.bind_exc, flow_ok, flow_exc, seqK_next, seqK_ret, seqK_exc, seqK_brk, seqK_cont, loopK_next, loopK_cont, loopK_brk, loopK_ret, loopK_exc, must_ok, List.set_cons_succ, List.set_cons_zero, List.getD_cons_succ, List.getD_cons_zero, vD_some, if_true, if_false, Bool.false_eq_true, reduceIte, List.map_cons, List.map_nil, List.length_cons, List.length_nil, List.cons_append, List.nil_append, List.replicate, Nat.reduceSub, Nat.reduceAdd, x_add, x_sub, x_cmp, x_eq_ii, x_ne_ii, x_int_i, x_len_t, x_len_l, x_tup_l, x_tup_t, x_list_l, x_list_t, x_dSl_t, x_dSl_l, x_items_t, x_items_l, x_tru_n, x_tru_b, x_tru_i, x_tru_t, x_tru_l, x_asB, x_is_n, x_isNot_n, isNon_n, isNon_i, isNon_s, isNon_t, isNon_l, isNon_b, Bool.not_true, Bool.not_false, List.length_map, fnE, startE, startE, x_all, List.all_map, Function.comp_def] at lc ⊢
  rw [lc]
  simp only [sSeq_x, x_min2, x_max2, x_eRg1, x_eMeth, x_eMake, x_sSet, x_sIf, x_sRet, x_sRetN, x_sPar, x_sUnp, resF_ok, x_sDrop, x_sNext, x_sBreak, x_sCont, x_sRaise, x_sAug, augK_ok, x_sFor, x_sWhile, sKill_x, x_wipe0, x_wipe1, x_evL0, x_evL1, x_setL0, x_setL1, x_eVar, x_eC, x_eOp, x_eUn, x_eCall, x_eMS, x_asStr, x_aNil, x_aCons, x_eTup, x_eLst, x_eIf, x_eNot, x_eAnd, x_eOr, x_bAnd, x_bOr, x_bNot, x_bYes, x_eSl, x_oNone, x_oSome, asI_int, x_iSeq, x_iCall, x_gfName, x_gfTup, eLc, noX_is, Res.bind_ok, Res.bind_exc, flow_ok, flow_exc, seqK_next, seqK_ret, seqK_exc, seqK_brk, seqK_cont, loopK_next, loopK_cont, loopK_brk, loopK_ret, loopK_exc, must_ok, List.set_cons_succ, List.set_cons_zero, List.getD_cons_succ, List.getD_cons_zero, vD_some, if_true, if_false, Bool.false_eq_true, reduceIte, List.map_cons, List.map_nil, List.length_cons, List.length_nil, List.cons_append, List.nil_append, List.replicate, Nat.reduceSub, Nat.reduceAdd, x_add, x_sub, x_cmp, x_eq_ii, x_ne_ii, x_int_i, x_len_t, x_len_l, x_tup_l, x_tup_t, x_list_l, x_list_t, x_dSl_t, x_dSl_l, x_items_t, x_items_l, x_tru_n, x_tru_b, x_tru_i, x_tru_t, x_tru_l, x_asB, x_is_n, x_isNot_n, isNon_n, isNon_i, isNon_s, isNon_t, isNon_l, isNon_b, Bool.not_true, Bool.not_false, List.length_map, fnE, startE, x_all, List.all_map, Function.comp_def]
  cases vs.all (fun d => wh d 0 ((P.length : Int) - 1)) <;> simp only [sSeq_x, x_min2, x_max2, x_eRg1, x_eMeth, x_eMake, x_sSet, x_sIf, x_sRet, x_sRetN, x_sPar, x_sUnp, resF_ok, x_sDrop, x_sNext, x_sBreak, x_sCont, x_sRaise, x_sAug, augK_ok, x_sFor, x_sWhile, sKill_x, x_wipe0, x_wipe1, x_evL0, x_evL1, x_setL0, x_setL1, x_eVar, x_eC, x_eOp, x_eUn, x_eCall, x_eMS, x_asStr, x_aNil, x_aCons, x_eTup, x_eLst, x_eIf, x_eNot, x_eAnd, x_eOr, x_bAnd, x_bOr, x_bNot, x_bYes, x_eSl, x_oNone, x_oSome, asI_int, x_iSeq, x_iCall, x_gfName, x_gfTup, eLc, noX_is, Res.bind_ok, Res.bind_exc, flow_ok, flow_exc, seqK_next, seqK_ret, seqK_exc, seqK_brk, seqK_cont, loopK_next, loopK_cont, loopK_brk, loopK_ret, loopK_exc, must_ok, List.set_cons_succ, List.set_cons_zero, List.getD_cons_succ, List.getD_cons_zero, vD_some, if_true, if_false, Bool.false_eq_true, reduceIte, List.map_cons, List.map_nil, List.length_cons, List.length_nil, List.cons_append, List.nil_append, List.replicate, Nat.reduceSub, Nat.reduceAdd, x_add, x_sub, x_cmp, x_eq_ii, x_ne_ii, x_int_i, x_len_t, x_len_l, x_tup_l, x_tup_t, x_list_l, x_list_t, x_dSl_t, x_dSl_l, x_items_t, x_items_l, x_tru_n, x_tru_b, x_tru_i, x_tru_t, x_tru_l, x_asB, x_is_n, x_isNot_n, isNon_n, isNon_i, isNon_s, isNon_t, isNon_l, isNon_b, Bool.not_true, Bool.not_false, List.length_map, fnE, startE]
theorem wh_N {i n : Nat} (h : i < n) : wh (dN i) 0 ((n : Int) - 1) = true := by
  show (decide ((0 : Int) ≤ (i : Int)) && decide ((i : Int) ≤ (n : Int) - 1)) = true
  rw [decide_eq_true (by omega), decide_eq_true (by omega)]
  rfl
theorem check1 {i : Nat} (hi : i < P.length) : C_check_versions [hisD P F, .lst [dN i]] = .ok .non := by
  rw [check_ok _ fun d hd => by rw [List.mem_singleton.mp hd]; rfl, if_pos (by simp [wh_N hi])]
theorem check2 {i j : Nat} (hi : i < P.length) (hj : j < P.length) : C_check_versions [hisD P F, .lst [dN i, dN j]] = .ok .non := by
  rw [check_ok _ fun d hd => by
    rcases List.mem_cons.mp hd with e | e
    · rw [e]; rfl
    · rw [List.mem_singleton.mp e]; rfl, if_pos (by simp [wh_N hi, wh_N hj])]
end
theorem make_ok {P : PP} {F : List (List Nat)} (v : VP P) (hF : C__ancestors [parD P] = .ok (.lst (F.map dT))) : (C_History___init__ (.ins "History" [] [] :: [parD P]) >>= madeOf) = .ok (hisD P F) := by
  rw [init_ok v hF]
  rfl
/-- drawn parents have a history -/
theorem his_of {P : PP} {r : Nat → Nat} (v : VP P) (hr : ∀ i row, P[i]? = some row → ∀ x ∈ row, r x < r i) : ∃ F, HK P F ∧ C__ancestors [parD P] = .ok (.lst (F.map dT)) := by
  rcases anc_ok v with ⟨_, S, hS, h⟩ | ⟨F, _, e, hl, ok, _⟩
  · have : ∀ n, ∀ i ∈ S, r i < n → False := by
      intro n
      induction n with
      | zero => exact fun i _ h => by omega
      | succ n ih =>
        intro i hi hn
        obtain ⟨row, h1, x, h2, h3⟩ := h i hi
        exact ih x h3 (by have := hr i row h1 x h2; omega)
    obtain ⟨i, hi⟩ := List.exists_mem_of_ne_nil _ hS
    exact (this (r i + 1) i hi (by omega)).elim
  · exact ⟨F, ⟨v, hl, ok⟩, e⟩
/-! ### law k30: the nearest ones -/
theorem rank_lt {P : PP} {r : Nat → Nat} (h : ∀ i row, P[i]? = some row → ∀ x ∈ row, r x < r i) {a b : Nat} (u : Up P a b) : a ≠ b → r a < r b := by
  cases u with
  | me => exact fun q => absurd rfl q
  | st h1 h2 h3 => exact fun _ => Nat.lt_of_le_of_lt (up_rank h h3) (h _ _ h1 _ h2)
theorem up_anti {P : PP} {r : Nat → Nat} (h : ∀ i row, P[i]? = some row → ∀ x ∈ row, r x < r i) {a b : Nat} (u : Up P a b) (w : Up P b a) : a = b :=
  Classical.byContradiction fun q => by
    have := rank_lt h u q
    have := rank_lt h w fun e => q e.symm
    omega
/-- the ones of l below no other one of l -/
noncomputable def lastL (P : PP) (l : List Nat) : List Nat := l.filter fun x => !(l.any fun y => !decide (y = x) && upB P x y)
theorem lastL_mem {P : PP} {l : List Nat} {x : Nat} : x ∈ lastL P l ↔ x ∈ l ∧ ∀ y ∈ l, y ≠ x → ¬ Up P x y := by
  unfold lastL
  rw [List.mem_filter]
  constructor
  · rintro ⟨h1, h2⟩
    refine ⟨h1, fun y hy ne u => ?_⟩
    have : (l.any fun y => !decide (y = x) && upB P x y) = true := List.any_eq_true.mpr ⟨y, hy, by rw [decide_eq_false ne, upB_iff.mpr u]; rfl⟩
    rw [this] at h2
    cases h2
  · rintro ⟨h1, h2⟩
    refine ⟨h1, ?_⟩
    cases q : l.any fun y => !decide (y = x) && upB P x y with
    | false => rfl
    | true =>
      obtain ⟨y, hy, hz⟩ := List.any_eq_true.mp q
      rw [Bool.and_eq_true] at hz
      have ne : y ≠ x := fun e => by
        rw [decide_eq_true e] at hz
        cases hz.1
      exact (h2 y hy ne (upB_iff.mp hz.2)).elim
/-- each one of l is above a last one -/
theorem last_above {P : PP} {r : Nat → Nat} (h : ∀ i row, P[i]? = some row → ∀ x ∈ row, r x < r i) {l : List Nat} {B : Nat} (hB : ∀ y ∈ l, r y ≤ B) : ∀ (n : Nat) (x : Nat), x ∈ l → B - r x ≤ n → ∃ y ∈ lastL P l, Up P x y
  | n, x, hx, hn => by
    by_cases q : x ∈ lastL P l
    · exact ⟨x, q, .me x⟩
    · rw [lastL_mem] at q
      have : ∃ y, y ∈ l ∧ y ≠ x ∧ Up P x y := Classical.byContradiction fun z => q ⟨hx, fun y hy ne u => z ⟨y, hy, ne, u⟩⟩
      obtain ⟨y, hy, ne, u⟩ := this
      have hlt := rank_lt h u fun e => ne e.symm
      have hy2 := hB y hy
      match n, hn with
      | 0, hn => omega
      | n + 1, hn =>
        obtain ⟨z, hz, u2⟩ := last_above h hB n y hy (by omega)
        exact ⟨z, hz, Up.trans u u2⟩
section
variable {P : PP} {F : List (List Nat)}
theorem last_loop (k : HK P F) (w : Option D) (L : List Nat) (hL : ∀ x ∈ L, x < P.length) (hl : dItems (w.getD .non) = .ok (L.map dN)) (hw : w ≠ none) : ∀ (l acc : List Nat) (x3 : Option D), (∀ x ∈ l, x ∈ L) → acc.length + l.length ≤ 1000 →
    ∃ x3', forE (gfName 3) B__last_ones_1 (l.map dN) [some (hisD P F), w, some (.lst (acc.map dN)), x3, none] = .next [some (hisD P F), w, some (.lst ((acc ++ l.filter fun x => !(L.any fun y => !decide (y = x) && upB P x y)).map dN)), x3', none]
  | [], acc, x3, _, _ => ⟨x3, by simp⟩
  | x :: l, acc, x3, h, hs => by
    rw [List.length_cons] at hs
    obtain ⟨w, rfl⟩ : ∃ d, w = some d := by
      cases w with
      | none => exact absurd rfl hw
      | some d => exact ⟨d, rfl⟩
    have hl2 : dItems w = .ok (L.map dN) := hl
    have lc := lc_fun (gf := gfName 4) (f := eAnd (eOp (dNe) (eVar 4) (eVar 3)) (eMeth "History" "is_above" C_History_is_above (eVar 0) (aCons (eVar 3) (aCons (eVar 4) aNil)))) (ρ := [some (hisD P F), some w, some (.lst (acc.map dN)), some (dN x), none]) (e := dN) (g := fun y => .bl (!decide (y = x) && upB P x y)) (xs := L) fun y hy => by
      refine ⟨_, rfl, ?_⟩
      have h1 := hisabove k (a := x) (hL y hy)
      have hb : ((y : Int) == (x : Int)) = decide (y = x) := by
        by_cases e : y = x
        · simp [e]
        · rw [decide_eq_false e]
          simp only [beq_eq_false_iff_ne]
          omega
      simp only [dN_def] at h1 ⊢
      simp only [sSeq_x, x_min2, x_max2, x_eRg1, x_eMeth, x_eMake, x_sSet, x_sIf, x_sRet, x_sRetN, x_sPar, x_sUnp, resF_ok, x_sDrop, x_sNext, x_sBreak, x_sCont, x_sRaise, x_sAug, augK_ok, x_sFor, x_sWhile, sKill_x, x_wipe0, x_wipe1, x_evL0, x_evL1, x_setL0, x_setL1, x_eVar, x_eC, x_eOp, x_eUn, x_eCall, x_eMS, x_asStr, x_aNil, x_aCons, x_eTup, x_eLst, x_eIf, x_eNot, x_eAnd, x_eOr, x_bAnd, x_bOr, x_bNot, x_bYes, x_eSl, x_oNone, x_oSome, asI_int, x_iSeq, x_iCall, x_gfName, x_gfTup, eLc, noX_is, Res.bind_ok, Res.bind_exc, flow_ok, flow_exc, seqK_next, seqK_ret, seqK_exc, seqK_brk, seqK_cont, loopK_next, loopK_cont, loopK_brk, loopK_ret, loopK_exc, must_ok, List.set_cons_succ, List.set_cons_zero, List.getD_cons_succ, List.getD_cons_zero, vD_some, if_true, if_false, Bool.false_eq_true, reduceIte, List.map_cons, List.map_nil, List.length_cons, List.length_nil, List.cons_append, List.nil_append, List.replicate, Nat.reduceSub, Nat.reduceAdd, x_add, x_sub, x_cmp, x_eq_ii, x_ne_ii, x_int_i, x_len_t, x_len_l, x_tup_l, x_tup_t, x_list_l, x_list_t, x_dSl_t, x_dSl_l, x_items_t, x_items_l, x_tru_n, x_tru_b, x_tru_i, x_tru_t, x_tru_l, x_asB, x_is_n, x_isNot_n, isNon_n, isNon_i, isNon_s, isNon_t, isNon_l, isNon_b, Bool.not_true, Bool.not_false, List.length_map, fnE, startE, hb, m_isabove, h1]
      cases decide (y = x) <;> simp only [sSeq_x, x_min2, x_max2, x_eRg1, x_eMeth, x_eMake, x_sSet, x_sIf, x_sRet, x_sRetN, x_sPar, x_sUnp, resF_ok, x_sDrop, x_sNext, x_sBreak, x_sCont, x_sRaise, x_sAug, augK_ok, x_sFor, x_sWhile, sKill_x, x_wipe0, x_wipe1, x_evL0, x_evL1, x_setL0, x_setL1, x_eVar, x_eC, x_eOp, x_eUn, x_eCall, x_eMS, x_asStr, x_aNil, x_aCons, x_eTup, x_eLst, x_eIf, x_eNot, x_eAnd, x_eOr, x_bAnd, x_bOr, x_bNot, x_bYes, x_eSl, x_oNone, x_oSome, asI_int, x_iSeq, x_iCall, x_gfName, x_gfTup, eLc, noX_is, Res.bind_ok, Res.bind_exc, flow_ok, flow_exc, seqK_next, seqK_ret, seqK_exc, seqK_brk, seqK_cont, loopK_next, loopK_cont, loopK_brk, loopK_ret, loopK_exc, must_ok, List.set_cons_succ, List.set_cons_zero, List.getD_cons_succ, List.getD_cons_zero, vD_some, if_true, if_false, Bool.false_eq_true, reduceIte, List.map_cons, List.map_nil, List.length_cons, List.length_nil, List.cons_append, List.nil_append, List.replicate, Nat.reduceSub, Nat.reduceAdd, x_add, x_sub, x_cmp, x_eq_ii, x_ne_ii, x_int_i, x_len_t, x_len_l, x_tup_l, x_tup_t, x_list_l, x_list_t, x_dSl_t, x_dSl_l, x_items_t, x_items_l, x_tru_n, x_tru_b, x_tru_i, x_tru_t, x_tru_l, x_asB, x_is_n, x_isNot_n, isNon_n, isNon_i, isNon_s, isNon_t, isNon_l, isNon_b, Bool.not_true, Bool.not_false, List.length_map, fnE, startE, Bool.true_and, Bool.false_and, h1]
    have st : B__last_ones_1 [some (hisD P F), some w, some (.lst (acc.map dN)), some (dN x), none] = .next [some (hisD P F), some w, some (.lst ((if (!(L.any fun y => !decide (y = x) && upB P x y)) = true then acc ++ [x] else acc).map dN)), none, none] := by
      unfold B__last_ones_1
      simp only [sSeq_x, x_min2, x_max2, x_eRg1, x_eMeth, x_eMake, x_sSet, x_sIf, x_sRet, x_sRetN, x_sPar, x_sUnp, resF_ok, x_sDrop, x_sNext, x_sBreak, x_sCont, x_sRaise, x_sAug, augK_ok, x_sFor, x_sWhile, sKill_x, x_wipe0, x_wipe1, x_evL0, x_evL1, x_setL0, x_setL1, x_eVar, x_eC, x_eOp, x_eUn, x_eCall, x_eMS, x_asStr, x_aNil, x_aCons, x_eTup, x_eLst, x_eIf, x_eNot, x_eAnd, x_eOr, x_bAnd, x_bOr, x_bNot, x_bYes, x_eSl, x_oNone, x_oSome, asI_int, x_iSeq, x_iCall, x_gfName, x_gfTup, eLc, noX_is, Res.bind_ok, Res.bind_exc, flow_ok, flow_exc, seqK_next, seqK_ret, seqK_exc, seqK_brk, seqK_cont, loopK_next, loopK_cont, loopK_brk, loopK_ret, loopK_exc, must_ok, List.set_cons_succ, List.set_cons_zero, List.getD_cons_succ, List.getD_cons_zero, vD_some, if_true, if_false, Bool.false_eq_true, reduceIte, List.map_cons, List.map_nil, List.length_cons, List.length_nil, List.cons_append, List.nil_append, List.replicate, Nat.reduceSub, Nat.reduceAdd, x_add, x_sub, x_cmp, x_eq_ii, x_ne_ii, x_int_i, x_len_t, x_len_l, x_tup_l, x_tup_t, x_list_l, x_list_t, x_dSl_t, x_dSl_l, x_items_t, x_items_l, x_tru_n, x_tru_b, x_tru_i, x_tru_t, x_tru_l, x_asB, x_is_n, x_isNot_n, isNon_n, isNon_i, isNon_s, isNon_t, isNon_l, isNon_b, Bool.not_true, Bool.not_false, List.length_map, fnE, startE, hl2] at lc ⊢
      rw [lc]
      simp only [sSeq_x, x_min2, x_max2, x_eRg1, x_eMeth, x_eMake, x_sSet, x_sIf, x_sRet, x_sRetN, x_sPar, x_sUnp, resF_ok, x_sDrop, x_sNext, x_sBreak, x_sCont, x_sRaise, x_sAug, augK_ok, x_sFor, x_sWhile, sKill_x, x_wipe0, x_wipe1, x_evL0, x_evL1, x_setL0, x_setL1, x_eVar, x_eC, x_eOp, x_eUn, x_eCall, x_eMS, x_asStr, x_aNil, x_aCons, x_eTup, x_eLst, x_eIf, x_eNot, x_eAnd, x_eOr, x_bAnd, x_bOr, x_bNot, x_bYes, x_eSl, x_oNone, x_oSome, asI_int, x_iSeq, x_iCall, x_gfName, x_gfTup, eLc, noX_is, Res.bind_ok, Res.bind_exc, flow_ok, flow_exc, seqK_next, seqK_ret, seqK_exc, seqK_brk, seqK_cont, loopK_next, loopK_cont, loopK_brk, loopK_ret, loopK_exc, must_ok, List.set_cons_succ, List.set_cons_zero, List.getD_cons_succ, List.getD_cons_zero, vD_some, if_true, if_false, Bool.false_eq_true, reduceIte, List.map_cons, List.map_nil, List.length_cons, List.length_nil, List.cons_append, List.nil_append, List.replicate, Nat.reduceSub, Nat.reduceAdd, x_add, x_sub, x_cmp, x_eq_ii, x_ne_ii, x_int_i, x_len_t, x_len_l, x_tup_l, x_tup_t, x_list_l, x_list_t, x_dSl_t, x_dSl_l, x_items_t, x_items_l, x_tru_n, x_tru_b, x_tru_i, x_tru_t, x_tru_l, x_asB, x_is_n, x_isNot_n, isNon_n, isNon_i, isNon_s, isNon_t, isNon_l, isNon_b, Bool.not_true, Bool.not_false, List.length_map, fnE, startE, x_any_f]
      cases q : L.any fun y => !decide (y = x) && upB P x y with
      | true => simp only [sSeq_x, x_min2, x_max2, x_eRg1, x_eMeth, x_eMake, x_sSet, x_sIf, x_sRet, x_sRetN, x_sPar, x_sUnp, resF_ok, x_sDrop, x_sNext, x_sBreak, x_sCont, x_sRaise, x_sAug, augK_ok, x_sFor, x_sWhile, sKill_x, x_wipe0, x_wipe1, x_evL0, x_evL1, x_setL0, x_setL1, x_eVar, x_eC, x_eOp, x_eUn, x_eCall, x_eMS, x_asStr, x_aNil, x_aCons, x_eTup, x_eLst, x_eIf, x_eNot, x_eAnd, x_eOr, x_bAnd, x_bOr, x_bNot, x_bYes, x_eSl, x_oNone, x_oSome, asI_int, x_iSeq, x_iCall, x_gfName, x_gfTup, eLc, noX_is, Res.bind_ok, Res.bind_exc, flow_ok, flow_exc, seqK_next, seqK_ret, seqK_exc, seqK_brk, seqK_cont, loopK_next, loopK_cont, loopK_brk, loopK_ret, loopK_exc, must_ok, List.set_cons_succ, List.set_cons_zero, List.getD_cons_succ, List.getD_cons_zero, vD_some, if_true, if_false, Bool.false_eq_true, reduceIte, List.map_cons, List.map_nil, List.length_cons, List.length_nil, List.cons_append, List.nil_append, List.replicate, Nat.reduceSub, Nat.reduceAdd, x_add, x_sub, x_cmp, x_eq_ii, x_ne_ii, x_int_i, x_len_t, x_len_l, x_tup_l, x_tup_t, x_list_l, x_list_t, x_dSl_t, x_dSl_l, x_items_t, x_items_l, x_tru_n, x_tru_b, x_tru_i, x_tru_t, x_tru_l, x_asB, x_is_n, x_isNot_n, isNon_n, isNon_i, isNon_s, isNon_t, isNon_l, isNon_b, Bool.not_true, Bool.not_false, List.length_map, fnE, startE]
      | false =>
        simp only [sSeq_x, x_min2, x_max2, x_eRg1, x_eMeth, x_eMake, x_sSet, x_sIf, x_sRet, x_sRetN, x_sPar, x_sUnp, resF_ok, x_sDrop, x_sNext, x_sBreak, x_sCont, x_sRaise, x_sAug, augK_ok, x_sFor, x_sWhile, sKill_x, x_wipe0, x_wipe1, x_evL0, x_evL1, x_setL0, x_setL1, x_eVar, x_eC, x_eOp, x_eUn, x_eCall, x_eMS, x_asStr, x_aNil, x_aCons, x_eTup, x_eLst, x_eIf, x_eNot, x_eAnd, x_eOr, x_bAnd, x_bOr, x_bNot, x_bYes, x_eSl, x_oNone, x_oSome, asI_int, x_iSeq, x_iCall, x_gfName, x_gfTup, eLc, noX_is, Res.bind_ok, Res.bind_exc, flow_ok, flow_exc, seqK_next, seqK_ret, seqK_exc, seqK_brk, seqK_cont, loopK_next, loopK_cont, loopK_brk, loopK_ret, loopK_exc, must_ok, List.set_cons_succ, List.set_cons_zero, List.getD_cons_succ, List.getD_cons_zero, vD_some, if_true, if_false, Bool.false_eq_true, reduceIte, List.map_cons, List.map_nil, List.length_cons, List.length_nil, List.cons_append, List.nil_append, List.replicate, Nat.reduceSub, Nat.reduceAdd, x_add, x_sub, x_cmp, x_eq_ii, x_ne_ii, x_int_i, x_len_t, x_len_l, x_tup_l, x_tup_t, x_list_l, x_list_t, x_dSl_t, x_dSl_l, x_items_t, x_items_l, x_tru_n, x_tru_b, x_tru_i, x_tru_t, x_tru_l, x_asB, x_is_n, x_isNot_n, isNon_n, isNon_i, isNon_s, isNon_t, isNon_l, isNon_b, Bool.not_true, Bool.not_false, List.length_map, fnE, startE]
        rw [app_ok (xs := acc.map dN) (d := dN x) rfl rfl (by rw [List.length_map, sizeLine_eq]; omega), List.map_append]
        simp only [sSeq_x, x_min2, x_max2, x_eRg1, x_eMeth, x_eMake, x_sSet, x_sIf, x_sRet, x_sRetN, x_sPar, x_sUnp, resF_ok, x_sDrop, x_sNext, x_sBreak, x_sCont, x_sRaise, x_sAug, augK_ok, x_sFor, x_sWhile, sKill_x, x_wipe0, x_wipe1, x_evL0, x_evL1, x_setL0, x_setL1, x_eVar, x_eC, x_eOp, x_eUn, x_eCall, x_eMS, x_asStr, x_aNil, x_aCons, x_eTup, x_eLst, x_eIf, x_eNot, x_eAnd, x_eOr, x_bAnd, x_bOr, x_bNot, x_bYes, x_eSl, x_oNone, x_oSome, asI_int, x_iSeq, x_iCall, x_gfName, x_gfTup, eLc, noX_is, Res.bind_ok, Res.bind_exc, flow_ok, flow_exc, seqK_next, seqK_ret, seqK_exc, seqK_brk, seqK_cont, loopK_next, loopK_cont, loopK_brk, loopK_ret, loopK_exc, must_ok, List.set_cons_succ, List.set_cons_zero, List.getD_cons_succ, List.getD_cons_zero, vD_some, if_true, if_false, Bool.false_eq_true, reduceIte, List.map_cons, List.map_nil, List.length_cons, List.length_nil, List.cons_append, List.nil_append, List.replicate, Nat.reduceSub, Nat.reduceAdd, x_add, x_sub, x_cmp, x_eq_ii, x_ne_ii, x_int_i, x_len_t, x_len_l, x_tup_l, x_tup_t, x_list_l, x_list_t, x_dSl_t, x_dSl_l, x_items_t, x_items_l, x_tru_n, x_tru_b, x_tru_i, x_tru_t, x_tru_l, x_asB, x_is_n, x_isNot_n, isNon_n, isNon_i, isNon_s, isNon_t, isNon_l, isNon_b, Bool.not_true, Bool.not_false, List.length_map, fnE, startE]
    rw [List.map_cons, forE_cons]
    show ∃ x3', loopK (B__last_ones_1 [some (hisD P F), some w, some (.lst (acc.map dN)), some (dN x), none]) _ = _
    rw [st]
    cases q : L.any fun y => !decide (y = x) && upB P x y with
    | true =>
      obtain ⟨x3', e⟩ := last_loop k (some w) L hL hl hw l acc none (fun y hy => h y (List.mem_cons_of_mem _ hy)) (by omega)
      refine ⟨x3', ?_⟩
      rw [List.filter_cons, q]
      exact e
    | false =>
      obtain ⟨x3', e⟩ := last_loop k (some w) L hL hl hw l (acc ++ [x]) none (fun y hy => h y (List.mem_cons_of_mem _ hy)) (by rw [List.length_append, List.length_singleton]; omega)
      refine ⟨x3', ?_⟩
      rw [List.filter_cons, q]
      rw [List.append_assoc] at e
      exact e
theorem last_ok (k : HK P F) (d : D) (L : List Nat) (hL : ∀ x ∈ L, x < P.length) (hl : dItems d = .ok (L.map dN)) (hs : L.length ≤ 1000) : C__last_ones [hisD P F, d] = .ok (.tup ((lastL P L).map dN)) := by
  obtain ⟨x3, e⟩ := last_loop k (some d) L hL hl (fun h => nomatch h) L [] none (fun x h => h) (by simpa using hs)
  unfold C__last_ones F__last_ones
  simp only [sSeq_x, x_min2, x_max2, x_eRg1, x_eMeth, x_eMake, x_sSet, x_sIf, x_sRet, x_sRetN, x_sPar, x_sUnp, resF_ok, x_sDrop, x_sNext, x_sBreak, x_sCont, x_sRaise, x_sAug, augK_ok, x_sFor, x_sWhile, sKill_x, x_wipe0, x_wipe1, x_evL0, x_evL1, x_setL0, x_setL1, x_eVar, x_eC, x_eOp, x_eUn, x_eCall, x_eMS, x_asStr, x_aNil, x_aCons, x_eTup, x_eLst, x_eIf, x_eNot, x_eAnd, x_eOr, x_bAnd, x_bOr, x_bNot, x_bYes, x_eSl, x_oNone, x_oSome, asI_int, x_iSeq, x_iCall, x_gfName, x_gfTup, eLc, noX_is, Res.bind_ok, Res.bind_exc, flow_ok, flow_exc, seqK_next, seqK_ret, seqK_exc, seqK_brk, seqK_cont, loopK_next, loopK_cont, loopK_brk, loopK_ret, loopK_exc, must_ok, List.set_cons_succ, List.set_cons_zero, List.getD_cons_succ, List.getD_cons_zero, vD_some, if_true, if_false, Bool.false_eq_true, reduceIte, List.map_cons, List.map_nil, List.length_cons, List.length_nil, List.cons_append, List.nil_append, List.replicate, Nat.reduceSub, Nat.reduceAdd, x_add, x_sub, x_cmp, x_eq_ii, x_ne_ii, x_int_i, x_len_t, x_len_l, x_tup_l, x_tup_t, x_list_l, x_list_t, x_dSl_t, x_dSl_l, x_items_t, x_items_l, x_tru_n, x_tru_b, x_tru_i, x_tru_t, x_tru_l, x_asB, x_is_n, x_isNot_n, isNon_n, isNon_i, isNon_s, isNon_t, isNon_l, isNon_b, Bool.not_true, Bool.not_false, List.length_map, fnE, startE, startE, hl] at e ⊢
  rw [e]
  simp only [sSeq_x, x_min2, x_max2, x_eRg1, x_eMeth, x_eMake, x_sSet, x_sIf, x_sRet, x_sRetN, x_sPar, x_sUnp, resF_ok, x_sDrop, x_sNext, x_sBreak, x_sCont, x_sRaise, x_sAug, augK_ok, x_sFor, x_sWhile, sKill_x, x_wipe0, x_wipe1, x_evL0, x_evL1, x_setL0, x_setL1, x_eVar, x_eC, x_eOp, x_eUn, x_eCall, x_eMS, x_asStr, x_aNil, x_aCons, x_eTup, x_eLst, x_eIf, x_eNot, x_eAnd, x_eOr, x_bAnd, x_bOr, x_bNot, x_bYes, x_eSl, x_oNone, x_oSome, asI_int, x_iSeq, x_iCall, x_gfName, x_gfTup, eLc, noX_is, Res.bind_ok, Res.bind_exc, flow_ok, flow_exc, seqK_next, seqK_ret, seqK_exc, seqK_brk, seqK_cont, loopK_next, loopK_cont, loopK_brk, loopK_ret, loopK_exc, must_ok, List.set_cons_succ, List.set_cons_zero, List.getD_cons_succ, List.getD_cons_zero, vD_some, if_true, if_false, Bool.false_eq_true, reduceIte, List.map_cons, List.map_nil, List.length_cons, List.length_nil, List.cons_append, List.nil_append, List.replicate, Nat.reduceSub, Nat.reduceAdd, x_add, x_sub, x_cmp, x_eq_ii, x_ne_ii, x_int_i, x_len_t, x_len_l, x_tup_l, x_tup_t, x_list_l, x_list_t, x_dSl_t, x_dSl_l, x_items_t, x_items_l, x_tru_n, x_tru_b, x_tru_i, x_tru_t, x_tru_l, x_asB, x_is_n, x_isNot_n, isNon_n, isNon_i, isNon_s, isNon_t, isNon_l, isNon_b, Bool.not_true, Bool.not_false, List.length_map, fnE, startE]
  rfl
noncomputable def comL (P : PP) (a b : Nat) : List Nat := (upL P a).filter fun v => upB P v b
theorem mem_comL (v : VP P) {a b x : Nat} (ha : a < P.length) : x ∈ comL P a b ↔ Up P x a ∧ Up P x b := by
  unfold comL
  rw [List.mem_filter, up_upL v ha, upB_iff]
theorem comL_pw (P : PP) (a b : Nat) : (comL P a b).Pairwise (· < ·) := (upL_pw P a).filter _
theorem comL_comm (v : VP P) {a b : Nat} (ha : a < P.length) (hb : b < P.length) : comL P a b = comL P b a := pwN_ext (comL_pw P a b) (comL_pw P b a) fun x => by
  rw [mem_comL v ha, mem_comL v hb]
  exact And.comm
theorem comL_lt (v : VP P) {a b x : Nat} (h : x ∈ comL P a b) : x < P.length := (mem_upL.mp (List.mem_filter.mp h).1).1
theorem comL_len (v : VP P) (a b : Nat) : (comL P a b).length ≤ 40 := by
  have := List.length_filter_le (fun x => upB P x b) (upL P a)
  have := upL_len P a
  have := v.le
  unfold comL
  omega
theorem nearest_ok (k : HK P F) {a b : Nat} (ha : a < P.length) (hb : b < P.length) : C_nearest [hisD P F, dN a, dN b] = .ok (.tup ((lastL P (comL P a b)).map dN)) := by
  have h1 := check2 (P := P) (F := F) ha hb
  have h2 := habove k ha
  have lc := lc_filter (gf := gfName 4) (tt := eUn dTru (eMeth "History" "is_above" C_History_is_above (eVar 0) (aCons (eVar 4) (aCons (eVar 2) aNil)))) (f := eVar 4) (ρ := [some (hisD P F), some (dN a), some (dN b), none, none]) (e := dN) (p := fun v => upB P v b) (g := dN) (xs := upL P a) fun x _ => ⟨_, rfl, by
    have := hisabove k (a := x) hb
    simp only [sSeq_x, x_min2, x_max2, x_eRg1, x_eMeth, x_eMake, x_sSet, x_sIf, x_sRet, x_sRetN, x_sPar, x_sUnp, resF_ok, x_sDrop, x_sNext, x_sBreak, x_sCont, x_sRaise, x_sAug, augK_ok, x_sFor, x_sWhile, sKill_x, x_wipe0, x_wipe1, x_evL0, x_evL1, x_setL0, x_setL1, x_eVar, x_eC, x_eOp, x_eUn, x_eCall, x_eMS, x_asStr, x_aNil, x_aCons, x_eTup, x_eLst, x_eIf, x_eNot, x_eAnd, x_eOr, x_bAnd, x_bOr, x_bNot, x_bYes, x_eSl, x_oNone, x_oSome, asI_int, x_iSeq, x_iCall, x_gfName, x_gfTup, eLc, noX_is, Res.bind_ok, Res.bind_exc, flow_ok, flow_exc, seqK_next, seqK_ret, seqK_exc, seqK_brk, seqK_cont, loopK_next, loopK_cont, loopK_brk, loopK_ret, loopK_exc, must_ok, List.set_cons_succ, List.set_cons_zero, List.getD_cons_succ, List.getD_cons_zero, vD_some, if_true, if_false, Bool.false_eq_true, reduceIte, List.map_cons, List.map_nil, List.length_cons, List.length_nil, List.cons_append, List.nil_append, List.replicate, Nat.reduceSub, Nat.reduceAdd, x_add, x_sub, x_cmp, x_eq_ii, x_ne_ii, x_int_i, x_len_t, x_len_l, x_tup_l, x_tup_t, x_list_l, x_list_t, x_dSl_t, x_dSl_l, x_items_t, x_items_l, x_tru_n, x_tru_b, x_tru_i, x_tru_t, x_tru_l, x_asB, x_is_n, x_isNot_n, isNon_n, isNon_i, isNon_s, isNon_t, isNon_l, isNon_b, Bool.not_true, Bool.not_false, List.length_map, fnE, startE, m_isabove, this], rfl⟩
  have h3 := last_ok k (.lst ((comL P a b).map dN)) (comL P a b) (fun x hx => comL_lt k.v hx) rfl (Nat.le_trans (comL_len k.v a b) (by omega))
  unfold C_nearest F_nearest
  simp only [sSeq_x, x_min2, x_max2, x_eRg1, x_eMeth, x_eMake, x_sSet, x_sIf, x_sRet, x_sRetN, x_sPar, x_sUnp, resF_ok, x_sDrop, x_sNext, x_sBreak, x_sCont, x_sRaise, x_sAug, augK_ok, x_sFor, x_sWhile, sKill_x, x_wipe0, x_wipe1, x_evL0, x_evL1, x_setL0, x_setL1, x_eVar, x_eC, x_eOp, x_eUn, x_eCall, x_eMS, x_asStr, x_aNil, x_aCons, x_eTup, x_eLst, x_eIf, x_eNot, x_eAnd, x_eOr, x_bAnd, x_bOr, x_bNot, x_bYes, x_eSl, x_oNone, x_oSome, asI_int, x_iSeq, x_iCall, x_gfName, x_gfTup, eLc, noX_is, Res.bind_ok, Res.bind_exc, flow_ok, flow_exc, seqK_next, seqK_ret, seqK_exc, seqK_brk, seqK_cont, loopK_next, loopK_cont, loopK_brk, loopK_ret, loopK_exc, must_ok, List.set_cons_succ, List.set_cons_zero, List.getD_cons_succ, List.getD_cons_zero, vD_some, if_true, if_false, Bool.false_eq_true, reduceIte, List.map_cons, List.map_nil, List.length_cons, List.length_nil, List.cons_append, List.nil_append, List.replicate, Nat.reduceSub, Nat.reduceAdd, x_add, x_sub, x_cmp, x_eq_ii, x_ne_ii, x_int_i, x_len_t, x_len_l, x_tup_l, x_tup_t, x_list_l, x_list_t, x_dSl_t, x_dSl_l, x_items_t, x_items_l, x_tru_n, x_tru_b, x_tru_i, x_tru_t, x_tru_l, x_asB, x_is_n, x_isNot_n, isNon_n, isNon_i, isNon_s, isNon_t, isNon_l, isNon_b, Bool.not_true, Bool.not_false, List.length_map, fnE, startE, startE, h1, m_above, h2] at lc ⊢
  rw [lc]
  simp only [sSeq_x, x_min2, x_max2, x_eRg1, x_eMeth, x_eMake, x_sSet, x_sIf, x_sRet, x_sRetN, x_sPar, x_sUnp, resF_ok, x_sDrop, x_sNext, x_sBreak, x_sCont, x_sRaise, x_sAug, augK_ok, x_sFor, x_sWhile, sKill_x, x_wipe0, x_wipe1, x_evL0, x_evL1, x_setL0, x_setL1, x_eVar, x_eC, x_eOp, x_eUn, x_eCall, x_eMS, x_asStr, x_aNil, x_aCons, x_eTup, x_eLst, x_eIf, x_eNot, x_eAnd, x_eOr, x_bAnd, x_bOr, x_bNot, x_bYes, x_eSl, x_oNone, x_oSome, asI_int, x_iSeq, x_iCall, x_gfName, x_gfTup, eLc, noX_is, Res.bind_ok, Res.bind_exc, flow_ok, flow_exc, seqK_next, seqK_ret, seqK_exc, seqK_brk, seqK_cont, loopK_next, loopK_cont, loopK_brk, loopK_ret, loopK_exc, must_ok, List.set_cons_succ, List.set_cons_zero, List.getD_cons_succ, List.getD_cons_zero, vD_some, if_true, if_false, Bool.false_eq_true, reduceIte, List.map_cons, List.map_nil, List.length_cons, List.length_nil, List.cons_append, List.nil_append, List.replicate, Nat.reduceSub, Nat.reduceAdd, x_add, x_sub, x_cmp, x_eq_ii, x_ne_ii, x_int_i, x_len_t, x_len_l, x_tup_l, x_tup_t, x_list_l, x_list_t, x_dSl_t, x_dSl_l, x_items_t, x_items_l, x_tru_n, x_tru_b, x_tru_i, x_tru_t, x_tru_l, x_asB, x_is_n, x_isNot_n, isNon_n, isNon_i, isNon_s, isNon_t, isNon_l, isNon_b, Bool.not_true, Bool.not_false, List.length_map, fnE, startE]
  have h3 : C__last_ones [hisD P F, .lst (((upL P a).filter fun v => upB P v b).map dN)] = .ok (.tup ((lastL P (comL P a b)).map dN)) := h3
  rw [h3]
  rfl
end
/-! ### law k30: the walk over pairs -/
noncomputable def abD (P : PP) : D := .lst ((List.range P.length).map fun i => D.lst ((upL P i).map dN))
theorem rng_n {n : Nat} (h : n ≤ 40) : dRng1 [dN n] = .ok ((List.range n).map dN) := dRng1_nat n (by omega)
theorem okT (l : List Nat) : okN 60 (.tup (l.map dN)) = true := ok_ints 59 l
theorem okPar (P : PP) (k : Nat) : okN (k + 2) (parD P) = true := okN_tup fun x h => by
  obtain ⟨r, _, rfl⟩ := List.mem_map.mp h
  exact ok_ints k r
theorem par_len (P : PP) : fLen [parD P] = .ok (dN P.length) := by
  unfold parD
  rw [x_len_t, List.length_map, dN_def]
theorem ab_at {P : PP} {i : Nat} (hi : i < P.length) : dIx (abD P) (.int (i : Nat)) = .ok (.lst ((upL P i).map dN)) := dIx_lst (by
  rw [List.getElem?_map, List.getElem?_range hi]
  rfl)
theorem in_up {P : PP} (v : VP P) {a i : Nat} (hi : i < P.length) : dIn (dN a) (.lst ((upL P i).map dN)) = .ok (.bl (upB P a i)) := by
  rw [dIn_L]
  congr 2
  cases q : upB P a i with
  | true => exact decide_eq_true ((up_upL v hi).mpr (upB_iff.mp q))
  | false =>
    exact decide_eq_false fun z => by
      have := upB_iff.mpr ((up_upL v hi).mp z)
      rw [q] at this
      cases this
theorem ne_nat (a b : Nat) : dNe (dN a) (dN b) = .ok (.bl (!decide (a = b))) := by
  rw [dN_def, dN_def, x_ne_ii]
  by_cases e : a = b
  · simp [e]
  · rw [decide_eq_false e]
    have : ((a : Int) == (b : Int)) = false := by
      simp only [beq_eq_false_iff_ne]
      omega
    rw [this]
noncomputable abbrev E30 (sc dl t : Option D) (P : PP) (F : List (List Nat)) (x6 x8 x9 x10 x11 x12 x13 x14 x15 x16 x17 : Option D) : Px.Env := [sc, dl, t, some (parD P), some (hisD P F), some (dN P.length), x6, some (abD P), x8, x9, x10, x11, x12, x13, x14, x15, x16, x17, none, none]
section
variable {P : PP} {F : List (List Nat)} (sc dl t x6 x8 x9 x10 x11 x12 x13 x14 x15 x16 x17 : Option D)
theorem c3a (k : HK P F) {a b : Nat} (ha : a < P.length) (hb : b < P.length) :
    eLc (iSeq (eOp dIx (eVar 7) (eVar 8))) [6] (gfName 6) (eUn asB (eOp (dIn) (eVar 6) (eOp dIx (eVar 7) (eVar 9)))) (eVar 6) (E30 sc dl t P F x6 (some (dN a)) (some (dN b)) x10 x11 x12 x13 x14 x15 x16 x17) = .ok (.lst ((comL P a b).map dN)) := by
  have d1 := ab_at (P := P) ha
  have d2 := ab_at (P := P) hb
  have lc := lc_filter (gf := gfName 6) (tt := eUn asB (eOp (dIn) (eVar 6) (eOp dIx (eVar 7) (eVar 9)))) (f := eVar 6) (ρ := E30 sc dl t P F none (some (dN a)) (some (dN b)) x10 x11 x12 x13 x14 x15 x16 x17) (e := dN) (p := fun v => upB P v b) (g := dN) (xs := upL P a) fun x _ => ⟨_, rfl, by
    have := in_up k.v (a := x) hb
    simp only [sSeq_x, x_min2, x_max2, x_eRg1, x_eMeth, x_eMake, x_sSet, x_sIf, x_sRet, x_sRetN, x_sPar, x_sUnp, resF_ok, x_sDrop, x_sNext, x_sBreak, x_sCont, x_sRaise, x_sAug, augK_ok, x_sFor, x_sWhile, sKill_x, x_wipe0, x_wipe1, x_evL0, x_evL1, x_setL0, x_setL1, x_eVar, x_eC, x_eOp, x_eUn, x_eCall, x_eMS, x_asStr, x_aNil, x_aCons, x_eTup, x_eLst, x_eIf, x_eNot, x_eAnd, x_eOr, x_bAnd, x_bOr, x_bNot, x_bYes, x_eSl, x_oNone, x_oSome, asI_int, x_iSeq, x_iCall, x_gfName, x_gfTup, eLc, noX_is, Res.bind_ok, Res.bind_exc, flow_ok, flow_exc, seqK_next, seqK_ret, seqK_exc, seqK_brk, seqK_cont, loopK_next, loopK_cont, loopK_brk, loopK_ret, loopK_exc, must_ok, List.set_cons_succ, List.set_cons_zero, List.getD_cons_succ, List.getD_cons_zero, vD_some, if_true, if_false, Bool.false_eq_true, reduceIte, List.map_cons, List.map_nil, List.length_cons, List.length_nil, List.cons_append, List.nil_append, List.replicate, Nat.reduceSub, Nat.reduceAdd, x_add, x_sub, x_cmp, x_eq_ii, x_ne_ii, x_int_i, x_len_t, x_len_l, x_tup_l, x_tup_t, x_list_l, x_list_t, x_dSl_t, x_dSl_l, x_items_t, x_items_l, x_tru_n, x_tru_b, x_tru_i, x_tru_t, x_tru_l, x_asB, x_is_n, x_isNot_n, isNon_n, isNon_i, isNon_s, isNon_t, isNon_l, isNon_b, Bool.not_true, Bool.not_false, List.length_map, fnE, startE, dN_def, d2] at this ⊢
    rw [this]
    rfl, rfl⟩
  simp only [sSeq_x, x_min2, x_max2, x_eRg1, x_eMeth, x_eMake, x_sSet, x_sIf, x_sRet, x_sRetN, x_sPar, x_sUnp, resF_ok, x_sDrop, x_sNext, x_sBreak, x_sCont, x_sRaise, x_sAug, augK_ok, x_sFor, x_sWhile, sKill_x, x_wipe0, x_wipe1, x_evL0, x_evL1, x_setL0, x_setL1, x_eVar, x_eC, x_eOp, x_eUn, x_eCall, x_eMS, x_asStr, x_aNil, x_aCons, x_eTup, x_eLst, x_eIf, x_eNot, x_eAnd, x_eOr, x_bAnd, x_bOr, x_bNot, x_bYes, x_eSl, x_oNone, x_oSome, asI_int, x_iSeq, x_iCall, x_gfName, x_gfTup, eLc, noX_is, Res.bind_ok, Res.bind_exc, flow_ok, flow_exc, seqK_next, seqK_ret, seqK_exc, seqK_brk, seqK_cont, loopK_next, loopK_cont, loopK_brk, loopK_ret, loopK_exc, must_ok, List.set_cons_succ, List.set_cons_zero, List.getD_cons_succ, List.getD_cons_zero, vD_some, if_true, if_false, Bool.false_eq_true, reduceIte, List.map_cons, List.map_nil, List.length_cons, List.length_nil, List.cons_append, List.nil_append, List.replicate, Nat.reduceSub, Nat.reduceAdd, x_add, x_sub, x_cmp, x_eq_ii, x_ne_ii, x_int_i, x_len_t, x_len_l, x_tup_l, x_tup_t, x_list_l, x_list_t, x_dSl_t, x_dSl_l, x_items_t, x_items_l, x_tru_n, x_tru_b, x_tru_i, x_tru_t, x_tru_l, x_asB, x_is_n, x_isNot_n, isNon_n, isNon_i, isNon_s, isNon_t, isNon_l, isNon_b, Bool.not_true, Bool.not_false, List.length_map, fnE, startE, dN_def, d1] at lc ⊢
  rw [lc]
  rfl
theorem c3b (k : HK P F) {L : List Nat} (hL : ∀ x ∈ L, x < P.length) :
    eLc (iSeq (eVar 10)) [6] (gfName 6) (bNot (eUn dTru (eCall fAny (aCons (eLc (iSeq (eVar 10)) [11] (gfName 11) bYes (eAnd (eOp (dNe) (eVar 11) (eVar 6)) (eOp (dIn) (eVar 6) (eOp dIx (eVar 7) (eVar 11))))) aNil)))) (eVar 6) (E30 sc dl t P F x6 x8 x9 (some (.lst (L.map dN))) x11 x12 x13 x14 x15 x16 x17) = .ok (.lst ((lastL P L).map dN)) := by
  have lc := lc_filter (gf := gfName 6) (tt := bNot (eUn dTru (eCall fAny (aCons (eLc (iSeq (eVar 10)) [11] (gfName 11) bYes (eAnd (eOp (dNe) (eVar 11) (eVar 6)) (eOp (dIn) (eVar 6) (eOp dIx (eVar 7) (eVar 11))))) aNil)))) (f := eVar 6) (ρ := E30 sc dl t P F none x8 x9 (some (.lst (L.map dN))) x11 x12 x13 x14 x15 x16 x17) (e := dN) (p := fun x => !(L.any fun y => !decide (y = x) && upB P x y)) (g := dN) (xs := L) fun x hx => by
    refine ⟨_, rfl, ?_, rfl⟩
    have inner := lc_fun (gf := gfName 11) (f := eAnd (eOp (dNe) (eVar 11) (eVar 6)) (eOp (dIn) (eVar 6) (eOp dIx (eVar 7) (eVar 11)))) (ρ := E30 sc dl t P F (some (dN x)) x8 x9 (some (.lst (L.map dN))) none x12 x13 x14 x15 x16 x17) (e := dN) (g := fun y => .bl (!decide (y = x) && upB P x y)) (xs := L) fun y hy => by
      refine ⟨_, rfl, ?_⟩
      have h1 := in_up k.v (a := x) (hL y hy)
      have h2 := ab_at (P := P) (hL y hy)
      have h3 := ne_nat y x
      rw [← dN_def] at h2
      simp only [sSeq_x, x_min2, x_max2, x_eRg1, x_eMeth, x_eMake, x_sSet, x_sIf, x_sRet, x_sRetN, x_sPar, x_sUnp, resF_ok, x_sDrop, x_sNext, x_sBreak, x_sCont, x_sRaise, x_sAug, augK_ok, x_sFor, x_sWhile, sKill_x, x_wipe0, x_wipe1, x_evL0, x_evL1, x_setL0, x_setL1, x_eVar, x_eC, x_eOp, x_eUn, x_eCall, x_eMS, x_asStr, x_aNil, x_aCons, x_eTup, x_eLst, x_eIf, x_eNot, x_eAnd, x_eOr, x_bAnd, x_bOr, x_bNot, x_bYes, x_eSl, x_oNone, x_oSome, asI_int, x_iSeq, x_iCall, x_gfName, x_gfTup, eLc, noX_is, Res.bind_ok, Res.bind_exc, flow_ok, flow_exc, seqK_next, seqK_ret, seqK_exc, seqK_brk, seqK_cont, loopK_next, loopK_cont, loopK_brk, loopK_ret, loopK_exc, must_ok, List.set_cons_succ, List.set_cons_zero, List.getD_cons_succ, List.getD_cons_zero, vD_some, if_true, if_false, Bool.false_eq_true, reduceIte, List.map_cons, List.map_nil, List.length_cons, List.length_nil, List.cons_append, List.nil_append, List.replicate, Nat.reduceSub, Nat.reduceAdd, x_add, x_sub, x_cmp, x_eq_ii, x_ne_ii, x_int_i, x_len_t, x_len_l, x_tup_l, x_tup_t, x_list_l, x_list_t, x_dSl_t, x_dSl_l, x_items_t, x_items_l, x_tru_n, x_tru_b, x_tru_i, x_tru_t, x_tru_l, x_asB, x_is_n, x_isNot_n, isNon_n, isNon_i, isNon_s, isNon_t, isNon_l, isNon_b, Bool.not_true, Bool.not_false, List.length_map, fnE, startE, h3]
      cases decide (y = x) with
      | true => simp only [sSeq_x, x_min2, x_max2, x_eRg1, x_eMeth, x_eMake, x_sSet, x_sIf, x_sRet, x_sRetN, x_sPar, x_sUnp, resF_ok, x_sDrop, x_sNext, x_sBreak, x_sCont, x_sRaise, x_sAug, augK_ok, x_sFor, x_sWhile, sKill_x, x_wipe0, x_wipe1, x_evL0, x_evL1, x_setL0, x_setL1, x_eVar, x_eC, x_eOp, x_eUn, x_eCall, x_eMS, x_asStr, x_aNil, x_aCons, x_eTup, x_eLst, x_eIf, x_eNot, x_eAnd, x_eOr, x_bAnd, x_bOr, x_bNot, x_bYes, x_eSl, x_oNone, x_oSome, asI_int, x_iSeq, x_iCall, x_gfName, x_gfTup, eLc, noX_is, Res.bind_ok, Res.bind_exc, flow_ok, flow_exc, seqK_next, seqK_ret, seqK_exc, seqK_brk, seqK_cont, loopK_next, loopK_cont, loopK_brk, loopK_ret, loopK_exc, must_ok, List.set_cons_succ, List.set_cons_zero, List.getD_cons_succ, List.getD_cons_zero, vD_some, if_true, if_false, Bool.false_eq_true, reduceIte, List.map_cons, List.map_nil, List.length_cons, List.length_nil, List.cons_append, List.nil_append, List.replicate, Nat.reduceSub, Nat.reduceAdd, x_add, x_sub, x_cmp, x_eq_ii, x_ne_ii, x_int_i, x_len_t, x_len_l, x_tup_l, x_tup_t, x_list_l, x_list_t, x_dSl_t, x_dSl_l, x_items_t, x_items_l, x_tru_n, x_tru_b, x_tru_i, x_tru_t, x_tru_l, x_asB, x_is_n, x_isNot_n, isNon_n, isNon_i, isNon_s, isNon_t, isNon_l, isNon_b, Bool.not_true, Bool.not_false, List.length_map, fnE, startE, Bool.false_and]
      | false => simp only [sSeq_x, x_min2, x_max2, x_eRg1, x_eMeth, x_eMake, x_sSet, x_sIf, x_sRet, x_sRetN, x_sPar, x_sUnp, resF_ok, x_sDrop, x_sNext, x_sBreak, x_sCont, x_sRaise, x_sAug, augK_ok, x_sFor, x_sWhile, sKill_x, x_wipe0, x_wipe1, x_evL0, x_evL1, x_setL0, x_setL1, x_eVar, x_eC, x_eOp, x_eUn, x_eCall, x_eMS, x_asStr, x_aNil, x_aCons, x_eTup, x_eLst, x_eIf, x_eNot, x_eAnd, x_eOr, x_bAnd, x_bOr, x_bNot, x_bYes, x_eSl, x_oNone, x_oSome, asI_int, x_iSeq, x_iCall, x_gfName, x_gfTup, eLc, noX_is, Res.bind_ok, Res.bind_exc, flow_ok, flow_exc, seqK_next, seqK_ret, seqK_exc, seqK_brk, seqK_cont, loopK_next, loopK_cont, loopK_brk, loopK_ret, loopK_exc, must_ok, List.set_cons_succ, List.set_cons_zero, List.getD_cons_succ, List.getD_cons_zero, vD_some, if_true, if_false, Bool.false_eq_true, reduceIte, List.map_cons, List.map_nil, List.length_cons, List.length_nil, List.cons_append, List.nil_append, List.replicate, Nat.reduceSub, Nat.reduceAdd, x_add, x_sub, x_cmp, x_eq_ii, x_ne_ii, x_int_i, x_len_t, x_len_l, x_tup_l, x_tup_t, x_list_l, x_list_t, x_dSl_t, x_dSl_l, x_items_t, x_items_l, x_tru_n, x_tru_b, x_tru_i, x_tru_t, x_tru_l, x_asB, x_is_n, x_isNot_n, isNon_n, isNon_i, isNon_s, isNon_t, isNon_l, isNon_b, Bool.not_true, Bool.not_false, List.length_map, fnE, startE, h2, h1, Bool.true_and]
    simp only [sSeq_x, x_min2, x_max2, x_eRg1, x_eMeth, x_eMake, x_sSet, x_sIf, x_sRet, x_sRetN, x_sPar, x_sUnp, resF_ok, x_sDrop, x_sNext, x_sBreak, x_sCont, x_sRaise, x_sAug, augK_ok, x_sFor, x_sWhile, sKill_x, x_wipe0, x_wipe1, x_evL0, x_evL1, x_setL0, x_setL1, x_eVar, x_eC, x_eOp, x_eUn, x_eCall, x_eMS, x_asStr, x_aNil, x_aCons, x_eTup, x_eLst, x_eIf, x_eNot, x_eAnd, x_eOr, x_bAnd, x_bOr, x_bNot, x_bYes, x_eSl, x_oNone, x_oSome, asI_int, x_iSeq, x_iCall, x_gfName, x_gfTup, eLc, noX_is, Res.bind_ok, Res.bind_exc, flow_ok, flow_exc, seqK_next, seqK_ret, seqK_exc, seqK_brk, seqK_cont, loopK_next, loopK_cont, loopK_brk, loopK_ret, loopK_exc, must_ok, List.set_cons_succ, List.set_cons_zero, List.getD_cons_succ, List.getD_cons_zero, vD_some, if_true, if_false, Bool.false_eq_true, reduceIte, List.map_cons, List.map_nil, List.length_cons, List.length_nil, List.cons_append, List.nil_append, List.replicate, Nat.reduceSub, Nat.reduceAdd, x_add, x_sub, x_cmp, x_eq_ii, x_ne_ii, x_int_i, x_len_t, x_len_l, x_tup_l, x_tup_t, x_list_l, x_list_t, x_dSl_t, x_dSl_l, x_items_t, x_items_l, x_tru_n, x_tru_b, x_tru_i, x_tru_t, x_tru_l, x_asB, x_is_n, x_isNot_n, isNon_n, isNon_i, isNon_s, isNon_t, isNon_l, isNon_b, Bool.not_true, Bool.not_false, List.length_map, fnE, startE] at inner ⊢
    rw [inner]
    simp only [sSeq_x, x_min2, x_max2, x_eRg1, x_eMeth, x_eMake, x_sSet, x_sIf, x_sRet, x_sRetN, x_sPar, x_sUnp, resF_ok, x_sDrop, x_sNext, x_sBreak, x_sCont, x_sRaise, x_sAug, augK_ok, x_sFor, x_sWhile, sKill_x, x_wipe0, x_wipe1, x_evL0, x_evL1, x_setL0, x_setL1, x_eVar, x_eC, x_eOp, x_eUn, x_eCall, x_eMS, x_asStr, x_aNil, x_aCons, x_eTup, x_eLst, x_eIf, x_eNot, x_eAnd, x_eOr, x_bAnd, x_bOr, x_bNot, x_bYes, x_eSl, x_oNone, x_oSome, asI_int, x_iSeq, x_iCall, x_gfName, x_gfTup, eLc, noX_is, Res.bind_ok, Res.bind_exc, flow_ok, flow_exc, seqK_next, seqK_ret, seqK_exc, seqK_brk, seqK_cont, loopK_next, loopK_cont, loopK_brk, loopK_ret, loopK_exc, must_ok, List.set_cons_succ, List.set_cons_zero, List.getD_cons_succ, List.getD_cons_zero, vD_some, if_true, if_false, Bool.false_eq_true, reduceIte, List.map_cons, List.map_nil, List.length_cons, List.length_nil, List.cons_append, List.nil_append, List.replicate, Nat.reduceSub, Nat.reduceAdd, x_add, x_sub, x_cmp, x_eq_ii, x_ne_ii, x_int_i, x_len_t, x_len_l, x_tup_l, x_tup_t, x_list_l, x_list_t, x_dSl_t, x_dSl_l, x_items_t, x_items_l, x_tru_n, x_tru_b, x_tru_i, x_tru_t, x_tru_l, x_asB, x_is_n, x_isNot_n, isNon_n, isNon_i, isNon_s, isNon_t, isNon_l, isNon_b, Bool.not_true, Bool.not_false, List.length_map, fnE, startE, x_any_f]
  simp only [sSeq_x, x_min2, x_max2, x_eRg1, x_eMeth, x_eMake, x_sSet, x_sIf, x_sRet, x_sRetN, x_sPar, x_sUnp, resF_ok, x_sDrop, x_sNext, x_sBreak, x_sCont, x_sRaise, x_sAug, augK_ok, x_sFor, x_sWhile, sKill_x, x_wipe0, x_wipe1, x_evL0, x_evL1, x_setL0, x_setL1, x_eVar, x_eC, x_eOp, x_eUn, x_eCall, x_eMS, x_asStr, x_aNil, x_aCons, x_eTup, x_eLst, x_eIf, x_eNot, x_eAnd, x_eOr, x_bAnd, x_bOr, x_bNot, x_bYes, x_eSl, x_oNone, x_oSome, asI_int, x_iSeq, x_iCall, x_gfName, x_gfTup, eLc, noX_is, Res.bind_ok, Res.bind_exc, flow_ok, flow_exc, seqK_next, seqK_ret, seqK_exc, seqK_brk, seqK_cont, loopK_next, loopK_cont, loopK_brk, loopK_ret, loopK_exc, must_ok, List.set_cons_succ, List.set_cons_zero, List.getD_cons_succ, List.getD_cons_zero, vD_some, if_true, if_false, Bool.false_eq_true, reduceIte, List.map_cons, List.map_nil, List.length_cons, List.length_nil, List.cons_append, List.nil_append, List.replicate, Nat.reduceSub, Nat.reduceAdd, x_add, x_sub, x_cmp, x_eq_ii, x_ne_ii, x_int_i, x_len_t, x_len_l, x_tup_l, x_tup_t, x_list_l, x_list_t, x_dSl_t, x_dSl_l, x_items_t, x_items_l, x_tru_n, x_tru_b, x_tru_i, x_tru_t, x_tru_l, x_asB, x_is_n, x_isNot_n, isNon_n, isNon_i, isNon_s, isNon_t, isNon_l, isNon_b, Bool.not_true, Bool.not_false, List.length_map, fnE, startE] at lc ⊢
  rw [lc]
  rfl
theorem c3c (k : HK P F) {r : Nat → Nat} (hr : ∀ i row, P[i]? = some row → ∀ x ∈ row, r x < r i) {a b : Nat} (ha : a < P.length) (hb : b < P.length) (x12 : Option D) :
    eLc (iSeq (eVar 10)) [6] (gfName 6) bYes (eCall fAny (aCons (eLc (iSeq (eVar 13)) [11] (gfName 11) bYes (eOp (dIn) (eVar 6) (eOp dIx (eVar 7) (eVar 11)))) aNil)) (E30 sc dl t P F x6 x8 x9 (some (.lst ((comL P a b).map dN))) x11 x12 (some (.tup ((lastL P (comL P a b)).map dN))) x14 x15 x16 x17) = .ok (.lst ((comL P a b).map fun _ => .bl true)) := by
  have lc := lc_fun (gf := gfName 6) (f := eCall fAny (aCons (eLc (iSeq (eVar 13)) [11] (gfName 11) bYes (eOp (dIn) (eVar 6) (eOp dIx (eVar 7) (eVar 11)))) aNil)) (ρ := E30 sc dl t P F none x8 x9 (some (.lst ((comL P a b).map dN))) x11 x12 (some (.tup ((lastL P (comL P a b)).map dN))) x14 x15 x16 x17) (e := dN) (g := fun _ => .bl true) (xs := comL P a b) fun x hx => by
    refine ⟨_, rfl, ?_⟩
    have inner := lc_fun (gf := gfName 11) (f := eOp (dIn) (eVar 6) (eOp dIx (eVar 7) (eVar 11))) (ρ := E30 sc dl t P F (some (dN x)) x8 x9 (some (.lst ((comL P a b).map dN))) none x12 (some (.tup ((lastL P (comL P a b)).map dN))) x14 x15 x16 x17) (e := dN) (g := fun y => .bl (upB P x y)) (xs := lastL P (comL P a b)) fun y hy => by
      refine ⟨_, rfl, ?_⟩
      have hy2 := comL_lt k.v (lastL_mem.mp hy).1
      have h1 := in_up k.v (a := x) hy2
      have h2 := ab_at (P := P) hy2
      rw [← dN_def] at h2
      simp only [sSeq_x, x_min2, x_max2, x_eRg1, x_eMeth, x_eMake, x_sSet, x_sIf, x_sRet, x_sRetN, x_sPar, x_sUnp, resF_ok, x_sDrop, x_sNext, x_sBreak, x_sCont, x_sRaise, x_sAug, augK_ok, x_sFor, x_sWhile, sKill_x, x_wipe0, x_wipe1, x_evL0, x_evL1, x_setL0, x_setL1, x_eVar, x_eC, x_eOp, x_eUn, x_eCall, x_eMS, x_asStr, x_aNil, x_aCons, x_eTup, x_eLst, x_eIf, x_eNot, x_eAnd, x_eOr, x_bAnd, x_bOr, x_bNot, x_bYes, x_eSl, x_oNone, x_oSome, asI_int, x_iSeq, x_iCall, x_gfName, x_gfTup, eLc, noX_is, Res.bind_ok, Res.bind_exc, flow_ok, flow_exc, seqK_next, seqK_ret, seqK_exc, seqK_brk, seqK_cont, loopK_next, loopK_cont, loopK_brk, loopK_ret, loopK_exc, must_ok, List.set_cons_succ, List.set_cons_zero, List.getD_cons_succ, List.getD_cons_zero, vD_some, if_true, if_false, Bool.false_eq_true, reduceIte, List.map_cons, List.map_nil, List.length_cons, List.length_nil, List.cons_append, List.nil_append, List.replicate, Nat.reduceSub, Nat.reduceAdd, x_add, x_sub, x_cmp, x_eq_ii, x_ne_ii, x_int_i, x_len_t, x_len_l, x_tup_l, x_tup_t, x_list_l, x_list_t, x_dSl_t, x_dSl_l, x_items_t, x_items_l, x_tru_n, x_tru_b, x_tru_i, x_tru_t, x_tru_l, x_asB, x_is_n, x_isNot_n, isNon_n, isNon_i, isNon_s, isNon_t, isNon_l, isNon_b, Bool.not_true, Bool.not_false, List.length_map, fnE, startE, h2, h1]
    have hany : ((lastL P (comL P a b)).any fun y => upB P x y) = true := by
      obtain ⟨y, hy, u⟩ := last_above hr (B := r a) (fun y hy => up_rank hr ((mem_comL k.v ha).mp hy).1) (r a) x hx (by omega)
      exact List.any_eq_true.mpr ⟨y, hy, upB_iff.mpr u⟩
    simp only [sSeq_x, x_min2, x_max2, x_eRg1, x_eMeth, x_eMake, x_sSet, x_sIf, x_sRet, x_sRetN, x_sPar, x_sUnp, resF_ok, x_sDrop, x_sNext, x_sBreak, x_sCont, x_sRaise, x_sAug, augK_ok, x_sFor, x_sWhile, sKill_x, x_wipe0, x_wipe1, x_evL0, x_evL1, x_setL0, x_setL1, x_eVar, x_eC, x_eOp, x_eUn, x_eCall, x_eMS, x_asStr, x_aNil, x_aCons, x_eTup, x_eLst, x_eIf, x_eNot, x_eAnd, x_eOr, x_bAnd, x_bOr, x_bNot, x_bYes, x_eSl, x_oNone, x_oSome, asI_int, x_iSeq, x_iCall, x_gfName, x_gfTup, eLc, noX_is, Res.bind_ok, Res.bind_exc, flow_ok, flow_exc, seqK_next, seqK_ret, seqK_exc, seqK_brk, seqK_cont, loopK_next, loopK_cont, loopK_brk, loopK_ret, loopK_exc, must_ok, List.set_cons_succ, List.set_cons_zero, List.getD_cons_succ, List.getD_cons_zero, vD_some, if_true, if_false, Bool.false_eq_true, reduceIte, List.map_cons, List.map_nil, List.length_cons, List.length_nil, List.cons_append, List.nil_append, List.replicate, Nat.reduceSub, Nat.reduceAdd, x_add, x_sub, x_cmp, x_eq_ii, x_ne_ii, x_int_i, x_len_t, x_len_l, x_tup_l, x_tup_t, x_list_l, x_list_t, x_dSl_t, x_dSl_l, x_items_t, x_items_l, x_tru_n, x_tru_b, x_tru_i, x_tru_t, x_tru_l, x_asB, x_is_n, x_isNot_n, isNon_n, isNon_i, isNon_s, isNon_t, isNon_l, isNon_b, Bool.not_true, Bool.not_false, List.length_map, fnE, startE] at inner ⊢
    rw [inner]
    simp only [sSeq_x, x_min2, x_max2, x_eRg1, x_eMeth, x_eMake, x_sSet, x_sIf, x_sRet, x_sRetN, x_sPar, x_sUnp, resF_ok, x_sDrop, x_sNext, x_sBreak, x_sCont, x_sRaise, x_sAug, augK_ok, x_sFor, x_sWhile, sKill_x, x_wipe0, x_wipe1, x_evL0, x_evL1, x_setL0, x_setL1, x_eVar, x_eC, x_eOp, x_eUn, x_eCall, x_eMS, x_asStr, x_aNil, x_aCons, x_eTup, x_eLst, x_eIf, x_eNot, x_eAnd, x_eOr, x_bAnd, x_bOr, x_bNot, x_bYes, x_eSl, x_oNone, x_oSome, asI_int, x_iSeq, x_iCall, x_gfName, x_gfTup, eLc, noX_is, Res.bind_ok, Res.bind_exc, flow_ok, flow_exc, seqK_next, seqK_ret, seqK_exc, seqK_brk, seqK_cont, loopK_next, loopK_cont, loopK_brk, loopK_ret, loopK_exc, must_ok, List.set_cons_succ, List.set_cons_zero, List.getD_cons_succ, List.getD_cons_zero, vD_some, if_true, if_false, Bool.false_eq_true, reduceIte, List.map_cons, List.map_nil, List.length_cons, List.length_nil, List.cons_append, List.nil_append, List.replicate, Nat.reduceSub, Nat.reduceAdd, x_add, x_sub, x_cmp, x_eq_ii, x_ne_ii, x_int_i, x_len_t, x_len_l, x_tup_l, x_tup_t, x_list_l, x_list_t, x_dSl_t, x_dSl_l, x_items_t, x_items_l, x_tru_n, x_tru_b, x_tru_i, x_tru_t, x_tru_l, x_asB, x_is_n, x_isNot_n, isNon_n, isNon_i, isNon_s, isNon_t, isNon_l, isNon_b, Bool.not_true, Bool.not_false, List.length_map, fnE, startE, x_any_f, hany]
  simp only [sSeq_x, x_min2, x_max2, x_eRg1, x_eMeth, x_eMake, x_sSet, x_sIf, x_sRet, x_sRetN, x_sPar, x_sUnp, resF_ok, x_sDrop, x_sNext, x_sBreak, x_sCont, x_sRaise, x_sAug, augK_ok, x_sFor, x_sWhile, sKill_x, x_wipe0, x_wipe1, x_evL0, x_evL1, x_setL0, x_setL1, x_eVar, x_eC, x_eOp, x_eUn, x_eCall, x_eMS, x_asStr, x_aNil, x_aCons, x_eTup, x_eLst, x_eIf, x_eNot, x_eAnd, x_eOr, x_bAnd, x_bOr, x_bNot, x_bYes, x_eSl, x_oNone, x_oSome, asI_int, x_iSeq, x_iCall, x_gfName, x_gfTup, eLc, noX_is, Res.bind_ok, Res.bind_exc, flow_ok, flow_exc, seqK_next, seqK_ret, seqK_exc, seqK_brk, seqK_cont, loopK_next, loopK_cont, loopK_brk, loopK_ret, loopK_exc, must_ok, List.set_cons_succ, List.set_cons_zero, List.getD_cons_succ, List.getD_cons_zero, vD_some, if_true, if_false, Bool.false_eq_true, reduceIte, List.map_cons, List.map_nil, List.length_cons, List.length_nil, List.cons_append, List.nil_append, List.replicate, Nat.reduceSub, Nat.reduceAdd, x_add, x_sub, x_cmp, x_eq_ii, x_ne_ii, x_int_i, x_len_t, x_len_l, x_tup_l, x_tup_t, x_list_l, x_list_t, x_dSl_t, x_dSl_l, x_items_t, x_items_l, x_tru_n, x_tru_b, x_tru_i, x_tru_t, x_tru_l, x_asB, x_is_n, x_isNot_n, isNon_n, isNon_i, isNon_s, isNon_t, isNon_l, isNon_b, Bool.not_true, Bool.not_false, List.length_map, fnE, startE] at lc ⊢
  rw [lc]
  rfl
theorem last_one {r : Nat → Nat} (v : VP P) (hr : ∀ i row, P[i]? = some row → ∀ x ∈ row, r x < r i) {a b : Nat} (ha : a < P.length) (u : Up P a b) : lastL P (comL P a b) = [a] := by
  refine pwN_ext ((comL_pw P a b).filter _) (by simp) fun x => ?_
  rw [List.mem_singleton]
  show x ∈ lastL P (comL P a b) ↔ _
  rw [lastL_mem, mem_comL v ha]
  constructor
  · rintro ⟨⟨h1, h2⟩, h3⟩
    exact Classical.byContradiction fun q => h3 a ((mem_comL v ha).mpr ⟨.me a, u⟩) (fun z => q z.symm) h1
  · rintro rfl
    refine ⟨⟨.me x, u⟩, fun y hy ne w => ne ?_⟩
    exact up_anti hr ((mem_comL v ha).mp hy).1 w
theorem b3 (k : HK P F) {r : Nat → Nat} (hr : ∀ i row, P[i]? = some row → ∀ x ∈ row, r x < r i) {a b : Nat} (ha : a < P.length) (hb : b < P.length) :
    B_law_3 (E30 sc dl t P F x6 (some (dN a)) (some (dN b)) none x11 none none none none none none) = .next (E30 sc dl t P F x6 (some (dN a)) none none x11 none none none none none none) := by
  have l1 := c3a sc dl t x6 none x11 none none none none none none k ha hb
  have l2 := c3b sc dl t x6 (some (dN a)) (some (dN b)) x11 none none none none none none k (L := comL P a b) fun x hx => comL_lt k.v hx
  have h1 := nearest_ok k ha hb
  have h2 := nearest_ok k hb ha
  rw [← comL_comm k.v ha hb] at h2
  have n1 := dNe_self (okT (lastL P (comL P a b)))
  have t1 : ∀ l, dIsi isTup (.tup l) = .ok (.bl true) := fun _ => rfl
  have lb := lc_fun (gf := gfName 6) (f := eUn (dIsi isBool) (eVar 6)) (ρ := E30 sc dl t P F none (some (dN a)) (some (dN b)) (some (.lst ((comL P a b).map dN))) x11 (some (.tup ((lastL P (comL P a b)).map dN))) (some (.tup ((lastL P (comL P a b)).map dN))) none none none none) (e := dN) (g := fun _ => .bl false) (xs := lastL P (comL P a b)) fun y _ => ⟨_, rfl, rfl⟩
  have hany : ((lastL P (comL P a b)).any fun _ => false) = false := by simp
  have hall : ((comL P a b).all fun _ => true) = true := by simp
  have l3 := c3c sc dl t x6 (some (dN a)) (some (dN b)) x11 none none none none k hr ha hb (some (.tup ((lastL P (comL P a b)).map dN)))
  have i1 := in_up k.v (a := a) hb
  have d2 := ab_at (P := P) hb
  rw [← dN_def] at d2
  have fin : (if upB P a b = true then (dNe (.tup ((lastL P (comL P a b)).map dN)) (.tup [dN a]) >>= asB) else .ok false) = .ok false := by
    cases q : upB P a b with
    | false => rfl
    | true =>
      rw [last_one k.v hr ha (upB_iff.mp q)]
      have := dNe_self (okT [a])
      simp only [List.map_cons, List.map_nil] at this
      simp only [sSeq_x, x_min2, x_max2, x_eRg1, x_eMeth, x_eMake, x_sSet, x_sIf, x_sRet, x_sRetN, x_sPar, x_sUnp, resF_ok, x_sDrop, x_sNext, x_sBreak, x_sCont, x_sRaise, x_sAug, augK_ok, x_sFor, x_sWhile, sKill_x, x_wipe0, x_wipe1, x_evL0, x_evL1, x_setL0, x_setL1, x_eVar, x_eC, x_eOp, x_eUn, x_eCall, x_eMS, x_asStr, x_aNil, x_aCons, x_eTup, x_eLst, x_eIf, x_eNot, x_eAnd, x_eOr, x_bAnd, x_bOr, x_bNot, x_bYes, x_eSl, x_oNone, x_oSome, asI_int, x_iSeq, x_iCall, x_gfName, x_gfTup, eLc, noX_is, Res.bind_ok, Res.bind_exc, flow_ok, flow_exc, seqK_next, seqK_ret, seqK_exc, seqK_brk, seqK_cont, loopK_next, loopK_cont, loopK_brk, loopK_ret, loopK_exc, must_ok, List.set_cons_succ, List.set_cons_zero, List.getD_cons_succ, List.getD_cons_zero, vD_some, if_true, if_false, Bool.false_eq_true, reduceIte, List.map_cons, List.map_nil, List.length_cons, List.length_nil, List.cons_append, List.nil_append, List.replicate, Nat.reduceSub, Nat.reduceAdd, x_add, x_sub, x_cmp, x_eq_ii, x_ne_ii, x_int_i, x_len_t, x_len_l, x_tup_l, x_tup_t, x_list_l, x_list_t, x_dSl_t, x_dSl_l, x_items_t, x_items_l, x_tru_n, x_tru_b, x_tru_i, x_tru_t, x_tru_l, x_asB, x_is_n, x_isNot_n, isNon_n, isNon_i, isNon_s, isNon_t, isNon_l, isNon_b, Bool.not_true, Bool.not_false, List.length_map, fnE, startE, this]
  unfold B_law_3
  simp only [sSeq_x, x_sSet, l1, flow_ok, seqK_next, E30, List.set_cons_succ, List.set_cons_zero, x_eCall, x_aCons, x_aNil] at l2 l3 lb ⊢
  rw [l2]
  simp only [sSeq_x, x_min2, x_max2, x_eRg1, x_eMeth, x_eMake, x_sSet, x_sIf, x_sRet, x_sRetN, x_sPar, x_sUnp, resF_ok, x_sDrop, x_sNext, x_sBreak, x_sCont, x_sRaise, x_sAug, augK_ok, x_sFor, x_sWhile, sKill_x, x_wipe0, x_wipe1, x_evL0, x_evL1, x_setL0, x_setL1, x_eVar, x_eC, x_eOp, x_eUn, x_eCall, x_eMS, x_asStr, x_aNil, x_aCons, x_eTup, x_eLst, x_eIf, x_eNot, x_eAnd, x_eOr, x_bAnd, x_bOr, x_bNot, x_bYes, x_eSl, x_oNone, x_oSome, asI_int, x_iSeq, x_iCall, x_gfName, x_gfTup, eLc, noX_is, Res.bind_ok, Res.bind_exc, flow_ok, flow_exc, seqK_next, seqK_ret, seqK_exc, seqK_brk, seqK_cont, loopK_next, loopK_cont, loopK_brk, loopK_ret, loopK_exc, must_ok, List.set_cons_succ, List.set_cons_zero, List.getD_cons_succ, List.getD_cons_zero, vD_some, if_true, if_false, Bool.false_eq_true, reduceIte, List.map_cons, List.map_nil, List.length_cons, List.length_nil, List.cons_append, List.nil_append, List.replicate, Nat.reduceSub, Nat.reduceAdd, x_add, x_sub, x_cmp, x_eq_ii, x_ne_ii, x_int_i, x_len_t, x_len_l, x_tup_l, x_tup_t, x_list_l, x_list_t, x_dSl_t, x_dSl_l, x_items_t, x_items_l, x_tru_n, x_tru_b, x_tru_i, x_tru_t, x_tru_l, x_asB, x_is_n, x_isNot_n, isNon_n, isNon_i, isNon_s, isNon_t, isNon_l, isNon_b, Bool.not_true, Bool.not_false, List.length_map, fnE, startE, h1, h2, n1, t1] at lb l3 ⊢
  rw [lb]
  simp only [sSeq_x, x_min2, x_max2, x_eRg1, x_eMeth, x_eMake, x_sSet, x_sIf, x_sRet, x_sRetN, x_sPar, x_sUnp, resF_ok, x_sDrop, x_sNext, x_sBreak, x_sCont, x_sRaise, x_sAug, augK_ok, x_sFor, x_sWhile, sKill_x, x_wipe0, x_wipe1, x_evL0, x_evL1, x_setL0, x_setL1, x_eVar, x_eC, x_eOp, x_eUn, x_eCall, x_eMS, x_asStr, x_aNil, x_aCons, x_eTup, x_eLst, x_eIf, x_eNot, x_eAnd, x_eOr, x_bAnd, x_bOr, x_bNot, x_bYes, x_eSl, x_oNone, x_oSome, asI_int, x_iSeq, x_iCall, x_gfName, x_gfTup, eLc, noX_is, Res.bind_ok, Res.bind_exc, flow_ok, flow_exc, seqK_next, seqK_ret, seqK_exc, seqK_brk, seqK_cont, loopK_next, loopK_cont, loopK_brk, loopK_ret, loopK_exc, must_ok, List.set_cons_succ, List.set_cons_zero, List.getD_cons_succ, List.getD_cons_zero, vD_some, if_true, if_false, Bool.false_eq_true, reduceIte, List.map_cons, List.map_nil, List.length_cons, List.length_nil, List.cons_append, List.nil_append, List.replicate, Nat.reduceSub, Nat.reduceAdd, x_add, x_sub, x_cmp, x_eq_ii, x_ne_ii, x_int_i, x_len_t, x_len_l, x_tup_l, x_tup_t, x_list_l, x_list_t, x_dSl_t, x_dSl_l, x_items_t, x_items_l, x_tru_n, x_tru_b, x_tru_i, x_tru_t, x_tru_l, x_asB, x_is_n, x_isNot_n, isNon_n, isNon_i, isNon_s, isNon_t, isNon_l, isNon_b, Bool.not_true, Bool.not_false, List.length_map, fnE, startE, x_any_f, hany]
  rw [l3]
  simp only [sSeq_x, x_min2, x_max2, x_eRg1, x_eMeth, x_eMake, x_sSet, x_sIf, x_sRet, x_sRetN, x_sPar, x_sUnp, resF_ok, x_sDrop, x_sNext, x_sBreak, x_sCont, x_sRaise, x_sAug, augK_ok, x_sFor, x_sWhile, sKill_x, x_wipe0, x_wipe1, x_evL0, x_evL1, x_setL0, x_setL1, x_eVar, x_eC, x_eOp, x_eUn, x_eCall, x_eMS, x_asStr, x_aNil, x_aCons, x_eTup, x_eLst, x_eIf, x_eNot, x_eAnd, x_eOr, x_bAnd, x_bOr, x_bNot, x_bYes, x_eSl, x_oNone, x_oSome, asI_int, x_iSeq, x_iCall, x_gfName, x_gfTup, eLc, noX_is, Res.bind_ok, Res.bind_exc, flow_ok, flow_exc, seqK_next, seqK_ret, seqK_exc, seqK_brk, seqK_cont, loopK_next, loopK_cont, loopK_brk, loopK_ret, loopK_exc, must_ok, List.set_cons_succ, List.set_cons_zero, List.getD_cons_succ, List.getD_cons_zero, vD_some, if_true, if_false, Bool.false_eq_true, reduceIte, List.map_cons, List.map_nil, List.length_cons, List.length_nil, List.cons_append, List.nil_append, List.replicate, Nat.reduceSub, Nat.reduceAdd, x_add, x_sub, x_cmp, x_eq_ii, x_ne_ii, x_int_i, x_len_t, x_len_l, x_tup_l, x_tup_t, x_list_l, x_list_t, x_dSl_t, x_dSl_l, x_items_t, x_items_l, x_tru_n, x_tru_b, x_tru_i, x_tru_t, x_tru_l, x_asB, x_is_n, x_isNot_n, isNon_n, isNon_i, isNon_s, isNon_t, isNon_l, isNon_b, Bool.not_true, Bool.not_false, List.length_map, fnE, startE, x_all_f, hall, d2, i1, fin]
end
section
variable {P : PP} {F : List (List Nat)} (sc dl t x6 x8 x9 x10 x11 x12 x13 x14 x15 x16 x17 : Option D)
theorem b2 (k : HK P F) {r : Nat → Nat} (hr : ∀ i row, P[i]? = some row → ∀ x ∈ row, r x < r i) {a : Nat} (ha : a < P.length) :
    B_law_2 (E30 sc dl t P F x6 (some (dN a)) none none x11 none none none none none none) = .next (E30 sc dl t P F x6 none none none x11 none none none none none none) := by
  have hn := k.v.le
  have rg : dRng1 [.int ((a : Int) + 1)] = .ok ((List.range (a + 1)).map fun i => .int (i : Nat)) := by
    have := dRng1_nat (a + 1) (by omega)
    rw [← this]
    rfl
  obtain ⟨ρ', e, y9, rfl⟩ := for_inv (gf := gfName 9) (F := B_law_3) (ds := (List.range (a + 1)).map fun i => D.int (i : Nat)) (n := 0) (ρ := E30 sc dl t P F x6 (some (dN a)) none none x11 none none none none none none)
    (P := fun _ ρ => ∃ y9, ρ = E30 sc dl t P F x6 (some (dN a)) y9 none x11 none none none none none none) ⟨none, rfl⟩ fun j d hj ρ hp => by
      obtain ⟨y9, rfl⟩ := hp
      obtain ⟨i, hi, rfl⟩ := List.mem_map.mp (List.mem_of_getElem? hj)
      have hi2 := List.mem_range.mp hi
      exact ⟨_, _, rfl, .inl (b3 sc dl t x6 x11 k hr ha (show i < P.length by omega)), none, rfl⟩
  unfold B_law_2
  simp only [sSeq_x, x_min2, x_max2, x_eRg1, x_eMeth, x_eMake, x_sSet, x_sIf, x_sRet, x_sRetN, x_sPar, x_sUnp, resF_ok, x_sDrop, x_sNext, x_sBreak, x_sCont, x_sRaise, x_sAug, augK_ok, x_sFor, x_sWhile, sKill_x, x_wipe0, x_wipe1, x_evL0, x_evL1, x_setL0, x_setL1, x_eVar, x_eC, x_eOp, x_eUn, x_eCall, x_eMS, x_asStr, x_aNil, x_aCons, x_eTup, x_eLst, x_eIf, x_eNot, x_eAnd, x_eOr, x_bAnd, x_bOr, x_bNot, x_bYes, x_eSl, x_oNone, x_oSome, asI_int, x_iSeq, x_iCall, x_gfName, x_gfTup, eLc, noX_is, Res.bind_ok, Res.bind_exc, flow_ok, flow_exc, seqK_next, seqK_ret, seqK_exc, seqK_brk, seqK_cont, loopK_next, loopK_cont, loopK_brk, loopK_ret, loopK_exc, must_ok, List.set_cons_succ, List.set_cons_zero, List.getD_cons_succ, List.getD_cons_zero, vD_some, if_true, if_false, Bool.false_eq_true, reduceIte, List.map_cons, List.map_nil, List.length_cons, List.length_nil, List.cons_append, List.nil_append, List.replicate, Nat.reduceSub, Nat.reduceAdd, x_add, x_sub, x_cmp, x_eq_ii, x_ne_ii, x_int_i, x_len_t, x_len_l, x_tup_l, x_tup_t, x_list_l, x_list_t, x_dSl_t, x_dSl_l, x_items_t, x_items_l, x_tru_n, x_tru_b, x_tru_i, x_tru_t, x_tru_l, x_asB, x_is_n, x_isNot_n, isNon_n, isNon_i, isNon_s, isNon_t, isNon_l, isNon_b, Bool.not_true, Bool.not_false, List.length_map, fnE, startE, dN_def, rg] at e ⊢
  rw [e]
  simp only [sSeq_x, x_min2, x_max2, x_eRg1, x_eMeth, x_eMake, x_sSet, x_sIf, x_sRet, x_sRetN, x_sPar, x_sUnp, resF_ok, x_sDrop, x_sNext, x_sBreak, x_sCont, x_sRaise, x_sAug, augK_ok, x_sFor, x_sWhile, sKill_x, x_wipe0, x_wipe1, x_evL0, x_evL1, x_setL0, x_setL1, x_eVar, x_eC, x_eOp, x_eUn, x_eCall, x_eMS, x_asStr, x_aNil, x_aCons, x_eTup, x_eLst, x_eIf, x_eNot, x_eAnd, x_eOr, x_bAnd, x_bOr, x_bNot, x_bYes, x_eSl, x_oNone, x_oSome, asI_int, x_iSeq, x_iCall, x_gfName, x_gfTup, eLc, noX_is, Res.bind_ok, Res.bind_exc, flow_ok, flow_exc, seqK_next, seqK_ret, seqK_exc, seqK_brk, seqK_cont, loopK_next, loopK_cont, loopK_brk, loopK_ret, loopK_exc, must_ok, List.set_cons_succ, List.set_cons_zero, List.getD_cons_succ, List.getD_cons_zero, vD_some, if_true, if_false, Bool.false_eq_true, reduceIte, List.map_cons, List.map_nil, List.length_cons, List.length_nil, List.cons_append, List.nil_append, List.replicate, Nat.reduceSub, Nat.reduceAdd, x_add, x_sub, x_cmp, x_eq_ii, x_ne_ii, x_int_i, x_len_t, x_len_l, x_tup_l, x_tup_t, x_list_l, x_list_t, x_dSl_t, x_dSl_l, x_items_t, x_items_l, x_tru_n, x_tru_b, x_tru_i, x_tru_t, x_tru_l, x_asB, x_is_n, x_isNot_n, isNon_n, isNon_i, isNon_s, isNon_t, isNon_l, isNon_b, Bool.not_true, Bool.not_false, List.length_map, fnE, startE]
def lesP (P : PP) (l : List Nat → List Nat) : PP := P.map l
noncomputable def lessP (P : PP) : PP := P.map (lastL P)
theorem less_at {i : Nat} {row : List Nat} (h : (lessP P)[i]? = some row) : ∃ w, P[i]? = some w ∧ row = lastL P w := by
  unfold lessP at h
  rw [List.getElem?_map] at h
  cases q : P[i]? with
  | none => rw [q] at h; cases h
  | some w => rw [q] at h; exact ⟨w, rfl, (Option.some.inj h).symm⟩
theorem less_len : (lessP P).length = P.length := List.length_map _
theorem less_vp (v : VP P) : VP (lessP P) := by
  refine ⟨by rw [less_len]; exact v.le, by rw [less_len]; exact v.pos, fun i row h x hx => ?_, fun i row h => ?_⟩
  · obtain ⟨w, hw, rfl⟩ := less_at h
    rw [less_len]
    exact v.lt i w hw x (lastL_mem.mp hx).1
  · obtain ⟨w, hw, rfl⟩ := less_at h
    exact (v.asc i w hw).filter _
theorem less_rank {r : Nat → Nat} (hr : ∀ i row, P[i]? = some row → ∀ x ∈ row, r x < r i) : ∀ i row, (lessP P)[i]? = some row → ∀ x ∈ row, r x < r i := fun i row h x hx => by
  obtain ⟨w, hw, rfl⟩ := less_at h
  exact hr i w hw x (lastL_mem.mp hx).1
theorem sub_up {Q : PP} (h : ∀ (i : Nat) (row : List Nat), Q[i]? = some row → ∃ w, P[i]? = some w ∧ ∀ x ∈ row, x ∈ w) {a b : Nat} (u : Up Q a b) : Up P a b := by
  induction u with
  | me => exact .me _
  | st h1 h2 _ ih =>
    obtain ⟨w, hw, hm⟩ := h _ _ h1
    exact .st hw (hm _ h2) ih
theorem less_up {r : Nat → Nat} (hr : ∀ i row, P[i]? = some row → ∀ x ∈ row, r x < r i) : ∀ (n a b : Nat), r b < n → (Up (lessP P) a b ↔ Up P a b) := by
  intro n
  induction n with
  | zero => exact fun a b h => by omega
  | succ n ih =>
    intro a b hn
    constructor
    · exact sub_up fun i row h => by
        obtain ⟨w, hw, rfl⟩ := less_at h
        exact ⟨w, hw, fun x hx => (lastL_mem.mp hx).1⟩
    · intro u
      cases u with
      | me => exact .me _
      | @st x _ row h1 h2 h3 =>
        obtain ⟨y, hy, u2⟩ := last_above hr (l := row) (B := r b) (fun y hy => Nat.le_of_lt (hr b row h1 y hy)) (r b) x h2 (by omega)
        have hlt := hr b row h1 y (lastL_mem.mp hy).1
        exact .st (row := lastL P row) (by unfold lessP; rw [List.getElem?_map, h1]; rfl) hy ((ih a y (by omega)).mpr (Up.trans h3 u2))
theorem less_upL {r : Nat → Nat} (hr : ∀ i row, P[i]? = some row → ∀ x ∈ row, r x < r i) (i : Nat) : upL (lessP P) i = upL P i := pwN_ext (upL_pw _ _) (upL_pw _ _) fun a => by
  rw [mem_upL, mem_upL, less_len, less_up hr (r i + 1) a i (by omega)]
theorem lesser_ok (k : HK P F) {r : Nat → Nat} (hr : ∀ i row, P[i]? = some row → ∀ x ∈ row, r x < r i) : ∃ F', HK (lessP P) F' ∧ C_lesser_parents [hisD P F] = .ok (hisD (lessP P) F') := by
  obtain ⟨F', k', hF'⟩ := his_of (less_vp k.v) (less_rank hr)
  refine ⟨F', k', ?_⟩
  have mk := make_ok k'.v hF'
  have lc := lc_fun (gf := gfName 1) (f := eCall C__last_ones (aCons (eVar 0) (aCons (eVar 1) aNil))) (ρ := [some (hisD P F), none]) (e := rowD) (g := fun row => rowD (lastL P row)) (xs := P) fun row hrow => by
    obtain ⟨i, hi⟩ := List.mem_iff_getElem?.mp hrow
    refine ⟨_, rfl, ?_⟩
    have := last_ok k (rowD row) row (k.v.lt i row hi) rfl (Nat.le_trans (k.v.row_len hi) (by omega))
    simp only [sSeq_x, x_min2, x_max2, x_eRg1, x_eMeth, x_eMake, x_sSet, x_sIf, x_sRet, x_sRetN, x_sPar, x_sUnp, resF_ok, x_sDrop, x_sNext, x_sBreak, x_sCont, x_sRaise, x_sAug, augK_ok, x_sFor, x_sWhile, sKill_x, x_wipe0, x_wipe1, x_evL0, x_evL1, x_setL0, x_setL1, x_eVar, x_eC, x_eOp, x_eUn, x_eCall, x_eMS, x_asStr, x_aNil, x_aCons, x_eTup, x_eLst, x_eIf, x_eNot, x_eAnd, x_eOr, x_bAnd, x_bOr, x_bNot, x_bYes, x_eSl, x_oNone, x_oSome, asI_int, x_iSeq, x_iCall, x_gfName, x_gfTup, eLc, noX_is, Res.bind_ok, Res.bind_exc, flow_ok, flow_exc, seqK_next, seqK_ret, seqK_exc, seqK_brk, seqK_cont, loopK_next, loopK_cont, loopK_brk, loopK_ret, loopK_exc, must_ok, List.set_cons_succ, List.set_cons_zero, List.getD_cons_succ, List.getD_cons_zero, vD_some, if_true, if_false, Bool.false_eq_true, reduceIte, List.map_cons, List.map_nil, List.length_cons, List.length_nil, List.cons_append, List.nil_append, List.replicate, Nat.reduceSub, Nat.reduceAdd, x_add, x_sub, x_cmp, x_eq_ii, x_ne_ii, x_int_i, x_len_t, x_len_l, x_tup_l, x_tup_t, x_list_l, x_list_t, x_dSl_t, x_dSl_l, x_items_t, x_items_l, x_tru_n, x_tru_b, x_tru_i, x_tru_t, x_tru_l, x_asB, x_is_n, x_isNot_n, isNon_n, isNon_i, isNon_s, isNon_t, isNon_l, isNon_b, Bool.not_true, Bool.not_false, List.length_map, fnE, startE, this]
    rfl
  have hp : dItems (parD P) = .ok (P.map rowD) := rfl
  have e : D.tup (P.map fun row => rowD (lastL P row)) = parD (lessP P) := by
    unfold parD lessP
    rw [List.map_map]
    rfl
  unfold C_lesser_parents F_lesser_parents
  simp only [sSeq_x, x_min2, x_max2, x_eRg1, x_eMeth, x_eMake, x_sSet, x_sIf, x_sRet, x_sRetN, x_sPar, x_sUnp, resF_ok, x_sDrop, x_sNext, x_sBreak, x_sCont, x_sRaise, x_sAug, augK_ok, x_sFor, x_sWhile, sKill_x, x_wipe0, x_wipe1, x_evL0, x_evL1, x_setL0, x_setL1, x_eVar, x_eC, x_eOp, x_eUn, x_eCall, x_eMS, x_asStr, x_aNil, x_aCons, x_eTup, x_eLst, x_eIf, x_eNot, x_eAnd, x_eOr, x_bAnd, x_bOr, x_bNot, x_bYes, x_eSl, x_oNone, x_oSome, asI_int, x_iSeq, x_iCall, x_gfName, x_gfTup, eLc, noX_is, Res.bind_ok, Res.bind_exc, flow_ok, flow_exc, seqK_next, seqK_ret, seqK_exc, seqK_brk, seqK_cont, loopK_next, loopK_cont, loopK_brk, loopK_ret, loopK_exc, must_ok, List.set_cons_succ, List.set_cons_zero, List.getD_cons_succ, List.getD_cons_zero, vD_some, if_true, if_false, Bool.false_eq_true, reduceIte, List.map_cons, List.map_nil, List.length_cons, List.length_nil, List.cons_append, List.nil_append, List.replicate, Nat.reduceSub, Nat.reduceAdd, x_add, x_sub, x_cmp, x_eq_ii, x_ne_ii, x_int_i, x_len_t, x_len_l, x_tup_l, x_tup_t, x_list_l, x_list_t, x_dSl_t, x_dSl_l, x_items_t, x_items_l, x_tru_n, x_tru_b, x_tru_i, x_tru_t, x_tru_l, x_asB, x_is_n, x_isNot_n, isNon_n, isNon_i, isNon_s, isNon_t, isNon_l, isNon_b, Bool.not_true, Bool.not_false, List.length_map, fnE, startE, startE, his_par, hp] at lc ⊢
  rw [lc]
  simp only [sSeq_x, x_min2, x_max2, x_eRg1, x_eMeth, x_eMake, x_sSet, x_sIf, x_sRet, x_sRetN, x_sPar, x_sUnp, resF_ok, x_sDrop, x_sNext, x_sBreak, x_sCont, x_sRaise, x_sAug, augK_ok, x_sFor, x_sWhile, sKill_x, x_wipe0, x_wipe1, x_evL0, x_evL1, x_setL0, x_setL1, x_eVar, x_eC, x_eOp, x_eUn, x_eCall, x_eMS, x_asStr, x_aNil, x_aCons, x_eTup, x_eLst, x_eIf, x_eNot, x_eAnd, x_eOr, x_bAnd, x_bOr, x_bNot, x_bYes, x_eSl, x_oNone, x_oSome, asI_int, x_iSeq, x_iCall, x_gfName, x_gfTup, eLc, noX_is, Res.bind_ok, Res.bind_exc, flow_ok, flow_exc, seqK_next, seqK_ret, seqK_exc, seqK_brk, seqK_cont, loopK_next, loopK_cont, loopK_brk, loopK_ret, loopK_exc, must_ok, List.set_cons_succ, List.set_cons_zero, List.getD_cons_succ, List.getD_cons_zero, vD_some, if_true, if_false, Bool.false_eq_true, reduceIte, List.map_cons, List.map_nil, List.length_cons, List.length_nil, List.cons_append, List.nil_append, List.replicate, Nat.reduceSub, Nat.reduceAdd, x_add, x_sub, x_cmp, x_eq_ii, x_ne_ii, x_int_i, x_len_t, x_len_l, x_tup_l, x_tup_t, x_list_l, x_list_t, x_dSl_t, x_dSl_l, x_items_t, x_items_l, x_tru_n, x_tru_b, x_tru_i, x_tru_t, x_tru_l, x_asB, x_is_n, x_isNot_n, isNon_n, isNon_i, isNon_s, isNon_t, isNon_l, isNon_b, Bool.not_true, Bool.not_false, List.length_map, fnE, startE, e, mk]
/-- the versions that a row keeps -/
theorem c4 (k : HK P F) {i : Nat} (hi : i < P.length) :
    eLc (iSeq (eOp dIx (eVar 3) (eVar 6))) [11] (gfName 11) (bNot (eUn dTru (eCall fAny (aCons (eLc (iSeq (eOp dIx (eVar 3) (eVar 6))) [19] (gfName 19) bYes (eAnd (eOp (dNe) (eVar 19) (eVar 11)) (eOp (dIn) (eVar 11) (eOp dIx (eVar 7) (eVar 19))))) aNil)))) (eVar 11) (E30 sc dl t P F (some (dN i)) x8 x9 x10 x11 x12 x13 x14 x15 x16 x17) = .ok (.lst ((lastL P (P.getD i [])).map dN)) := by
  have hrow := row_at hi
  have hp : dIx (parD P) (dN i) = .ok (rowD (P.getD i [])) := dIx_tm (f := rowD) hrow
  have hit : dItems (rowD (P.getD i [])) = .ok ((P.getD i []).map dN) := rfl
  have lc := lc_filter (gf := gfName 11) (tt := bNot (eUn dTru (eCall fAny (aCons (eLc (iSeq (eOp dIx (eVar 3) (eVar 6))) [19] (gfName 19) bYes (eAnd (eOp (dNe) (eVar 19) (eVar 11)) (eOp (dIn) (eVar 11) (eOp dIx (eVar 7) (eVar 19))))) aNil)))) (f := eVar 11) (ρ := E30 sc dl t P F (some (dN i)) x8 x9 x10 none x12 x13 x14 x15 x16 x17) (e := dN) (p := fun x => !((P.getD i []).any fun y => !decide (y = x) && upB P x y)) (g := dN) (xs := P.getD i []) fun x hx => by
    refine ⟨_, rfl, ?_, rfl⟩
    have inner := lc_fun (gf := gfName 19) (f := eAnd (eOp (dNe) (eVar 19) (eVar 11)) (eOp (dIn) (eVar 11) (eOp dIx (eVar 7) (eVar 19)))) (ρ := E30 sc dl t P F (some (dN i)) x8 x9 x10 (some (dN x)) x12 x13 x14 x15 x16 x17) (e := dN) (g := fun y => .bl (!decide (y = x) && upB P x y)) (xs := P.getD i []) fun y hy => by
      refine ⟨_, rfl, ?_⟩
      have hyl := k.v.lt i _ hrow y hy
      have h1 := in_up k.v (a := x) hyl
      have h2 := ab_at (P := P) hyl
      have h3 := ne_nat y x
      rw [← dN_def] at h2
      simp only [sSeq_x, x_min2, x_max2, x_eRg1, x_eMeth, x_eMake, x_sSet, x_sIf, x_sRet, x_sRetN, x_sPar, x_sUnp, resF_ok, x_sDrop, x_sNext, x_sBreak, x_sCont, x_sRaise, x_sAug, augK_ok, x_sFor, x_sWhile, sKill_x, x_wipe0, x_wipe1, x_evL0, x_evL1, x_setL0, x_setL1, x_eVar, x_eC, x_eOp, x_eUn, x_eCall, x_eMS, x_asStr, x_aNil, x_aCons, x_eTup, x_eLst, x_eIf, x_eNot, x_eAnd, x_eOr, x_bAnd, x_bOr, x_bNot, x_bYes, x_eSl, x_oNone, x_oSome, asI_int, x_iSeq, x_iCall, x_gfName, x_gfTup, eLc, noX_is, Res.bind_ok, Res.bind_exc, flow_ok, flow_exc, seqK_next, seqK_ret, seqK_exc, seqK_brk, seqK_cont, loopK_next, loopK_cont, loopK_brk, loopK_ret, loopK_exc, must_ok, List.set_cons_succ, List.set_cons_zero, List.getD_cons_succ, List.getD_cons_zero, vD_some, if_true, if_false, Bool.false_eq_true, reduceIte, List.map_cons, List.map_nil, List.length_cons, List.length_nil, List.cons_append, List.nil_append, List.replicate, Nat.reduceSub, Nat.reduceAdd, x_add, x_sub, x_cmp, x_eq_ii, x_ne_ii, x_int_i, x_len_t, x_len_l, x_tup_l, x_tup_t, x_list_l, x_list_t, x_dSl_t, x_dSl_l, x_items_t, x_items_l, x_tru_n, x_tru_b, x_tru_i, x_tru_t, x_tru_l, x_asB, x_is_n, x_isNot_n, isNon_n, isNon_i, isNon_s, isNon_t, isNon_l, isNon_b, Bool.not_true, Bool.not_false, List.length_map, fnE, startE, h3]
      cases decide (y = x) with
      | true => simp only [sSeq_x, x_min2, x_max2, x_eRg1, x_eMeth, x_eMake, x_sSet, x_sIf, x_sRet, x_sRetN, x_sPar, x_sUnp, resF_ok, x_sDrop, x_sNext, x_sBreak, x_sCont, x_sRaise, x_sAug, augK_ok, x_sFor, x_sWhile, sKill_x, x_wipe0, x_wipe1, x_evL0, x_evL1, x_setL0, x_setL1, x_eVar, x_eC, x_eOp, x_eUn, x_eCall, x_eMS, x_asStr, x_aNil, x_aCons, x_eTup, x_eLst, x_eIf, x_eNot, x_eAnd, x_eOr, x_bAnd, x_bOr, x_bNot, x_bYes, x_eSl, x_oNone, x_oSome, asI_int, x_iSeq, x_iCall, x_gfName, x_gfTup, eLc, noX_is, Res.bind_ok, Res.bind_exc, flow_ok, flow_exc, seqK_next, seqK_ret, seqK_exc, seqK_brk, seqK_cont, loopK_next, loopK_cont, loopK_brk, loopK_ret, loopK_exc, must_ok, List.set_cons_succ, List.set_cons_zero, List.getD_cons_succ, List.getD_cons_zero, vD_some, if_true, if_false, Bool.false_eq_true, reduceIte, List.map_cons, List.map_nil, List.length_cons, List.length_nil, List.cons_append, List.nil_append, List.replicate, Nat.reduceSub, Nat.reduceAdd, x_add, x_sub, x_cmp, x_eq_ii, x_ne_ii, x_int_i, x_len_t, x_len_l, x_tup_l, x_tup_t, x_list_l, x_list_t, x_dSl_t, x_dSl_l, x_items_t, x_items_l, x_tru_n, x_tru_b, x_tru_i, x_tru_t, x_tru_l, x_asB, x_is_n, x_isNot_n, isNon_n, isNon_i, isNon_s, isNon_t, isNon_l, isNon_b, Bool.not_true, Bool.not_false, List.length_map, fnE, startE, Bool.false_and]
      | false => simp only [sSeq_x, x_min2, x_max2, x_eRg1, x_eMeth, x_eMake, x_sSet, x_sIf, x_sRet, x_sRetN, x_sPar, x_sUnp, resF_ok, x_sDrop, x_sNext, x_sBreak, x_sCont, x_sRaise, x_sAug, augK_ok, x_sFor, x_sWhile, sKill_x, x_wipe0, x_wipe1, x_evL0, x_evL1, x_setL0, x_setL1, x_eVar, x_eC, x_eOp, x_eUn, x_eCall, x_eMS, x_asStr, x_aNil, x_aCons, x_eTup, x_eLst, x_eIf, x_eNot, x_eAnd, x_eOr, x_bAnd, x_bOr, x_bNot, x_bYes, x_eSl, x_oNone, x_oSome, asI_int, x_iSeq, x_iCall, x_gfName, x_gfTup, eLc, noX_is, Res.bind_ok, Res.bind_exc, flow_ok, flow_exc, seqK_next, seqK_ret, seqK_exc, seqK_brk, seqK_cont, loopK_next, loopK_cont, loopK_brk, loopK_ret, loopK_exc, must_ok, List.set_cons_succ, List.set_cons_zero, List.getD_cons_succ, List.getD_cons_zero, vD_some, if_true, if_false, Bool.false_eq_true, reduceIte, List.map_cons, List.map_nil, List.length_cons, List.length_nil, List.cons_append, List.nil_append, List.replicate, Nat.reduceSub, Nat.reduceAdd, x_add, x_sub, x_cmp, x_eq_ii, x_ne_ii, x_int_i, x_len_t, x_len_l, x_tup_l, x_tup_t, x_list_l, x_list_t, x_dSl_t, x_dSl_l, x_items_t, x_items_l, x_tru_n, x_tru_b, x_tru_i, x_tru_t, x_tru_l, x_asB, x_is_n, x_isNot_n, isNon_n, isNon_i, isNon_s, isNon_t, isNon_l, isNon_b, Bool.not_true, Bool.not_false, List.length_map, fnE, startE, h2, h1, Bool.true_and]
    simp only [sSeq_x, x_min2, x_max2, x_eRg1, x_eMeth, x_eMake, x_sSet, x_sIf, x_sRet, x_sRetN, x_sPar, x_sUnp, resF_ok, x_sDrop, x_sNext, x_sBreak, x_sCont, x_sRaise, x_sAug, augK_ok, x_sFor, x_sWhile, sKill_x, x_wipe0, x_wipe1, x_evL0, x_evL1, x_setL0, x_setL1, x_eVar, x_eC, x_eOp, x_eUn, x_eCall, x_eMS, x_asStr, x_aNil, x_aCons, x_eTup, x_eLst, x_eIf, x_eNot, x_eAnd, x_eOr, x_bAnd, x_bOr, x_bNot, x_bYes, x_eSl, x_oNone, x_oSome, asI_int, x_iSeq, x_iCall, x_gfName, x_gfTup, eLc, noX_is, Res.bind_ok, Res.bind_exc, flow_ok, flow_exc, seqK_next, seqK_ret, seqK_exc, seqK_brk, seqK_cont, loopK_next, loopK_cont, loopK_brk, loopK_ret, loopK_exc, must_ok, List.set_cons_succ, List.set_cons_zero, List.getD_cons_succ, List.getD_cons_zero, vD_some, if_true, if_false, Bool.false_eq_true, reduceIte, List.map_cons, List.map_nil, List.length_cons, List.length_nil, List.cons_append, List.nil_append, List.replicate, Nat.reduceSub, Nat.reduceAdd, x_add, x_sub, x_cmp, x_eq_ii, x_ne_ii, x_int_i, x_len_t, x_len_l, x_tup_l, x_tup_t, x_list_l, x_list_t, x_dSl_t, x_dSl_l, x_items_t, x_items_l, x_tru_n, x_tru_b, x_tru_i, x_tru_t, x_tru_l, x_asB, x_is_n, x_isNot_n, isNon_n, isNon_i, isNon_s, isNon_t, isNon_l, isNon_b, Bool.not_true, Bool.not_false, List.length_map, fnE, startE, hp, hit] at inner ⊢
    rw [inner]
    simp only [sSeq_x, x_min2, x_max2, x_eRg1, x_eMeth, x_eMake, x_sSet, x_sIf, x_sRet, x_sRetN, x_sPar, x_sUnp, resF_ok, x_sDrop, x_sNext, x_sBreak, x_sCont, x_sRaise, x_sAug, augK_ok, x_sFor, x_sWhile, sKill_x, x_wipe0, x_wipe1, x_evL0, x_evL1, x_setL0, x_setL1, x_eVar, x_eC, x_eOp, x_eUn, x_eCall, x_eMS, x_asStr, x_aNil, x_aCons, x_eTup, x_eLst, x_eIf, x_eNot, x_eAnd, x_eOr, x_bAnd, x_bOr, x_bNot, x_bYes, x_eSl, x_oNone, x_oSome, asI_int, x_iSeq, x_iCall, x_gfName, x_gfTup, eLc, noX_is, Res.bind_ok, Res.bind_exc, flow_ok, flow_exc, seqK_next, seqK_ret, seqK_exc, seqK_brk, seqK_cont, loopK_next, loopK_cont, loopK_brk, loopK_ret, loopK_exc, must_ok, List.set_cons_succ, List.set_cons_zero, List.getD_cons_succ, List.getD_cons_zero, vD_some, if_true, if_false, Bool.false_eq_true, reduceIte, List.map_cons, List.map_nil, List.length_cons, List.length_nil, List.cons_append, List.nil_append, List.replicate, Nat.reduceSub, Nat.reduceAdd, x_add, x_sub, x_cmp, x_eq_ii, x_ne_ii, x_int_i, x_len_t, x_len_l, x_tup_l, x_tup_t, x_list_l, x_list_t, x_dSl_t, x_dSl_l, x_items_t, x_items_l, x_tru_n, x_tru_b, x_tru_i, x_tru_t, x_tru_l, x_asB, x_is_n, x_isNot_n, isNon_n, isNon_i, isNon_s, isNon_t, isNon_l, isNon_b, Bool.not_true, Bool.not_false, List.length_map, fnE, startE, x_any_f]
  simp only [sSeq_x, x_min2, x_max2, x_eRg1, x_eMeth, x_eMake, x_sSet, x_sIf, x_sRet, x_sRetN, x_sPar, x_sUnp, resF_ok, x_sDrop, x_sNext, x_sBreak, x_sCont, x_sRaise, x_sAug, augK_ok, x_sFor, x_sWhile, sKill_x, x_wipe0, x_wipe1, x_evL0, x_evL1, x_setL0, x_setL1, x_eVar, x_eC, x_eOp, x_eUn, x_eCall, x_eMS, x_asStr, x_aNil, x_aCons, x_eTup, x_eLst, x_eIf, x_eNot, x_eAnd, x_eOr, x_bAnd, x_bOr, x_bNot, x_bYes, x_eSl, x_oNone, x_oSome, asI_int, x_iSeq, x_iCall, x_gfName, x_gfTup, eLc, noX_is, Res.bind_ok, Res.bind_exc, flow_ok, flow_exc, seqK_next, seqK_ret, seqK_exc, seqK_brk, seqK_cont, loopK_next, loopK_cont, loopK_brk, loopK_ret, loopK_exc, must_ok, List.set_cons_succ, List.set_cons_zero, List.getD_cons_succ, List.getD_cons_zero, vD_some, if_true, if_false, Bool.false_eq_true, reduceIte, List.map_cons, List.map_nil, List.length_cons, List.length_nil, List.cons_append, List.nil_append, List.replicate, Nat.reduceSub, Nat.reduceAdd, x_add, x_sub, x_cmp, x_eq_ii, x_ne_ii, x_int_i, x_len_t, x_len_l, x_tup_l, x_tup_t, x_list_l, x_list_t, x_dSl_t, x_dSl_l, x_items_t, x_items_l, x_tru_n, x_tru_b, x_tru_i, x_tru_t, x_tru_l, x_asB, x_is_n, x_isNot_n, isNon_n, isNon_i, isNon_s, isNon_t, isNon_l, isNon_b, Bool.not_true, Bool.not_false, List.length_map, fnE, startE, hp, hit] at lc ⊢
  rw [lc]
  rfl
end
section
variable {P : PP} {F F' : List (List Nat)} (sc dl t x6 x8 x9 x10 x11 x12 x13 x14 x15 x16 x17 : Option D)
theorem add_t {a b : List D} (h : a.length + b.length ≤ 1000) : dAdd (.tup a) (.tup b) = .ok (.tup (a ++ b)) := by
  rw [x_add_t, if_pos (by rw [sizeLine_eq]; omega)]
theorem sl_lo (Q : PP) (i : Nat) : dSl (parD Q) none (some (i : Int)) = .ok (.tup ((Q.take i).map rowD)) := by
  unfold parD
  rw [x_dSl_t, cut_map, cut_hi]
theorem sl_hi (Q : PP) (i : Nat) : dSl (parD Q) (some ((i : Int) + 1)) none = .ok (.tup ((Q.drop (i + 1)).map rowD)) := by
  unfold parD
  rw [x_dSl_t, cut_map, show (i : Int) + 1 = ((i + 1 : Nat) : Int) by omega, cut_lo]
theorem sr_lo (w : List Nat) (i : Nat) : dSl (rowD w) none (some (i : Int)) = .ok (.tup ((w.take i).map dN)) := by
  unfold rowD
  rw [x_dSl_t, cut_map, cut_hi]
theorem sr_hi (w : List Nat) (i : Nat) : dSl (rowD w) (some ((i : Int) + 1)) none = .ok (.tup ((w.drop (i + 1)).map dN)) := by
  unfold rowD
  rw [x_dSl_t, cut_map, show (i : Int) + 1 = ((i + 1 : Nat) : Int) by omega, cut_lo]
theorem bent_vp {Q : PP} (v : VP Q) {i : Nat} (hi : i < Q.length) (j : Nat) : VP (Q.set i ((Q.getD i []).eraseIdx j)) := by
  have hrow := row_at hi
  have key : ∀ (m : Nat) row, (Q.set i ((Q.getD i []).eraseIdx j))[m]? = some row → ∃ w, Q[m]? = some w ∧ row.Sublist w := fun m row h => by
    by_cases e : i = m
    · subst e
      rw [List.getElem?_set_self hi] at h
      cases h
      exact ⟨_, hrow, List.eraseIdx_sublist _ _⟩
    · rw [List.getElem?_set_ne e] at h
      exact ⟨row, h, List.Sublist.refl _⟩
  refine ⟨by rw [List.length_set]; exact v.le, by rw [List.length_set]; exact v.pos, fun m row h x hx => ?_, fun m row h => ?_⟩
  · obtain ⟨w, hw, sb⟩ := key m row h
    rw [List.length_set]
    exact v.lt m w hw x (sb.subset hx)
  · obtain ⟨w, hw, sb⟩ := key m row h
    exact (v.asc m w hw).sublist sb
theorem bent_ne (v : VP P) {r : Nat → Nat} (hr : ∀ i row, P[i]? = some row → ∀ x ∈ row, r x < r i) {i j : Nat} (hi : i < P.length) (hj : j < ((lessP P).getD i []).length) : upL ((lessP P).set i (((lessP P).getD i []).eraseIdx j)) i ≠ upL P i := fun e => by
  have hi2 : i < (lessP P).length := by rw [less_len]; exact hi
  have hrow := row_at hi2
  obtain ⟨w, hw, ew⟩ := less_at hrow
  have hx : ((lessP P).getD i [])[j]? = some (((lessP P).getD i [])[j]) := List.getElem?_eq_getElem hj
  generalize hxe : ((lessP P).getD i [])[j] = x at hx
  have hxm : x ∈ (lessP P).getD i [] := List.mem_of_getElem? hx
  have hxl : x ∈ lastL P w := by rw [← ew]; exact hxm
  obtain ⟨hxw, hxn⟩ := lastL_mem.mp hxl
  have h1 : x ∈ upL P i := (up_upL v hi).mpr (.st hw hxw (.me x))
  rw [← e, mem_upL] at h1
  have nd : ((lessP P).getD i []).Nodup := ((less_vp v).asc i _ hrow).imp fun {a b} q z => by omega
  have sub : ∀ (m : Nat) (row : List Nat), ((lessP P).set i (((lessP P).getD i []).eraseIdx j))[m]? = some row → ∃ z, P[m]? = some z ∧ ∀ y ∈ row, y ∈ z := fun m row h => by
    by_cases q : i = m
    · subst q
      rw [List.getElem?_set_self hi2] at h
      cases h
      refine ⟨w, hw, fun y hy => ?_⟩
      have := (List.eraseIdx_sublist _ _).subset hy
      rw [ew] at this
      exact (lastL_mem.mp this).1
    · rw [List.getElem?_set_ne q] at h
      obtain ⟨z, hz, rfl⟩ := less_at h
      exact ⟨z, hz, fun y hy => (lastL_mem.mp hy).1⟩
  cases h1.2 with
  | me =>
    have := hr i w hw i hxw
    omega
  | @st y _ row e1 e2 e3 =>
    rw [List.getElem?_set_self hi2] at e1
    cases e1
    have hyw : y ∈ (lessP P).getD i [] := (List.eraseIdx_sublist _ _).subset e2
    have hy2 : y ∈ w := by
      rw [ew] at hyw
      exact (lastL_mem.mp hyw).1
    have hne : y ≠ x := fun q => by
      subst q
      rw [← hxe] at e2
      have := nd
      rw [List.mem_eraseIdx_iff_getElem] at e2
      obtain ⟨m, hm, hmj, em⟩ := e2
      exact hmj ((List.getElem_inj nd).mp em)
    exact hxn y hy2 hne (sub_up sub e3)
theorem b5 (v : VP P) (k' : HK (lessP P) F') {r : Nat → Nat} (hr : ∀ i row, P[i]? = some row → ∀ x ∈ row, r x < r i) {i j : Nat} (hi : i < P.length) (hj : j < ((lessP P).getD i []).length) :
    B_law_5 (E30 sc dl t P F (some (dN i)) x8 x9 x10 (some (dN j)) x12 x13 (some (hisD (lessP P) F')) (some (rowD ((lessP P).getD i []))) none x17) = .next (E30 sc dl t P F (some (dN i)) x8 x9 x10 (some (dN j)) x12 x13 (some (hisD (lessP P) F')) (some (rowD ((lessP P).getD i []))) none x17) := by
  have hi2 : i < (lessP P).length := by rw [less_len]; exact hi
  have hle := k'.v.le
  have hrl := k'.v.row_len (row_at hi2)
  have vb := bent_vp k'.v hi2 j
  have hib : i < ((lessP P).set i (((lessP P).getD i []).eraseIdx j)).length := by rw [List.length_set]; exact hi2
  have hab := above_ok vb i hib
  have q1 := sl_lo (lessP P) i
  have q2 := sl_hi (lessP P) i
  have q3 := sr_lo ((lessP P).getD i []) j
  have q4 := sr_hi ((lessP P).getD i []) j
  have q5 : dAdd (.tup ((((lessP P).getD i []).take j).map dN)) (.tup ((((lessP P).getD i []).drop (j + 1)).map dN)) = .ok (rowD (((lessP P).getD i []).eraseIdx j)) := by
    rw [add_t (by rw [List.length_map, List.length_map, List.length_take, List.length_drop]; omega), ← List.map_append, ← List.eraseIdx_eq_take_drop_succ]
    rfl
  have q6 : dAdd (.tup (((lessP P).take i).map rowD)) (.tup [rowD (((lessP P).getD i []).eraseIdx j)]) = .ok (.tup (((lessP P).take i).map rowD ++ [rowD (((lessP P).getD i []).eraseIdx j)])) := add_t (by simp; omega)
  have q7 : dAdd (.tup (((lessP P).take i).map rowD ++ [rowD (((lessP P).getD i []).eraseIdx j)])) (.tup (((lessP P).drop (i + 1)).map rowD)) = .ok (parD ((lessP P).set i (((lessP P).getD i []).eraseIdx j))) := by
    rw [add_t (by simp; omega)]
    unfold parD
    rw [List.set_eq_take_append_cons_drop, if_pos hi2, List.map_append, List.map_cons, List.append_assoc]
    rfl
  have d2 := ab_at (P := P) hi
  rw [← dN_def] at d2
  have hne : dEq (.lst ((upL ((lessP P).set i (((lessP P).getD i []).eraseIdx j)) i).map dN)) (.lst ((upL P i).map dN)) = .ok (.bl false) := by
    show (if okN 60 (.lst ((upL ((lessP P).set i (((lessP P).getD i []).eraseIdx j)) i).map dN)) && okN 60 (.lst ((upL P i).map dN)) then Res.ok (D.bl (eqD (.lst ((upL ((lessP P).set i (((lessP P).getD i []).eraseIdx j)) i).map dN)) (.lst ((upL P i).map dN)))) else .err) = _
    rw [ok_intsL, ok_intsL]
    have : eqD (.lst ((upL ((lessP P).set i (((lessP P).getD i []).eraseIdx j)) i).map dN)) (.lst ((upL P i).map dN)) = decide (upL ((lessP P).set i (((lessP P).getD i []).eraseIdx j)) i = upL P i) := by
      rw [eqD]
      exact eqDL_map eqD_N _ _
    rw [this, decide_eq_false (bent_ne v hr hi hj)]
    rfl
  unfold B_law_5
  simp only [sSeq_x, x_min2, x_max2, x_eRg1, x_eMeth, x_eMake, x_sSet, x_sIf, x_sRet, x_sRetN, x_sPar, x_sUnp, resF_ok, x_sDrop, x_sNext, x_sBreak, x_sCont, x_sRaise, x_sAug, augK_ok, x_sFor, x_sWhile, sKill_x, x_wipe0, x_wipe1, x_evL0, x_evL1, x_setL0, x_setL1, x_eVar, x_eC, x_eOp, x_eUn, x_eCall, x_eMS, x_asStr, x_aNil, x_aCons, x_eTup, x_eLst, x_eIf, x_eNot, x_eAnd, x_eOr, x_bAnd, x_bOr, x_bNot, x_bYes, x_eSl, x_oNone, x_oSome, asI_int, x_iSeq, x_iCall, x_gfName, x_gfTup, eLc, noX_is, Res.bind_ok, Res.bind_exc, flow_ok, flow_exc, seqK_next, seqK_ret, seqK_exc, seqK_brk, seqK_cont, loopK_next, loopK_cont, loopK_brk, loopK_ret, loopK_exc, must_ok, List.set_cons_succ, List.set_cons_zero, List.getD_cons_succ, List.getD_cons_zero, vD_some, if_true, if_false, Bool.false_eq_true, reduceIte, List.map_cons, List.map_nil, List.length_cons, List.length_nil, List.cons_append, List.nil_append, List.replicate, Nat.reduceSub, Nat.reduceAdd, x_add, x_sub, x_cmp, x_eq_ii, x_ne_ii, x_int_i, x_len_t, x_len_l, x_tup_l, x_tup_t, x_list_l, x_list_t, x_dSl_t, x_dSl_l, x_items_t, x_items_l, x_tru_n, x_tru_b, x_tru_i, x_tru_t, x_tru_l, x_asB, x_is_n, x_isNot_n, isNon_n, isNon_i, isNon_s, isNon_t, isNon_l, isNon_b, Bool.not_true, Bool.not_false, List.length_map, fnE, startE, dN_def, his_par, q1, q2, q3, q4, q5] at hab d2 ⊢
  simp only [sSeq_x, x_min2, x_max2, x_eRg1, x_eMeth, x_eMake, x_sSet, x_sIf, x_sRet, x_sRetN, x_sPar, x_sUnp, resF_ok, x_sDrop, x_sNext, x_sBreak, x_sCont, x_sRaise, x_sAug, augK_ok, x_sFor, x_sWhile, sKill_x, x_wipe0, x_wipe1, x_evL0, x_evL1, x_setL0, x_setL1, x_eVar, x_eC, x_eOp, x_eUn, x_eCall, x_eMS, x_asStr, x_aNil, x_aCons, x_eTup, x_eLst, x_eIf, x_eNot, x_eAnd, x_eOr, x_bAnd, x_bOr, x_bNot, x_bYes, x_eSl, x_oNone, x_oSome, asI_int, x_iSeq, x_iCall, x_gfName, x_gfTup, eLc, noX_is, Res.bind_ok, Res.bind_exc, flow_ok, flow_exc, seqK_next, seqK_ret, seqK_exc, seqK_brk, seqK_cont, loopK_next, loopK_cont, loopK_brk, loopK_ret, loopK_exc, must_ok, List.set_cons_succ, List.set_cons_zero, List.getD_cons_succ, List.getD_cons_zero, vD_some, if_true, if_false, Bool.false_eq_true, reduceIte, List.map_cons, List.map_nil, List.length_cons, List.length_nil, List.cons_append, List.nil_append, List.replicate, Nat.reduceSub, Nat.reduceAdd, x_add, x_sub, x_cmp, x_eq_ii, x_ne_ii, x_int_i, x_len_t, x_len_l, x_tup_l, x_tup_t, x_list_l, x_list_t, x_dSl_t, x_dSl_l, x_items_t, x_items_l, x_tru_n, x_tru_b, x_tru_i, x_tru_t, x_tru_l, x_asB, x_is_n, x_isNot_n, isNon_n, isNon_i, isNon_s, isNon_t, isNon_l, isNon_b, Bool.not_true, Bool.not_false, List.length_map, fnE, startE, q6, q7, hab, d2, hne]
theorem b4 (k : HK P F) (k' : HK (lessP P) F') {r : Nat → Nat} (hr : ∀ i row, P[i]? = some row → ∀ x ∈ row, r x < r i) {i : Nat} (hi : i < P.length) :
    ∃ y11, B_law_4 (E30 sc dl t P F (some (dN i)) x8 x9 x10 x11 x12 x13 (some (hisD (lessP P) F')) none none x17) = .next (E30 sc dl t P F (some (dN i)) x8 x9 x10 y11 x12 x13 (some (hisD (lessP P) F')) none none x17) := by
  have hi2 : i < (lessP P).length := by rw [less_len]; exact hi
  have hrl := k'.v.row_len (row_at hi2)
  have l1 := c4 sc dl t x8 x9 x10 x11 x12 x13 (some (hisD (lessP P) F')) none none x17 k hi
  have er : lastL P (P.getD i []) = (lessP P).getD i [] := by
    unfold lessP
    rw [List.getD_eq_getElem?_getD, List.getD_eq_getElem?_getD, List.getElem?_map, List.getElem?_eq_getElem hi]
    rfl
  rw [er] at l1
  have hp : dIx (parD (lessP P)) (dN i) = .ok (rowD ((lessP P).getD i [])) := dIx_tm (f := rowD) (row_at hi2)
  have n1 : dNe (rowD ((lessP P).getD i [])) (.tup (((lessP P).getD i []).map dN)) = .ok (.bl false) := dNe_self (okT _)
  have hab := above_ok k'.v i hi2
  rw [less_upL hr] at hab
  have d2 := ab_at (P := P) hi
  rw [← dN_def] at d2
  have n2 : dNe (.lst ((upL P i).map dN)) (.lst ((upL P i).map dN)) = .ok (.bl false) := dNe_self (ok_intsL 59 _)
  have r1 := dRng1_nat ((lessP P).getD i []).length (by omega)
  obtain ⟨ρ', e, y11, rfl⟩ := for_inv (gf := gfName 11) (F := B_law_5) (ds := (List.range ((lessP P).getD i []).length).map fun i => D.int (i : Nat)) (n := 0) (ρ := E30 sc dl t P F (some (dN i)) x8 x9 x10 x11 x12 x13 (some (hisD (lessP P) F')) (some (rowD ((lessP P).getD i []))) none x17)
    (P := fun _ ρ => ∃ y11, ρ = E30 sc dl t P F (some (dN i)) x8 x9 x10 y11 x12 x13 (some (hisD (lessP P) F')) (some (rowD ((lessP P).getD i []))) none x17) ⟨x11, rfl⟩ fun j d hj ρ hp => by
      obtain ⟨y11, rfl⟩ := hp
      obtain ⟨m, hm, rfl⟩ := List.mem_map.mp (List.mem_of_getElem? hj)
      exact ⟨_, _, rfl, .inl (b5 sc dl t x8 x9 x10 x12 x13 x17 k.v k' hr hi (List.mem_range.mp hm)), _, rfl⟩
  refine ⟨y11, ?_⟩
  unfold B_law_4
  simp only [sSeq_x, x_sSet, x_eCall, x_aCons, x_aNil, l1, Res.bind_ok, x_tup_l, flow_ok, seqK_next, E30, List.set_cons_succ, List.set_cons_zero] at e ⊢
  simp only [sSeq_x, x_min2, x_max2, x_eRg1, x_eMeth, x_eMake, x_sSet, x_sIf, x_sRet, x_sRetN, x_sPar, x_sUnp, resF_ok, x_sDrop, x_sNext, x_sBreak, x_sCont, x_sRaise, x_sAug, augK_ok, x_sFor, x_sWhile, sKill_x, x_wipe0, x_wipe1, x_evL0, x_evL1, x_setL0, x_setL1, x_eVar, x_eC, x_eOp, x_eUn, x_eCall, x_eMS, x_asStr, x_aNil, x_aCons, x_eTup, x_eLst, x_eIf, x_eNot, x_eAnd, x_eOr, x_bAnd, x_bOr, x_bNot, x_bYes, x_eSl, x_oNone, x_oSome, asI_int, x_iSeq, x_iCall, x_gfName, x_gfTup, eLc, noX_is, Res.bind_ok, Res.bind_exc, flow_ok, flow_exc, seqK_next, seqK_ret, seqK_exc, seqK_brk, seqK_cont, loopK_next, loopK_cont, loopK_brk, loopK_ret, loopK_exc, must_ok, List.set_cons_succ, List.set_cons_zero, List.getD_cons_succ, List.getD_cons_zero, vD_some, if_true, if_false, Bool.false_eq_true, reduceIte, List.map_cons, List.map_nil, List.length_cons, List.length_nil, List.cons_append, List.nil_append, List.replicate, Nat.reduceSub, Nat.reduceAdd, x_add, x_sub, x_cmp, x_eq_ii, x_ne_ii, x_int_i, x_len_t, x_len_l, x_tup_l, x_tup_t, x_list_l, x_list_t, x_dSl_t, x_dSl_l, x_items_t, x_items_l, x_tru_n, x_tru_b, x_tru_i, x_tru_t, x_tru_l, x_asB, x_is_n, x_isNot_n, isNon_n, isNon_i, isNon_s, isNon_t, isNon_l, isNon_b, Bool.not_true, Bool.not_false, List.length_map, fnE, startE, his_par, hp, n1, hab, d2, n2, r1, rowD] at e ⊢
  simp only [rowD, dN_def] at n1
  simp only [sSeq_x, x_min2, x_max2, x_eRg1, x_eMeth, x_eMake, x_sSet, x_sIf, x_sRet, x_sRetN, x_sPar, x_sUnp, resF_ok, x_sDrop, x_sNext, x_sBreak, x_sCont, x_sRaise, x_sAug, augK_ok, x_sFor, x_sWhile, sKill_x, x_wipe0, x_wipe1, x_evL0, x_evL1, x_setL0, x_setL1, x_eVar, x_eC, x_eOp, x_eUn, x_eCall, x_eMS, x_asStr, x_aNil, x_aCons, x_eTup, x_eLst, x_eIf, x_eNot, x_eAnd, x_eOr, x_bAnd, x_bOr, x_bNot, x_bYes, x_eSl, x_oNone, x_oSome, asI_int, x_iSeq, x_iCall, x_gfName, x_gfTup, eLc, noX_is, Res.bind_ok, Res.bind_exc, flow_ok, flow_exc, seqK_next, seqK_ret, seqK_exc, seqK_brk, seqK_cont, loopK_next, loopK_cont, loopK_brk, loopK_ret, loopK_exc, must_ok, List.set_cons_succ, List.set_cons_zero, List.getD_cons_succ, List.getD_cons_zero, vD_some, if_true, if_false, Bool.false_eq_true, reduceIte, List.map_cons, List.map_nil, List.length_cons, List.length_nil, List.cons_append, List.nil_append, List.replicate, Nat.reduceSub, Nat.reduceAdd, x_add, x_sub, x_cmp, x_eq_ii, x_ne_ii, x_int_i, x_len_t, x_len_l, x_tup_l, x_tup_t, x_list_l, x_list_t, x_dSl_t, x_dSl_l, x_items_t, x_items_l, x_tru_n, x_tru_b, x_tru_i, x_tru_t, x_tru_l, x_asB, x_is_n, x_isNot_n, isNon_n, isNon_i, isNon_s, isNon_t, isNon_l, isNon_b, Bool.not_true, Bool.not_false, List.length_map, fnE, startE, n1, hab, d2, n2, dN_def, r1] at e ⊢
  rw [e]
  simp only [sSeq_x, x_min2, x_max2, x_eRg1, x_eMeth, x_eMake, x_sSet, x_sIf, x_sRet, x_sRetN, x_sPar, x_sUnp, resF_ok, x_sDrop, x_sNext, x_sBreak, x_sCont, x_sRaise, x_sAug, augK_ok, x_sFor, x_sWhile, sKill_x, x_wipe0, x_wipe1, x_evL0, x_evL1, x_setL0, x_setL1, x_eVar, x_eC, x_eOp, x_eUn, x_eCall, x_eMS, x_asStr, x_aNil, x_aCons, x_eTup, x_eLst, x_eIf, x_eNot, x_eAnd, x_eOr, x_bAnd, x_bOr, x_bNot, x_bYes, x_eSl, x_oNone, x_oSome, asI_int, x_iSeq, x_iCall, x_gfName, x_gfTup, eLc, noX_is, Res.bind_ok, Res.bind_exc, flow_ok, flow_exc, seqK_next, seqK_ret, seqK_exc, seqK_brk, seqK_cont, loopK_next, loopK_cont, loopK_brk, loopK_ret, loopK_exc, must_ok, List.set_cons_succ, List.set_cons_zero, List.getD_cons_succ, List.getD_cons_zero, vD_some, if_true, if_false, Bool.false_eq_true, reduceIte, List.map_cons, List.map_nil, List.length_cons, List.length_nil, List.cons_append, List.nil_append, List.replicate, Nat.reduceSub, Nat.reduceAdd, x_add, x_sub, x_cmp, x_eq_ii, x_ne_ii, x_int_i, x_len_t, x_len_l, x_tup_l, x_tup_t, x_list_l, x_list_t, x_dSl_t, x_dSl_l, x_items_t, x_items_l, x_tru_n, x_tru_b, x_tru_i, x_tru_t, x_tru_l, x_asB, x_is_n, x_isNot_n, isNon_n, isNon_i, isNon_s, isNon_t, isNon_l, isNon_b, Bool.not_true, Bool.not_false, List.length_map, fnE, startE]
end
section
variable {P : PP} {F F' : List (List Nat)} (sc dl t x6 x8 x9 x10 x11 x12 x13 x14 x15 x16 x17 : Option D)
theorem bad_mem : ("BadVersion" : Str) ∈ (["BadHistory", "BadVersion"] : List Str) ∧ ("BadVersion" : Str) ∈ (["BadVersion"] : List Str) := by decide +kernel
theorem ref_ok {w : D} (hw : smp w = true) (hb : wh w 0 ((P.length : Int) - 1) = false) : C__law_refused [hisD P F, w, .int 0] = .ok (.bl true) ∧ C__law_refused [hisD P F, .int 0, w] = .ok (.bl true) := by
  have k2 : C_check_versions [hisD P F, .lst [w, .int 0]] = .exc "BadVersion" := by
    rw [check_ok _ fun d hd => by
      rcases List.mem_cons.mp hd with q | q
      · rw [q]; exact hw
      · rw [List.mem_singleton.mp q]; rfl, if_neg (by simp [hb])]
  have k3 : C_check_versions [hisD P F, .lst [.int 0, w]] = .exc "BadVersion" := by
    rw [check_ok _ fun d hd => by
      rcases List.mem_cons.mp hd with q | q
      · rw [q]; rfl
      · rw [List.mem_singleton.mp q]; exact hw, if_neg (by simp [hb])]
  have a1 : C_nearest [hisD P F, w, .int 0] = .exc "BadVersion" := by
    unfold C_nearest F_nearest
    simp only [sSeq_x, x_min2, x_max2, x_eRg1, x_eMeth, x_eMake, x_sSet, x_sIf, x_sRet, x_sRetN, x_sPar, x_sUnp, resF_ok, x_sDrop, x_sNext, x_sBreak, x_sCont, x_sRaise, x_sAug, augK_ok, x_sFor, x_sWhile, sKill_x, x_wipe0, x_wipe1, x_evL0, x_evL1, x_setL0, x_setL1, x_eVar, x_eC, x_eOp, x_eUn, x_eCall, x_eMS, x_asStr, x_aNil, x_aCons, x_eTup, x_eLst, x_eIf, x_eNot, x_eAnd, x_eOr, x_bAnd, x_bOr, x_bNot, x_bYes, x_eSl, x_oNone, x_oSome, asI_int, x_iSeq, x_iCall, x_gfName, x_gfTup, eLc, noX_is, Res.bind_ok, Res.bind_exc, flow_ok, flow_exc, seqK_next, seqK_ret, seqK_exc, seqK_brk, seqK_cont, loopK_next, loopK_cont, loopK_brk, loopK_ret, loopK_exc, must_ok, List.set_cons_succ, List.set_cons_zero, List.getD_cons_succ, List.getD_cons_zero, vD_some, if_true, if_false, Bool.false_eq_true, reduceIte, List.map_cons, List.map_nil, List.length_cons, List.length_nil, List.cons_append, List.nil_append, List.replicate, Nat.reduceSub, Nat.reduceAdd, x_add, x_sub, x_cmp, x_eq_ii, x_ne_ii, x_int_i, x_len_t, x_len_l, x_tup_l, x_tup_t, x_list_l, x_list_t, x_dSl_t, x_dSl_l, x_items_t, x_items_l, x_tru_n, x_tru_b, x_tru_i, x_tru_t, x_tru_l, x_asB, x_is_n, x_isNot_n, isNon_n, isNon_i, isNon_s, isNon_t, isNon_l, isNon_b, Bool.not_true, Bool.not_false, List.length_map, fnE, startE, startE, k2]
  have a2 : C_nearest [hisD P F, .int 0, w] = .exc "BadVersion" := by
    unfold C_nearest F_nearest
    simp only [sSeq_x, x_min2, x_max2, x_eRg1, x_eMeth, x_eMake, x_sSet, x_sIf, x_sRet, x_sRetN, x_sPar, x_sUnp, resF_ok, x_sDrop, x_sNext, x_sBreak, x_sCont, x_sRaise, x_sAug, augK_ok, x_sFor, x_sWhile, sKill_x, x_wipe0, x_wipe1, x_evL0, x_evL1, x_setL0, x_setL1, x_eVar, x_eC, x_eOp, x_eUn, x_eCall, x_eMS, x_asStr, x_aNil, x_aCons, x_eTup, x_eLst, x_eIf, x_eNot, x_eAnd, x_eOr, x_bAnd, x_bOr, x_bNot, x_bYes, x_eSl, x_oNone, x_oSome, asI_int, x_iSeq, x_iCall, x_gfName, x_gfTup, eLc, noX_is, Res.bind_ok, Res.bind_exc, flow_ok, flow_exc, seqK_next, seqK_ret, seqK_exc, seqK_brk, seqK_cont, loopK_next, loopK_cont, loopK_brk, loopK_ret, loopK_exc, must_ok, List.set_cons_succ, List.set_cons_zero, List.getD_cons_succ, List.getD_cons_zero, vD_some, if_true, if_false, Bool.false_eq_true, reduceIte, List.map_cons, List.map_nil, List.length_cons, List.length_nil, List.cons_append, List.nil_append, List.replicate, Nat.reduceSub, Nat.reduceAdd, x_add, x_sub, x_cmp, x_eq_ii, x_ne_ii, x_int_i, x_len_t, x_len_l, x_tup_l, x_tup_t, x_list_l, x_list_t, x_dSl_t, x_dSl_l, x_items_t, x_items_l, x_tru_n, x_tru_b, x_tru_i, x_tru_t, x_tru_l, x_asB, x_is_n, x_isNot_n, isNon_n, isNon_i, isNon_s, isNon_t, isNon_l, isNon_b, Bool.not_true, Bool.not_false, List.length_map, fnE, startE, startE, k3]
  unfold C__law_refused F__law_refused
  exact ⟨by simp only [sSeq_x, x_min2, x_max2, x_eRg1, x_eMeth, x_eMake, x_sSet, x_sIf, x_sRet, x_sRetN, x_sPar, x_sUnp, resF_ok, x_sDrop, x_sNext, x_sBreak, x_sCont, x_sRaise, x_sAug, augK_ok, x_sFor, x_sWhile, sKill_x, x_wipe0, x_wipe1, x_evL0, x_evL1, x_setL0, x_setL1, x_eVar, x_eC, x_eOp, x_eUn, x_eCall, x_eMS, x_asStr, x_aNil, x_aCons, x_eTup, x_eLst, x_eIf, x_eNot, x_eAnd, x_eOr, x_bAnd, x_bOr, x_bNot, x_bYes, x_eSl, x_oNone, x_oSome, asI_int, x_iSeq, x_iCall, x_gfName, x_gfTup, eLc, noX_is, Res.bind_ok, Res.bind_exc, flow_ok, flow_exc, seqK_next, seqK_ret, seqK_exc, seqK_brk, seqK_cont, loopK_next, loopK_cont, loopK_brk, loopK_ret, loopK_exc, must_ok, List.set_cons_succ, List.set_cons_zero, List.getD_cons_succ, List.getD_cons_zero, vD_some, if_true, if_false, Bool.false_eq_true, reduceIte, List.map_cons, List.map_nil, List.length_cons, List.length_nil, List.cons_append, List.nil_append, List.replicate, Nat.reduceSub, Nat.reduceAdd, x_add, x_sub, x_cmp, x_eq_ii, x_ne_ii, x_int_i, x_len_t, x_len_l, x_tup_l, x_tup_t, x_list_l, x_list_t, x_dSl_t, x_dSl_l, x_items_t, x_items_l, x_tru_n, x_tru_b, x_tru_i, x_tru_t, x_tru_l, x_asB, x_is_n, x_isNot_n, isNon_n, isNon_i, isNon_s, isNon_t, isNon_l, isNon_b, Bool.not_true, Bool.not_false, List.length_map, fnE, startE, startE, sTry, a1, if_pos bad_mem.1, pick, if_pos bad_mem.2, sNx], by simp only [sSeq_x, x_min2, x_max2, x_eRg1, x_eMeth, x_eMake, x_sSet, x_sIf, x_sRet, x_sRetN, x_sPar, x_sUnp, resF_ok, x_sDrop, x_sNext, x_sBreak, x_sCont, x_sRaise, x_sAug, augK_ok, x_sFor, x_sWhile, sKill_x, x_wipe0, x_wipe1, x_evL0, x_evL1, x_setL0, x_setL1, x_eVar, x_eC, x_eOp, x_eUn, x_eCall, x_eMS, x_asStr, x_aNil, x_aCons, x_eTup, x_eLst, x_eIf, x_eNot, x_eAnd, x_eOr, x_bAnd, x_bOr, x_bNot, x_bYes, x_eSl, x_oNone, x_oSome, asI_int, x_iSeq, x_iCall, x_gfName, x_gfTup, eLc, noX_is, Res.bind_ok, Res.bind_exc, flow_ok, flow_exc, seqK_next, seqK_ret, seqK_exc, seqK_brk, seqK_cont, loopK_next, loopK_cont, loopK_brk, loopK_ret, loopK_exc, must_ok, List.set_cons_succ, List.set_cons_zero, List.getD_cons_succ, List.getD_cons_zero, vD_some, if_true, if_false, Bool.false_eq_true, reduceIte, List.map_cons, List.map_nil, List.length_cons, List.length_nil, List.cons_append, List.nil_append, List.replicate, Nat.reduceSub, Nat.reduceAdd, x_add, x_sub, x_cmp, x_eq_ii, x_ne_ii, x_int_i, x_len_t, x_len_l, x_tup_l, x_tup_t, x_list_l, x_list_t, x_dSl_t, x_dSl_l, x_items_t, x_items_l, x_tru_n, x_tru_b, x_tru_i, x_tru_t, x_tru_l, x_asB, x_is_n, x_isNot_n, isNon_n, isNon_i, isNon_s, isNon_t, isNon_l, isNon_b, Bool.not_true, Bool.not_false, List.length_map, fnE, startE, startE, sTry, a2, if_pos bad_mem.1, pick, if_pos bad_mem.2, sNx]⟩
def wrongs (n : Nat) : List D := [.int (-1), dN n, .bl true, .non, .str "0"]
theorem wrongs_ok (n : Nat) : ∀ w ∈ wrongs n, smp w = true ∧ wh w 0 ((n : Int) - 1) = false := fun w hw => by
  unfold wrongs at hw
  simp only [List.mem_cons, List.not_mem_nil, or_false] at hw
  rcases hw with rfl | rfl | rfl | rfl | rfl
  · exact ⟨rfl, rfl⟩
  · refine ⟨rfl, ?_⟩
    show (decide ((0 : Int) ≤ (n : Int)) && decide ((n : Int) ≤ (n : Int) - 1)) = false
    rw [decide_eq_false (p := ((n : Int) ≤ (n : Int) - 1)) (by omega), Bool.and_false]
  · exact ⟨rfl, rfl⟩
  · exact ⟨rfl, rfl⟩
  · exact ⟨rfl, rfl⟩
theorem b6 {w : D} (hw : smp w = true) (hb : wh w 0 ((P.length : Int) - 1) = false) : B_law_6 (E30 sc dl t P F x6 x8 x9 x10 x11 x12 x13 x14 x15 x16 (some w)) = .next (E30 sc dl t P F x6 x8 x9 x10 x11 x12 x13 x14 x15 x16 none) := by
  obtain ⟨h1, h2⟩ := ref_ok (P := P) (F := F) hw hb
  unfold B_law_6
  simp only [sSeq_x, x_min2, x_max2, x_eRg1, x_eMeth, x_eMake, x_sSet, x_sIf, x_sRet, x_sRetN, x_sPar, x_sUnp, resF_ok, x_sDrop, x_sNext, x_sBreak, x_sCont, x_sRaise, x_sAug, augK_ok, x_sFor, x_sWhile, sKill_x, x_wipe0, x_wipe1, x_evL0, x_evL1, x_setL0, x_setL1, x_eVar, x_eC, x_eOp, x_eUn, x_eCall, x_eMS, x_asStr, x_aNil, x_aCons, x_eTup, x_eLst, x_eIf, x_eNot, x_eAnd, x_eOr, x_bAnd, x_bOr, x_bNot, x_bYes, x_eSl, x_oNone, x_oSome, asI_int, x_iSeq, x_iCall, x_gfName, x_gfTup, eLc, noX_is, Res.bind_ok, Res.bind_exc, flow_ok, flow_exc, seqK_next, seqK_ret, seqK_exc, seqK_brk, seqK_cont, loopK_next, loopK_cont, loopK_brk, loopK_ret, loopK_exc, must_ok, List.set_cons_succ, List.set_cons_zero, List.getD_cons_succ, List.getD_cons_zero, vD_some, if_true, if_false, Bool.false_eq_true, reduceIte, List.map_cons, List.map_nil, List.length_cons, List.length_nil, List.cons_append, List.nil_append, List.replicate, Nat.reduceSub, Nat.reduceAdd, x_add, x_sub, x_cmp, x_eq_ii, x_ne_ii, x_int_i, x_len_t, x_len_l, x_tup_l, x_tup_t, x_list_l, x_list_t, x_dSl_t, x_dSl_l, x_items_t, x_items_l, x_tru_n, x_tru_b, x_tru_i, x_tru_t, x_tru_l, x_asB, x_is_n, x_isNot_n, isNon_n, isNon_i, isNon_s, isNon_t, isNon_l, isNon_b, Bool.not_true, Bool.not_false, List.length_map, fnE, startE, h1, h2]
end
/-- one turn -/
theorem turn_ok (sc x6 x11 : Option D) (dl : List Nat) (hl : dl.length = 70) (tn : Nat) (ht : tn < 3) : ∃ y6 y11, B_law_1 [sc, some (.lst (dl.map dN)), some (dN tn), none, none, none, x6, none, none, none, none, x11, none, none, none, none, none, none, none, none] = .next [sc, some (.lst (dl.map dN)), none, none, none, none, y6, none, none, none, none, y11, none, none, none, none, none, none, none, none] := by
  have s0 : ∃ (P : PP) (r : Nat → Nat) (a m : Nat), dIx (.lst [.int 0, .int 8, .int 16]) (.int (tn : Nat)) = .ok (.int (a : Nat)) ∧ dIx (.lst [.int 6, .int 24, .int 14]) (.int (tn : Nat)) = .ok (.int (m : Nat)) ∧ C__law_parents [.lst (dl.map dN), .int (a : Nat), .int (m : Nat)] = .ok (parD P) ∧ VP P ∧ ∀ i row, P[i]? = some row → ∀ x ∈ row, r x < r i := by
    match tn, ht with
    | 0, _ =>
      obtain ⟨P, r, e, v, _, hr⟩ := parents_ok dl 0 6 (by omega) (by omega) (by omega)
      exact ⟨P, r, 0, 6, rfl, rfl, e, v, hr⟩
    | 1, _ =>
      obtain ⟨P, r, e, v, _, hr⟩ := parents_ok dl 8 24 (by omega) (by omega) (by omega)
      exact ⟨P, r, 8, 24, rfl, rfl, e, v, hr⟩
    | 2, _ =>
      obtain ⟨P, r, e, v, _, hr⟩ := parents_ok dl 16 14 (by omega) (by omega) (by omega)
      exact ⟨P, r, 16, 14, rfl, rfl, e, v, hr⟩
  obtain ⟨P, r, a, m, i1, i2, e0, v, hr⟩ := s0
  obtain ⟨F, k, hF⟩ := his_of v hr
  obtain ⟨F', k', hle⟩ := lesser_ok k hr
  have mk := make_ok v hF
  have r1 := rng_n v.le
  have lc := lc_fun (gf := gfName 6) (f := eCall C__law_above (aCons (eVar 3) (aCons (eVar 6) aNil))) (ρ := [sc, some (.lst (dl.map dN)), some (dN tn), some (parD P), some (hisD P F), some (dN P.length), none, none, none, none, none, x11, none, none, none, none, none, none, none, none]) (e := dN) (g := fun i => D.lst ((upL P i).map dN)) (xs := List.range P.length) fun i hi => ⟨_, rfl, by
    have := above_ok v i (List.mem_range.mp hi)
    simp only [sSeq_x, x_min2, x_max2, x_eRg1, x_eMeth, x_eMake, x_sSet, x_sIf, x_sRet, x_sRetN, x_sPar, x_sUnp, resF_ok, x_sDrop, x_sNext, x_sBreak, x_sCont, x_sRaise, x_sAug, augK_ok, x_sFor, x_sWhile, sKill_x, x_wipe0, x_wipe1, x_evL0, x_evL1, x_setL0, x_setL1, x_eVar, x_eC, x_eOp, x_eUn, x_eCall, x_eMS, x_asStr, x_aNil, x_aCons, x_eTup, x_eLst, x_eIf, x_eNot, x_eAnd, x_eOr, x_bAnd, x_bOr, x_bNot, x_bYes, x_eSl, x_oNone, x_oSome, asI_int, x_iSeq, x_iCall, x_gfName, x_gfTup, eLc, noX_is, Res.bind_ok, Res.bind_exc, flow_ok, flow_exc, seqK_next, seqK_ret, seqK_exc, seqK_brk, seqK_cont, loopK_next, loopK_cont, loopK_brk, loopK_ret, loopK_exc, must_ok, List.set_cons_succ, List.set_cons_zero, List.getD_cons_succ, List.getD_cons_zero, vD_some, if_true, if_false, Bool.false_eq_true, reduceIte, List.map_cons, List.map_nil, List.length_cons, List.length_nil, List.cons_append, List.nil_append, List.replicate, Nat.reduceSub, Nat.reduceAdd, x_add, x_sub, x_cmp, x_eq_ii, x_ne_ii, x_int_i, x_len_t, x_len_l, x_tup_l, x_tup_t, x_list_l, x_list_t, x_dSl_t, x_dSl_l, x_items_t, x_items_l, x_tru_n, x_tru_b, x_tru_i, x_tru_t, x_tru_l, x_asB, x_is_n, x_isNot_n, isNon_n, isNon_i, isNon_s, isNon_t, isNon_l, isNon_b, Bool.not_true, Bool.not_false, List.length_map, fnE, startE, this]⟩
  obtain ⟨ρ2, e2, y8, rfl⟩ := for_inv (gf := gfName 8) (F := B_law_2) (ds := (List.range P.length).map dN) (n := 0) (ρ := E30 sc (some (.lst (dl.map dN))) (some (dN tn)) P F x6 none none none x11 none none none none none none)
    (P := fun _ ρ => ∃ y8, ρ = E30 sc (some (.lst (dl.map dN))) (some (dN tn)) P F x6 y8 none none x11 none none none none none none) ⟨none, rfl⟩ fun j d hj ρ hp => by
      obtain ⟨y8, rfl⟩ := hp
      obtain ⟨i, hi, rfl⟩ := List.mem_map.mp (List.mem_of_getElem? hj)
      exact ⟨_, _, rfl, .inl (b2 sc (some (.lst (dl.map dN))) (some (dN tn)) x6 x11 k hr (List.mem_range.mp hi)), _, rfl⟩
  obtain ⟨ρ3, e3, y6, y11, rfl⟩ := for_inv (gf := gfName 6) (F := B_law_4) (ds := (List.range P.length).map dN) (n := 0) (ρ := E30 sc (some (.lst (dl.map dN))) (some (dN tn)) P F x6 none none none x11 none none (some (hisD (lessP P) F')) none none none)
    (P := fun _ ρ => ∃ y6 y11, ρ = E30 sc (some (.lst (dl.map dN))) (some (dN tn)) P F y6 none none none y11 none none (some (hisD (lessP P) F')) none none none) ⟨x6, x11, rfl⟩ fun j d hj ρ hp => by
      obtain ⟨y6, y11, rfl⟩ := hp
      obtain ⟨i, hi, rfl⟩ := List.mem_map.mp (List.mem_of_getElem? hj)
      obtain ⟨z11, e⟩ := b4 sc (some (.lst (dl.map dN))) (some (dN tn)) none none none y11 none none none k k' hr (List.mem_range.mp hi)
      exact ⟨_, _, rfl, .inl e, _, _, rfl⟩
  obtain ⟨ρ4, e4, rfl⟩ := for_inv (gf := gfName 17) (F := B_law_6) (ds := wrongs P.length) (n := 0) (ρ := E30 sc (some (.lst (dl.map dN))) (some (dN tn)) P F y6 none none none y11 none none (some (hisD (lessP P) F')) none none none)
    (P := fun _ ρ => ρ = E30 sc (some (.lst (dl.map dN))) (some (dN tn)) P F y6 none none none y11 none none (some (hisD (lessP P) F')) none none none) rfl fun j d hj ρ hp => by
      subst hp
      have hd := wrongs_ok P.length d (List.mem_of_getElem? hj)
      exact ⟨_, _, rfl, .inl (b6 sc (some (.lst (dl.map dN))) (some (dN tn)) y6 none none none y11 none none (some (hisD (lessP P) F')) none none hd.1 hd.2), rfl⟩
  have hn : dNeg (.int 1) = .ok (.int (-1)) := rfl
  have n1 : dNe (.int (P.length : Nat)) (.int (P.length : Nat)) = .ok (.bl false) := dNe_self (ok_int _ _)
  have n2 : dNe (parD P) (parD P) = .ok (.bl false) := dNe_self (okPar P 58)
  have hs : dFld "History" "size" (hisD (lessP P) F') = .ok (.int (P.length : Nat)) := by
    rw [his_size, less_len, dN_def]
  have hab : D.lst ((List.range P.length).map fun i => D.lst ((upL P i).map dN)) = abD P := rfl
  have hwr : [D.int (-1), D.int (P.length : Nat), .bl true, .non, .str "0"] = wrongs P.length := rfl
  refine ⟨y6, y11, ?_⟩
  unfold B_law_1
  simp only [E30, dN_def] at e2 e3 e4 mk lc r1
  simp only [sSeq_x, x_min2, x_max2, x_eRg1, x_eMeth, x_eMake, x_sSet, x_sIf, x_sRet, x_sRetN, x_sPar, x_sUnp, resF_ok, x_sDrop, x_sNext, x_sBreak, x_sCont, x_sRaise, x_sAug, augK_ok, x_sFor, x_sWhile, sKill_x, x_wipe0, x_wipe1, x_evL0, x_evL1, x_setL0, x_setL1, x_eVar, x_eC, x_eOp, x_eUn, x_eCall, x_eMS, x_asStr, x_aNil, x_aCons, x_eTup, x_eLst, x_eIf, x_eNot, x_eAnd, x_eOr, x_bAnd, x_bOr, x_bNot, x_bYes, x_eSl, x_oNone, x_oSome, asI_int, x_iSeq, x_iCall, x_gfName, x_gfTup, eLc, noX_is, Res.bind_ok, Res.bind_exc, flow_ok, flow_exc, seqK_next, seqK_ret, seqK_exc, seqK_brk, seqK_cont, loopK_next, loopK_cont, loopK_brk, loopK_ret, loopK_exc, must_ok, List.set_cons_succ, List.set_cons_zero, List.getD_cons_succ, List.getD_cons_zero, vD_some, if_true, if_false, Bool.false_eq_true, reduceIte, List.map_cons, List.map_nil, List.length_cons, List.length_nil, List.cons_append, List.nil_append, List.replicate, Nat.reduceSub, Nat.reduceAdd, x_add, x_sub, x_cmp, x_eq_ii, x_ne_ii, x_int_i, x_len_t, x_len_l, x_tup_l, x_tup_t, x_list_l, x_list_t, x_dSl_t, x_dSl_l, x_items_t, x_items_l, x_tru_n, x_tru_b, x_tru_i, x_tru_t, x_tru_l, x_asB, x_is_n, x_isNot_n, isNon_n, isNon_i, isNon_s, isNon_t, isNon_l, isNon_b, Bool.not_true, Bool.not_false, List.length_map, fnE, startE, dN_def, i1, i2, e0, mk, par_len, r1] at lc ⊢
  rw [lc]
  simp only [sSeq_x, x_min2, x_max2, x_eRg1, x_eMeth, x_eMake, x_sSet, x_sIf, x_sRet, x_sRetN, x_sPar, x_sUnp, resF_ok, x_sDrop, x_sNext, x_sBreak, x_sCont, x_sRaise, x_sAug, augK_ok, x_sFor, x_sWhile, sKill_x, x_wipe0, x_wipe1, x_evL0, x_evL1, x_setL0, x_setL1, x_eVar, x_eC, x_eOp, x_eUn, x_eCall, x_eMS, x_asStr, x_aNil, x_aCons, x_eTup, x_eLst, x_eIf, x_eNot, x_eAnd, x_eOr, x_bAnd, x_bOr, x_bNot, x_bYes, x_eSl, x_oNone, x_oSome, asI_int, x_iSeq, x_iCall, x_gfName, x_gfTup, eLc, noX_is, Res.bind_ok, Res.bind_exc, flow_ok, flow_exc, seqK_next, seqK_ret, seqK_exc, seqK_brk, seqK_cont, loopK_next, loopK_cont, loopK_brk, loopK_ret, loopK_exc, must_ok, List.set_cons_succ, List.set_cons_zero, List.getD_cons_succ, List.getD_cons_zero, vD_some, if_true, if_false, Bool.false_eq_true, reduceIte, List.map_cons, List.map_nil, List.length_cons, List.length_nil, List.cons_append, List.nil_append, List.replicate, Nat.reduceSub, Nat.reduceAdd, x_add, x_sub, x_cmp, x_eq_ii, x_ne_ii, x_int_i, x_len_t, x_len_l, x_tup_l, x_tup_t, x_list_l, x_list_t, x_dSl_t, x_dSl_l, x_items_t, x_items_l, x_tru_n, x_tru_b, x_tru_i, x_tru_t, x_tru_l, x_asB, x_is_n, x_isNot_n, isNon_n, isNon_i, isNon_s, isNon_t, isNon_l, isNon_b, Bool.not_true, Bool.not_false, List.length_map, fnE, startE, r1, hab]
  rw [e2]
  simp only [sSeq_x, x_min2, x_max2, x_eRg1, x_eMeth, x_eMake, x_sSet, x_sIf, x_sRet, x_sRetN, x_sPar, x_sUnp, resF_ok, x_sDrop, x_sNext, x_sBreak, x_sCont, x_sRaise, x_sAug, augK_ok, x_sFor, x_sWhile, sKill_x, x_wipe0, x_wipe1, x_evL0, x_evL1, x_setL0, x_setL1, x_eVar, x_eC, x_eOp, x_eUn, x_eCall, x_eMS, x_asStr, x_aNil, x_aCons, x_eTup, x_eLst, x_eIf, x_eNot, x_eAnd, x_eOr, x_bAnd, x_bOr, x_bNot, x_bYes, x_eSl, x_oNone, x_oSome, asI_int, x_iSeq, x_iCall, x_gfName, x_gfTup, eLc, noX_is, Res.bind_ok, Res.bind_exc, flow_ok, flow_exc, seqK_next, seqK_ret, seqK_exc, seqK_brk, seqK_cont, loopK_next, loopK_cont, loopK_brk, loopK_ret, loopK_exc, must_ok, List.set_cons_succ, List.set_cons_zero, List.getD_cons_succ, List.getD_cons_zero, vD_some, if_true, if_false, Bool.false_eq_true, reduceIte, List.map_cons, List.map_nil, List.length_cons, List.length_nil, List.cons_append, List.nil_append, List.replicate, Nat.reduceSub, Nat.reduceAdd, x_add, x_sub, x_cmp, x_eq_ii, x_ne_ii, x_int_i, x_len_t, x_len_l, x_tup_l, x_tup_t, x_list_l, x_list_t, x_dSl_t, x_dSl_l, x_items_t, x_items_l, x_tru_n, x_tru_b, x_tru_i, x_tru_t, x_tru_l, x_asB, x_is_n, x_isNot_n, isNon_n, isNon_i, isNon_s, isNon_t, isNon_l, isNon_b, Bool.not_true, Bool.not_false, List.length_map, fnE, startE, hle, r1]
  rw [e3]
  simp only [sSeq_x, x_min2, x_max2, x_eRg1, x_eMeth, x_eMake, x_sSet, x_sIf, x_sRet, x_sRetN, x_sPar, x_sUnp, resF_ok, x_sDrop, x_sNext, x_sBreak, x_sCont, x_sRaise, x_sAug, augK_ok, x_sFor, x_sWhile, sKill_x, x_wipe0, x_wipe1, x_evL0, x_evL1, x_setL0, x_setL1, x_eVar, x_eC, x_eOp, x_eUn, x_eCall, x_eMS, x_asStr, x_aNil, x_aCons, x_eTup, x_eLst, x_eIf, x_eNot, x_eAnd, x_eOr, x_bAnd, x_bOr, x_bNot, x_bYes, x_eSl, x_oNone, x_oSome, asI_int, x_iSeq, x_iCall, x_gfName, x_gfTup, eLc, noX_is, Res.bind_ok, Res.bind_exc, flow_ok, flow_exc, seqK_next, seqK_ret, seqK_exc, seqK_brk, seqK_cont, loopK_next, loopK_cont, loopK_brk, loopK_ret, loopK_exc, must_ok, List.set_cons_succ, List.set_cons_zero, List.getD_cons_succ, List.getD_cons_zero, vD_some, if_true, if_false, Bool.false_eq_true, reduceIte, List.map_cons, List.map_nil, List.length_cons, List.length_nil, List.cons_append, List.nil_append, List.replicate, Nat.reduceSub, Nat.reduceAdd, x_add, x_sub, x_cmp, x_eq_ii, x_ne_ii, x_int_i, x_len_t, x_len_l, x_tup_l, x_tup_t, x_list_l, x_list_t, x_dSl_t, x_dSl_l, x_items_t, x_items_l, x_tru_n, x_tru_b, x_tru_i, x_tru_t, x_tru_l, x_asB, x_is_n, x_isNot_n, isNon_n, isNon_i, isNon_s, isNon_t, isNon_l, isNon_b, Bool.not_true, Bool.not_false, List.length_map, fnE, startE, hn, hwr]
  rw [e4]
  simp only [sSeq_x, x_min2, x_max2, x_eRg1, x_eMeth, x_eMake, x_sSet, x_sIf, x_sRet, x_sRetN, x_sPar, x_sUnp, resF_ok, x_sDrop, x_sNext, x_sBreak, x_sCont, x_sRaise, x_sAug, augK_ok, x_sFor, x_sWhile, sKill_x, x_wipe0, x_wipe1, x_evL0, x_evL1, x_setL0, x_setL1, x_eVar, x_eC, x_eOp, x_eUn, x_eCall, x_eMS, x_asStr, x_aNil, x_aCons, x_eTup, x_eLst, x_eIf, x_eNot, x_eAnd, x_eOr, x_bAnd, x_bOr, x_bNot, x_bYes, x_eSl, x_oNone, x_oSome, asI_int, x_iSeq, x_iCall, x_gfName, x_gfTup, eLc, noX_is, Res.bind_ok, Res.bind_exc, flow_ok, flow_exc, seqK_next, seqK_ret, seqK_exc, seqK_brk, seqK_cont, loopK_next, loopK_cont, loopK_brk, loopK_ret, loopK_exc, must_ok, List.set_cons_succ, List.set_cons_zero, List.getD_cons_succ, List.getD_cons_zero, vD_some, if_true, if_false, Bool.false_eq_true, reduceIte, List.map_cons, List.map_nil, List.length_cons, List.length_nil, List.cons_append, List.nil_append, List.replicate, Nat.reduceSub, Nat.reduceAdd, x_add, x_sub, x_cmp, x_eq_ii, x_ne_ii, x_int_i, x_len_t, x_len_l, x_tup_l, x_tup_t, x_list_l, x_list_t, x_dSl_t, x_dSl_l, x_items_t, x_items_l, x_tru_n, x_tru_b, x_tru_i, x_tru_t, x_tru_l, x_asB, x_is_n, x_isNot_n, isNon_n, isNon_i, isNon_s, isNon_t, isNon_l, isNon_b, Bool.not_true, Bool.not_false, List.length_map, fnE, startE, hs, n1, his_par, n2]
theorem pure_law (ns : List Int) (hn : ns.length ≤ 63) : C_law [.lst (ns.map .int)] = .ok (.bl true) := by
  obtain ⟨dl, hl, _, ed⟩ := drawsN ns hn 70 (by omega)
  obtain ⟨ρ', e, y2, y6, y11, rfl⟩ := for_inv (gf := gfName 2) (F := B_law_1) (ds := (List.range 3).map fun i => D.int (i : Nat)) (n := 0) (ρ := [some (.lst (ns.map .int)), some (.lst (dl.map dN)), none, none, none, none, none, none, none, none, none, none, none, none, none, none, none, none, none, none])
    (P := fun _ ρ => ∃ y2 y6 y11, ρ = [some (.lst (ns.map .int)), some (.lst (dl.map dN)), y2, none, none, none, y6, none, none, none, none, y11, none, none, none, none, none, none, none, none]) ⟨none, none, none, rfl⟩ fun j d hj ρ hp => by
      obtain ⟨y2, y6, y11, rfl⟩ := hp
      obtain ⟨i, hi, rfl⟩ := List.mem_map.mp (List.mem_of_getElem? hj)
      obtain ⟨z6, z11, e⟩ := turn_ok (some (.lst (ns.map .int))) y6 y11 dl hl i (List.mem_range.mp hi)
      exact ⟨_, _, rfl, .inl e, _, _, _, rfl⟩
  have r : dRng1 [.int 3] = .ok ((List.range 3).map fun i => .int (i : Nat)) := dRng1_nat 3 (by omega)
  have m1 : (C_History___init__ [.ins "History" [] [], .tup [.tup [], .tup [], .tup [.int 0, .int 1], .tup [.int 0, .int 1], .tup [.int 2, .int 3]]] >>= madeOf) = .ok (hisD [[], [], [0, 1], [0, 1], [2, 3]] [[0], [1], [2, 0, 1], [3, 0, 1], [4, 2, 0, 1, 3]]) := by kernel_rfl
  have m2 : (C_History___init__ [.ins "History" [] [], .tup [.tup [], .tup []]] >>= madeOf) = .ok (hisD [[], []] [[0], [1]]) := by kernel_rfl
  have a1 : C_nearest [hisD [[], [], [0, 1], [0, 1], [2, 3]] [[0], [1], [2, 0, 1], [3, 0, 1], [4, 2, 0, 1, 3]], .int 2, .int 3] = .ok (.tup [.int 0, .int 1]) := by kernel_rfl
  have a2 : C_nearest [hisD [[], []] [[0], [1]], .int 0, .int 1] = .ok (.tup []) := by kernel_rfl
  have a3 : C_nearest [hisD [[], [], [0, 1], [0, 1], [2, 3]] [[0], [1], [2, 0, 1], [3, 0, 1], [4, 2, 0, 1, 3]], .int 4, .int 4] = .ok (.tup [.int 4]) := by kernel_rfl
  have b1 : dEq (.tup [.int 0, .int 1]) (.tup [.int 0, .int 1]) = .ok (.bl true) := by kernel_rfl
  have b2 : dEq (.tup []) (.tup []) = .ok (.bl true) := by kernel_rfl
  have b3 : dEq (.tup [.int 4]) (.tup [.int 4]) = .ok (.bl true) := by kernel_rfl
  have ed : C__law_draws [.lst (ns.map .int), .int 70] = .ok (.lst (dl.map dN)) := ed
  unfold C_law F_law
  simp only [sSeq_x, x_min2, x_max2, x_eRg1, x_eMeth, x_eMake, x_sSet, x_sIf, x_sRet, x_sRetN, x_sPar, x_sUnp, resF_ok, x_sDrop, x_sNext, x_sBreak, x_sCont, x_sRaise, x_sAug, augK_ok, x_sFor, x_sWhile, sKill_x, x_wipe0, x_wipe1, x_evL0, x_evL1, x_setL0, x_setL1, x_eVar, x_eC, x_eOp, x_eUn, x_eCall, x_eMS, x_asStr, x_aNil, x_aCons, x_eTup, x_eLst, x_eIf, x_eNot, x_eAnd, x_eOr, x_bAnd, x_bOr, x_bNot, x_bYes, x_eSl, x_oNone, x_oSome, asI_int, x_iSeq, x_iCall, x_gfName, x_gfTup, eLc, noX_is, Res.bind_ok, Res.bind_exc, flow_ok, flow_exc, seqK_next, seqK_ret, seqK_exc, seqK_brk, seqK_cont, loopK_next, loopK_cont, loopK_brk, loopK_ret, loopK_exc, must_ok, List.set_cons_succ, List.set_cons_zero, List.getD_cons_succ, List.getD_cons_zero, vD_some, if_true, if_false, Bool.false_eq_true, reduceIte, List.map_cons, List.map_nil, List.length_cons, List.length_nil, List.cons_append, List.nil_append, List.replicate, Nat.reduceSub, Nat.reduceAdd, x_add, x_sub, x_cmp, x_eq_ii, x_ne_ii, x_int_i, x_len_t, x_len_l, x_tup_l, x_tup_t, x_list_l, x_list_t, x_dSl_t, x_dSl_l, x_items_t, x_items_l, x_tru_n, x_tru_b, x_tru_i, x_tru_t, x_tru_l, x_asB, x_is_n, x_isNot_n, isNon_n, isNon_i, isNon_s, isNon_t, isNon_l, isNon_b, Bool.not_true, Bool.not_false, List.length_map, fnE, startE, startE, ed, r] at e ⊢
  rw [e]
  simp only [sSeq_x, x_min2, x_max2, x_eRg1, x_eMeth, x_eMake, x_sSet, x_sIf, x_sRet, x_sRetN, x_sPar, x_sUnp, resF_ok, x_sDrop, x_sNext, x_sBreak, x_sCont, x_sRaise, x_sAug, augK_ok, x_sFor, x_sWhile, sKill_x, x_wipe0, x_wipe1, x_evL0, x_evL1, x_setL0, x_setL1, x_eVar, x_eC, x_eOp, x_eUn, x_eCall, x_eMS, x_asStr, x_aNil, x_aCons, x_eTup, x_eLst, x_eIf, x_eNot, x_eAnd, x_eOr, x_bAnd, x_bOr, x_bNot, x_bYes, x_eSl, x_oNone, x_oSome, asI_int, x_iSeq, x_iCall, x_gfName, x_gfTup, eLc, noX_is, Res.bind_ok, Res.bind_exc, flow_ok, flow_exc, seqK_next, seqK_ret, seqK_exc, seqK_brk, seqK_cont, loopK_next, loopK_cont, loopK_brk, loopK_ret, loopK_exc, must_ok, List.set_cons_succ, List.set_cons_zero, List.getD_cons_succ, List.getD_cons_zero, vD_some, if_true, if_false, Bool.false_eq_true, reduceIte, List.map_cons, List.map_nil, List.length_cons, List.length_nil, List.cons_append, List.nil_append, List.replicate, Nat.reduceSub, Nat.reduceAdd, x_add, x_sub, x_cmp, x_eq_ii, x_ne_ii, x_int_i, x_len_t, x_len_l, x_tup_l, x_tup_t, x_list_l, x_list_t, x_dSl_t, x_dSl_l, x_items_t, x_items_l, x_tru_n, x_tru_b, x_tru_i, x_tru_t, x_tru_l, x_asB, x_is_n, x_isNot_n, isNon_n, isNon_i, isNon_s, isNon_t, isNon_l, isNon_b, Bool.not_true, Bool.not_false, List.length_map, fnE, startE, m1, m2, a1, a2, a3, b1, b2, b3]
end K
theorem PySem.Challenge.cw_patchwright_k30_nearest_ancestors_holds : PySem.Challenge.rw_patchwright_k30_nearest_ancestors.Holds := by
  exact K.top K.pure_law
