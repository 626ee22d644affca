import PyProof.Rows.All
import HandS.ForMost
import HandS.Exc
import HandS.TryOnly
import HandS.TryMany
import HandS.ExcOwn
import HandS.ExcIs
import HandS.WordsExc
import HandS.Flow
import HandS.Deep
import HandS.Dict
import HandS.HeadHook1
import HandS.TupAny
import HandS.TupMul
import HandS.Wide
import HandS.TupLen
import HandS.IsInst
import HandS.Text
import KE.DataMinMax
import HandS.Style
import HandS.Head0
import HandS.Head1
import HandS.Head2
import HandS.HeadEnd
import HandS.EndBits
import KE.GoesEnum
import HandS.Zip
import HandS.StrMore
import HandS.Replace
import HandS.RaiseMore
import HandS.Conv
import PyProof.CollectIter
import PyProof.EnumMake
import PyProof.JoinWalk
import KE.SortData
import HandS.Small
import HandS.SetFor
import HandS.Strs
import HandS.More
import HandS.DictComp
import HandS.SetKeys
import KE.DataCmp
import PySem.Challenge.RW_patchwright_k02_patches_as_texts
set_option Elab.async false
set_option linter.all false
set_option maxRecDepth 100000
set_option maxHeartbeats 4000000
set_option autoImplicit false
/-! Px: a layer over HandS: expressions and statements as functions over plain data. -/
namespace Px
open PySem PySem.Spec PyProof.Rows L2

/-- plain data -/
inductive D where
  | non
  | bl (b : Bool)
  | int (i : Int)
  | str (s : Str)
  | tup (xs : List D)
  | lst (xs : List D)
  | dic (t : Bool) (ks vs : List D)
  | ins (c : Str) (ns : List Str) (vs : List D)
  | set (xs : List D)
  | exc (c : Str)
  | oth

/-- the outcome of an expression -/
inductive Res (α : Type) where
  | ok (a : α)
  | exc (c : Str)
  | err
namespace Res
def bind {α β : Type} : Res α → (α → Res β) → Res β
  | .ok a, k => k a
  | .exc c, _ => .exc c
  | .err, _ => .err
instance : Monad Res where
  pure := .ok
  bind := Res.bind
@[simp] theorem bind_ok {α β : Type} (a : α) (k : α → Res β) : (Res.ok a >>= k) = k a := id rfl
@[simp] theorem bind_exc {α β : Type} (c : Str) (k : α → Res β) : ((Res.exc c : Res α) >>= k) = .exc c := id rfl
@[simp] theorem bind_err {α β : Type} (k : α → Res β) : ((Res.err : Res α) >>= k) = .err := id rfl
@[simp] theorem pure_ok {α : Type} (a : α) : (pure a : Res α) = .ok a := id rfl
end Res

abbrev Env := List (Option D)
abbrev EF := Env → Res D
inductive Flow where
  | next (ρ : Env) | brk (ρ : Env) | cont (ρ : Env) | ret (d : D) | exc (c : Str) (ρ : Env) | err
abbrev SF := Env → Flow
abbrev AS := Addr → Prop

/-! ### data in the heap -/
/-- a list of the written part -/
def KL (K : PySem.W.Frag) (a : Addr) (xs : List V) : Prop :=
  ∃ (o : Obj) (its : Array Value) (n : Nat), K.lookup a = some o ∧ o.cls = .type "list" ∧ o.dict = none ∧ o.data = .seq its n ∧ its.size ≤ sizeLine ∧ Vals xs its.toList
def dKey : Key → D
  | .inl i => .int i
  | .inr s => .str s
def dKeyT (k : List Key) : D := .tup (k.map dKey)
/-- the object of a dict: its keys, the values -/
def DcH (t : Bool) (ks : List D) (xs : List V) (o : HO) : Prop := match t with
  | false => ∃ kk : List Key, ks = kk.map dKey ∧ kk.length = xs.length ∧ kk.Nodup ∧ o = .dK (kk.zip xs)
  | true => ∃ kk : List (List Key), ks = kk.map dKeyT ∧ kk.length = xs.length ∧ kk.Nodup ∧ o = .dT (kk.zip xs)
/-- the object of a container with the children xs -/
def CnO (K : PySem.W.Frag) (d : D) (xs : List V) (o : HO) : Prop := match d with
  | .lst _ => o = .lst xs ∧ xs.length ≤ sizeLine
  | .dic t ks _ => DcH t ks xs o
  | .ins c ns _ => ∃ dx, o = .ins (He.ga K c) dx (ns.zip xs) ∧ ns.length = xs.length
  | _ => False
def isC : D → Bool
  | .lst _ => true
  | .dic _ _ _ => true
  | .ins _ _ _ => true
  | _ => false
def kids : D → List D
  | .lst xs => xs
  | .dic _ _ vs => vs
  | .ins _ _ vs => vs
  | _ => []
/-- an object that may be read: it is, or it is known and stays (lists and dicts alone) -/
def RdC (d : D) (H : Hp) (a : Addr) (o : HO) : Prop := H a = some o ∨ (match d with
  | .ins _ _ _ => False
  | _ => ∃ u, H a = some (.frz u o))
theorem RdC.rd {d : D} {H : Hp} {a : Addr} {o : HO} (h : RdC d H a o) : Rd H a o := by
  rcases h with h | h
  · exact .inl h
  · cases d <;> first | exact .inr h | exact h.elim
theorem RdC.keep {d : D} {H H' : Hp} {a : Addr} {o : HO} (h : RdC d H a o) (k : ∀ u, H a = some u → H' a = some u) : RdC d H' a o := by
  rcases h with h | h
  · exact .inl (k _ h)
  · refine .inr ?_
    cases d <;> first | (obtain ⟨u, h⟩ := h; exact ⟨u, k _ h⟩) | exact h.elim
theorem RdC.lst {ds : List D} {H : Hp} {a : Addr} {o : HO} (h : Rd H a o) : RdC (.lst ds) H a o := h
/-- what may be read as a container -/
def CnR (K : PySem.W.Frag) (H : Hp) (a : Addr) (d : D) (xs : List V) : Prop := (∃ o, CnO K d xs o ∧ RdC d H a o) ∨ (∃ ds, d = .lst ds) ∧ KL K a xs ∧ xs.length ≤ sizeLine
/-- .. that nobody owns -/
def CnX (K : PySem.W.Frag) (ex : AS) (H : Hp) (a : Addr) (d : D) (xs : List V) : Prop := (∃ o, CnO K d xs o ∧ RdC d H a o ∧ ¬ ex a) ∨ (∃ ds, d = .lst ds) ∧ KL K a xs ∧ xs.length ≤ sizeLine
theorem CnX.r {K : PySem.W.Frag} {ex : AS} {H : Hp} {a : Addr} {d : D} {xs : List V} (h : CnX K ex H a d xs) : CnR K H a d xs := by
  rcases h with ⟨o, h1, h2, _⟩ | h
  · exact .inl ⟨o, h1, h2⟩
  · exact .inr h
theorem CnR.x {K : PySem.W.Frag} {ex : AS} {H : Hp} {a : Addr} {d : D} {xs : List V} (h : CnR K H a d xs) (n : ¬ ex a) : CnX K ex H a d xs := by
  rcases h with ⟨o, h1, h2⟩ | h
  · exact .inl ⟨o, h1, h2, n⟩
  · exact .inr h
theorem CnR.sq {K : PySem.W.Frag} {H : Hp} {a : Addr} {ds : List D} {xs : List V} (h : CnR K H a (.lst ds) xs) : SqL K H a xs ∧ xs.length ≤ sizeLine := by
  rcases h with ⟨o, ⟨rfl, h1⟩, h2⟩ | ⟨_, h, hl⟩
  · exact ⟨.inl h2.rd, h1⟩
  · exact ⟨.inr h, hl⟩
theorem CnR.of {K : PySem.W.Frag} {H : Hp} {a : Addr} {ds : List D} {xs : List V} (h : SqL K H a xs) (hl : xs.length ≤ sizeLine) : CnR K H a (.lst ds) xs := by
  rcases h with h | h
  · exact .inl ⟨_, ⟨rfl, hl⟩, RdC.lst h⟩
  · exact .inr ⟨⟨_, rfl⟩, h, hl⟩

section
variable (K : PySem.W.Frag) (ex : AS) (H : Hp)
mutual
def R : D → V → Prop
  | .non, v => v = .non
  | .bl b, v => v = .bl b
  | .int i, v => v = .int i
  | .str s, v => v = .str s
  | .tup ds, v => ∃ a xs, v = .ref a ∧ (H a = some (.tup xs) ∧ xs.length ≤ sizeLine) ∧ RL ds xs
  | .lst ds, v => ∃ a xs, v = .ref a ∧ CnX K ex H a (.lst ds) xs ∧ RL ds xs
  | .dic t ks ds, v => ∃ a xs, v = .ref a ∧ CnX K ex H a (.dic t ks ds) xs ∧ RL ds xs
  | .ins c ns ds, v => ∃ a xs, v = .ref a ∧ CnX K ex H a (.ins c ns ds) xs ∧ RL ds xs
  | .set _, _ => False
  | .exc _, _ => False
  | .oth, _ => False
def RL : List D → List V → Prop
  | [], vs => vs = []
  | d :: ds, vs => ∃ v r, vs = v :: r ∧ R d v ∧ RL ds r
end
end
section
variable {K : PySem.W.Frag} {ex ex' : AS} {H H' : Hp}
theorem R.cn : ∀ {d : D} {v : V}, isC d = true → (R K ex H d v ↔ ∃ a xs, v = .ref a ∧ CnX K ex H a d xs ∧ RL K ex H (kids d) xs)
  | .lst ds, v, _ => by rw [R]; rfl
  | .dic _ _ ds, v, _ => by rw [R]; rfl
  | .ins _ _ ds, v, _ => by rw [R]; rfl
theorem RL.pair : ∀ {ds : List D} {vs : List V}, RL K ex H ds vs → Paired (R K ex H) ds vs
  | [], vs, h => by
    rw [RL] at h
    subst h
    exact .nil
  | d :: ds, vs, h => by
    rw [RL] at h
    obtain ⟨v, r, rfl, h1, h2⟩ := h
    exact .cons h1 (RL.pair h2)
theorem RL.of : ∀ {ds : List D} {vs : List V}, Paired (R K ex H) ds vs → RL K ex H ds vs
  | _, _, .nil => by rw [RL]
  | _, _, .cons h t => by
    rw [RL]
    exact ⟨_, _, rfl, h, RL.of t⟩
theorem RL.length {ds : List D} {vs : List V} (h : RL K ex H ds vs) : ds.length = vs.length := (RL.pair h).length
theorem Same.seqT {a : Addr} {xs : List V} (e : Same H H') (h : SqT K H a xs) : SqT K H' a xs := by
  rcases h with (h | ⟨o, h⟩) | h
  · exact .inl (.inl (e _ _ h))
  · exact .inl (.inr ⟨o, e _ _ h⟩)
  · exact .inr h
theorem Same.rd {a : Addr} {u : HO} (e : Same H H') (h : Rd H a u) : Rd H' a u := by
  rcases h with h | ⟨o, h⟩
  · exact .inl (e _ _ h)
  · exact .inr ⟨o, e _ _ h⟩
/-- what is not owned stays: all but what stands at addresses in ex, and the tuples -/
structure Keep (ex : AS) (H H' : Hp) : Prop where
  tup : ∀ a xs, H a = some (.tup xs) → H' a = some (.tup xs)
  obj : ∀ a o, ¬ ex a → H a = some o → H' a = some o
  there : ∀ a, H a ≠ none → H' a ≠ none
theorem Keep.free (k : Keep ex H H') {a : Addr} (h : H' a = none) : H a = none := Classical.byContradiction fun q => k.there a q h
theorem Keep.same (e : Same H H') : Keep ex H H' := ⟨fun _ _ h => e _ _ h, fun _ _ _ h => e _ _ h, fun a h q => h (e.free q)⟩
theorem Keep.toSame (k : Keep (fun _ => False) H H') : Same H H' := fun a o h => k.obj a o (fun q => q) h
theorem Keep.more {ey : AS} (k : Keep ex H H') (m : ∀ a, ex a → ey a) : Keep ey H H' := ⟨k.tup, fun a o n h => k.obj a o (fun q => n (m a q)) h, k.there⟩
theorem Keep.trans {H'' : Hp} (k : Keep ex H H') (l : Keep ex H' H'') : Keep ex H H'' := ⟨fun a xs h => l.tup a xs (k.tup a xs h), fun a o n h => l.obj a o n (k.obj a o n h), fun a h => l.there a (k.there a h)⟩
theorem Keep.rd (k : Keep ex H H') {a : Addr} {o : HO} (n : ¬ ex a) (h : Rd H a o) : Rd H' a o := by
  rcases h with h | ⟨u, h⟩
  · exact .inl (k.obj _ _ n h)
  · exact .inr ⟨u, k.obj _ _ n h⟩
theorem Rd.there {a : Addr} {o : HO} (h : Rd H a o) : H a ≠ none := fun q => by
  rcases h with h | ⟨u, h⟩ <;> rw [q] at h <;> cases h
theorem Keep.cnX (k : Keep ex H H') (m : ∀ a, ex' a → ex a ∨ H a = none) {a : Addr} {d : D} {xs : List V} (h : CnX K ex H a d xs) : CnX K ex' H' a d xs := by
  rcases h with ⟨o, h1, h2, n⟩ | h
  · refine .inl ⟨o, h1, h2.keep fun u hu => k.obj _ _ n hu, fun q => ?_⟩
    rcases m a q with q | q
    · exact n q
    · exact Rd.there h2.rd q
  · exact .inr h
mutual
theorem R.keep (k : Keep ex H H') (m : ∀ a, ex' a → ex a ∨ H a = none) : ∀ (d : D) {v : V}, R K ex H d v → R K ex' H' d v
  | .non, _, h => by
    rw [R] at h ⊢
    exact h
  | .bl _, _, h => by
    rw [R] at h ⊢
    exact h
  | .int _, _, h => by
    rw [R] at h ⊢
    exact h
  | .str _, _, h => by
    rw [R] at h ⊢
    exact h
  | .tup ds, _, h => by
    rw [R] at h ⊢
    obtain ⟨a, xs, e, h1, h2⟩ := h
    exact ⟨a, xs, e, ⟨k.tup _ _ h1.1, h1.2⟩, RL.keep k m ds h2⟩
  | .lst ds, _, h => by
    rw [R] at h ⊢
    obtain ⟨a, xs, e, h1, h2⟩ := h
    exact ⟨a, xs, e, k.cnX m h1, RL.keep k m ds h2⟩
  | .dic _ _ ds, _, h => by
    rw [R] at h ⊢
    obtain ⟨a, xs, e, h1, h2⟩ := h
    exact ⟨a, xs, e, k.cnX m h1, RL.keep k m ds h2⟩
  | .ins _ _ ds, _, h => by
    rw [R] at h ⊢
    obtain ⟨a, xs, e, h1, h2⟩ := h
    exact ⟨a, xs, e, k.cnX m h1, RL.keep k m ds h2⟩
  | .set _, _, h => by
    rw [R] at h
    exact h.elim
  | .exc _, _, h => by
    rw [R] at h
    exact h.elim
  | .oth, _, h => by
    rw [R] at h
    exact h.elim
theorem RL.keep (k : Keep ex H H') (m : ∀ a, ex' a → ex a ∨ H a = none) : ∀ (ds : List D) {vs : List V}, RL K ex H ds vs → RL K ex' H' ds vs
  | [], _, h => by
    rw [RL] at h ⊢
    exact h
  | d :: ds, _, h => by
    rw [RL] at h ⊢
    obtain ⟨v, r, e, h1, h2⟩ := h
    exact ⟨v, r, e, R.keep k m d h1, RL.keep k m ds h2⟩
end
theorem R.same (e : Same H H') {d : D} {v : V} (h : R K ex H d v) : R K ex H' d v := R.keep (Keep.same e) (fun _ q => .inl q) d h
theorem R.less (m : ∀ a, ex' a → ex a ∨ H a = none) {d : D} {v : V} (h : R K ex H d v) : R K ex' H d v := R.keep (Keep.same (Same.refl H)) m d h

/-! ### borrowed: the topmost n levels may be owned by someone -/
def RB (K : PySem.W.Frag) (ex : AS) (H : Hp) : Nat → D → V → Prop
  | 0, d, v => R K ex H d v
  | n + 1, d, v => if isC d = true then ∃ a xs, v = .ref a ∧ CnR K H a d xs ∧ Paired (RB K ex H n) (kids d) xs else R K ex H d v
theorem RB.cn {n : Nat} {d : D} {v : V} (c : isC d = true) : RB K ex H (n + 1) d v ↔ ∃ a xs, v = .ref a ∧ CnR K H a d xs ∧ Paired (RB K ex H n) (kids d) xs := by rw [RB, if_pos c]
theorem RB.nc {n : Nat} {d : D} {v : V} (c : isC d = false) : RB K ex H n d v ↔ R K ex H d v := by
  cases n with
  | zero => rw [RB]
  | succ n => rw [RB, if_neg (by rw [c]; decide)]
theorem RB.of : ∀ {n : Nat} {d : D} {v : V}, R K ex H d v → RB K ex H n d v
  | 0, _, _, h => h
  | n + 1, d, v, h => by
    cases c : isC d with
    | true =>
      obtain ⟨a, xs, e, h1, h2⟩ := (R.cn c).mp h
      exact (RB.cn c).mpr ⟨a, xs, e, h1.r, (RL.pair h2).mono fun _ _ q => RB.of q⟩
    | false => exact (RB.nc c).mpr h
theorem Same.cnR {a : Addr} {d : D} {xs : List V} (e : Same H H') (h : CnR K H a d xs) : CnR K H' a d xs := by
  rcases h with ⟨o, h1, h2⟩ | h
  · exact .inl ⟨o, h1, h2.keep fun u hu => e _ _ hu⟩
  · exact .inr h
theorem RB.same (e : Same H H') : ∀ {n : Nat} {d : D} {v : V}, RB K ex H n d v → RB K ex H' n d v
  | 0, _, _, h => R.same e h
  | n + 1, d, v, h => by
    cases c : isC d with
    | true =>
      obtain ⟨a, xs, q, h1, h2⟩ := (RB.cn c).mp h
      exact (RB.cn c).mpr ⟨a, xs, q, Same.cnR e h1, h2.mono fun _ _ q => RB.same e q⟩
    | false => exact (RB.nc c).mpr (R.same e ((RB.nc c).mp h))
theorem RB.up : ∀ {n : Nat} {d : D} {v : V}, RB K ex H n d v → RB K ex H (n + 1) d v
  | 0, _, _, h => RB.of h
  | n + 1, d, v, h => by
    cases c : isC d with
    | true =>
      obtain ⟨a, xs, q, h1, h2⟩ := (RB.cn c).mp h
      exact (RB.cn c).mpr ⟨a, xs, q, h1, h2.mono fun _ _ q => RB.up q⟩
    | false => exact (RB.nc c).mpr ((RB.nc c).mp h)

/-! ### owned: the topmost k levels stand at addresses of their own -/
inductive P3 {α β γ : Type} (F : α → β → γ → Prop) : List α → List β → List γ → Prop
  | nil : P3 F [] [] []
  | cons {a : α} {b : β} {c : γ} {as : List α} {bs : List β} {cs : List γ} : F a b c → P3 F as bs cs → P3 F (a :: as) (b :: bs) (c :: cs)
theorem P3.mono {α β γ : Type} {F G : α → β → γ → Prop} (h : ∀ a b c, F a b c → G a b c) : ∀ {as : List α} {bs : List β} {cs : List γ}, P3 F as bs cs → P3 G as bs cs
  | _, _, _, .nil => .nil
  | _, _, _, .cons x t => .cons (h _ _ _ x) (P3.mono h t)
theorem P3.mono2 {α β γ : Type} {F G : α → β → List γ → Prop} : ∀ {as : List α} {bs : List β} {cs : List (List γ)}, P3 F as bs cs → (∀ a b c, F a b c → (∀ x ∈ c, x ∈ cs.flatten) → G a b c) → P3 G as bs cs
  | _, _, _, .nil, _ => .nil
  | _, _, _, .cons x t, h => by
    refine .cons (h _ _ _ x fun y hy => ?_) (P3.mono2 t fun a b c f m => h a b c f fun y hy => ?_)
    · rw [List.flatten_cons]
      exact List.mem_append_left _ hy
    · rw [List.flatten_cons]
      exact List.mem_append_right _ (m y hy)
def RO (K : PySem.W.Frag) (ex : AS) (H : Hp) : Nat → D → V → List Addr → Prop
  | 0, d, v, fp => fp = [] ∧ R K ex H d v
  | k + 1, d, v, fp => if isC d = true then ∃ a xs fps o, v = .ref a ∧ (CnO K d xs o ∧ H a = some o) ∧ fp = a :: fps.flatten ∧ P3 (RO K ex H k) (kids d) xs fps else fp = [] ∧ R K ex H d v
theorem RO.cn {k : Nat} {d : D} {v : V} {fp : List Addr} (c : isC d = true) : RO K ex H (k + 1) d v fp ↔ ∃ a xs fps o, v = .ref a ∧ (CnO K d xs o ∧ H a = some o) ∧ fp = a :: fps.flatten ∧ P3 (RO K ex H k) (kids d) xs fps := by rw [RO, if_pos c]
theorem RO.nc {k : Nat} {d : D} {v : V} {fp : List Addr} (c : isC d = false) : RO K ex H k d v fp ↔ fp = [] ∧ R K ex H d v := by
  cases k with
  | zero => rw [RO]
  | succ k => rw [RO, if_neg (by rw [c]; decide)]
theorem RO.keep : ∀ {k : Nat} {d : D} {v : V} {fp : List Addr}, Keep ex H H' → (∀ a, ex' a → ex a ∨ H a = none) → (∀ a ∈ fp, ∀ o, H a = some o → H' a = some o) → RO K ex H k d v fp → RO K ex' H' k d v fp
  | 0, d, _, _, kp, m, _, h => by
    rw [RO] at h ⊢
    exact ⟨h.1, R.keep kp m d h.2⟩
  | k + 1, d, v, fp, kp, m, kf, h => by
    cases c : isC d with
    | true =>
      obtain ⟨a, xs, fps, o, e, h1, e2, h2⟩ := (RO.cn c).mp h
      subst e2
      refine (RO.cn c).mpr ⟨a, xs, fps, o, e, ⟨h1.1, kf a List.mem_cons_self _ h1.2⟩, rfl, P3.mono2 h2 fun x y z f mm => RO.keep kp m (fun b hb => kf b (List.mem_cons_of_mem _ (mm b hb))) f⟩
    | false =>
      obtain ⟨e, h⟩ := (RO.nc c).mp h
      exact (RO.nc c).mpr ⟨e, R.keep kp m d h⟩
theorem RO.same (e : Same H H') {k : Nat} {d : D} {v : V} {fp : List Addr} (h : RO K ex H k d v fp) : RO K ex H' k d v fp :=
  RO.keep (Keep.same e) (fun _ q => .inl q) (fun a _ o q => e a o q) h
theorem RO.less (m : ∀ a, ex' a → ex a ∨ H a = none) {k : Nat} {d : D} {v : V} {fp : List Addr} (h : RO K ex H k d v fp) : RO K ex' H k d v fp :=
  RO.keep (Keep.same (Same.refl H)) m (fun _ _ _ q => q) h
theorem P3.to {α β γ : Type} {F : α → β → List γ → Prop} {G : α → β → Prop} : ∀ {as : List α} {bs : List β} {cs : List (List γ)}, P3 F as bs cs → (∀ a b c, F a b c → (∀ x ∈ c, x ∈ cs.flatten) → G a b) → Paired G as bs
  | _, _, _, .nil, _ => .nil
  | _, _, _, .cons x t, h => by
    refine .cons (h _ _ _ x fun y hy => ?_) (P3.to t fun a b c f m => h a b c f fun y hy => ?_)
    · rw [List.flatten_cons]
      exact List.mem_append_left _ hy
    · rw [List.flatten_cons]
      exact List.mem_append_right _ (m y hy)
/-- given up: nothing of it is among the owned any more -/
theorem RO.shared : ∀ {k : Nat} {d : D} {v : V} {fp : List Addr}, RO K ex H k d v fp → (∀ a, ex' a → ex a) → (∀ a ∈ fp, ¬ ex' a) → R K ex' H d v
  | 0, d, _, _, h, m, _ => by
    rw [RO] at h
    exact R.less (fun a q => .inl (m a q)) h.2
  | k + 1, d, v, fp, h, m, n => by
    cases c : isC d with
    | true =>
      obtain ⟨a, xs, fps, o, e, h1, e2, h2⟩ := (RO.cn c).mp h
      subst e2
      exact (R.cn c).mpr ⟨a, xs, e, .inl ⟨o, h1.1, .inl h1.2, n a List.mem_cons_self⟩, RL.of (P3.to h2 fun x y z f mm => RO.shared f m fun b hb => n b (List.mem_cons_of_mem _ (mm b hb)))⟩
    | false =>
      obtain ⟨e, h⟩ := (RO.nc c).mp h
      exact R.less (fun a q => .inl (m a q)) h
theorem RO.borrow : ∀ {k : Nat} {d : D} {v : V} {fp : List Addr}, RO K ex H k d v fp → RB K ex H k d v
  | 0, _, _, _, h => by
    rw [RO] at h
    exact h.2
  | k + 1, d, v, fp, h => by
    cases c : isC d with
    | true =>
      obtain ⟨a, xs, fps, o, e, h1, e2, h2⟩ := (RO.cn c).mp h
      exact (RB.cn c).mpr ⟨a, xs, e, .inl ⟨o, h1.1, .inl h1.2⟩, P3.to h2 fun x y z f _ => RO.borrow f⟩
    | false => exact (RB.nc c).mpr ((RO.nc c).mp h).2
/-- what is shared anyway is owned to any depth where no list is at its top -/
theorem RO.zero {d : D} {v : V} (h : R K ex H d v) : RO K ex H 0 d v [] := ⟨rfl, h⟩
/-- what stands at an owned address is no tuple -/
theorem CnO.noTup {d : D} {xs : List V} {o : HO} (h : CnO K d xs o) : ∀ ys, o ≠ .tup ys := by
  intro ys e
  subst e
  cases d with
  | lst => cases h.1
  | dic t ks vs =>
    cases t with
    | false =>
      obtain ⟨_, _, _, _, e⟩ := h
      cases e
    | true =>
      obtain ⟨_, _, _, _, e⟩ := h
      cases e
  | ins c ns vs =>
    obtain ⟨_, e, _⟩ := h
    cases e
  | _ => exact h
theorem RO.what : ∀ {k : Nat} {d : D} {v : V} {fp : List Addr}, RO K ex H k d v fp → ∀ a ∈ fp, ∃ o, H a = some o ∧ ∀ ys, o ≠ .tup ys
  | 0, _, _, _, h, a, ha => by
    rw [RO] at h
    rw [h.1] at ha
    cases ha
  | k + 1, d, v, fp, h, a, ha => by
    cases c : isC d with
    | true =>
      obtain ⟨b, xs, fps, o, e, h1, e2, h2⟩ := (RO.cn c).mp h
      subst e2
      rcases List.mem_cons.mp ha with rfl | ha
      · exact ⟨o, h1.2, h1.1.noTup⟩
      · clear h1 e h
        generalize kids d = ds at h2
        induction h2 with
        | nil => cases ha
        | cons x t ih =>
          rw [List.flatten_cons] at ha
          rcases List.mem_append.mp ha with ha | ha
          · exact RO.what x a ha
          · exact ih (List.mem_cons_of_mem _ ha) ha
    | false =>
      rw [((RO.nc c).mp h).1] at ha
      cases ha
theorem RO.there {k : Nat} {d : D} {v : V} {fp : List Addr} (h : RO K ex H k d v fp) : ∀ a ∈ fp, H a ≠ none := fun a ha q => by
  obtain ⟨o, e, _⟩ := RO.what h a ha
  rw [q] at e
  cases e
end
end Px

namespace Px
open PySem PySem.Spec PyProof.Rows L2

/-! ### the names' values -/
structure SI (K : PySem.W.Frag) (ex : AS) (L : List Nat) (ρ : Env) (σ : L2.St) (H : Hp) (fp : Nat → List Addr) : Prop where
  len : ρ.length = σ.length
  val : ∀ i d, ρ[i]? = some (some d) → ∃ v, σ[i]? = some (some v) ∧ RO K ex H (L.getD i 0) d v (fp i)
  nod : ∀ i, (fp i).Nodup
  dis : ∀ i j a, a ∈ fp i → a ∈ fp j → i = j
  sub : ∀ i a, a ∈ fp i → ex a
  ext : ∀ a, ex a → H a ≠ none
/-- what a def's body is given: what callers own; what is lent to it, to be changed; the object whose method it is -/
structure CS (mb : Option Nat) where
  ex0 : AS
  io : AS
  sv : Option V
  hb : mb = none → sv = none
  hv : mb ≠ none → sv ≠ none
instance {mb : Option Nat} : CoeFun (CS mb) (fun _ => AS) := ⟨CS.ex0⟩
/-- how a body hands back: a value, owned to a depth; or that and its object, owned to a depth -/
inductive RM where
  | r (kr : Nat)
  | m (kr km sl : Nat)
def RM.b : RM → Option Nat
  | .r _ => none
  | .m _ _ s => some s
/-- the object that is lent stands in its slot -/
def Slf {mb : Option Nat} (ex0 : CS mb) (σ : L2.St) : Prop := ∀ j v, mb = some j → ex0.sv = some v → σ[j]? = some (some v)
/-- .. in a def's body: H0 the heap at its entry, ex0 what it is given, G what loops around walk over -/
structure SS {mb : Option Nat} (K : PySem.W.Frag) (H0 : Hp) (ex0 : CS mb) (G : List (D × V)) (L : List Nat) (ρ : Env) (σ : L2.St) (H : Hp) (fp : Nat → List Addr) : Prop where
  si : SI K (fun a => (∃ i, a ∈ fp i) ∨ ex0 a) L ρ σ H fp
  own : ∀ i a, a ∈ fp i → H0 a = none ∨ ex0.io a
  old : ∀ a, ex0 a → H0 a ≠ none ∧ ¬ ex0.io a
  same : Keep ex0.io H0 H
  slf : Slf ex0 σ
  held : ∀ g ∈ G, R K (fun a => (∃ i, a ∈ fp i) ∨ ex0 a) H g.1 g.2
section
variable {K : PySem.W.Frag} {ex ex' : AS} {H H' : Hp} {L : List Nat} {ρ : Env} {σ : L2.St} {fp : Nat → List Addr}
theorem SI.same (I : SI K ex L ρ σ H fp) (e : Same H H') : SI K ex L ρ σ H' fp where
  len := I.len
  val := fun i d h => by
    obtain ⟨v, h1, h2⟩ := I.val i d h
    exact ⟨v, h1, h2.same e⟩
  nod := I.nod
  dis := I.dis
  sub := I.sub
  ext := fun a h q => by
    cases z : H a with
    | none => exact I.ext a h z
    | some o =>
      rw [e a o z] at q
      cases q
theorem new_not_ex (I : SI K ex L ρ σ H fp) {p : Addr} (h : H p = none) : ¬ ex p := fun q => I.ext p q h

/-! ### outcomes -/
/-- an outcome is met: the value's wish, or what is wanted of the exception (the class c of the module's) -/
def Out {α : Type} (X : Cx) (W : WX) (σ : L2.St) (H : Hp) (r : Res α) (P : α → Prop) : Prop :=
  match r with
  | .ok a => P a
  | .exc c => ∀ C, X.mg c = some (.ref C) → ∀ H', Same H H' → W (.ref C) none σ H'
  | .err => False
theorem Out.bind {α β : Type} {X : Cx} {W : WX} {r : Res α} {k : α → Res β} {P : β → Prop} (h : Out X W σ H (r >>= k) P) : Out X W σ H r (fun a => Out X W σ H (k a) P) := by
  cases r with
  | ok a => exact h
  | exc c => exact h
  | err => exact h
theorem Out.mono {α : Type} {X : Cx} {W : WX} {r : Res α} {P Q : α → Prop} (h : Out X W σ H r P) (m : ∀ a, P a → Q a) : Out X W σ H r Q := by
  cases r with
  | ok a => exact m a h
  | exc c => exact h
  | err => exact h
theorem Out.later {α : Type} {X : Cx} {W : WX} {r : Res α} {P : α → Prop} (h : Out X W σ H r P) (e : Same H H') : Out X W σ H' r P := by
  cases r with
  | ok a => exact h
  | exc c => exact fun C m H2 e2 => h C m H2 (e.trans e2)
  | err => exact h
/-- the value is known to be of a form -/
theorem Out.ok_iff {α : Type} {X : Cx} {W : WX} {a : α} {P : α → Prop} (h : Out X W σ H (.ok a) P) : P a := h
end

/-! ### the judgements -/
section
variable (X : Cx) (W : WX) (L : List Nat)
/-- borrowed to the depth n -/
def tB (n : Nat) (f : EF) : TE := fun σ H Q => ∃ ex ρ fp, SI X.K ex L ρ σ H fp ∧ Out X W σ H (f ρ) fun d => ∀ v H', Same H H' → RB X.K ex H' n d v → Q v H'
/-- owned to the depth k -/
def tO (k : Nat) (f : EF) : TE := fun σ H Q => ∃ ex ρ fp, SI X.K ex L ρ σ H fp ∧ Out X W σ H (f ρ) fun d => ∀ v H' fq, Same H H' → RO X.K (fun a => a ∈ fq ∨ ex a) H' k d v fq → fq.Nodup → (∀ a ∈ fq, H a = none) → Q v H'
/-- arguments, each borrowed to the depth n -/
def tAB (n m : Nat) (f : Env → Res (List D)) : TA := fun σ H Q => ∃ ex ρ fp, SI X.K ex L ρ σ H fp ∧ Out X W σ H (f ρ) fun ds => ∀ vs H', Same H H' → Paired (RB X.K ex H' n) ds vs → vs.length = m → Q vs H'
def tT (f : Env → Res Bool) : TT := fun σ H Q => ∃ ex ρ fp, SI X.K ex L ρ σ H fp ∧ Out X W σ H (f ρ) fun b => ∀ H', Same H H' → Q b H'
end
abbrev EB (X : Cx) (W : WX) (L : List Nat) (n : Nat) (e : Expr) (f : EF) : Prop := PE X e (tB X W L n f)
abbrev EO (X : Cx) (W : WX) (L : List Nat) (k : Nat) (e : Expr) (f : EF) : Prop := PE X e (tO X W L k f)
abbrev EA (X : Cx) (W : WX) (L : List Nat) (n m : Nat) (es : List Expr) (f : Env → Res (List D)) : Prop := PA X es (tAB X W L n m f)
abbrev ET (X : Cx) (W : WX) (L : List Nat) (e : Expr) (f : Env → Res Bool) : Prop := PT X e (tT X W L f)

theorem PE.imp {X : Cx} {e : Expr} {t t' : TE} (h : PE X e t) (m : ∀ σ H Q, t' σ H Q → t σ H Q) : PE X e t' := ⟨fun pins s σ H Q I q => h.run pins s σ H Q I (m σ H Q q)⟩
theorem PT.imp {X : Cx} {e : Expr} {t t' : TT} (h : PT X e t) (m : ∀ σ H Q, t' σ H Q → t σ H Q) : PT X e t' := ⟨fun pins s σ H Q I q => h.run pins s σ H Q I (m σ H Q q)⟩
theorem PW.imp {X : Cx} {e : Expr} {t t' : TT} (h : PW X e t) (m : ∀ σ H Q, t' σ H Q → t σ H Q) : PW X e t' := ⟨fun w pins s σ H Q I q => h.run w pins s σ H Q I (m σ H Q q)⟩
theorem PA.imp {X : Cx} {es : List Expr} {t t' : TA} (h : PA X es t) (m : ∀ σ H Q, t' σ H Q → t σ H Q) : PA X es t' := ⟨fun p pins s σ H Q I q => h.run p pins s σ H Q I (m σ H Q q)⟩
theorem PS.imp {X : Cx} {e : Stmt} {t t' : TS} (h : PS X e t) (m : ∀ D σ H, t' D σ H → t D σ H) : PS X e t' := ⟨fun pins s σ H D I q => h.run pins s σ H D I (m D σ H q)⟩
theorem PSs.imp {X : Cx} {e : List Stmt} {t t' : TS} (h : PSs X e t) (m : ∀ D σ H, t' D σ H → t D σ H) : PSs X e t' := ⟨fun pins s σ H D I q => h.run pins s σ H D I (m D σ H q)⟩

/-! ### changing the mode -/
section
variable {X : Cx} {W : WX} {L : List Nat} {e : Expr} {f g : EF} {n k : Nat}
theorem EO.b (h : EO X W L k e f) : EB X W L 0 e f := PE.imp h fun σ H Q ⟨ex, ρ, fp, I, o⟩ => ⟨ex, ρ, fp, I, o.mono fun d q v H' fq e r nd nw =>
  q v H' e (show R X.K ex H' d v from r.shared (fun a z => .inr z) fun a z => new_not_ex I (nw a z))⟩
theorem EB.up (h : EB X W L 0 e f) : EB X W L n e f := by
  refine PE.imp h fun σ H Q ⟨ex, ρ, fp, I, o⟩ => ⟨ex, ρ, fp, I, o.mono fun d q v H' e r => q v H' e (RB.of r)⟩
theorem EO.up (h : EO X W L k e f) : EB X W L n e f := EB.up (EO.b h)
theorem EB.o (h : EB X W L 0 e f) : EO X W L 0 e f := PE.imp h fun σ H Q ⟨ex, ρ, fp, I, o⟩ => ⟨ex, ρ, fp, I, o.mono fun d q v H' e r =>
  q v H' [] e ⟨rfl, R.less (fun a z => .inl (by
    rcases z with z | z
    · cases z
    · exact z)) r⟩ List.nodup_nil fun a z => nomatch z⟩
theorem EB.cg (h : EB X W L n e f) (m : ∀ ρ, g ρ = f ρ) : EB X W L n e g := by
  have e : g = f := funext m
  rw [e]
  exact h
end
end Px

namespace Px
open PySem PySem.Spec PyProof.Rows L2

/-! ### small facts -/
section
variable {K : PySem.W.Frag} {ex : AS} {H : Hp} {n k : Nat}
def notList : D → Bool
  | .lst _ => false
  | .dic _ _ _ => false
  | .ins _ _ _ => false
  | _ => true
theorem isC_not {d : D} (f : notList d = true) : isC d = false := by
  cases d <;> first | rfl | cases f
theorem RO.flat {d : D} {v : V} (h : R K ex H d v) (f : notList d = true) : RO K ex H k d v [] := (RO.nc (isC_not f)).mpr ⟨rfl, h⟩
theorem RB.flat {d : D} {v : V} (h : RB K ex H n d v) (f : notList d = true) : R K ex H d v := (RB.nc (isC_not f)).mp h
theorem RB.int {i : Int} {v : V} (h : RB K ex H n (.int i) v) : v = .int i := by
  have h := RB.flat h rfl
  rw [R] at h
  exact h
theorem RB.bl {b : Bool} {v : V} (h : RB K ex H n (.bl b) v) : v = .bl b := by
  have h := RB.flat h rfl
  rw [R] at h
  exact h
theorem RB.str {b : Str} {v : V} (h : RB K ex H n (.str b) v) : v = .str b := by
  have h := RB.flat h rfl
  rw [R] at h
  exact h
theorem RB.non {v : V} (h : RB K ex H n .non v) : v = .non := by
  have h := RB.flat h rfl
  rw [R] at h
  exact h
theorem RB.tupX {ds : List D} {v : V} (h : RB K ex H n (.tup ds) v) : ∃ a xs, v = .ref a ∧ H a = some (.tup xs) ∧ xs.length ≤ sizeLine ∧ Paired (R K ex H) ds xs := by
  have h := RB.flat h rfl
  rw [R] at h
  obtain ⟨a, xs, e, h1, h2⟩ := h
  exact ⟨a, xs, e, h1.1, h1.2, RL.pair h2⟩
theorem RB.tup {ds : List D} {v : V} (h : RB K ex H n (.tup ds) v) : ∃ a xs, v = .ref a ∧ SqT K H a xs ∧ xs.length ≤ sizeLine ∧ Paired (R K ex H) ds xs := by
  obtain ⟨a, xs, e, h1, h2⟩ := RB.tupX h
  exact ⟨a, xs, e, .inl (.inl h1), h2⟩
theorem RB.lst {ds : List D} {v : V} (h : RB K ex H (n + 1) (.lst ds) v) : ∃ a xs, v = .ref a ∧ SqL K H a xs ∧ xs.length ≤ sizeLine ∧ Paired (RB K ex H n) ds xs := by
  obtain ⟨a, xs, e, h1, h2⟩ := (RB.cn rfl).mp h
  exact ⟨a, xs, e, h1.sq.1, h1.sq.2, h2⟩
theorem R.lst {ds : List D} {v : V} (h : R K ex H (.lst ds) v) : ∃ a xs, v = .ref a ∧ SqL K H a xs ∧ xs.length ≤ sizeLine ∧ Paired (R K ex H) ds xs := by
  rw [R] at h
  obtain ⟨a, xs, e, h1, h2⟩ := h
  exact ⟨a, xs, e, h1.r.sq.1, h1.r.sq.2, RL.pair h2⟩
theorem RB.ref {d : D} {v : V} (h : RB K ex H n d v) (c : isC d = true) : ∃ a, v = .ref a := by
  cases n with
  | zero =>
    obtain ⟨a, _, e, _⟩ := (R.cn c).mp h
    exact ⟨a, e⟩
  | succ n =>
    obtain ⟨a, _, e, _⟩ := (RB.cn c).mp h
    exact ⟨a, e⟩
theorem R.no {v : V} : ∀ {d : D}, (match d with | .set _ => True | .exc _ => True | .oth => True | _ => False) → ¬ R K ex H d v
  | .set _, _, h => by
    rw [R] at h
    exact h
  | .exc _, _, h => by
    rw [R] at h
    exact h
  | .oth, _, h => by
    rw [R] at h
    exact h
theorem Paired.get {α β : Type} {F : α → β → Prop} : ∀ {as : List α} {bs : List β} {i : Nat} {a : α}, Paired F as bs → as[i]? = some a → ∃ b, bs[i]? = some b ∧ F a b
  | _, _, _, _, .nil, e => by simp at e
  | _, _, 0, _, .cons r _, e => by simp at e; subst e; exact ⟨_, rfl, r⟩
  | _, _, i + 1, x, .cons _ t, e => by
    obtain ⟨u, h1, h2⟩ := Paired.get (i := i) (a := x) t (by simpa using e)
    exact ⟨u, by simpa using h1, h2⟩
theorem Paired.app {α β : Type} {F : α → β → Prop} : ∀ {as cs : List α} {bs ds : List β}, Paired F as bs → Paired F cs ds → Paired F (as ++ cs) (bs ++ ds)
  | _, _, _, _, .nil, s => s
  | _, _, _, _, .cons r t, s => .cons r (Paired.app t s)
theorem Paired.takeP {α β : Type} {F : α → β → Prop} : ∀ {as : List α} {bs : List β} (n : Nat), Paired F as bs → Paired F (as.take n) (bs.take n)
  | _, _, 0, _ => .nil
  | _, _, _ + 1, .nil => .nil
  | _, _, n + 1, .cons r t => .cons r (Paired.takeP n t)
theorem Paired.dropP {α β : Type} {F : α → β → Prop} : ∀ {as : List α} {bs : List β} (n : Nat), Paired F as bs → Paired F (as.drop n) (bs.drop n)
  | _, _, 0, r => r
  | _, _, _ + 1, .nil => .nil
  | _, _, n + 1, .cons _ t => Paired.dropP n t
theorem Paired.setP {α β : Type} {F : α → β → Prop} {a : α} {b : β} (r : F a b) : ∀ {as : List α} {bs : List β} (i : Nat), Paired F as bs → Paired F (as.set i a) (bs.set i b)
  | _, _, _, .nil => .nil
  | _, _, 0, .cons _ t => .cons r t
  | _, _, i + 1, .cons q t => .cons q (Paired.setP r i t)
theorem Paired.revP {α β : Type} {F : α → β → Prop} : ∀ {as : List α} {bs : List β}, Paired F as bs → Paired F as.reverse bs.reverse
  | _, _, .nil => .nil
  | _, _, .cons r t => by
    rw [List.reverse_cons, List.reverse_cons]
    exact Paired.app (Paired.revP t) (.cons r .nil)
theorem Paired.flattenP {α β : Type} {F : α → β → Prop} {as : List α} {bs : List β} (h : Paired F as bs) : ∀ m : Nat, Paired F (List.replicate m as).flatten (List.replicate m bs).flatten
  | 0 => .nil
  | m + 1 => by
    rw [List.replicate_succ, List.replicate_succ, List.flatten_cons, List.flatten_cons]
    exact Paired.app h (Paired.flattenP h m)
theorem same_upd {p : Addr} {o : HO} (h : H p = none) : Same H (upd H p o) := fun b x e => by
  rw [upd_ne (ne_of_none e h)]
  exact e
/-- an owned object is changed -/
theorem Keep.upd {H1 : Hp} {a : Addr} {o o' : HO} (e : Same H H1) (hH : H a = some o) (nt : ∀ ys, o ≠ .tup ys) (hx : ex a) : Keep ex H (L2.upd H1 a o') where
  tup := fun b ys h => by
    have hb : b ≠ a := fun q => by
      rw [q, hH] at h
      exact nt ys (Option.some.inj h)
    rw [upd_ne hb]
    exact e _ _ h
  obj := fun b u n h => by
    rw [upd_ne (fun q => n (by rw [q]; exact hx))]
    exact e _ _ h
  there := fun b h q => by
    by_cases hb : b = a
    · rw [hb, upd_same] at q
      cases q
    · rw [upd_ne hb] at q
      exact h (e.free q)
theorem P3.ofP {α β γ : Type} {F : α → β → Prop} {G : α → β → List γ → Prop} (m : ∀ a b, F a b → G a b []) : ∀ {as : List α} {bs : List β}, Paired F as bs → ∃ fps, P3 G as bs fps ∧ fps.flatten = []
  | _, _, .nil => ⟨[], .nil, rfl⟩
  | _, _, .cons r t => by
    obtain ⟨fps, h, e⟩ := P3.ofP m t
    exact ⟨[] :: fps, .cons (m _ _ r) h, by rw [List.flatten_cons, e]; rfl⟩
theorem p3_zero {K : PySem.W.Frag} {ex : AS} {H : Hp} : ∀ {ds : List D} {vs : List V} {fps : List (List Addr)}, P3 (RO K ex H 0) ds vs fps → fps.flatten = [] ∧ Paired (R K ex H) ds vs
  | _, _, _, .nil => ⟨rfl, .nil⟩
  | _, _, _, .cons h t => by
    rw [RO] at h
    obtain ⟨a, b⟩ := p3_zero t
    exact ⟨by rw [List.flatten_cons, h.1, a]; rfl, .cons h.2 b⟩
theorem of_pair {K : PySem.W.Frag} {ex : AS} {H : Hp} {ds : List D} {vs : List V} (h : Paired (R K ex H) ds vs) : ∃ fps, P3 (RO K ex H 0) ds vs fps ∧ fps.flatten = [] := P3.ofP (G := RO K ex H 0) (fun a b q => ⟨rfl, q⟩) h
theorem paired_set {α β : Type} {F : α → β → Prop} : ∀ {as : List α} {bs : List β} {a : α} {b : β} (n : Nat), Paired F as bs → F a b → Paired F (as.set n a) (bs.set n b)
  | _, _, _, _, _, .nil, _ => .nil
  | _, _, _, _, 0, .cons _ t, h => .cons h t
  | _, _, _, _, n + 1, .cons x t, h => .cons x (paired_set n t h)
theorem new_less {p : Addr} (hp : H p = none) : ∀ a, (a ∈ [p] ∨ ex a) → ex a ∨ H a = none := fun a h => by
  rcases h with h | h
  · rw [List.mem_singleton.mp h]
    exact .inr hp
  · exact .inl h
/-- a new list of shared things is owned -/
theorem RO.newList {ds : List D} {xs : List V} {p : Addr} (r : Paired (R K ex H) ds xs) (hp : H p = none) (hl : xs.length ≤ sizeLine) :
    RO K (fun a => a ∈ [p] ∨ ex a) (upd H p (.lst xs)) 1 (.lst ds) (.ref p) [p] := by
  obtain ⟨fps, h, e⟩ := P3.ofP (G := RO K (fun a => a ∈ [p] ∨ ex a) (upd H p (.lst xs)) 0) (fun a b q => ⟨rfl, R.keep (Keep.same (same_upd (o := .lst xs) hp)) (new_less hp) a q⟩) r
  exact (RO.cn rfl).mpr ⟨p, xs, fps, _, rfl, ⟨⟨rfl, hl⟩, upd_same⟩, by rw [e], h⟩
theorem R.newTup {ds : List D} {xs : List V} {p : Addr} (r : Paired (R K ex H) ds xs) (hp : H p = none) (hl : xs.length ≤ sizeLine) : R K ex (upd H p (.tup xs)) (.tup ds) (.ref p) := by
  rw [R]
  exact ⟨p, xs, rfl, ⟨upd_same, hl⟩, RL.of (r.mono fun _ _ q => R.same (same_upd hp) q)⟩
theorem ex_nil {d : D} {v : V} (h : R K ex H d v) (f : notList d = true) : RO K (fun a => a ∈ ([] : List Addr) ∨ ex a) H k d v [] :=
  RO.flat (R.less (fun a q => .inl (by
    rcases q with q | q
    · cases q
    · exact q)) h) f
end

/-! ### expressions -/
/-- the wish for a new value, owned to the depth k -/
abbrev QO (K : PySem.W.Frag) (ex : AS) (H : Hp) (k : Nat) (Q : VK) (d : D) : Prop := ∀ v H' fq, Same H H' → RO K (fun a => a ∈ fq ∨ ex a) H' k d v fq → fq.Nodup → (∀ a ∈ fq, H a = none) → Q v H'
section
variable {K : PySem.W.Frag} {ex : AS} {H : Hp} {k : Nat} {Q : VK}
theorem QO.flat {d : D} (q : QO K ex H k Q d) {v : V} (h : R K ex H d v) (f : notList d = true) : Q v H := q v H [] (Same.refl H) (ex_nil h f) List.nodup_nil fun a z => nomatch z
theorem QO.int {i : Int} (q : QO K ex H k Q (.int i)) : Q (.int i) H := q.flat (by rw [R]) rfl
theorem QO.bl {i : Bool} (q : QO K ex H k Q (.bl i)) : Q (.bl i) H := q.flat (by rw [R]) rfl
theorem QO.str {i : Str} (q : QO K ex H k Q (.str i)) : Q (.str i) H := q.flat (by rw [R]) rfl
theorem QO.non (q : QO K ex H k Q .non) : Q .non H := q.flat (by rw [R]) rfl
theorem QO.lst {ds : List D} {xs : List V} {p : Addr} (q : QO K ex H 1 Q (.lst ds)) (r : Paired (R K ex H) ds xs) (hp : H p = none) (hl : xs.length ≤ sizeLine) : Q (.ref p) (upd H p (.lst xs)) :=
  q (.ref p) _ [p] (same_upd hp) (RO.newList r hp hl) (List.nodup_cons.mpr ⟨List.not_mem_nil, List.nodup_nil⟩) fun a z => by
    rw [List.mem_singleton.mp z]
    exact hp
theorem QO.tup {ds : List D} {xs : List V} {p : Addr} (q : QO K ex H k Q (.tup ds)) (r : Paired (R K ex H) ds xs) (hp : H p = none) (hl : xs.length ≤ sizeLine) : Q (.ref p) (upd H p (.tup xs)) :=
  q (.ref p) _ [] (same_upd hp) (ex_nil (R.newTup r hp hl) rfl) List.nodup_nil fun a z => nomatch z
end

def eVar (i : Nat) : EF := fun ρ => match ρ.getD i none with
  | some d => .ok d
  | none => .err
def eC (d : D) : EF := fun _ => .ok d
section
variable {X : Cx} {W : WX} {L : List Nat} {n k : Nat} {pos : Pos}
theorem getD_some {ρ : Env} {i : Nat} {d : D} (h : ρ.getD i none = some d) : ρ[i]? = some (some d) := by
  rw [List.getD_eq_getElem?_getD] at h
  cases e : ρ[i]? with
  | none => rw [e] at h; cases h
  | some z => rw [e] at h; exact congrArg some h
theorem RB.le {K : PySem.W.Frag} {ex : AS} {H : Hp} {j : Nat} {d : D} {v : V} (h : RB K ex H j d v) : ∀ {n : Nat}, j ≤ n → RB K ex H n d v := by
  intro n hn
  induction n with
  | zero =>
    have e : j = 0 := by omega
    rw [← e]
    exact h
  | succ n ih =>
    by_cases e : j = n + 1
    · rw [← e]
      exact h
    · exact (ih (by omega)).up
theorem eb_var {i : Nat} {x : Str} (hN : X.N[i]? = some x) (hv : Vis X.env.scope x) (hl : L.getD i 0 ≤ n) (hd : (x == ("__debug__" : Str)) = false := by decide) (hcd : (x == ("__classdict__" : Str)) = false := by decide) :
    EB X W L n (.Name x pos) (eVar i) := PE.imp (pe_var hN hv hd hcd) fun σ H Q ⟨ex, ρ, fp, I, o⟩ => by
  unfold eVar at o
  cases e : ρ.getD i none with
  | none => rw [e] at o; exact o.elim
  | some d =>
    rw [e] at o
    obtain ⟨v, h1, h2⟩ := I.val i d (getD_some e)
    exact ⟨v, h1, o v H (Same.refl H) (h2.borrow.le hl)⟩
theorem eo_int {i : Int} {j : Nat} : EO X W L k (.Constant (.int i) j pos) (eC (.int i)) := PE.imp pe_int fun σ H Q ⟨ex, ρ, fp, I, o⟩ => QO.int o
theorem eo_bl {i : Bool} {j : Nat} : EO X W L k (.Constant (.bool i) j pos) (eC (.bl i)) := PE.imp pe_bl fun σ H Q ⟨ex, ρ, fp, I, o⟩ => QO.bl o
theorem eo_str {i : Str} {j : Nat} : EO X W L k (.Constant (.str i) j pos) (eC (.str i)) := PE.imp pe_str fun σ H Q ⟨ex, ρ, fp, I, o⟩ => QO.str o
theorem eo_non {j : Nat} : EO X W L k (.Constant .none j pos) (eC .non) := PE.imp pe_non fun σ H Q ⟨ex, ρ, fp, I, o⟩ => QO.non o

/-! arguments -/
def aNil : Env → Res (List D) := fun _ => .ok []
def aCons (f : EF) (g : Env → Res (List D)) : Env → Res (List D) := fun ρ => f ρ >>= fun d => g ρ >>= fun ds => .ok (d :: ds)
variable {e : Expr} {es : List Expr} {f g : EF} {fs : Env → Res (List D)} {m : Nat}
theorem ea_nil : EA X W L n 0 [] aNil := PA.imp pa_nil fun σ H Q ⟨ex, ρ, fp, I, o⟩ => o [] H (Same.refl H) .nil rfl
theorem ea_cons (h : EB X W L n e f) (t : EA X W L n m es fs) (hs : starEach (e :: es) X.env = (false, eval e X.env) :: starEach es X.env := by rfl) : EA X W L n (m + 1) (e :: es) (aCons f fs) :=
  PA.imp (pa_cons h t hs) fun σ H Q ⟨ex, ρ, fp, I, o⟩ => by
    refine ⟨ex, ρ, fp, I, o.bind.mono fun d q v H1 e1 r1 => ⟨ex, ρ, fp, I.same e1, (q.bind.later e1).mono fun ds q2 vs H2 e2 r2 hm => ?_⟩⟩
    exact q2 (v :: vs) H2 (e1.trans e2) (.cons (r1.same e2) r2) (by rw [List.length_cons, hm])

/-! tuples, lists -/
def eTup (fs : Env → Res (List D)) : EF := fun ρ => fs ρ >>= fun ds => .ok (.tup ds)
def eLst (fs : Env → Res (List D)) : EF := fun ρ => fs ρ >>= fun ds => .ok (.lst ds)
theorem eo_tup {j : Nat} (h : EA X W L 0 m es fs) (hm : m ≤ sizeLine := by decide) : EO X W L k (.Tuple es j pos) (eTup fs) := PE.imp (pe_tup h) fun σ H Q ⟨ex, ρ, fp, I, o⟩ =>
  ⟨ex, ρ, fp, I, o.bind.mono fun ds q vs H1 e1 r1 hl => ⟨by omega, fun p hp => by
    refine QO.tup (K := X.K) (ex := ex) (k := k) (fun v H2 fq e2 ro nd nw => q v H2 fq (e1.trans e2) ro nd fun a ha => e1.free (nw a ha)) (r1 : Paired (R X.K ex H1) ds vs) hp (by omega)⟩⟩
theorem eo_lst (h : EA X W L 0 m es fs) (hm : m ≤ sizeLine := by decide) : EO X W L 1 (.List es pos) (eLst fs) := PE.imp (pe_lst h) fun σ H Q ⟨ex, ρ, fp, I, o⟩ =>
  ⟨ex, ρ, fp, I, o.bind.mono fun ds q vs H1 e1 r1 hl => ⟨by omega, fun p hp => by
    refine QO.lst (K := X.K) (ex := ex) (fun v H2 fq e2 ro nd nw => q v H2 fq (e1.trans e2) ro nd fun a ha => e1.free (nw a ha)) (r1 : Paired (R X.K ex H1) ds vs) hp (by omega)⟩⟩
theorem eo_nil : EO X W L (k + 1) (.List [] pos) (eC (.lst [])) := PE.imp (pe_lst pa_nil) fun σ H Q ⟨ex, ρ, fp, I, o⟩ => ⟨Nat.zero_le _, fun p hp =>
  o (.ref p) _ [p] (same_upd hp) ((RO.cn rfl).mpr ⟨p, [], [], _, rfl, ⟨⟨rfl, Nat.zero_le _⟩, upd_same⟩, rfl, .nil⟩) (List.nodup_cons.mpr ⟨List.not_mem_nil, List.nodup_nil⟩) fun a z => by
    rw [List.mem_singleton.mp z]
    exact hp⟩

/-! operators -/
/-- a binary operation does what a function over data does -/
def Op2 (X : Cx) (n m k : Nat) (f : Value → Value → Sem Value) (g : D → D → Res D) : Prop :=
  OpR X f fun x y H Q => ∃ ex d1 d2 d, (∀ a, ex a → H a ≠ none) ∧ RB X.K ex H n d1 x ∧ RB X.K ex H m d2 y ∧ g d1 d2 = .ok d ∧ QO X.K ex H k Q d
def eOp (o : D → D → Res D) (f g : EF) : EF := fun ρ => f ρ >>= fun a => g ρ >>= fun b => o a b
variable {a b c : Expr} {o o' : D → D → Res D} {n1 n2 : Nat}
theorem no_exc {α : Type} {r : Res α} {σ : L2.St} {H : Hp} {P : α → Prop} (h : Out X W σ H r P) (ne : ∀ c, r ≠ .exc c) : ∃ d, r = .ok d ∧ P d := by
  cases r with
  | ok d => exact ⟨d, rfl, h⟩
  | exc c => exact absurd rfl (ne c)
  | err => exact h.elim
/-- an operation over data that raises nothing -/
def NoX2 (o : D → D → Res D) : Prop := ∀ a b c, o a b ≠ .exc c
theorem eo_op {op : Operator} (ho : Op2 X n1 n2 k (binaryOp op) o) (nx : NoX2 o) (ha : EB X W L n1 a f) (hb : EB X W L n2 b g) : EO X W L k (.BinOp a op b pos) (eOp o f g) :=
  PE.imp (pe_op ho ha hb) fun σ H Q ⟨ex, ρ, fp, I, q⟩ => by
    refine ⟨ex, ρ, fp, I, q.bind.mono fun d1 q1 v1 H1 e1 r1 => ⟨ex, ρ, fp, I.same e1, (q1.bind.later e1).mono fun d2 q2 v2 H2 e2 r2 => ?_⟩⟩
    obtain ⟨d, ed, qd⟩ := no_exc q2 (nx d1 d2)
    exact ⟨ex, d1, d2, d, ((I.same e1).same e2).ext, r1.same e2, r2, ed, fun v H3 fq e3 ro nd nw => qd v H3 fq ((e1.trans e2).trans e3) ro nd fun a ha => (e1.trans e2).free (nw a ha)⟩
theorem eo_cmp {op : CmpOp} (ho : Op2 X n1 n2 k (compareOp op) o) (nx : NoX2 o) (ha : EB X W L n1 a f) (hb : EB X W L n2 b g) (hm : behindInMarks op b = false) : EO X W L k (.Compare a [op] [b] pos) (eOp o f g) :=
  PE.imp (pe_cmpR ho ha hb hm) fun σ H Q ⟨ex, ρ, fp, I, q⟩ => by
    refine ⟨ex, ρ, fp, I, q.bind.mono fun d1 q1 v1 H1 e1 r1 => ⟨ex, ρ, fp, I.same e1, (q1.bind.later e1).mono fun d2 q2 v2 H2 e2 r2 => ?_⟩⟩
    obtain ⟨d, ed, qd⟩ := no_exc q2 (nx d1 d2)
    exact ⟨ex, d1, d2, d, ((I.same e1).same e2).ext, r1.same e2, r2, ed, fun v H3 fq e3 ro nd nw => qd v H3 fq ((e1.trans e2).trans e3) ro nd fun a ha => (e1.trans e2).free (nw a ha)⟩
end
end Px

namespace Px
open PySem PySem.Spec PyProof.Rows L2
/-! ### dicts: keys and places -/
section
variable {κ : Type} [DecidableEq κ]
/-- where a key stands -/
def kIdx (kk : List κ) (k : κ) : Option Nat := kk.findIdx? fun j => decide (j = k)
theorem kIdx_nil (k : κ) : kIdx ([] : List κ) k = none := rfl
theorem kIdx_cons (j : κ) (kk : List κ) (k : κ) : kIdx (j :: kk) k = if j = k then some 0 else (kIdx kk k).map (· + 1) := by
  unfold kIdx
  rw [List.findIdx?_cons]
  by_cases h : j = k
  · simp [h]
  · simp [h]
theorem kIdx_lt {kk : List κ} {k : κ} {n : Nat} (h : kIdx kk k = some n) : n < kk.length ∧ kk[n]? = some k := by
  unfold kIdx at h
  obtain ⟨h1, h2, _⟩ := List.findIdx?_eq_some_iff_getElem.mp h
  refine ⟨h1, ?_⟩
  rw [List.getElem?_eq_getElem h1]
  simp at h2
  rw [h2]
theorem kIdx_none {kk : List κ} {k : κ} (h : kIdx kk k = none) : k ∉ kk := fun q => by
  unfold kIdx at h
  have := List.findIdx?_eq_none_iff.mp h k q
  simp at this
theorem valV_zip (k : κ) : ∀ (kk : List κ) (xs : List V), kk.length = xs.length → valV (kk.zip xs) k = (kIdx kk k).bind (xs[·]?)
  | [], [], _ => rfl
  | [], _ :: _, h => by simp at h
  | _ :: _, [], h => by simp at h
  | j :: kk, x :: xs, h => by
    rw [List.zip_cons_cons, kIdx_cons]
    by_cases e : j = k
    · rw [if_pos e, valV_pos (p := (j, x)) e]
      rfl
    · rw [if_neg e, valV_neg (p := (j, x)) e, valV_zip k kk xs (by simpa using h)]
      cases kIdx kk k <;> rfl
theorem zip_set (v : V) : ∀ (kk : List κ) (xs : List V) (n : Nat) (k : κ), kk[n]? = some k → kk.Nodup → kk.length = xs.length → ((kk.zip xs).map fun kv => if kv.1 = k then (kv.1, v) else kv) = kk.zip (xs.set n v)
  | [], _, _, _, h, _, _ => by simp at h
  | j :: kk, [], _, _, _, _, h => by simp at h
  | j :: kk, x :: xs, 0, k, h, nd, hl => by
    simp at h
    subst h
    rw [List.zip_cons_cons, List.map_cons, List.set_cons_zero, List.zip_cons_cons]
    simp only [if_true]
    congr 1
    have hn := (List.nodup_cons.mp nd).1
    have : ∀ p ∈ kk.zip xs, (if p.1 = j then (p.1, v) else p) = p := fun p hp => by
      rw [if_neg]
      intro q
      obtain ⟨a, b⟩ := p
      have := (List.of_mem_zip hp).1
      exact hn (q ▸ this)
    rw [List.map_congr_left this]
    simp
  | j :: kk, x :: xs, n + 1, k, h, nd, hl => by
    simp at h
    have hn := (List.nodup_cons.mp nd).1
    have hj : j ≠ k := fun q => hn (q ▸ List.mem_of_getElem? h)
    rw [List.zip_cons_cons, List.map_cons, List.set_cons_succ, List.zip_cons_cons, zip_set v kk xs n k h (List.nodup_cons.mp nd).2 (by simpa using hl)]
    simp [hj]
theorem zip_any (k : κ) : ∀ (kk : List κ) (xs : List V), kk.length = xs.length → ((kk.zip xs).any fun kv => decide (kv.1 = k)) = (kIdx kk k).isSome
  | [], _, _ => rfl
  | _ :: _, [], h => by simp at h
  | j :: kk, x :: xs, h => by
    rw [List.zip_cons_cons, List.any_cons, kIdx_cons, zip_any k kk xs (by simpa using h)]
    by_cases e : j = k
    · simp [e]
    · simp [e]
theorem putK_zip (kk : List κ) (xs : List V) (k : κ) (v : V) (hl : kk.length = xs.length) (nd : kk.Nodup) : putK (kk.zip xs) k v = match kIdx kk k with
    | some n => kk.zip (xs.set n v)
    | none => (kk ++ [k]).zip (xs ++ [v]) := by
  unfold putK
  rw [zip_any k kk xs hl]
  cases h : kIdx kk k with
  | some n =>
    simp only [Option.isSome_some, if_true]
    exact zip_set v kk xs n k (kIdx_lt h).2 nd hl
  | none =>
    simp only [Option.isSome_none, Bool.false_eq_true, if_false]
    rw [List.zip_append hl]
    rfl
theorem dropK_zip : ∀ (kk : List κ) (xs : List V) (k : κ) (n : Nat), kIdx kk k = some n → kk.length = xs.length → kk.Nodup → dropK (kk.zip xs) k = (kk.eraseIdx n).zip (xs.eraseIdx n)
  | [], _, _, _, h, _, _ => by cases h
  | _ :: _, [], _, _, _, h, _ => by simp at h
  | j :: kk, x :: xs, k, n, h, hl, nd => by
    rw [kIdx_cons] at h
    rw [List.zip_cons_cons]
    by_cases e : j = k
    · rw [if_pos e] at h
      cases h
      rw [dropK_pos (p := (j, x)) e, List.eraseIdx_cons_zero, List.eraseIdx_cons_zero]
      refine dropK_no fun q => ?_
      have hn := (List.nodup_cons.mp nd).1
      obtain ⟨p, hp, rfl⟩ := List.mem_map.mp q
      obtain ⟨a, b⟩ := p
      exact hn (e ▸ (List.of_mem_zip hp).1)
    · rw [if_neg e] at h
      cases q : kIdx kk k with
      | none => rw [q] at h; cases h
      | some m =>
        rw [q] at h
        cases h
        rw [dropK_neg (p := (j, x)) e, List.eraseIdx_cons_succ, List.eraseIdx_cons_succ, List.zip_cons_cons, dropK_zip kk xs k m q (by simpa using hl) (List.nodup_cons.mp nd).2]
theorem kIdx_map {α : Type} (f : κ → α) (p : α → Bool) (k : κ) (h : ∀ j, p (f j) = decide (j = k)) : ∀ kk : List κ, (kk.map f).findIdx? p = kIdx kk k
  | [] => rfl
  | j :: kk => by
    rw [List.map_cons, List.findIdx?_cons, kIdx_cons, h, kIdx_map f p k h kk]
    by_cases e : j = k
    · simp [e]
    · simp [e]
end
def kOf : D → Option Key
  | .int i => some (.inl i)
  | .str s => some (.inr s)
  | _ => none
def kOfs : List D → Option (List Key)
  | [] => some []
  | d :: ds => match kOf d, kOfs ds with
    | some k, some ks => some (k :: ks)
    | _, _ => none
def tOf : D → Option (List Key)
  | .tup ds => kOfs ds
  | _ => none
theorem kOf_key (k : Key) : kOf (dKey k) = some k := by cases k <;> rfl
theorem kOfs_key : ∀ k : List Key, kOfs (k.map dKey) = some k
  | [] => rfl
  | a :: r => by rw [List.map_cons, kOfs, kOf_key, kOfs_key r]
theorem tOf_key (k : List Key) : tOf (dKeyT k) = some k := kOfs_key k
theorem kOf_eq {d : D} {k : Key} (h : kOf d = some k) : d = dKey k := by
  cases d <;> cases h <;> rfl
theorem kOfs_eq : ∀ {ds : List D} {k : List Key}, kOfs ds = some k → ds = k.map dKey
  | [], _, h => by cases h; rfl
  | d :: ds, k, h => by
    rw [kOfs] at h
    split at h
    · rename_i a r h1 h2
      cases h
      rw [kOf_eq h1, kOfs_eq h2]
      rfl
    · cases h
theorem tOf_eq {d : D} {k : List Key} (h : tOf d = some k) : d = dKeyT k := by
  cases d with
  | tup ds => rw [kOfs_eq (ds := ds) h]; rfl
  | _ => cases h
/-- where a key stands among the keys of a dict -/
def dFind (t : Bool) (ks : List D) (d : D) : Res (Option Nat) := match t with
  | false => match kOf d with
    | some k => .ok (ks.findIdx? fun j => decide (kOf j = some k))
    | none => .err
  | true => match tOf d with
    | some k => .ok (ks.findIdx? fun j => decide (tOf j = some k))
    | none => .err
section
variable {K : PySem.W.Frag} {ex : AS} {H : Hp} {n : Nat}
theorem RB.key {d : D} {v : V} {k : Key} (h : RB K ex H n d v) (e : kOf d = some k) : v = kV k := by
  rw [kOf_eq e] at h
  cases k with
  | inl i => exact h.int
  | inr s => exact h.str
theorem keys_vals : ∀ {k : List Key} {vs : List V}, Paired (R K ex H) (k.map dKey) vs → vs = k.map kV
  | [], _, h => by cases h; rfl
  | a :: r, _, h => by
    rw [List.map_cons] at h
    cases h with
    | cons x t =>
      rw [List.map_cons, ← keys_vals t, RB.key (n := 0) x (kOf_key a)]
theorem RB.keyT {d : D} {v : V} {k : List Key} (h : RB K ex H n d v) (e : tOf d = some k) : ∃ b, v = .ref b ∧ H b = some (.tup (k.map kV)) := by
  rw [tOf_eq e] at h
  obtain ⟨a, xs, rfl, h1, _, h3⟩ := RB.tupX h
  exact ⟨a, rfl, by rw [h1, keys_vals h3]⟩
/-- a look at a dict -/
theorem dFind_get {a : Addr} {t : Bool} {ks vs : List D} {xs : List V} {d : D} {y : V} {o : Option Nat} (h : CnR K H a (.dic t ks vs) xs) (r : RB K ex H n d y) (e : dFind t ks d = .ok o) :
    DGet H a y (o.bind (xs[·]?)) ∧ (∀ m, o = some m → m < xs.length) := by
  rcases h with ⟨o2, h1, h2⟩ | ⟨⟨_, h⟩, _⟩
  · cases t with
    | false =>
      obtain ⟨kk, rfl, hl, nd, rfl⟩ := h1
      unfold dFind at e
      cases hk : kOf d with
      | none => simp only [hk] at e; cases e
      | some k =>
        simp only [hk] at e
        rw [kIdx_map dKey _ k (fun j => by rw [kOf_key]; simp)] at e
        cases e
        refine ⟨.inl ⟨_, k, h2.rd, r.key hk, ?_⟩, fun m hm => by rw [← hl]; exact (kIdx_lt hm).1⟩
        rw [valV_zip k kk xs hl]
    | true =>
      obtain ⟨kk, rfl, hl, nd, rfl⟩ := h1
      unfold dFind at e
      cases hk : tOf d with
      | none => simp only [hk] at e; cases e
      | some k =>
        simp only [hk] at e
        rw [kIdx_map dKeyT _ k (fun j => by rw [tOf_key]; simp)] at e
        cases e
        obtain ⟨b, rfl, hb⟩ := r.keyT hk
        refine ⟨.inr ⟨_, k, b, h2.rd, rfl, hb, ?_⟩, fun m hm => by rw [← hl]; exact (kIdx_lt hm).1⟩
        rw [valV_zip k kk xs hl]
  · cases h
/-- what stands behind a store: keys, children -/
def kPut {α : Type} (o : Option Nat) (xs : List α) (x : α) : List α := match o with
  | some n => xs.set n x
  | none => xs ++ [x]
def kAdd (o : Option Nat) (ks : List D) (k : D) : List D := match o with
  | some _ => ks
  | none => ks ++ [k]
theorem nd_add {κ : Type} {kk : List κ} {k : κ} (nd : kk.Nodup) (h : k ∉ kk) : (kk ++ [k]).Nodup := by
  rw [List.nodup_append]
  refine ⟨nd, by simp, fun a ha b hb e => ?_⟩
  rw [List.mem_singleton.mp hb] at e
  exact h (e ▸ ha)
theorem dFind_put {a : Addr} {t : Bool} {ks vs : List D} {xs : List V} {d : D} {y v : V} {o : Option Nat} {ho : HO} (h : CnO K (.dic t ks vs) xs ho) (hH : H a = some ho) (r : RB K ex H n d y) (e : dFind t ks d = .ok o) (hz : xs.length < sizeLine) (vs' : List D) :
    ∃ ho', DPut H a y v (upd H a ho') ∧ CnO K (.dic t (kAdd o ks d) vs') (kPut o xs v) ho' := by
  cases t with
  | false =>
    obtain ⟨kk, rfl, hl, nd, rfl⟩ := h
    unfold dFind at e
    cases hk : kOf d with
    | none => simp only [hk] at e; cases e
    | some k =>
      simp only [hk] at e
      rw [kIdx_map dKey _ k (fun j => by rw [kOf_key]; simp)] at e
      cases e
      refine ⟨_, .inl ⟨_, k, hH, r.key hk, by rw [List.length_zip]; omega, rfl⟩, ?_⟩
      rw [putK_zip kk xs k v hl nd]
      cases q : kIdx kk k with
      | some m => exact ⟨kk, rfl, by show kk.length = (xs.set m v).length; rw [List.length_set]; exact hl, nd, rfl⟩
      | none => exact ⟨kk ++ [k], by show kk.map dKey ++ [d] = _; rw [List.map_append, kOf_eq hk]; rfl, by show (kk ++ [k]).length = (xs ++ [v]).length; simp [hl], nd_add nd (kIdx_none q), rfl⟩
  | true =>
    obtain ⟨kk, rfl, hl, nd, rfl⟩ := h
    unfold dFind at e
    cases hk : tOf d with
    | none => simp only [hk] at e; cases e
    | some k =>
      simp only [hk] at e
      rw [kIdx_map dKeyT _ k (fun j => by rw [tOf_key]; simp)] at e
      cases e
      obtain ⟨b, rfl, hb⟩ := r.keyT hk
      refine ⟨_, .inr ⟨_, k, b, hH, rfl, hb, by rw [List.length_zip]; omega, rfl⟩, ?_⟩
      rw [putK_zip kk xs k v hl nd]
      cases q : kIdx kk k with
      | some m => exact ⟨kk, rfl, by show kk.length = (xs.set m v).length; rw [List.length_set]; exact hl, nd, rfl⟩
      | none => exact ⟨kk ++ [k], by show kk.map dKeyT ++ [d] = _; rw [List.map_append, tOf_eq hk]; rfl, by show (kk ++ [k]).length = (xs ++ [v]).length; simp [hl], nd_add nd (kIdx_none q), rfl⟩
theorem RB.cnr {d : D} {v : V} (c : isC d = true) (h : RB K ex H n d v) : ∃ a xs, v = .ref a ∧ CnR K H a d xs ∧ Paired (RB K ex H (n - 1)) (kids d) xs := by
  cases n with
  | zero =>
    obtain ⟨a, xs, e, h1, h2⟩ := (R.cn c).mp h
    exact ⟨a, xs, e, h1.r, RL.pair h2⟩
  | succ n => exact (RB.cn c).mp h
theorem nodup_eraseIdx {κ : Type} : ∀ {kk : List κ} (n : Nat), kk.Nodup → (kk.eraseIdx n).Nodup := fun n h => h.sublist (List.eraseIdx_sublist _ n)
theorem CnO.dic_len {t : Bool} {ks vs : List D} {xs : List V} {ho : HO} (h : CnO K (.dic t ks vs) xs ho) : ks.length = xs.length := by
  cases t with
  | false =>
    obtain ⟨kk, rfl, hl, _⟩ := h
    rw [List.length_map]
    exact hl
  | true =>
    obtain ⟨kk, rfl, hl, _⟩ := h
    rw [List.length_map]
    exact hl
end
end Px

namespace Px
open PySem PySem.Spec PyProof.Rows L2

/-! ### data that is compared -/
mutual
def toP : D → PyData
  | .non => .none
  | .bl b => .bool b
  | .int i => .int i
  | .str s => .str s
  | .tup xs => .tuple (toPL xs)
  | .lst xs => .list (toPL xs)
  | .dic _ _ _ => .none
  | .ins _ _ _ => .none
  | .set _ => .none
  | .exc _ => .none
  | .oth => .none
def toPL : List D → List PyData
  | [] => []
  | x :: xs => toP x :: toPL xs
end
mutual
/-- plain data to the depth n -/
def okN : Nat → D → Bool
  | _, .non => true
  | _, .bl _ => true
  | _, .int _ => true
  | _, .str s => PyData.strOk s
  | 0, .tup _ => false
  | n + 1, .tup xs => okL n xs
  | 0, .lst _ => false
  | n + 1, .lst xs => okL n xs
  | _, .dic _ _ _ => false
  | _, .ins _ _ _ => false
  | _, .set _ => false
  | _, .exc _ => false
  | _, .oth => false
def okL : Nat → List D → Bool
  | _, [] => true
  | n, x :: xs => okN n x && okL n xs
end
mutual
def eqD : D → D → Bool
  | .non, .non => true
  | .bl a, .bl b => a == b
  | .bl a, .int j => (if a then 1 else 0) == j
  | .int i, .bl b => i == (if b then 1 else 0)
  | .int i, .int j => i == j
  | .str x, .str y => x == y
  | .lst xs, .lst ys => eqDL xs ys
  | .tup xs, .tup ys => eqDL xs ys
  | _, _ => false
def eqDL : List D → List D → Bool
  | [], [] => true
  | x :: xs, y :: ys => eqD x y && eqDL xs ys
  | _, _ => false
end
theorem okL_all (n : Nat) : ∀ xs : List D, okL n xs = xs.all (okN n)
  | [] => by rw [okL, List.all_nil]
  | x :: xs => by rw [okL, List.all_cons, okL_all n xs]
mutual
theorem ok_lay : ∀ (n : Nat) (d : D), okN n d = true → (toP d).canLay0 = true ∧ (toP d).depth ≤ n
  | n, .non, _ => by simp [toP, PyData.canLay0, PyData.depth]
  | n, .bl _, _ => by simp [toP, PyData.canLay0, PyData.depth]
  | n, .int _, _ => by simp [toP, PyData.canLay0, PyData.depth]
  | n, .str _, h => by
    rw [okN] at h
    simp [toP, PyData.canLay0, PyData.depth, h]
  | 0, .tup _, h => by simp [okN] at h
  | n + 1, .tup xs, h => by
    rw [okN] at h
    obtain ⟨a, b⟩ := ok_layL n xs h
    simp only [toP, PyData.canLay0, PyData.depth]
    exact ⟨a, by omega⟩
  | 0, .lst _, h => by simp [okN] at h
  | n + 1, .lst xs, h => by
    rw [okN] at h
    obtain ⟨a, b⟩ := ok_layL n xs h
    simp only [toP, PyData.canLay0, PyData.depth]
    exact ⟨a, by omega⟩
  | n, .dic _ _ _, h => by simp [okN] at h
  | n, .ins _ _ _, h => by simp [okN] at h
  | n, .set _, h => by simp [okN] at h
  | n, .exc _, h => by simp [okN] at h
  | n, .oth, h => by simp [okN] at h
theorem ok_layL : ∀ (n : Nat) (ds : List D), okL n ds = true → PyData.canLayAll0 (toPL ds) = true ∧ PyData.depthAll (toPL ds) ≤ n
  | n, [], _ => by simp [toPL, PyData.canLayAll0, PyData.depthAll]
  | n, d :: ds, h => by
    rw [okL, Bool.and_eq_true] at h
    obtain ⟨a, b⟩ := ok_lay n d h.1
    obtain ⟨a2, b2⟩ := ok_layL n ds h.2
    simp only [toPL, PyData.canLayAll0, PyData.depthAll, a, a2, Bool.and_self, true_and]
    omega
end
theorem ok_shaped {d : D} (h : okN 60 d = true) : SeqAt.shaped (toP d) = true := by
  obtain ⟨a, b⟩ := ok_lay 60 d h
  unfold SeqAt.shaped
  rw [a, Bool.true_and, decide_eq_true_eq]
  omega
mutual
theorem eqD_eqv : ∀ (n m : Nat) (a b : D), okN n a = true → okN m b = true → PyData.eqv (toP a) (toP b) = eqD a b
  | _, _, .non, b, _, h => by cases b <;> simp_all [toP, PyData.eqv, eqD, okN]
  | _, _, .bl _, b, _, h => by cases b <;> simp_all [toP, PyData.eqv, eqD, okN]
  | _, _, .int _, b, _, h => by cases b <;> simp_all [toP, PyData.eqv, eqD, okN]
  | _, _, .str _, b, _, h => by cases b <;> simp_all [toP, PyData.eqv, eqD, okN]
  | n, m, .tup xs, b, h1, h => by
    cases n with
    | zero => simp [okN] at h1
    | succ n =>
      cases b with
      | tup ys =>
        cases m with
        | zero => simp [okN] at h
        | succ m =>
          rw [okN] at h1 h
          rw [toP, toP, PyData.eqv, eqD]
          exact eqD_eqvL n m xs ys h1 h
      | _ => simp_all [toP, PyData.eqv, eqD, okN]
  | n, m, .lst xs, b, h1, h => by
    cases n with
    | zero => simp [okN] at h1
    | succ n =>
      cases b with
      | lst ys =>
        cases m with
        | zero => simp [okN] at h
        | succ m =>
          rw [okN] at h1 h
          rw [toP, toP, PyData.eqv, eqD]
          exact eqD_eqvL n m xs ys h1 h
      | _ => simp_all [toP, PyData.eqv, eqD, okN]
  | _, _, .dic _ _ _, _, h, _ => by simp [okN] at h
  | _, _, .ins _ _ _, _, h, _ => by simp [okN] at h
  | _, _, .set _, _, h, _ => by simp [okN] at h
  | _, _, .exc _, _, h, _ => by simp [okN] at h
  | _, _, .oth, _, h, _ => by simp [okN] at h
theorem eqD_eqvL : ∀ (n m : Nat) (a b : List D), okL n a = true → okL m b = true → PyData.eqvAll (toPL a) (toPL b) = eqDL a b
  | _, _, [], [], _, _ => by simp [toPL, PyData.eqvAll, eqDL]
  | _, _, [], _ :: _, _, _ => by simp [toPL, PyData.eqvAll, eqDL]
  | _, _, _ :: _, [], _, _ => by simp [toPL, PyData.eqvAll, eqDL]
  | n, m, x :: xs, y :: ys, h1, h2 => by
    rw [okL, Bool.and_eq_true] at h1 h2
    rw [toPL, toPL, PyData.eqvAll, eqDL, eqD_eqv n m x y h1.1 h2.1, eqD_eqvL n m xs ys h1.2 h2.2]
end
section
variable {K : PySem.W.Frag} {ex : AS} {H : Hp}
mutual
theorem R.dp : ∀ (n : Nat) (d : D) {v : V}, okN n d = true → R K ex H d v → Dp K H v (toP d)
  | _, .non, v, _, h => by
    rw [R] at h
    subst h
    rw [toP]
    exact .non
  | _, .bl _, v, _, h => by
    rw [R] at h
    subst h
    rw [toP]
    exact .bl _
  | _, .int _, v, _, h => by
    rw [R] at h
    subst h
    rw [toP]
    exact .int _
  | _, .str _, v, _, h => by
    rw [R] at h
    subst h
    rw [toP]
    exact .str _
  | 0, .tup ds, v, k, _ => by simp [okN] at k
  | n + 1, .tup ds, v, k, h => by
    rw [R] at h
    rw [okN] at k
    obtain ⟨a, xs, rfl, h1, h2⟩ := h
    rw [toP]
    exact .tup (.inl (.inl h1.1)) (RL.dp n ds k h2)
  | 0, .lst ds, v, k, _ => by simp [okN] at k
  | n + 1, .lst ds, v, k, h => by
    rw [R] at h
    rw [okN] at k
    obtain ⟨a, xs, rfl, h1, h2⟩ := h
    rw [toP]
    exact .lst h1.r.sq.1 (RL.dp n ds k h2)
  | _, .dic _ _ _, _, k, _ => by simp [okN] at k
  | _, .ins _ _ _, _, k, _ => by simp [okN] at k
  | _, .set _, _, k, _ => by simp [okN] at k
  | _, .exc _, _, k, _ => by simp [okN] at k
  | _, .oth, _, k, _ => by simp [okN] at k
theorem RL.dp : ∀ (n : Nat) (ds : List D) {vs : List V}, okL n ds = true → RL K ex H ds vs → DpAll K H vs (toPL ds)
  | _, [], _, _, h => by
    rw [RL] at h
    subst h
    rw [toPL]
    exact .nil
  | n, d :: ds, _, k, h => by
    rw [RL] at h
    rw [okL, Bool.and_eq_true] at k
    obtain ⟨v, r, rfl, h1, h2⟩ := h
    rw [toPL]
    exact .cons (R.dp n d k.1 h1) (RL.dp n ds k.2 h2)
end
theorem RB.dp : ∀ {n : Nat} (m : Nat) {d : D} {v : V}, okN m d = true → RB K ex H n d v → Dp K H v (toP d)
  | 0, m, d, _, k, h => R.dp m d k h
  | n + 1, m, d, v, k, h => by
    cases d with
    | lst ds =>
      cases m with
      | zero => simp [okN] at k
      | succ m =>
      rw [okN] at k
      obtain ⟨a, xs, rfl, h1, hz, h2⟩ := RB.lst h
      rw [toP]
      refine .lst h1 ?_
      clear h h1 hz
      induction h2 with
      | nil =>
        rw [toPL]
        exact .nil
      | cons x t ih =>
        rw [okL, Bool.and_eq_true] at k
        rw [toPL]
        exact .cons (RB.dp m k.1 x) (ih k.2)
    | dic _ _ _ => simp [okN] at k
    | ins _ _ _ => simp [okN] at k
    | _ => exact R.dp m _ k (RB.flat h rfl)
end

/-! ### comparisons -/
def dEq (a b : D) : Res D := if okN 60 a && okN 60 b then .ok (.bl (eqD a b)) else .err
def dNe (a b : D) : Res D := if okN 60 a && okN 60 b then .ok (.bl (!eqD a b)) else .err
def dCmpI (p : Int → Int → Bool) : D → D → Res D
  | .int i, .int j => .ok (.bl (p i j))
  | _, _ => .err
def isNon : D → Bool
  | .non => true
  | _ => false
def dIs : D → D → Res D
  | a, .non => .ok (.bl (isNon a))
  | _, _ => .err
def dIsNot : D → D → Res D
  | a, .non => .ok (.bl (!isNon a))
  | _, _ => .err
def dIn : D → D → Res D
  | a, .lst xs => if okN 60 a && okN 60 (.lst xs) then .ok (.bl (xs.any fun z => eqD z a)) else .err
  | a, .tup xs => if okN 60 a && okN 60 (.tup xs) then .ok (.bl (xs.any fun z => eqD z a)) else .err
  | .str a, .str s => if a.cps.size = 1 then .ok (.bl (decide (a.cps.getD 0 0 ∈ s.cps.toList))) else .ok (.bl (!(Builtin.Str.occurrences s a 0 s.length 1).isEmpty))
  | a, .dic t ks _ => match dFind t ks a with
    | .ok o => .ok (.bl o.isSome)
    | _ => .err
  | _, _ => .err
def dNotIn (a b : D) : Res D := match dIn a b with
  | .ok (.bl x) => .ok (.bl (!x))
  | _ => .err
section
variable {X : Cx} {n m k : Nat}
theorem dEq_nx : NoX2 dEq := fun a b c h => by
  unfold dEq at h
  split at h <;> cases h
theorem dNe_nx : NoX2 dNe := fun a b c h => by
  unfold dNe at h
  split at h <;> cases h
theorem dCmpI_nx {p : Int → Int → Bool} : NoX2 (dCmpI p) := fun a b c h => by
  unfold dCmpI at h
  split at h <;> cases h
theorem dIs_nx : NoX2 dIs := fun a b c h => by
  unfold dIs at h
  split at h <;> cases h
theorem dIsNot_nx : NoX2 dIsNot := fun a b c h => by
  unfold dIsNot at h
  split at h <;> cases h
theorem dNotIn_nx : NoX2 dNotIn := fun a b c h => by
  unfold dNotIn at h
  split at h <;> cases h
theorem dIn_nx : NoX2 dIn := fun a b c h => by
  unfold dIn at h
  split at h <;> first | cases h | (split at h <;> cases h)
theorem o_eq (hu : X.A.units + 64 < cLine) : Op2 X n m k (compareOp .Eq) dEq := fun pins s σ H x y v u Q I rx ry h => by
  obtain ⟨ex, d1, d2, d, ext, r1, r2, e, q⟩ := h
  unfold dEq at e
  split at e
  · rename_i ok
    rw [Bool.and_eq_true] at ok
    cases e
    exact op_eqD hu pins s σ H x y v u Q I rx ry ⟨toP d1, toP d2, (r1.dp 60 ok.1), (r2.dp 60 ok.2), ok_shaped ok.1, ok_shaped ok.2, by rw [eqD_eqv 60 60 d1 d2 ok.1 ok.2]; exact q.bl⟩
  · cases e
theorem o_ne (hu : X.A.units + 64 < cLine) : Op2 X n m k (compareOp .NotEq) dNe := fun pins s σ H x y v u Q I rx ry h => by
  obtain ⟨ex, d1, d2, d, ext, r1, r2, e, q⟩ := h
  unfold dNe at e
  split at e
  · rename_i ok
    rw [Bool.and_eq_true] at ok
    cases e
    exact op_neD hu pins s σ H x y v u Q I rx ry ⟨toP d1, toP d2, (r1.dp 60 ok.1), (r2.dp 60 ok.2), ok_shaped ok.1, ok_shaped ok.2, by rw [eqD_eqv 60 60 d1 d2 ok.1 ok.2]; exact q.bl⟩
  · cases e
theorem o_cmpI {f : Value → Value → Sem Value} {p : Int → Int → Bool} (h0 : OpR X f (rI0 fun i j => .bl (p i j))) : Op2 X n m k f (dCmpI p) := fun pins s σ H x y v u Q I rx ry h => by
  obtain ⟨ex, d1, d2, d, ext, r1, r2, e, q⟩ := h
  unfold dCmpI at e
  split at e
  · cases e
    exact h0 pins s σ H x y v u Q I rx ry ⟨_, _, r1.int, r2.int, q.bl⟩
  · cases e
abbrev iLt : Int → Int → Bool := fun i j => decide (i < j)
abbrev iLe : Int → Int → Bool := fun i j => decide (i ≤ j)
abbrev iGt : Int → Int → Bool := fun i j => decide (j < i)
abbrev iGe : Int → Int → Bool := fun i j => decide (j ≤ i)
theorem o_lt : Op2 X n m k (compareOp .Lt) (dCmpI iLt) := o_cmpI op_lt
theorem o_le : Op2 X n m k (compareOp .LtE) (dCmpI iLe) := o_cmpI op_le
theorem o_gt : Op2 X n m k (compareOp .Gt) (dCmpI iGt) := o_cmpI op_gt
theorem o_ge : Op2 X n m k (compareOp .GtE) (dCmpI iGe) := o_cmpI op_ge
theorem RB.isNon {K : PySem.W.Frag} {ex : AS} {H : Hp} {d : D} {v : V} (h : RB K ex H n d v) : decide (v = V.non) = Px.isNon d := by
  cases d with
  | non =>
    rw [h.non]
    rfl
  | bl b =>
    rw [h.bl]
    rfl
  | int b =>
    rw [h.int]
    rfl
  | str b =>
    rw [h.str]
    exact decide_eq_false fun q => nomatch q
  | tup xs =>
    obtain ⟨a, ys, rfl, _⟩ := h.tup
    exact decide_eq_false fun q => nomatch q
  | lst xs =>
    obtain ⟨a, ys, rfl, _⟩ := (h.up).lst
    exact decide_eq_false fun q => nomatch q
  | dic _ _ _ =>
    obtain ⟨a, rfl⟩ := h.ref rfl
    exact decide_eq_false fun q => nomatch q
  | ins _ _ _ =>
    obtain ⟨a, rfl⟩ := h.ref rfl
    exact decide_eq_false fun q => nomatch q
  | _ => exact absurd (RB.flat h rfl) (R.no (by trivial))
theorem o_is : Op2 X n m k (compareOp .Is) dIs := fun pins s σ H x y v u Q I rx ry h => by
  obtain ⟨ex, d1, d2, d, ext, r1, r2, e, q⟩ := h
  unfold dIs at e
  split at e
  · cases e
    exact op_isN pins s σ H x y v u Q I rx ry ⟨r2.non, by rw [RB.isNon r1]; exact q.bl⟩
  · cases e
theorem o_isNot : Op2 X n m k (compareOp .IsNot) dIsNot := fun pins s σ H x y v u Q I rx ry h => by
  obtain ⟨ex, d1, d2, d, ext, r1, r2, e, q⟩ := h
  unfold dIsNot at e
  split at e
  · cases e
    exact op_notN pins s σ H x y v u Q I rx ry ⟨r2.non, by rw [RB.isNon r1]; exact q.bl⟩
  · cases e
theorem any_toP (a : D) (ha : okN 60 a = true) (n : Nat) : ∀ xs : List D, okL n xs = true → ((toPL xs).any fun z => PyData.eqv z (toP a)) = xs.any fun z => eqD z a
  | [], _ => by rw [toPL]; rfl
  | x :: xs, h => by
    rw [okL, Bool.and_eq_true] at h
    rw [toPL, List.any_cons, List.any_cons, any_toP a ha n xs h.2, eqD_eqv n 60 x a h.1 ha]
theorem one_sign {a : Str} (h : a.cps.size = 1) : a = ⟨#[a.cps.getD 0 0]⟩ := by
  obtain ⟨cps⟩ := a
  obtain ⟨l⟩ := cps
  cases l with
  | nil => cases h
  | cons c r =>
    cases r with
    | nil => rfl
    | cons _ _ => simp at h
theorem o_in_aux (hu : X.A.units + 65 < cLine) (neg : Bool) (op : CmpOp) (hop : op = if neg then .NotIn else .In)
    {pins : List (Addr × Obj)} {s : Shared} {σ : L2.St} {H : Hp} {x y : V} {v u : Value} {Q : VK} (I : Inv X pins σ H s) (rx : RelV x v) (ry : RelV y u) {ex : AS} {d1 d2 : D} {b : Bool} (r1 : RB X.K ex H n d1 x) (r2 : RB X.K ex H m d2 y) (e : dIn d1 d2 = .ok (.bl b))
    (q : Q (.bl (if neg then !b else b)) H) : wpAny (model X.prog X.w) X.A (compareOp op v u) (EP X pins σ Q) X.xe s := by
  unfold dIn at e
  split at e
  · rename_i xs
    split at e
    · rename_i ok
      rw [Bool.and_eq_true] at ok
      have e2 : (xs.any fun z => eqD z d1) = b := by cases e; rfl
      have hl : okL 59 xs = true := by have := ok.2; rw [okN] at this; exact this
      have hr := RB.dp 60 ok.2 r2
      rw [toP] at hr
      have hs : SeqAt.shaped (.list (toPL xs)) = true := by have := ok_shaped ok.2; rw [toP] at this; exact this
      cases neg with
      | false =>
        subst hop
        exact op_inD hu pins s σ H x y v u Q I rx ry ⟨toP d1, toPL xs, (r1.dp 60 ok.1), hr, ok_shaped ok.1, hs, by rw [any_toP d1 ok.1 59 xs hl, e2]; exact q⟩
      | true =>
        subst hop
        exact op_notInD hu pins s σ H x y v u Q I rx ry ⟨toP d1, toPL xs, (r1.dp 60 ok.1), hr, ok_shaped ok.1, hs, by rw [any_toP d1 ok.1 59 xs hl, e2]; exact q⟩
    · cases e
  · rename_i xs
    split at e
    · rename_i ok
      rw [Bool.and_eq_true] at ok
      have e2 : (xs.any fun z => eqD z d1) = b := by cases e; rfl
      have hl : okL 59 xs = true := by have := ok.2; rw [okN] at this; exact this
      have hr := RB.dp 60 ok.2 r2
      rw [toP] at hr
      have hs : SeqAt.shaped (.tuple (toPL xs)) = true := by have := ok_shaped ok.2; rw [toP] at this; exact this
      obtain ⟨as, q1⟩ := Dp.reads I (toP d1) x v (r1.dp 60 ok.1) rx
      obtain ⟨bs, q2⟩ := Dp.reads I (.tuple (toPL xs)) y u hr ry
      cases neg with
      | false =>
        subst hop
        exact SeqAt.in_tuple_reads q2 q1 (SeqAt.canLay_of_shaped hs) (SeqAt.canLay_of_shaped (ok_shaped ok.1)) (room_in_shaped (ok_shaped ok.1) hu) ⟨.bl _, H, I, rfl, by rw [any_toP d1 ok.1 59 xs hl, e2]; exact q⟩
      | true =>
        subst hop
        exact SeqAt.notIn_tuple_reads q2 q1 (SeqAt.canLay_of_shaped hs) (SeqAt.canLay_of_shaped (ok_shaped ok.1)) (room_in_shaped (ok_shaped ok.1) hu) ⟨.bl _, H, I, rfl, by rw [any_toP d1 ok.1 59 xs hl, e2]; exact q⟩
    · cases e
  · rename_i a z
    split at e
    · rename_i h1
      have e2 : decide (a.cps.getD 0 0 ∈ z.cps.toList) = b := by cases e; rfl
      have ex1 := r1.str
      rw [one_sign h1] at ex1
      cases neg with
      | false =>
        subst hop
        exact op_in_sign pins s σ H x y v u Q I rx ry ⟨a.cps.getD 0 0, z, ex1, r2.str, by rw [e2]; exact q⟩
      | true =>
        subst hop
        exact op_notIn_sign pins s σ H x y v u Q I rx ry ⟨a.cps.getD 0 0, z, ex1, r2.str, by rw [e2]; exact q⟩
    · have e2 : (!(Builtin.Str.occurrences z a 0 z.length 1).isEmpty) = b := by cases e; rfl
      cases neg with
      | false =>
        subst hop
        exact op_in_str pins s σ H x y v u Q I rx ry ⟨a, z, r1.str, r2.str, by rw [e2]; exact q⟩
      | true =>
        subst hop
        exact op_notIn_str pins s σ H x y v u Q I rx ry ⟨a, z, r1.str, r2.str, by rw [e2]; exact q⟩
  · split at e
    · rename_i o ho
      have e2 : o.isSome = b := by cases e; rfl
      obtain ⟨a, xs, rfl, h1, h2⟩ := RB.cnr rfl r2
      cases ry
      obtain ⟨g, hlt⟩ := dFind_get h1 r1 ho
      have e3 : (o.bind (xs[·]?)).isSome = b := by
        rw [← e2]
        cases o with
        | none => rfl
        | some m => simp [hlt m rfl]
      cases neg with
      | false =>
        subst hop
        exact d_in (by omega) I g rx fun s' I' => ⟨.bl _, H, I', rfl, by rw [e3]; exact q⟩
      | true =>
        subst hop
        exact d_notIn (by omega) I g rx fun s' I' => ⟨.bl _, H, I', rfl, by rw [e3]; exact q⟩
    · cases e
  · cases e
theorem dIn_bl {a b d : D} (h : dIn a b = .ok d) : ∃ x, d = .bl x := by
  unfold dIn at h
  split at h <;> first | cases h | (split at h <;> first | (cases h; done) | (cases h; exact ⟨_, rfl⟩))
theorem o_in (hu : X.A.units + 65 < cLine) : Op2 X n m k (compareOp .In) dIn := fun pins s σ H x y v u Q I rx ry h => by
  obtain ⟨ex, d1, d2, d, ext, r1, r2, e, q⟩ := h
  obtain ⟨b, rfl⟩ := dIn_bl e
  exact o_in_aux hu false .In rfl I rx ry r1 r2 e q.bl
theorem o_notIn (hu : X.A.units + 65 < cLine) : Op2 X n m k (compareOp .NotIn) dNotIn := fun pins s σ H x y v u Q I rx ry h => by
  obtain ⟨ex, d1, d2, d, ext, r1, r2, e, q⟩ := h
  unfold dNotIn at e
  split at e
  · rename_i b e2
    cases e
    exact o_in_aux hu true .NotIn rfl I rx ry r1 r2 e2 q.bl
  · cases e

/-! ### arithmetic -/
/-- what a product's factors may be: one within 64 bits, or both together below a million bits -/
def mulOk (i j : Int) : Bool := decide ((-(2 ^ 64) < i ∧ i < 2 ^ 64) ∨ (-(2 ^ 64) < j ∧ j < 2 ^ 64))
def dAdd : D → D → Res D
  | .int i, .int j => .ok (.int (i + j))
  | .str a, .str b => if a.length + b.length ≤ sizeLine then .ok (.str (a ++ b)) else .err
  | .lst a, .lst b => if a.length + b.length ≤ sizeLine then .ok (.lst (a ++ b)) else .err
  | .tup a, .tup b => if a.length + b.length ≤ sizeLine then .ok (.tup (a ++ b)) else .err
  | _, _ => .err
def dSub : D → D → Res D
  | .int i, .int j => .ok (.int (i - j))
  | _, _ => .err
def dMul : D → D → Res D
  | .int i, .int j => if mulOk i j then .ok (.int (i * j)) else .err
  | _, _ => .err
/-- a floor division by a divisor above nought, below 2 ^ 30 -/
def dDiv : D → D → Res D
  | .int i, .int j => if 0 < j ∧ j < 1073741824 then .ok (.int (i / j)) else .err
  | _, _ => .err
def dMod : D → D → Res D
  | .int i, .int j => if 0 < j then .ok (.int (i % j)) else .err
  | _, _ => .err
def dPow : D → D → Res D
  | .int i, .int j => if 0 ≤ j ∧ j ≤ 1000000 ∧ i.natAbs < 2 ^ 64 then .ok (.int (i ^ j.toNat)) else .err
  | _, _ => .err
theorem dAdd_nx : NoX2 dAdd := fun a b c h => by
  unfold dAdd at h
  split at h <;> first | cases h | (split at h <;> cases h)
theorem dSub_nx : NoX2 dSub := fun a b c h => by
  unfold dSub at h
  split at h <;> first | cases h | (split at h <;> cases h)
theorem dMul_nx : NoX2 dMul := fun a b c h => by
  unfold dMul at h
  split at h <;> first | cases h | (split at h <;> cases h)
theorem dDiv_nx : NoX2 dDiv := fun a b c h => by
  unfold dDiv at h
  split at h <;> first | cases h | (split at h <;> cases h)
theorem dMod_nx : NoX2 dMod := fun a b c h => by
  unfold dMod at h
  split at h <;> first | cases h | (split at h <;> cases h)
theorem dPow_nx : NoX2 dPow := fun a b c h => by
  unfold dPow at h
  split at h <;> first | cases h | (split at h <;> cases h)
theorem o_sub : Op2 X n m k (binaryOp .Sub) dSub := fun pins s σ H x y v u Q I rx ry h => by
  obtain ⟨ex, d1, d2, d, ext, r1, r2, e, q⟩ := h
  unfold dSub at e
  split at e
  · cases e
    exact op_sub pins s σ H x y v u Q I rx ry ⟨_, _, r1.int, r2.int, q.int⟩
  · cases e
theorem o_div : Op2 X n m k (binaryOp .FloorDiv) dDiv := fun pins s σ H x y v u Q I rx ry h => by
  obtain ⟨ex, d1, d2, d, ext, r1, r2, e, q⟩ := h
  unfold dDiv at e
  split at e
  · split at e
    · rename_i hc
      cases e
      exact op_fdiv pins s σ H x y v u Q I rx ry ⟨_, _, r1.int, r2.int, hc, q.int⟩
    · cases e
  · cases e
theorem o_mod : Op2 X n m k (binaryOp .Mod) dMod := fun pins s σ H x y v u Q I rx ry h => by
  obtain ⟨ex, d1, d2, d, ext, r1, r2, e, q⟩ := h
  unfold dMod at e
  split at e
  · split at e
    · rename_i hc
      cases e
      exact op_mod pins s σ H x y v u Q I rx ry ⟨_, _, r1.int, r2.int, hc, q.int⟩
    · cases e
  · cases e
theorem o_pow : Op2 X n m k (binaryOp .Pow) dPow := fun pins s σ H x y v u Q I rx ry h => by
  obtain ⟨ex, d1, d2, d, ext, r1, r2, e, q⟩ := h
  unfold dPow at e
  split at e
  · split at e
    · rename_i hc
      cases e
      exact op_pow pins s σ H x y v u Q I rx ry ⟨_, _, r1.int, r2.int, hc, q.int⟩
    · cases e
  · cases e
theorem op_catL {pins : List (Addr × Obj)} {s : Shared} {σ : L2.St} {H : Hp} {l b : Addr} {xs ys : List V} {v u : Value} {Q : VK} (I : Inv X pins σ H s) (h1 : SqL X.K H l xs) (h2 : SqL X.K H b ys) (rx : RelV (.ref l) v) (ry : RelV (.ref b) u)
    (hl : xs.length + ys.length ≤ sizeLine) (q : Q (.ref s.heap.objs.size) (upd H s.heap.objs.size (.lst (xs ++ ys)))) : wpAny (model X.prog X.w) X.A (binaryOp .Add v u) (EP X pins σ Q) X.xe s := by
  cases rx
  cases ry
  obtain ⟨its, rv, pl, _⟩ := I.list h1
  obtain ⟨its2, rv2, pl2, _⟩ := I.list h2
  obtain ⟨⟨cls, dd, data, sl⟩, ho, hc, n, hd⟩ := id pl.isList
  obtain ⟨⟨cls2, dd2, data2, sl2⟩, ho2, hc2, n2, hd2⟩ := id pl2.isList
  simp only at hc hd hc2 hd2
  subst hc hd hc2 hd2
  have e : its.toArray ++ its2.toArray = (its ++ its2).toArray := by simp
  have el := rv.length
  have el2 := rv2.length
  refine concat_meets ⟨_, ho, rfl⟩ ⟨_, ho2, rfl⟩ noFill_list_add seq_list_add PySem.F.slot_list_add PySem.F.entry_list_add (PySem.F.args_list_add_2 _ _) (list_addW l b its.toArray its2.toArray n n2 dd dd2 sl sl2 (by rw [List.size_toArray, List.size_toArray]; omega)) ⟨ho, ho2, ?_⟩
  rw [e]
  exact ⟨.ref _, _, I.lnew (t' := s.toks) (rv.append rv2) (by rw [List.length_append]; exact hl), rfl, q⟩
/-- data with lists at its top owned to the depth one, of anything new -/
theorem o_add : Op2 X 1 1 1 (binaryOp .Add) dAdd := fun pins s σ H x y v u Q I rx ry h => by
  obtain ⟨ex, d1, d2, d, ext, r1, r2, e, q⟩ := h
  unfold dAdd at e
  split at e
  · cases e
    exact op_add pins s σ H x y v u Q I rx ry ⟨_, _, r1.int, r2.int, q.int⟩
  · split at e
    · rename_i hc
      cases e
      exact op_add_str pins s σ H x y v u Q I rx ry ⟨_, _, r1.str, r2.str, hc, q.str⟩
    · cases e
  · split at e
    · rename_i hc
      cases e
      obtain ⟨l, xs, rfl, h1, z1, p1⟩ := r1.lst
      obtain ⟨b, ys, rfl, h2, z2, p2⟩ := r2.lst
      have p : Paired (R X.K ex H) _ (xs ++ ys) := Paired.app p1 p2
      have hl : xs.length + ys.length ≤ sizeLine := by rw [← p1.length, ← p2.length]; exact hc
      exact op_catL I h1 h2 rx ry hl (q.lst p I.fresh (by rw [List.length_append]; exact hl))
    · cases e
  · split at e
    · rename_i hc
      cases e
      obtain ⟨l, xs, rfl, h1, z1, p1⟩ := r1.tupX
      obtain ⟨b, ys, rfl, h2, z2, p2⟩ := r2.tupX
      have hl : xs.length + ys.length ≤ sizeLine := by rw [← p1.length, ← p2.length]; exact hc
      refine op_catA pins s σ H _ _ v u Q I rx ry ⟨l, b, xs, ys, rfl, rfl, .inl (.inl h1), .inl (.inl h2), hl, fun e => ?_, fun _ e => ?_, fun _ _ p hp => q.tup (Paired.app p1 p2) hp (by rw [List.length_append]; exact hl)⟩
      · subst e
        cases p1
        exact q.flat (by rw [R]; exact ⟨b, ys, rfl, ⟨h2, z2⟩, RL.of p2⟩) rfl
      · subst e
        cases p2
        rw [List.append_nil] at q
        exact q.flat (by rw [R]; exact ⟨l, xs, rfl, ⟨h1, z1⟩, RL.of p1⟩) rfl
    · cases e
  · cases e
end
end Px

namespace Px
open PySem PySem.Spec PyProof.Rows L2

/-! ### one operand -/
def Op1 (X : Cx) (n k : Nat) (f : Value → Sem Value) (g : D → Res D) : Prop :=
  UnR X f fun x H Q => ∃ ex d1 d, (∀ a, ex a → H a ≠ none) ∧ RB X.K ex H n d1 x ∧ g d1 = .ok d ∧ QO X.K ex H k Q d
def NoX1 {α : Type} (o : D → Res α) : Prop := ∀ a c, o a ≠ .exc c
def eUn {α : Type} (o : D → Res α) (f : EF) : Env → Res α := fun ρ => f ρ >>= o
def dNeg : D → Res D
  | .int i => .ok (.int (-i))
  | _ => .err
theorem dNeg_nx : NoX1 dNeg := fun a c h => by
  unfold dNeg at h
  split at h <;> cases h
section
variable {X : Cx} {W : WX} {L : List Nat} {n n1 n2 k m : Nat} {pos : Pos} {e a b c : Expr} {es rest : List Expr} {f g : EF} {fs : Env → Res (List D)} {ft gt : Env → Res Bool}
theorem o_neg : Op1 X n k (unaryOp .USub) dNeg := fun pins s σ H x v Q I rx h => by
  obtain ⟨ex, d1, d, ext, r1, e, q⟩ := h
  unfold dNeg at e
  split at e
  · cases e
    exact un_neg pins s σ H x v Q I rx ⟨_, r1.int, q.int⟩
  · cases e
theorem eo_un {op : UnaryOp} {o : D → Res D} (ho : Op1 X n k (unaryOp op) o) (nx : NoX1 o) (ha : EB X W L n a f) : EO X W L k (.UnaryOp op a pos) (eUn o f) :=
  PE.imp (pe_un ho ha) fun σ H Q ⟨ex, ρ, fp, I, q⟩ => by
    refine ⟨ex, ρ, fp, I, q.bind.mono fun d1 q1 v1 H1 e1 r1 => ?_⟩
    obtain ⟨d, ed, qd⟩ := no_exc q1 (nx d1)
    exact ⟨ex, d1, d, (I.same e1).ext, r1, ed, fun v H3 fq e3 ro nd nw => qd v H3 fq (e1.trans e3) ro nd fun a ha => e1.free (nw a ha)⟩

/-! ### truth -/
def dTru : D → Res Bool
  | .non => .ok false
  | .bl b => .ok b
  | .int i => .ok (i != 0)
  | .str s => if s.length ≤ sizeLine then .ok ((s.length : Int) != 0) else .err
  | .tup xs => .ok (!xs.isEmpty)
  | .lst xs => .ok (!xs.isEmpty)
  | _ => .err
theorem dTru_nx : NoX1 dTru := fun a c h => by
  unfold dTru at h
  split at h <;> first | cases h | (split at h <;> cases h)
theorem Paired.isEmpty {α β : Type} {F : α → β → Prop} {as : List α} {bs : List β} (h : Paired F as bs) : bs.isEmpty = as.isEmpty := by
  cases h <;> rfl
theorem dTru_v {K : PySem.W.Frag} {ex : AS} {H : Hp} {d : D} {x : V} {t : Bool} (r : RB K ex H n d x) (e : dTru d = .ok t) : TruV K x H t := by
  unfold dTru at e
  split at e
  · cases e
    rw [r.non]
    rfl
  · cases e
    rw [r.bl]
    rfl
  · cases e
    rw [r.int]
    rfl
  · split at e
    · rename_i hs
      cases e
      rw [r.str]
      exact ⟨hs, rfl⟩
    · cases e
  · cases e
    obtain ⟨a, xs, rfl, h1, h2, h3⟩ := r.tup
    exact .inr (.inl ⟨xs, h1, by rw [Paired.isEmpty h3]⟩)
  · cases e
    obtain ⟨a, xs, rfl, h1, h2, h3⟩ := r.up.lst
    exact .inl ⟨xs, h1, by rw [Paired.isEmpty h3]⟩
  · cases e
theorem et_val (ha : EB X W L n a f) (he : ∀ whole, isTrue a X.env whole = (do let v ← whole; standAt a.pos; holding [v] (truthy v)) := by intro _; rfl) : ET X W L a (eUn dTru f) :=
  PT.imp (pt_truth ha he) fun σ H Q ⟨ex, ρ, fp, I, q⟩ => ⟨ex, ρ, fp, I, q.bind.mono fun d q1 v H1 e1 r1 => by
    obtain ⟨t, et, qt⟩ := no_exc q1 (dTru_nx d)
    exact ⟨t, dTru_v r1 et, qt H1 e1⟩⟩
/-- a chain of and, or in a test -/
abbrev EW (X : Cx) (W : WX) (L : List Nat) (e : Expr) (f : Env → Res Bool) : Prop := PW X e (tT X W L f)
def bAnd (f g : Env → Res Bool) : Env → Res Bool := fun ρ => f ρ >>= fun b => if b = true then g ρ else .ok false
def bOr (f g : Env → Res Bool) : Env → Res Bool := fun ρ => f ρ >>= fun b => if b = true then .ok true else g ρ
def bNot (f : Env → Res Bool) : Env → Res Bool := fun ρ => f ρ >>= fun b => .ok (!b)
theorem ew_and1 (ha : ET X W L a ft) : EW X W L (.BoolOp .And [a] pos) ft := pw_and1 ha
theorem ew_or1 (ha : ET X W L a ft) : EW X W L (.BoolOp .Or [a] pos) ft := pw_or1 ha
theorem ew_and (ha : ET X W L a ft) (hb : EW X W L (.BoolOp .And (b :: rest) pos) gt) : EW X W L (.BoolOp .And (a :: b :: rest) pos) (bAnd ft gt) :=
  PW.imp (pw_and ha hb) fun σ H Q ⟨ex, ρ, fp, I, q⟩ => ⟨ex, ρ, fp, I, q.bind.mono fun t q1 H1 e1 => by
    cases t with
    | true =>
      rw [if_pos rfl]
      exact ⟨ex, ρ, fp, I.same e1, (Out.later (show Out X W σ H (gt ρ) _ from q1) e1).mono fun t2 q2 H2 e2 => q2 H2 (e1.trans e2)⟩
    | false => exact q1 H1 e1⟩
theorem ew_or (ha : ET X W L a ft) (hb : EW X W L (.BoolOp .Or (b :: rest) pos) gt) : EW X W L (.BoolOp .Or (a :: b :: rest) pos) (bOr ft gt) :=
  PW.imp (pw_or ha hb) fun σ H Q ⟨ex, ρ, fp, I, q⟩ => ⟨ex, ρ, fp, I, q.bind.mono fun t q1 H1 e1 => by
    cases t with
    | false =>
      rw [if_neg Bool.false_ne_true]
      exact ⟨ex, ρ, fp, I.same e1, (Out.later (show Out X W σ H (gt ρ) _ from q1) e1).mono fun t2 q2 H2 e2 => q2 H2 (e1.trans e2)⟩
    | true => exact q1 H1 e1⟩
theorem et_w (h : EW X W L e ft) : ET X W L e ft := PW.pt h
theorem et_not (ha : ET X W L a ft) : ET X W L (.UnaryOp .Not a pos) (bNot ft) :=
  PT.imp (pt_not ha) fun σ H Q ⟨ex, ρ, fp, I, q⟩ => ⟨ex, ρ, fp, I, q.bind.mono fun t q1 H1 e1 => q1 H1 e1⟩
/-- not a as a value -/
def eNot (f : EF) : EF := fun ρ => f ρ >>= fun d => dTru d >>= fun b => .ok (.bl (!b))
theorem eo_not (ha : EB X W L n a f) : EO X W L k (.UnaryOp .Not a pos) (eNot f) :=
  PE.imp (pe_notT ha) fun σ H Q ⟨ex, ρ, fp, I, q⟩ => ⟨ex, ρ, fp, I, q.bind.mono fun d q1 v H1 e1 r1 => by
    have q2 := q1.bind
    obtain ⟨t, et, qt⟩ := no_exc q2 (dTru_nx d)
    exact ⟨t, dTru_v r1 et, QO.bl (K := X.K) (ex := ex) (k := k) fun v H2 fq e2 ro nd nw => qt v H2 fq (e1.trans e2) ro nd fun a ha => e1.free (nw a ha)⟩⟩
/-- and, or as values -/
def eAnd (f g : EF) : EF := fun ρ => f ρ >>= fun d => dTru d >>= fun b => if b = true then g ρ else .ok d
def eOr (f g : EF) : EF := fun ρ => f ρ >>= fun d => dTru d >>= fun b => if b = true then .ok d else g ρ
theorem eb_one {op : BoolOp} (h : EB X W L n a f) : EB X W L n (.BoolOp op [a] pos) f := pe_one h
theorem eb_and (ha : EB X W L n a f) (hb : EB X W L n (.BoolOp .And (b :: rest) pos) g) : EB X W L n (.BoolOp .And (a :: b :: rest) pos) (eAnd f g) :=
  PE.imp (pe_andT ha hb) fun σ H Q ⟨ex, ρ, fp, I, q⟩ => ⟨ex, ρ, fp, I, q.bind.mono fun d q1 v H1 e1 r1 => by
    have q2 := q1.bind
    obtain ⟨t, et, qt⟩ := no_exc q2 (dTru_nx d)
    refine ⟨t, dTru_v r1 et, ?_⟩
    cases t with
    | true =>
      rw [if_pos rfl]
      exact ⟨ex, ρ, fp, I.same e1, (Out.later (show Out X W σ H (g ρ) _ from qt) e1).mono fun t2 q2 v2 H2 e2 r2 => q2 v2 H2 (e1.trans e2) r2⟩
    | false =>
      rw [if_neg Bool.false_ne_true]
      exact qt v H1 e1 r1⟩
theorem eb_or (ha : EB X W L n a f) (hb : EB X W L n (.BoolOp .Or (b :: rest) pos) g) : EB X W L n (.BoolOp .Or (a :: b :: rest) pos) (eOr f g) :=
  PE.imp (pe_orT ha hb) fun σ H Q ⟨ex, ρ, fp, I, q⟩ => ⟨ex, ρ, fp, I, q.bind.mono fun d q1 v H1 e1 r1 => by
    have q2 := q1.bind
    obtain ⟨t, et, qt⟩ := no_exc q2 (dTru_nx d)
    refine ⟨t, dTru_v r1 et, ?_⟩
    cases t with
    | false =>
      rw [if_neg Bool.false_ne_true]
      exact ⟨ex, ρ, fp, I.same e1, (Out.later (show Out X W σ H (g ρ) _ from qt) e1).mono fun t2 q2 v2 H2 e2 r2 => q2 v2 H2 (e1.trans e2) r2⟩
    | true =>
      rw [if_pos rfl]
      exact qt v H1 e1 r1⟩
def eIf (t : Env → Res Bool) (f g : EF) : EF := fun ρ => t ρ >>= fun b => if b = true then f ρ else g ρ
theorem eb_if (hc : ET X W L c ft) (ha : EB X W L n a f) (hb : EB X W L n b g) : EB X W L n (.IfExp c a b pos) (eIf ft f g) :=
  PE.imp (pe_ifExp hc ha hb) fun σ H Q ⟨ex, ρ, fp, I, q⟩ => ⟨ex, ρ, fp, I, q.bind.mono fun t q1 H1 e1 => by
    cases t with
    | true =>
      rw [if_pos rfl]
      exact ⟨ex, ρ, fp, I.same e1, (Out.later (show Out X W σ H (f ρ) _ from q1) e1).mono fun t2 q2 v2 H2 e2 r2 => q2 v2 H2 (e1.trans e2) r2⟩
    | false =>
      rw [if_neg Bool.false_ne_true]
      exact ⟨ex, ρ, fp, I.same e1, (Out.later (show Out X W σ H (g ρ) _ from q1) e1).mono fun t2 q2 v2 H2 e2 r2 => q2 v2 H2 (e1.trans e2) r2⟩⟩
theorem eo_if (hc : ET X W L c ft) (ha : EO X W L k a f) (hb : EO X W L k b g) : EO X W L k (.IfExp c a b pos) (eIf ft f g) :=
  PE.imp (pe_ifExp hc ha hb) fun σ H Q ⟨ex, ρ, fp, I, q⟩ => ⟨ex, ρ, fp, I, q.bind.mono fun t q1 H1 e1 => by
    cases t with
    | true =>
      rw [if_pos rfl]
      exact ⟨ex, ρ, fp, I.same e1, (Out.later (show Out X W σ H (f ρ) _ from q1) e1).mono fun t2 q2 v2 H2 fq e2 r2 nd nw => q2 v2 H2 fq (e1.trans e2) r2 nd fun a ha => e1.free (nw a ha)⟩
    | false =>
      rw [if_neg Bool.false_ne_true]
      exact ⟨ex, ρ, fp, I.same e1, (Out.later (show Out X W σ H (g ρ) _ from q1) e1).mono fun t2 q2 v2 H2 fq e2 r2 nd nw => q2 v2 H2 fq (e1.trans e2) r2 nd fun a ha => e1.free (nw a ha)⟩⟩
/-- a op b op' c -/
def eChain (o o' : D → D → Res D) (f g h : EF) : EF := fun ρ => f ρ >>= fun a => g ρ >>= fun b => o a b >>= fun r => match r with
  | .bl true => h ρ >>= fun c => o' b c
  | .bl false => .ok (.bl false)
  | _ => .err
theorem eo_chain {op op' : CmpOp} {o o' : D → D → Res D} {h : EF} (ho : Op2 X 0 0 0 (compareOp op) o) (nx : NoX2 o) (ho' : Op2 X 0 0 k (compareOp op') o') (nx' : NoX2 o') (ha : EB X W L 0 a f) (hb : EB X W L 0 b g) (hc : EB X W L 0 c h)
    (hm : lastMarks [op, op'] [b, c] = false := by with_unfolding_all rfl) : EO X W L k (.Compare a [op, op'] [b, c] pos) (eChain o o' f g h) :=
  PE.imp (pe_chain ho ho' ha hb hc hm) fun σ H Q ⟨ex, ρ, fp, I, q⟩ => by
    refine ⟨ex, ρ, fp, I, q.bind.mono fun d1 q1 v1 H1 e1 r1 => ⟨ex, ρ, fp, I.same e1, (q1.bind.later e1).mono fun d2 q2 v2 H2 e2 r2 => ?_⟩⟩
    obtain ⟨d, ed, qd⟩ := no_exc q2.bind (nx d1 d2)
    refine ⟨ex, d1, d2, d, ((I.same e1).same e2).ext, r1.same e2, r2, ed, fun v H3 fq e3 ro nd nw => ?_⟩
    have r3 : RB X.K (fun a => a ∈ fq ∨ ex a) H3 0 d v := ro.borrow
    cases d with
    | bl t =>
      cases t with
      | true =>
        refine ⟨true, r3.bl, ?_⟩
        rw [if_pos rfl]
        refine ⟨ex, ρ, fp, ((I.same e1).same e2).same e3, ((Out.bind qd).later ((e1.trans e2).trans e3)).mono fun d3 q3 v4 H4 e4 r4 => ?_⟩
        obtain ⟨z, ez, qz⟩ := no_exc q3 (nx' d2 d3)
        exact ⟨ex, d2, d3, z, ((((I.same e1).same e2).same e3).same e4).ext, (r2.same e3).same e4, r4, ez, fun v H5 fq e5 ro nd nw => qz v H5 fq ((((e1.trans e2).trans e3).trans e4).trans e5) ro nd fun a ha => ((((e1.trans e2).trans e3).trans e4)).free (nw a ha)⟩
      | false =>
        refine ⟨false, r3.bl, ?_⟩
        rw [if_neg Bool.false_ne_true]
        exact QO.bl (K := X.K) (ex := ex) (k := k) fun v H5 fq e5 ro nd nw => qd v H5 fq (((e1.trans e2).trans e3).trans e5) ro nd fun a ha => ((e1.trans e2).trans e3).free (nw a ha)
    | _ => exact qd.elim

/-! ### items -/
def dIx : D → D → Res D
  | .lst xs, .int i => match atI xs i with
    | some d => .ok d
    | none => .err
  | .tup xs, .int i => match atI xs i with
    | some d => .ok d
    | none => .err
  | .str s, .int i => if s.length ≤ sizeLine then (match atI s.cps.toList i with
    | some c => .ok (.str ⟨#[c]⟩)
    | none => .err) else .err
  | .dic t ks vs, k => match dFind t ks k with
    | .ok (some n) => (match vs[n]? with
      | some d => .ok d
      | none => .err)
    | _ => .err
  | _, _ => .err
theorem dIx_nx : NoX2 dIx := fun a b c h => by
  unfold dIx at h
  split at h
  · split at h <;> cases h
  · split at h <;> cases h
  · split at h <;> first | cases h | (split at h <;> cases h)
  · split at h <;> first | cases h | (split at h <;> cases h)
  · cases h
/-- d[k], k there, as an item -/
theorem ix_dic (hu : X.A.units + 1 < cLine) : IxR X (fun x y H Q => ∃ p v, x = .ref p ∧ DGet H p y (some v) ∧ Q v H) := by
  intro value slice pins s σ H x y v u Q I rx ry h hs
  obtain ⟨p, z, rfl, g, q⟩ := h
  obtain rfl : v = Value.ref p := rx
  have hm : s.TypeIs (.ref p) "dict" := by
    rcases g with ⟨kvs, k, e, _⟩ | ⟨kvs, k, b, e, _⟩
    · obtain ⟨_, _, vs, _, dd⟩ := dk_rd I.hok e
      exact dd.typeIs
    · obtain ⟨_, _, vs, _, dd⟩ := dt_rd I.hok e
      exact dd.typeIs
  exact tail_any hm PySem.F.slot_dict_getitem.lookup (d_getItem hu I g ry fun w' s' I' r' => ⟨z, H, I', r', q⟩) hs
theorem Paired.atI {α β : Type} {F : α → β → Prop} {as : List α} {bs : List β} {i : Int} {x : α} (h : Paired F as bs) (e : atI as i = some x) : ∃ y, L2.atI bs i = some y ∧ F x y := by
  unfold L2.atI at e ⊢
  rw [← h.length]
  cases q : ixN as.length i with
  | none => rw [q] at e; cases e
  | some j =>
    rw [q] at e
    exact Paired.get h e
theorem eb_ix (hu : X.A.units + 1 < cLine) (ha : EB X W L (n + 1) a f) (hb : EB X W L n2 b g) (hs : PlainIx b := by intro _ _; rfl) : EB X W L n (.Subscript a b pos) (eOp dIx f g) :=
  PE.imp (pe_ix (IxR.or ix_seq (ix_dic hu)) ha hb hs) fun σ H Q ⟨ex, ρ, fp, I, q⟩ => by
    refine ⟨ex, ρ, fp, I, q.bind.mono fun d1 q1 v1 H1 e1 r1 => ⟨ex, ρ, fp, I.same e1, (q1.bind.later e1).mono fun d2 q2 v2 H2 e2 r2 => ?_⟩⟩
    obtain ⟨d, ed, qd⟩ := no_exc q2 (dIx_nx d1 d2)
    have r1 := r1.same e2
    unfold dIx at ed
    split at ed
    · split at ed
      · rename_i hx
        cases ed
        obtain ⟨p, xs, rfl, h1, h2, h3⟩ := r1.lst
        obtain ⟨y, hy, ry⟩ := Paired.atI h3 hx
        exact .inl (.inl ⟨p, xs, _, y, rfl, r2.int, h1, hy, qd y H2 (e1.trans e2) ry⟩)
      · cases ed
    · split at ed
      · rename_i hx
        cases ed
        obtain ⟨p, xs, rfl, h1, h2, h3⟩ := r1.tup
        obtain ⟨y, hy, ry⟩ := Paired.atI h3 hx
        exact .inl (.inr (.inl ⟨p, xs, _, y, rfl, r2.int, h1, hy, qd y H2 (e1.trans e2) (RB.of ry)⟩))
      · cases ed
    · split at ed
      · rename_i hl
        split at ed
        · rename_i hx
          cases ed
          exact .inl (.inr (.inr ⟨_, _, _, r1.str, r2.int, hl, hx, qd _ H2 (e1.trans e2) (RB.of (by rw [R]))⟩))
        · cases ed
      · cases ed
    · split at ed
      · rename_i m ho
        split at ed
        · rename_i hx
          cases ed
          obtain ⟨p, xs, rfl, h1, h2⟩ := RB.cnr rfl r1
          obtain ⟨g, hlt⟩ := dFind_get h1 r2 ho
          obtain ⟨y, hy, ry⟩ := Paired.get h2 hx
          have g : DGet H2 p v2 (some y) := by
            have e : ((some m).bind (xs[·]?)) = some y := hy
            rw [e] at g
            exact g
          exact .inr ⟨p, y, rfl, g, qd y H2 (e1.trans e2) ry⟩
        · cases ed
      · cases ed
    · cases ed

/-! ### calls of what is built in -/
def CallD (X : Cx) (n k : Nat) (f : Value) (g : List D → Res D) : Prop :=
  CallR X f fun xs H Q => ∃ ex ds d, (∀ a, ex a → H a ≠ none) ∧ Paired (RB X.K ex H n) ds xs ∧ g ds = .ok d ∧ QO X.K ex H k Q d
def NoXL (g : List D → Res D) : Prop := ∀ ds c, g ds ≠ .exc c
def eCall (o : List D → Res D) (f : Env → Res (List D)) : EF := fun ρ => f ρ >>= o
variable {x : Str} {p : Pos} {id T : String} {o : List D → Res D}
theorem eo_callB (hc : CallD X n k (.builtin id) o) (nx : NoXL o) (hg : Gl X x) (hm : X.mg x = none) (hv : bootBuiltins x = some (.builtin id)) (ha : EA X W L n m (e :: es) fs) (hn : x ≠ "__name__" := by decide) (hdb : (x == ("__debug__" : Str)) = false := by decide)
    (he : starEach (e :: es) X.env = (false, eval e X.env) :: starEach es X.env := by rfl) (hpl : (backTo pos (starEach es X.env)).any (·.1) = false := by rfl) : EO X W L k (.Call (.Name x p) (e :: es) [] pos) (eCall o fs) :=
  PE.imp (pe_callB hc hg hm hv ha hn hdb he hpl) fun σ H Q ⟨ex, ρ, fp, I, q⟩ => ⟨ex, ρ, fp, I, q.bind.mono fun ds q1 vs H1 e1 r1 _ => by
    obtain ⟨d, ed, qd⟩ := no_exc q1 (nx ds)
    exact ⟨ex, ds, d, (I.same e1).ext, r1, ed, fun v H3 fq e3 ro nd nw => qd v H3 fq (e1.trans e3) ro nd fun a ha => e1.free (nw a ha)⟩⟩
theorem eo_callTy (hc : CallD X n k (.type T) o) (nx : NoXL o) (hg : Gl X x) (hm : X.mg x = none) (hv : bootBuiltins x = some (.type T)) (ha : EA X W L n m (e :: es) fs) (hn : x ≠ "__name__" := by decide) (hdb : (x == ("__debug__" : Str)) = false := by decide)
    (he : starEach (e :: es) X.env = (false, eval e X.env) :: starEach es X.env := by rfl) (hpl : (backTo pos (starEach es X.env)).any (·.1) = false := by rfl) : EO X W L k (.Call (.Name x p) (e :: es) [] pos) (eCall o fs) :=
  PE.imp (pe_callTy hc hg hm hv ha hn hdb he hpl) fun σ H Q ⟨ex, ρ, fp, I, q⟩ => ⟨ex, ρ, fp, I, q.bind.mono fun ds q1 vs H1 e1 r1 _ => by
    obtain ⟨d, ed, qd⟩ := no_exc q1 (nx ds)
    exact ⟨ex, ds, d, (I.same e1).ext, r1, ed, fun v H3 fq e3 ro nd nw => qd v H3 fq (e1.trans e3) ro nd fun a ha => e1.free (nw a ha)⟩⟩
def fLen : List D → Res D
  | [.str s] => if s.length ≤ sizeLine then .ok (.int s.length) else .err
  | [.tup xs] => .ok (.int xs.length)
  | [.lst xs] => .ok (.int xs.length)
  | [.dic _ _ vs] => .ok (.int vs.length)
  | _ => .err
/-- len(d), what may be read -/
theorem len_dic {pins : List (Addr × Obj)} {s : Shared} {σ : L2.St} {H : Hp} {K : PySem.W.Frag} {a : Addr} {t : Bool} {ks vs : List D} {xs : List V} {Q : VK} (I : Inv X pins σ H s) (h : CnR K H a (.dic t ks vs) xs) (q : Q (.int xs.length) H) :
    wpAny (model X.prog X.w) X.A (call (.builtin "len") [.ref a]) (L2.EP X pins σ Q) X.xe s := by
  have hz := sizeLine_eq
  rcases h with ⟨o, h1, h2⟩ | ⟨⟨_, h⟩, _⟩
  · cases t with
    | false =>
      obtain ⟨kk, _, hl, _, rfl⟩ := h1
      refine d_len I h2.rd fun t s' I' => ⟨.int (kk.zip xs).length, H, I', ⟨_, rfl⟩, ?_⟩
      rw [List.length_zip, hl, Nat.min_self]
      exact q
    | true =>
      obtain ⟨kk, _, hl, _, rfl⟩ := h1
      obtain ⟨z, hd, ys, rel, dd⟩ := dt_rd I.hok h2.rd
      have hl2 : (kk.zip xs).length = ys.length := Paired.length rel
      refine call_len_dictH hd dd (by omega) ⟨.int ys.length, H, I.tok _, ⟨_, rfl⟩, ?_⟩
      rw [← hl2, List.length_zip, hl, Nat.min_self]
      exact q
  · cases h
theorem fLen_nx : NoXL fLen := fun ds c h => by
  unfold fLen at h
  split at h <;> first | cases h | (split at h <;> cases h)
theorem c_len : CallD X 1 k (.builtin "len") fLen := fun pins s σ H xs us Q I r h => by
  obtain ⟨ex, ds, d, ext, rs, e, q⟩ := h
  unfold fLen at e
  split at e
  · split at e
    · rename_i hl
      cases e
      cases rs with
      | cons r1 t =>
        cases t
        rw [RB.str r1] at *
        exact call_len pins s σ H _ us Q I r ⟨_, _, rfl, ⟨hl, rfl⟩, q.int⟩
    · cases e
  · cases e
    cases rs with
    | cons r1 t =>
      cases t
      obtain ⟨a, ys, rfl, h1, _, h3⟩ := RB.tup r1
      exact call_len pins s σ H _ us Q I r ⟨_, ys.length, rfl, .inr ⟨ys, h1, rfl⟩, by rw [← h3.length]; exact q.int⟩
  · cases e
    cases rs with
    | cons r1 t =>
      cases t
      obtain ⟨a, ys, rfl, h1, _, h3⟩ := RB.lst r1
      exact call_len pins s σ H _ us Q I r ⟨_, ys.length, rfl, .inl ⟨ys, h1, rfl⟩, by rw [← h3.length]; exact q.int⟩
  · cases e
    cases rs with
    | cons r1 t =>
      cases t
      obtain ⟨a, ys, rfl, h1, h3⟩ := RB.cnr rfl r1
      rw [Vals.ref1 r]
      refine len_dic I h1 ?_
      rw [← h3.length]
      exact q.int
  · cases e
def fAbs : List D → Res D
  | [.int i] => .ok (.int (if i < 0 then -i else i))
  | _ => .err
theorem fAbs_nx : NoXL fAbs := fun ds c h => by
  unfold fAbs at h
  split at h <;> cases h
theorem c_abs : CallD X n k (.builtin "abs") fAbs := fun pins s σ H xs us Q I r h => by
  obtain ⟨ex, ds, d, ext, rs, e, q⟩ := h
  unfold fAbs at e
  split at e
  · cases e
    cases rs with
    | cons r1 t =>
      cases t
      rw [RB.int r1] at *
      exact call_abs pins s σ H _ us Q I r ⟨_, rfl, q.int⟩
  · cases e
def fInt : List D → Res D
  | [.int i] => .ok (.int i)
  | [.bl b] => .ok (.int (if b then 1 else 0))
  | _ => .err
theorem fInt_nx : NoXL fInt := fun ds c h => by
  unfold fInt at h
  split at h <;> cases h
theorem c_int : CallD X n k (.type "int") fInt := fun pins s σ H xs us Q I r h => by
  obtain ⟨ex, ds, d, ext, rs, e, q⟩ := h
  unfold fInt at e
  split at e
  · cases e
    cases rs with
    | cons r1 t =>
      cases t
      rw [RB.int r1] at *
      exact call_int1 pins s σ H _ us Q I r (.inl ⟨_, rfl, q.int⟩)
  · cases e
    cases rs with
    | cons r1 t =>
      cases t
      rw [RB.bl r1] at *
      exact call_int1 pins s σ H _ us Q I r (.inr ⟨_, rfl, q.int⟩)
  · cases e
/-- tuple(x), list(x) of a list or a tuple -/
def fTuple : List D → Res D
  | [.tup xs] => .ok (.tup xs)
  | [.lst xs] => .ok (.tup xs)
  | _ => .err
def fList : List D → Res D
  | [.tup xs] => .ok (.lst xs)
  | [.lst xs] => .ok (.lst xs)
  | _ => .err
theorem fTuple_nx : NoXL fTuple := fun ds c h => by
  unfold fTuple at h
  split at h <;> cases h
theorem fList_nx : NoXL fList := fun ds c h => by
  unfold fList at h
  split at h <;> cases h
theorem c_tuple : CallD X 1 k (.type "tuple") fTuple := fun pins s σ H xs us Q I r h => by
  obtain ⟨ex, ds, d, ext, rs, e, q⟩ := h
  unfold fTuple at e
  split at e
  · cases e
    cases rs with
    | cons r1 t =>
      cases t
      obtain ⟨a, ys, rfl, h1, h2, h3⟩ := RB.tupX r1
      exact call_tuple_of pins s σ H _ us Q I r ⟨a, ys, rfl, .inr ⟨.inl (.inl h1), q.flat (by rw [R]; exact ⟨a, ys, rfl, ⟨h1, h2⟩, RL.of h3⟩) rfl⟩⟩
  · cases e
    cases rs with
    | cons r1 t =>
      cases t
      obtain ⟨a, ys, rfl, h1, h2, h3⟩ := RB.lst r1
      exact call_tuple_of pins s σ H _ us Q I r ⟨a, ys, rfl, .inl ⟨h1, fun l hl => q.tup h3 hl h2⟩⟩
  · cases e
theorem c_list : CallD X 1 1 (.type "list") fList := fun pins s σ H xs us Q I r h => by
  obtain ⟨ex, ds, d, ext, rs, e, q⟩ := h
  unfold fList at e
  split at e
  · cases e
    cases rs with
    | cons r1 t =>
      cases t
      obtain ⟨a, ys, rfl, h1, h2, h3⟩ := RB.tup r1
      exact call_list_of pins s σ H _ us Q I r ⟨a, ys, rfl, .inr h1, fun l hl => q.lst h3 hl h2⟩
  · cases e
    cases rs with
    | cons r1 t =>
      cases t
      obtain ⟨a, ys, rfl, h1, h2, h3⟩ := RB.lst r1
      exact call_list_of pins s σ H _ us Q I r ⟨a, ys, rfl, .inl h1, fun l hl => q.lst h3 hl h2⟩
  · cases e
/-- truth values alone -/
def bools : List D → Option (List Bool)
  | [] => some []
  | .bl b :: r => (bools r).map (b :: ·)
  | _ :: _ => none
def nums : List D → Option (List Int)
  | [] => some []
  | .int b :: r => (nums r).map (b :: ·)
  | _ :: _ => none
theorem bools_vals {K : PySem.W.Frag} {ex : AS} {H : Hp} : ∀ {ds : List D} {vs : List V} {bs : List Bool}, Paired (RB K ex H n) ds vs → bools ds = some bs → vs = bs.map V.bl
  | [], _, _, .nil, h => by cases h; rfl
  | d :: ds, _, _, .cons r t, h => by
    cases d with
    | bl b =>
      rw [bools] at h
      cases q : bools ds with
      | none => rw [q] at h; cases h
      | some bs =>
        rw [q] at h
        cases h
        rw [RB.bl r, bools_vals t q]
        rfl
    | _ => cases h
theorem nums_vals {K : PySem.W.Frag} {ex : AS} {H : Hp} : ∀ {ds : List D} {vs : List V} {bs : List Int}, Paired (RB K ex H n) ds vs → nums ds = some bs → vs = bs.map V.int
  | [], _, _, .nil, h => by cases h; rfl
  | d :: ds, _, _, .cons r t, h => by
    cases d with
    | int b =>
      rw [nums] at h
      cases q : nums ds with
      | none => rw [q] at h; cases h
      | some bs =>
        rw [q] at h
        cases h
        rw [RB.int r, nums_vals t q]
        rfl
    | _ => cases h
@[simp] theorem bools_map (bs : List Bool) : bools (bs.map D.bl) = some bs := by
  induction bs with
  | nil => rfl
  | cons b r ih => rw [List.map_cons, bools, ih]; rfl
@[simp] theorem nums_map (bs : List Int) : nums (bs.map D.int) = some bs := by
  induction bs with
  | nil => rfl
  | cons b r ih => rw [List.map_cons, nums, ih]; rfl
def fAll : List D → Res D
  | [.lst xs] => match bools xs with
    | some bs => .ok (.bl (bs.all fun z => z))
    | none => .err
  | _ => .err
def fAny : List D → Res D
  | [.lst xs] => match bools xs with
    | some bs => .ok (.bl (bs.any fun z => z))
    | none => .err
  | _ => .err
def fSum : List D → Res D
  | [.lst xs] => match nums xs with
    | some bs => .ok (.int bs.sum)
    | none => .err
  | _ => .err
theorem fAll_nx : NoXL fAll := fun ds c h => by
  unfold fAll at h
  split at h <;> first | cases h | (split at h <;> cases h)
theorem fAny_nx : NoXL fAny := fun ds c h => by
  unfold fAny at h
  split at h <;> first | cases h | (split at h <;> cases h)
theorem fSum_nx : NoXL fSum := fun ds c h => by
  unfold fSum at h
  split at h <;> first | cases h | (split at h <;> cases h)
theorem c_all (hc : X.calm = true) : CallD X 1 k (.builtin "all") fAll := fun pins s σ H xs us Q I r h => by
  obtain ⟨ex, ds, d, ext, rs, e, q⟩ := h
  unfold fAll at e
  split at e
  · split at e
    · rename_i bs hb
      cases e
      cases rs with
      | cons r1 t =>
        cases t
        obtain ⟨a, ys, rfl, h1, _, h3⟩ := RB.lst r1
        rw [bools_vals h3 hb] at h1
        exact cr_all hc pins s σ H _ us Q I r ⟨a, bs, rfl, h1, q.bl⟩
    · cases e
  · cases e
theorem c_any (hc : X.calm = true) : CallD X 1 k (.builtin "any") fAny := fun pins s σ H xs us Q I r h => by
  obtain ⟨ex, ds, d, ext, rs, e, q⟩ := h
  unfold fAny at e
  split at e
  · split at e
    · rename_i bs hb
      cases e
      cases rs with
      | cons r1 t =>
        cases t
        obtain ⟨a, ys, rfl, h1, _, h3⟩ := RB.lst r1
        rw [bools_vals h3 hb] at h1
        exact cr_any hc pins s σ H _ us Q I r ⟨a, bs, rfl, h1, q.bl⟩
    · cases e
  · cases e
theorem c_sum (hc : X.calm = true) : CallD X 1 k (.builtin "sum") fSum := fun pins s σ H xs us Q I r h => by
  obtain ⟨ex, ds, d, ext, rs, e, q⟩ := h
  unfold fSum at e
  split at e
  · split at e
    · rename_i bs hb
      cases e
      cases rs with
      | cons r1 t =>
        cases t
        obtain ⟨a, ys, rfl, h1, _, h3⟩ := RB.lst r1
        rw [nums_vals h3 hb] at h1
        exact cr_sum hc pins s σ H _ us Q I r ⟨a, bs, rfl, h1, q.int⟩
    · cases e
  · cases e
/-- min, max: of two ints, of a list or a tuple of ints -/
def fMin : List D → Res D
  | [.int i, .int j] => .ok (.int (if j < i then j else i))
  | [.lst xs] => match nums xs with
    | some (b :: bs) => .ok (.int (bs.foldl min b))
    | _ => .err
  | [.tup xs] => match nums xs with
    | some (b :: bs) => .ok (.int (bs.foldl min b))
    | _ => .err
  | _ => .err
def fMax : List D → Res D
  | [.int i, .int j] => .ok (.int (if j > i then j else i))
  | [.lst xs] => match nums xs with
    | some (b :: bs) => .ok (.int (bs.foldl max b))
    | _ => .err
  | [.tup xs] => match nums xs with
    | some (b :: bs) => .ok (.int (bs.foldl max b))
    | _ => .err
  | _ => .err
theorem fMin_nx : NoXL fMin := fun ds c h => by
  unfold fMin at h
  split at h <;> first | cases h | (split at h <;> cases h)
theorem fMax_nx : NoXL fMax := fun ds c h => by
  unfold fMax at h
  split at h <;> first | cases h | (split at h <;> cases h)
theorem ints_reads {h : Heap} : ∀ {us : List Value} {ns : List Int}, Vals (ns.map V.int) us → ∃ as, ReadsAll h us (ns.map PyData.int) as
  | [], [], _ => ⟨[], .nil⟩
  | _, [], h => by cases h; exact ⟨[], .nil⟩
  | [], _ :: _, h => by cases h
  | u :: us, n :: ns, h => by
    rw [List.map_cons] at h
    cases h with
    | cons r t =>
      obtain ⟨k, rfl⟩ := r
      obtain ⟨as, q⟩ := ints_reads t
      rw [List.map_cons]
      exact ⟨_, .cons (.int n k) q⟩
theorem ints_alike (ns : List Int) : PySem.W.AlikeAll (ns.map PyData.int) := by
  constructor
  · intro x hx y hy
    obtain ⟨i, _, rfl⟩ := List.mem_map.mp hx
    obtain ⟨j, _, rfl⟩ := List.mem_map.mp hy
    rfl
  · intro x hx
    obtain ⟨i, _, rfl⟩ := List.mem_map.mp hx
    exact fun q => nomatch q
theorem ints_depth : ∀ ns : List Int, PyData.depthAll (ns.map PyData.int) = 0
  | [] => by simp [PyData.depthAll]
  | n :: ns => by
    rw [List.map_cons, PyData.depthAll, ints_depth ns, PyData.depth]
    rfl
theorem reads_int {h : Heap} {v : Value} {i : Int} {bs : List Addr} (r : Reads h v (.int i) bs) : ∃ t, v = .int i t := by
  cases r
  exact ⟨_, rfl⟩
theorem min_data_ok (hd : X.A.handled = none) (hu : X.A.units + 64 < cLine) {pins : List (Addr × Obj)} {s : Shared} {σ : L2.St} {H : Hp} {a : Addr} {b : Int} {bs : List Int} {Q : VK} (I : Inv X pins σ H s) (h : SqL X.K H a ((b :: bs).map V.int) ∨ SqT X.K H a ((b :: bs).map V.int)) (q : Q (.int (bs.foldl min b)) H) :
    wpAny (model X.prog X.w) X.A (call (.builtin "min") [.ref a]) (EP X pins σ Q) X.xe s := by
  have fin : ∀ (v : Value) (h' : Heap) (tk : Nat) (cs : List Addr), Reads h' v (PySem.W.minD (.int b) (bs.map PyData.int)) cs → (∀ b o, s.heap.get? b = some o → h'.get? b = some o) → EP X pins σ Q v { s with heap := h', toks := tk } := fun v h' tk cs r k => by
    rw [PySem.W.minD_ints] at r
    obtain ⟨t, rfl⟩ := reads_int r
    exact ⟨.int _, H, I.kept (t' := tk) k, ⟨t, rfl⟩, q⟩
  have hz : X.A.units + 1 + PyData.depthAll (.int b :: bs.map PyData.int) < cLine := by
    have := ints_depth (b :: bs)
    rw [List.map_cons] at this
    rw [this]
    omega
  rcases h with h | h
  · obtain ⟨its, rv, pl, _⟩ := I.list h
    obtain ⟨as, ra⟩ := ints_reads (h := s.heap) rv
    exact PySem.W.min_list_data hd pl.isList ra (ints_alike (b :: bs)) hz fun i v h' tk cs hv r k => fin v h' tk cs r k
  · obtain ⟨its, rv, pl, _⟩ := I.tuple h
    obtain ⟨as, ra⟩ := ints_reads (h := s.heap) rv
    exact PySem.W.min_tuple_data hd (show s.heap.IsTuple a its.toArray from pl) ra (ints_alike (b :: bs)) hz fun i v h' tk cs hv r k => fin v h' tk cs r k
theorem max_data_ok (hd : X.A.handled = none) (hu : X.A.units + 64 < cLine) {pins : List (Addr × Obj)} {s : Shared} {σ : L2.St} {H : Hp} {a : Addr} {b : Int} {bs : List Int} {Q : VK} (I : Inv X pins σ H s) (h : SqL X.K H a ((b :: bs).map V.int) ∨ SqT X.K H a ((b :: bs).map V.int)) (q : Q (.int (bs.foldl max b)) H) :
    wpAny (model X.prog X.w) X.A (call (.builtin "max") [.ref a]) (EP X pins σ Q) X.xe s := by
  have fin : ∀ (v : Value) (h' : Heap) (tk : Nat) (cs : List Addr), Reads h' v (PySem.W.maxD (.int b) (bs.map PyData.int)) cs → (∀ b o, s.heap.get? b = some o → h'.get? b = some o) → EP X pins σ Q v { s with heap := h', toks := tk } := fun v h' tk cs r k => by
    rw [PySem.W.maxD_ints] at r
    obtain ⟨t, rfl⟩ := reads_int r
    exact ⟨.int _, H, I.kept (t' := tk) k, ⟨t, rfl⟩, q⟩
  have hz : X.A.units + 1 + PyData.depthAll (.int b :: bs.map PyData.int) < cLine := by
    have := ints_depth (b :: bs)
    rw [List.map_cons] at this
    rw [this]
    omega
  rcases h with h | h
  · obtain ⟨its, rv, pl, _⟩ := I.list h
    obtain ⟨as, ra⟩ := ints_reads (h := s.heap) rv
    exact PySem.W.max_list_data hd pl.isList ra (ints_alike (b :: bs)) hz fun i v h' tk cs hv r k => fin v h' tk cs r k
  · obtain ⟨its, rv, pl, _⟩ := I.tuple h
    obtain ⟨as, ra⟩ := ints_reads (h := s.heap) rv
    exact PySem.W.max_tuple_data hd (show s.heap.IsTuple a its.toArray from pl) ra (ints_alike (b :: bs)) hz fun i v h' tk cs hv r k => fin v h' tk cs r k
theorem c_min (hc : X.calm = true) (hd : X.A.handled = none) (hu : X.A.units + 64 < cLine) : CallD X 1 k (.builtin "min") fMin := fun pins s σ H xs us Q I r h => by
  obtain ⟨ex, ds, d, ext, rs, e, q⟩ := h
  unfold fMin at e
  split at e
  · cases e
    cases rs with
    | cons r1 t =>
      cases t with
      | cons r2 t =>
        cases t
        rw [RB.int r1, RB.int r2] at *
        exact call_min2 hc pins s σ H _ us Q I r ⟨_, _, rfl, q.int⟩
  · split at e
    · rename_i b bs hb
      cases e
      cases rs with
      | cons r1 t =>
        cases t
        obtain ⟨a, ys, rfl, h1, _, h3⟩ := RB.lst r1
        rw [nums_vals h3 hb] at h1
        rw [Vals.ref1 r]
        exact min_data_ok hd hu I (.inl h1) q.int
    · cases e
  · split at e
    · rename_i b bs hb
      cases e
      cases rs with
      | cons r1 t =>
        cases t
        obtain ⟨a, ys, rfl, h1, _, h3⟩ := RB.tup r1
        rw [nums_vals (n := 0) h3 hb] at h1
        rw [Vals.ref1 r]
        exact min_data_ok hd hu I (.inr h1) q.int
    · cases e
  · cases e
theorem c_max (hc : X.calm = true) (hd : X.A.handled = none) (hu : X.A.units + 64 < cLine) : CallD X 1 k (.builtin "max") fMax := fun pins s σ H xs us Q I r h => by
  obtain ⟨ex, ds, d, ext, rs, e, q⟩ := h
  unfold fMax at e
  split at e
  · cases e
    cases rs with
    | cons r1 t =>
      cases t with
      | cons r2 t =>
        cases t
        rw [RB.int r1, RB.int r2] at *
        exact call_max2 hc pins s σ H _ us Q I r ⟨_, _, rfl, q.int⟩
  · split at e
    · rename_i b bs hb
      cases e
      cases rs with
      | cons r1 t =>
        cases t
        obtain ⟨a, ys, rfl, h1, _, h3⟩ := RB.lst r1
        rw [nums_vals h3 hb] at h1
        rw [Vals.ref1 r]
        exact max_data_ok hd hu I (.inl h1) q.int
    · cases e
  · split at e
    · rename_i b bs hb
      cases e
      cases rs with
      | cons r1 t =>
        cases t
        obtain ⟨a, ys, rfl, h1, _, h3⟩ := RB.tup r1
        rw [nums_vals (n := 0) h3 hb] at h1
        rw [Vals.ref1 r]
        exact max_data_ok hd hu I (.inr h1) q.int
    · cases e
  · cases e
end
end Px

namespace Px
open PySem PySem.Spec PyProof.Rows L2

/-! ### slices -/
abbrev TOf (X : Cx) (W : WX) (L : List Nat) (f : Env → Res (Option Int)) : TO := fun σ H Q => ∃ ex ρ fp, SI X.K ex L ρ σ H fp ∧ Out X W σ H (f ρ) fun o => ∀ H', Same H H' → Q o H'
abbrev EP (X : Cx) (W : WX) (L : List Nat) (e : Option Expr) (f : Env → Res (Option Int)) : Prop := PO X e (TOf X W L f)
def oNone : Env → Res (Option Int) := fun _ => .ok none
def oSome (f : EF) : Env → Res (Option Int) := fun ρ => f ρ >>= fun d => match d with
  | .int i => .ok (some i)
  | _ => .err
theorem PO.imp {X : Cx} {e : Option Expr} {t t' : TO} (h : PO X e t) (m : ∀ σ H Q, t' σ H Q → t σ H Q) : PO X e t' := ⟨fun pins s σ H Q I q => h.run pins s σ H Q I (m σ H Q q)⟩
/-- the places lo .. hi of a list -/
def cut {α : Type} (xs : List α) (lo hi : Option Int) : List α := (xs.drop (HT.sIx xs.length 0 lo)).take (HT.sIx xs.length xs.length hi - HT.sIx xs.length 0 lo)
theorem cut_length {α : Type} (xs : List α) (lo hi : Option Int) : (cut xs lo hi).length ≤ xs.length := by
  unfold cut
  rw [List.length_take, List.length_drop]
  omega
def dSl : D → Option Int → Option Int → Res D
  | .lst xs, lo, hi => .ok (.lst (cut xs lo hi))
  | .tup xs, lo, hi => .ok (.tup (cut xs lo hi))
  | .str s, lo, hi => if s.length ≤ sizeLine then .ok (.str ⟨(cut s.cps.toList lo hi).toArray⟩) else .err
  | _, _, _ => .err
def eSl (f : EF) (lo hi : Env → Res (Option Int)) : EF := fun ρ => f ρ >>= fun d => lo ρ >>= fun a => hi ρ >>= fun b => dSl d a b
def dRev : D → Res D
  | .lst xs => .ok (.lst xs.reverse)
  | .tup xs => .ok (.tup xs.reverse)
  | .str s => if s.length ≤ sizeLine then .ok (.str ⟨s.cps.toList.reverse.toArray⟩) else .err
  | _ => .err
theorem dRev_nx : NoX1 dRev := fun a c h => by
  unfold dRev at h
  split at h <;> first | cases h | (split at h <;> cases h)
theorem slice_rev (n : Nat) : Builtin.Str.strSliceIndices none none (-1) n = (List.range n).reverse := by
  have h1 : ¬ ((-1 : Int) > 0) := by omega
  simp only [Builtin.Str.strSliceIndices, sliceRange, h1, if_false]
  have e : (if (n : Int) - 1 > -1 then ((n : Int) - 1 - -1 - -1 - 1) / (- -1) else 0).toNat = n := by
    split
    · rw [Int.neg_neg, Int.ediv_one]; omega
    · simp; omega
  rw [e]
  apply List.ext_getElem
  · simp
  · intro i h2 h3
    simp at h2
    simp
    omega
theorem pick_revS (z : Str) : ((List.range z.length).reverse.filterMap (z.cps[·]?)).toArray = z.cps.toList.reverse.toArray := by
  congr 1
  rw [List.filterMap_reverse]
  congr 1
  obtain ⟨⟨l⟩⟩ := z
  show (List.range l.length).filterMap (fun i => (l.toArray)[i]?) = l
  have key : ∀ k, k ≤ l.length → (List.range k).filterMap (fun i => (l.toArray)[i]?) = l.take k := fun k => by
    induction k with
    | zero => intro _; simp
    | succ k ih =>
      intro hk
      rw [List.range_succ, List.filterMap_append, ih (by omega), List.take_add_one]
      congr 1
      simp [List.getElem?_eq_getElem (show k < l.length by omega)]
  have := key l.length (Nat.le_refl _)
  rw [List.take_length] at this
  exact this
section
variable {prog : Program} {w : World} {A : Around} {E : Value → Shared → Prop} {s : Shared}
theorem sliceApplied_rev {sl : Addr} {vl vu : Value} {t : Tok} {n : Nat} {Q : Int × Int × Nat → Shared → Prop} (hs : s.heap.IsSliceOf sl vl vu (.int (-1) t)) (pl : IsPart vl none) (pu : IsPart vu none) (h : Q ((n : Int) - 1, -1, n) s) :
    wpAny (model prog w) A (Builtin.Slice.sliceApplied (.ref sl) (pure (n : Int))) Q E s := by
  obtain ⟨os, hos, hcs, hds⟩ := id hs
  unfold Builtin.Slice.sliceApplied Builtin.Slice.sliceFields
  refine wpAny_bind (wpAny_bind (wpAny_field hos hds (x := vl) rfl (wpAny_bind (wpAny_field hos hds (x := vu) rfl (wpAny_bind (wpAny_field hos hds (x := .int (-1) t) rfl (wpAny_pure ?_)))))))
  refine wpAny_bind (slicePart_int ?_)
  show wpAny _ _ (if ((-1 : Int) == 0) = true then _ else _) _ _ s
  rw [if_neg (by decide)]
  refine wpAny_bind (HT.slicePart_ pl (wpAny_bind (HT.slicePart_ pu (wpAny_bind (wpAny_pure ?_)))))
  have e : Builtin.Slice.slicePlaces ((n : Int) - 1) (-1) (-1) = n := by
    unfold Builtin.Slice.slicePlaces
    have h1 : ¬ ((-1 : Int) > 0) := by omega
    simp only [h1, if_false, Int.neg_neg, Int.ediv_one]
    split <;> omega
  show wpAny _ _ (pure ((n : Int) - 1, (-1 : Int), Builtin.Slice.slicePlaces ((n : Int) - 1) (-1) (-1))) _ _ s
  rw [e]
  exact wpAny_pure h
theorem pick_rev (xs : Array Value) : ((List.range xs.size).filterMap fun (m : Nat) => xs[(((xs.size : Nat) : Int) - 1 + (m : Int) * (-1)).toNat]?).toArray = xs.toList.reverse.toArray := by
  congr 1
  obtain ⟨l⟩ := xs
  have key : ∀ (k : Nat), k ≤ l.length → ((List.range k).filterMap fun (m : Nat) => l[((l.length : Int) - 1 + (m : Int) * (-1)).toNat]?) = l.reverse.take k := by
    intro k
    induction k with
    | zero => intro _; simp
    | succ k ih =>
      intro hk
      rw [List.range_succ, List.filterMap_append, ih (by omega), List.take_add_one]
      congr 1
      have e1 : ((l.length : Int) - 1 + (k : Int) * (-1)).toNat = l.length - 1 - k := by omega
      have e2 : l.reverse[k]? = l[l.length - 1 - k]? := by rw [List.getElem?_reverse (by omega)]
      simp only [List.filterMap_cons, List.filterMap_nil, e1, e2]
      cases q : l[l.length - 1 - k]? <;> simp
  have := key l.length (Nat.le_refl _)
  rw [List.take_of_length_le (by rw [List.length_reverse]; exact Nat.le_refl _)] at this
  simpa using this
theorem getItem_tuple_rev {t sl : Addr} {items : Array Value} {vl vu : Value} {k : Tok} {Q : Value → Shared → Prop} (ht : IsTup s.heap t items) (hs : s.heap.IsSliceOf sl vl vu (.int (-1) k)) (pl : IsPart vl none) (pu : IsPart vu none)
    (h : Q (.ref s.heap.objs.size) { s with heap := s.heap.push { cls := .type "tuple", data := .seq items.toList.reverse.toArray } })
    (hsz : items.size ≤ sizeLine) : wpAny (model prog w) A (getItem (.ref t) (.ref sl)) Q E s := by
  have htake : sizeOk (.seq items.toList.reverse.toArray) := by
    show items.toList.reverse.toArray.size ≤ sizeLine
    rw [List.size_toArray, List.length_reverse, Array.length_toList]
    exact hsz
  obtain ⟨os, hos, hcs, hds⟩ := id hs
  have hTs : s.TypeIs (.ref sl) "slice" := ⟨os, hos, hcs⟩
  unfold getItem
  try with_reducible refine wpAny_holding ?_
  first | refine wpAny_bind (wpAny_pure ?_) | skip
  refine wpAny_bind (wpAny_sequenceKey ht.typeIs (by decide) ?_)
  refine wpAny_bind (wpAny_callSpecial?_slot (name := Str.ofString "__getitem__") ht.typeIs PyProof.Rows.slot_tuple_getitem
    (wpAny_call_entry PyProof.Rows.slot_tuple_getitem ht.typeIs entry_tuple_getitem ?_ (args_tuple_getitem _ _)))
  show wpAny _ _ (Builtin.Tuple.tupleItemsOf (.ref t) >>= _) _ _ s
  refine wpAny_bind (tupleItemsOf_ ht ?_)
  refine wpAny_bind (wpAny_typeOf hTs ?_)
  rw [if_pos (by decide)]
  refine wpAny_bind (sliceApplied_rev hs pl pu ?_)
  have hno : ¬ (((((items.size : Nat) : Int) - 1 == 0 && (-1 : Int) == 1) && items.size == items.size) = true) := by
    intro q
    rw [Bool.and_eq_true, Bool.and_eq_true] at q
    exact absurd q.1.2 (by decide)
  show wpAny _ _ (if (((((items.size : Nat) : Int) - 1 == 0 && (-1 : Int) == 1) && items.size == items.size) = true) then _ else _) _ _ s
  rw [if_neg hno, pick_rev]
  first
    | exact wpAny_bind (m := Builtin.Tuple.tupleExact _) (wpAny_newObj_type (wpAny_pure ⟨_, rfl, wpAny_pure h⟩) htake)
    | exact wpAny_bind (m := Builtin.Tuple.tupleExact _) (wpAny_newObj_type (wpAny_bind (wpAny_pure (wpAny_pure ⟨_, rfl, wpAny_pure h⟩))) htake)
    | exact wpAny_bind (wpAny_bind (m := Builtin.Tuple.tupleExact _) (wpAny_newObj_type (wpAny_pure (wpAny_pure ⟨_, rfl, wpAny_pure h⟩)) htake))
    | exact wpAny_bind (wpAny_bind (m := Builtin.Tuple.tupleExact _) (wpAny_newObj_type (wpAny_pure ⟨_, rfl, wpAny_pure h⟩) htake))
end
section
variable {X : Cx} {W : WX} {L : List Nat} {n k : Nat} {pos p2 : Pos} {e : Expr} {lo hi : Option Expr} {f : EF} {fl fh : Env → Res (Option Int)}
theorem ep_none : EP X W L none oNone := PO.imp po_none fun σ H Q ⟨ex, ρ, fp, I, o⟩ => o H (Same.refl H)
theorem ep_some (h : EB X W L n e f) : EP X W L (some e) (oSome f) := PO.imp (po_some h) fun σ H Q ⟨ex, ρ, fp, I, o⟩ => ⟨ex, ρ, fp, I, o.bind.mono fun d q v H1 e1 r1 => by
  cases d with
  | int i => exact ⟨i, r1.int, q H1 e1⟩
  | _ => exact q.elim⟩
theorem eo_sl (he : EB X W L 1 e f) (hl : EP X W L lo fl) (hu : EP X W L hi fh) : EO X W L 1 (.Subscript e (.Slice lo hi none p2) pos) (eSl f fl fh) :=
  PE.imp (pe_slice (SlR.or sl_list (SlR.or sl_tupA sl_str)) he hl hu) fun σ H Q ⟨ex, ρ, fp, I, o⟩ => by
    refine ⟨ex, ρ, fp, I, o.bind.mono fun d q1 v H1 e1 r1 => ⟨ex, ρ, fp, I.same e1, (q1.bind.later e1).mono fun a q2 H2 e2 => ⟨ex, ρ, fp, (I.same e1).same e2, ((q2.bind.later (e1.trans e2))).mono fun b q3 H3 e3 => ?_⟩⟩⟩
    have r3 := (r1.same e2).same e3
    have e4 := (e1.trans e2).trans e3
    cases d with
    | lst xs =>
      obtain ⟨p, ys, rfl, h1, h2, h3⟩ := r3.lst
      have hc : Paired (R X.K ex H3) (cut xs a b) (cutV ys a b) := by
        unfold cut cutV
        rw [← h3.length]
        exact Paired.takeP _ (Paired.dropP _ h3)
      exact .inl ⟨p, ys, rfl, h1, fun l hl => QO.lst (K := X.K) (ex := ex) (fun v H5 fq e5 ro nd nw => q3 v H5 fq (e4.trans e5) ro nd fun a ha => e4.free (nw a ha)) hc hl (Nat.le_trans (cutV_length ys a b) h2)⟩
    | tup xs =>
      obtain ⟨p, ys, rfl, hx1, h2, h3⟩ := r3.tupX
      have h1 : SqT X.K H3 p ys := .inl (.inl hx1)
      have hc : Paired (R X.K ex H3) (cut xs a b) (cutV ys a b) := by
        unfold cut cutV
        rw [← h3.length]
        exact Paired.takeP _ (Paired.dropP _ h3)
      have q4 : QO X.K ex H3 1 Q (.tup (cut xs a b)) := fun v H5 fq e5 ro nd nw => q3 v H5 fq (e4.trans e5) ro nd fun a ha => e4.free (nw a ha)
      refine .inr (.inl ⟨p, ys, rfl, h1, fun hw => q4.flat ?_ rfl, fun _ l hl => q4.tup hc hl (Nat.le_trans (cutV_length ys a b) h2)⟩)
      have ew : cut xs a b = xs := by
        unfold cut
        rw [h3.length, hw.1, hw.2, List.drop_zero, Nat.sub_zero, ← h3.length, List.take_length]
      rw [ew, R]
      exact ⟨p, ys, rfl, ⟨hx1, h2⟩, RL.of h3⟩
    | str z =>
      by_cases hz : z.length ≤ sizeLine
      · have e5 : dSl (.str z) a b = .ok (.str ⟨(cut z.cps.toList a b).toArray⟩) := if_pos hz
        rw [e5] at q3
        have q4 : QO X.K ex H3 1 Q _ := fun v H5 fq e5 ro nd nw => q3 v H5 fq (e4.trans e5) ro nd fun a ha => e4.free (nw a ha)
        refine .inr (.inr ⟨z, r3.str, hz, ?_⟩)
        have := q4.str
        unfold cutS
        unfold cut at this
        rw [Array.length_toList] at this
        exact this
      · have e5 : dSl (.str z) a b = .err := if_neg hz
        rw [e5] at q3
        exact q3.elim
    | _ => exact q3.elim
theorem eo_rev {kk : Nat} {p1 p3 : Pos} (he : EB X W L 1 e f) : EO X W L 1 (.Subscript e (.Slice none none (some (.UnaryOp .USub (.Constant (.int 1) kk p1) p2)) p3) pos) (eUn dRev f) := by
  refine ⟨fun pins s σ H Q I ⟨ex, ρ, fp, S, o⟩ => ?_⟩
  refine Subscript_ (thn (he.run pins s σ H (fun x H1 => ∃ d, Same H H1 ∧ RB X.K ex H1 1 d x ∧ Out X W σ H (dRev d) fun d => QO X.K ex H1 1 Q d) I
    ⟨ex, ρ, fp, S, o.bind.mono fun d q v H1 e1 r1 => ⟨d, e1, r1, q.mono fun z q2 v H5 fq e5 ro nd nw => q2 v H5 fq (e1.trans e5) ro nd fun a ha => e1.free (nw a ha)⟩⟩) fun v s1 ⟨x, H1, I1, r1, d, e1, rb, q1⟩ => ?_)
  have hst : PO X (some (.UnaryOp .USub (.Constant (.int 1) kk p1) p2)) (tPart (tUn (rU fun i => .int (-i)) (tC (.int 1)))) := po_some (pe_un un_neg pe_int)
  refine wpAny_Slice (thn (po_none.run pins s1 σ H1 (fun o H2 => o = none ∧ H2 = H1) I1 ⟨rfl, rfl⟩) fun vl s2 ⟨l, H2, I2, pl, el, e2⟩ => ?_)
  subst el e2
  refine thn (po_none.run pins s2 σ H2 (fun o H3 => o = none ∧ H3 = H2) I2 ⟨rfl, rfl⟩) fun vu s3 ⟨u, H3, I3, pu, eu, e3⟩ => ?_
  subst eu e3
  refine thn (hst.run pins s3 σ H3 (fun o H4 => o = some (-1) ∧ H4 = H3) I3 ⟨1, rfl, -1, rfl, rfl, rfl⟩) fun vs s4 ⟨o, H4, I4, ps, eo, e4⟩ => ?_
  subst eo e4
  have I5 : Inv X pins σ H4 { s4 with heap := s4.heap.push { cls := .type "slice", data := .fields #[vl, vu, vs] } } := I4.kept (t' := s4.toks) fun b ob q => Heap.get?_push_of_some _ q
  show wpAny (model X.prog X.w) X.A (subscriptTail e (.Slice none none (some (.UnaryOp .USub (.Constant (.int 1) kk p1) p2)) p3) v (.ref s4.heap.objs.size)) (L2.EP X pins σ Q) X.xe { s4 with heap := s4.heap.push { cls := .type "slice", data := .fields #[vl, vu, vs] } }
  obtain ⟨z, ez, qz⟩ := no_exc q1 (dRev_nx d)
  cases d with
  | lst xs =>
    cases ez
    obtain ⟨a, ys, rfl, hx, hl, h3⟩ := rb.lst
    cases r1
    obtain ⟨its, r, ht, hz⟩ := I5.list hx
    have hlen := r.length
    refine tail_any (ops := [.ref a, .ref s4.heap.objs.size]) ht.isList.typeIs (PySem.slot_list_getitem.lookup) ?_ (by with_unfolding_all rfl)
    refine wpAny_getItem_list_slice ht.isList (Heap.IsSliceOf.new _ vl vu vs) pl pu ps (by decide) ?_ (by rw [List.size_toArray]; omega)
    rw [PySem.W.krv_pick]
    refine ⟨.ref _, _, I5.laid (t' := s4.toks) (o := .lst ys.reverse) (fun b ob q => Heap.get?_push_of_some _ q) (Nat.le_refl _) ?_, rfl, qz.lst (Paired.revP h3) (I5.hok.fresh (Nat.le_refl _)) (by rw [List.length_reverse]; exact hl)⟩
    exact ⟨by rw [List.length_reverse]; exact hz, _, 0, r.reverse, Heap.get?_push_size _ rfl⟩
  | tup xs =>
    cases ez
    obtain ⟨a, ys, rfl, hx, hl, h3⟩ := rb.tup
    cases r1
    obtain ⟨its, r, ht, hz⟩ := I5.tuple hx
    have hlen := r.length
    refine tail_any (ops := [.ref a, .ref s4.heap.objs.size]) ht.typeIs (PyProof.Rows.slot_tuple_getitem.lookup) ?_ (by with_unfolding_all rfl)
    cases ps with
    | int i t =>
      refine getItem_tuple_rev ht (Heap.IsSliceOf.new _ vl vu (.int (-1) t)) pl pu ?_ (by rw [List.size_toArray]; omega)
      refine ⟨.ref _, _, I5.laid (t' := s4.toks) (o := .tup ys.reverse) (fun b ob q => Heap.get?_push_of_some _ q) (Nat.le_refl _) ?_, rfl, qz.tup (Paired.revP h3) (I5.hok.fresh (Nat.le_refl _)) (by rw [List.length_reverse]; exact hl)⟩
      exact ⟨by rw [List.length_reverse]; exact hz, its.reverse, r.reverse, IsTup.new _ _⟩
  | str z =>
    by_cases hz : z.length ≤ sizeLine
    · have e5 : dRev (.str z) = .ok (.str ⟨z.cps.toList.reverse.toArray⟩) := if_pos hz
      rw [e5] at ez
      have ez := Res.ok.inj ez
      subst ez
      have hx := rb.str
      subst hx
      obtain ⟨tk, rfl⟩ := r1
      cases pl with
      | none =>
        cases pu with
        | none =>
          cases ps with
          | int i t =>
            refine tail_any (ops := [.str z tk, .ref s4.heap.objs.size]) (PySem.typeIs_str _ z tk) PySem.F.slot_str_getitem.lookup ?_ (by with_unfolding_all rfl)
            refine wpAny_getItem_str_slice (l := none) (u := none) (st := some (-1, t)) (Heap.IsSliceOf.new _ .none .none (.int (-1) t)) rfl ?_
            show Made.post (if ((-1 : Int) == 1 && (Builtin.Str.strSliceIndices none none (-1) z.length).length == z.length) = true then Made.val (.str z tk)
              else Made.str ⟨((Builtin.Str.strSliceIndices none none (-1) z.length).filterMap (z.cps[·]?)).toArray⟩) _ _
            rw [if_neg (by simp), slice_rev, pick_revS]
            refine ⟨?_, .str _, H4, I5.tok _, ⟨_, rfl⟩, qz.str⟩
            show z.cps.toList.reverse.toArray.size ≤ sizeLine
            rw [List.size_toArray, List.length_reverse, Array.length_toList]
            exact hz
    · have e5 : dRev (.str z) = .err := if_neg hz
      rw [e5] at ez
      cases ez
  | _ => cases ez
end
end Px

namespace Px
open PySem PySem.Spec PyProof.Rows L2

/-! ### walks -/
/-- what a walk leans on: two things that stand -/
def HR (K : PySem.W.Frag) (ex : AS) (H : Hp) (n : Nat) (g : (D × V) × (D × V)) : Prop := RB K ex H n g.1.1 g.1.2 ∧ RB K ex H n g.2.1 g.2.2
theorem HR.one {K : PySem.W.Frag} {ex : AS} {H : Hp} {n : Nat} {d : D} {v : V} (h : RB K ex H n d v) : HR K ex H n ((d, v), (.non, .non)) := ⟨h, RB.of (by rw [R])⟩
theorem HR.nil {K : PySem.W.Frag} {ex : AS} {H : Hp} {n : Nat} : HR K ex H n ((.non, .non), (.non, .non)) := ⟨RB.of (by rw [R]), RB.of (by rw [R])⟩
/-- an iterator that yields ds one by one, while g is held -/
structure Itn (K : PySem.W.Frag) (n : Nat) (J : It) (g : (D × V) × (D × V)) (ds : List D) : Prop where
  len : ds.length ≤ sizeLine
  go : ∀ ex H i, HR K ex H n g → i < ds.length → J.go i H
  stop : ∀ ex H, HR K ex H n g → J.stop ds.length H
  item : ∀ ex H i d x H', HR K ex H n g → ds[i]? = some d → J.yld i H x H' → Same H H' ∧ RB K ex H' (n - 1) d x
def tI (X : Cx) (W : WX) (L : List Nat) (n : Nat) (f : Env → Res (List D)) : TI := fun σ H R => ∃ ex ρ fp, SI X.K ex L ρ σ H fp ∧ Out X W σ H (f ρ) fun ds => ∀ J H' g, Same H H' → HR X.K ex H' n g → Itn X.K n J g ds → R J H'
abbrev EI (X : Cx) (W : WX) (L : List Nat) (n : Nat) (tg e : Expr) (f : Env → Res (List D)) : Prop := PI X tg e (tI X W L n f)
theorem PI.imp {X : Cx} {tg e : Expr} {t t' : TI} (h : PI X tg e t) (m : ∀ σ H Q, t' σ H Q → t σ H Q) : PI X tg e t' := ⟨fun pins s σ H R I q => h.run pins s σ H R I (m σ H R q)⟩
def signs (s : Str) : List D := s.cps.toList.map fun c => .str ⟨#[c]⟩
def dItems : D → Res (List D)
  | .lst xs => .ok xs
  | .tup xs => .ok xs
  | .str s => if s.length ≤ sizeLine then .ok (signs s) else .err
  | _ => .err
theorem dItems_nx : NoX1 dItems := fun a c h => by
  unfold dItems at h
  split at h <;> first | cases h | (split at h <;> cases h)
theorem itn_list {K : PySem.W.Frag} {n : Nat} {ds : List D} {a : Addr} (hl : ds.length ≤ sizeLine) : Itn K n (Itl K a) ((.lst ds, .ref a), (.non, .non)) ds := by
  have ob : ∀ ex H, RB K ex H n (.lst ds) (.ref a) → ∃ xs, SqL K H a xs ∧ Paired (RB K ex H (n - 1)) ds xs := fun ex H h => by
    cases n with
    | zero =>
      rw [RB, R] at h
      obtain ⟨b, xs, e, h1, h2⟩ := h
      cases e
      exact ⟨xs, h1.r.sq.1, RL.pair h2⟩
    | succ n =>
      obtain ⟨b, xs, e, h1, h2, h3⟩ := RB.lst h
      cases e
      exact ⟨xs, h1, h3⟩
  refine ⟨hl, fun ex H i h hi => ?_, fun ex H h => ?_, fun ex H i d x H' h hd hy => ?_⟩
  · obtain ⟨xs, h1, h2⟩ := ob ex H h.1
    obtain ⟨x, hx, _⟩ := Paired.get h2 (List.getElem?_eq_getElem hi)
    exact ⟨xs, x, h1, hx⟩
  · obtain ⟨xs, h1, h2⟩ := ob ex H h.1
    exact ⟨xs, h1, by rw [h2.length]; exact Nat.le_refl _⟩
  · obtain ⟨xs, h1, h2⟩ := ob ex H h.1
    obtain ⟨y, hy1, ry⟩ := Paired.get h2 hd
    obtain ⟨rfl, hy2⟩ := hy
    have := hy2 xs h1
    rw [hy1] at this
    cases this
    exact ⟨Same.refl _, ry⟩
theorem itn_tup {K : PySem.W.Frag} {n : Nat} {ds : List D} {a : Addr} (hl : ds.length ≤ sizeLine) : Itn K n (Itt K a) ((.tup ds, .ref a), (.non, .non)) ds := by
  have ob : ∀ ex H, RB K ex H n (.tup ds) (.ref a) → ∃ xs, SqT K H a xs ∧ Paired (R K ex H) ds xs := fun ex H h => by
    obtain ⟨b, xs, e, h1, h2, h3⟩ := RB.tup h
    cases e
    exact ⟨xs, h1, h3⟩
  refine ⟨hl, fun ex H i h hi => ?_, fun ex H h => ?_, fun ex H i d x H' h hd hy => ?_⟩
  · obtain ⟨xs, h1, h2⟩ := ob ex H h.1
    obtain ⟨x, hx, _⟩ := Paired.get h2 (List.getElem?_eq_getElem hi)
    exact ⟨xs, x, h1, hx⟩
  · obtain ⟨xs, h1, h2⟩ := ob ex H h.1
    exact ⟨xs, h1, by rw [h2.length]; exact Nat.le_refl _⟩
  · obtain ⟨xs, h1, h2⟩ := ob ex H h.1
    obtain ⟨y, hy1, ry⟩ := Paired.get h2 hd
    obtain ⟨rfl, hy2⟩ := hy
    have := hy2 xs h1
    rw [hy1] at this
    cases this
    exact ⟨Same.refl _, RB.of ry⟩
theorem itn_str {K : PySem.W.Frag} {n : Nat} {x : Str} (hl : x.length ≤ sizeLine) : Itn K n (Its x) ((.non, .non), (.non, .non)) (signs x) := by
  have el : (signs x).length = x.cps.size := by
    unfold signs
    rw [List.length_map, Array.length_toList]
  refine ⟨by rw [el]; exact hl, fun ex H i h hi => ?_, fun ex H h => ?_, fun ex H i d v H' h hd hy => ?_⟩
  · show i < x.cps.size
    rw [← el]
    exact hi
  · show x.cps.size ≤ (signs x).length
    rw [el]
    exact Nat.le_refl _
  · obtain ⟨rfl, c, hc, rfl⟩ := hy
    unfold signs at hd
    rw [List.getElem?_map, Array.getElem?_toList, hc] at hd
    cases hd
    exact ⟨Same.refl _, RB.of (by rw [R])⟩
def rng (lo : Int) (n : Nat) : List D := (List.range n).map fun i => .int (lo + (i : Nat))
def rngC (lo c : Int) (n : Nat) : List D := (List.range n).map fun i => .int (lo + (i : Nat) * c)
theorem itn_rng {K : PySem.W.Frag} {n k : Nat} {lo : Int} (hl : k ≤ sizeLine) : Itn K n (Itr lo k) ((.non, .non), (.non, .non)) (rng lo k) := by
  have el : (rng lo k).length = k := by
    unfold rng
    rw [List.length_map, List.length_range]
  refine ⟨by rw [el]; exact hl, fun ex H i h hi => ?_, fun ex H h => ?_, fun ex H i d v H' h hd hy => ?_⟩
  · show i < k
    rw [← el]
    exact hi
  · show k ≤ _
    rw [el]
    exact Nat.le_refl _
  · obtain ⟨rfl, rfl⟩ := hy
    have hi : i < k := by
      obtain ⟨h1, _⟩ := List.getElem?_eq_some_iff.mp hd
      rw [el] at h1
      exact h1
    unfold rng at hd
    rw [List.getElem?_map, List.getElem?_range hi] at hd
    cases hd
    exact ⟨Same.refl _, RB.of (by rw [R])⟩
theorem itn_rngC {K : PySem.W.Frag} {n k : Nat} {lo c : Int} (hl : k ≤ sizeLine) : Itn K n (Itc lo c k) ((.non, .non), (.non, .non)) (rngC lo c k) := by
  have el : (rngC lo c k).length = k := by
    unfold rngC
    rw [List.length_map, List.length_range]
  refine ⟨by rw [el]; exact hl, fun ex H i h hi => ?_, fun ex H h => ?_, fun ex H i d v H' h hd hy => ?_⟩
  · show i < k
    rw [← el]
    exact hi
  · show k ≤ _
    rw [el]
    exact Nat.le_refl _
  · obtain ⟨rfl, rfl⟩ := hy
    have hi : i < k := by
      obtain ⟨h1, _⟩ := List.getElem?_eq_some_iff.mp hd
      rw [el] at h1
      exact h1
    unfold rngC at hd
    rw [List.getElem?_map, List.getElem?_range hi] at hd
    cases hd
    exact ⟨Same.refl _, RB.of (by rw [R])⟩
def iSeq (f : EF) : Env → Res (List D) := eUn dItems f
def dRng1 : List D → Res (List D)
  | [.int j] => if j ≤ 16777216 ∧ -(2 ^ 62) ≤ j then .ok (rng 0 j.toNat) else .err
  | _ => .err
def dRng2 : List D → Res (List D)
  | [.int i, .int j] => if j - i ≤ 16777216 ∧ -(2 ^ 62) ≤ i ∧ i < 2 ^ 62 ∧ -(2 ^ 62) ≤ j ∧ j < 2 ^ 62 then .ok (rng i (j - i).toNat) else .err
  | _ => .err
def dRng3 : List D → Res (List D)
  | [.int i, .int j, .int c] => if c = -1 ∧ i - j ≤ 16777216 ∧ -(2 ^ 62) ≤ i ∧ i < 2 ^ 62 ∧ -(2 ^ 62) ≤ j ∧ j < 2 ^ 62 then .ok (rngC i (-1) (i - j).toNat) else .err
  | _ => .err
def iCall (o : List D → Res (List D)) (fs : Env → Res (List D)) : Env → Res (List D) := fun ρ => fs ρ >>= o
section
variable {X : Cx} {W : WX} {L : List Nat} {n k m n2 : Nat} {pos p : Pos} {e tg a b c : Expr} {f : EF} {fs : Env → Res (List D)}
theorem line_eq : (sizeLine : Nat) = 16777216 := by decide
theorem ei_seq (he : EB X W L n e f) : EI X W L n tg e (iSeq f) := by
  refine ⟨fun pins s σ H Rr I ⟨ex, ρ, fp, S, o⟩ => ?_⟩
  refine thn (he.run pins s σ H (fun x H1 => ∃ d, Same H H1 ∧ RB X.K ex H1 n d x ∧ Out X W σ H (dItems d) fun ds => ∀ J H' g, Same H H' → HR X.K ex H' n g → Itn X.K n J g ds → Rr J H') I
    ⟨ex, ρ, fp, S, o.bind.mono fun d q v H1 e1 r1 => ⟨d, e1, r1, q⟩⟩) fun v s1 ⟨x, H1, I1, r1, d, e1, rb, q⟩ => ?_
  obtain ⟨ds, ed, qd⟩ := no_exc q (dItems_nx d)
  cases d with
  | lst xs =>
    cases ed
    obtain ⟨a, ys, rfl, h1, h2, h3⟩ := rb.up.lst
    cases r1
    obtain ⟨its, rv, p, hz⟩ := I1.list h1
    refine wpAny_pyIter_list p.isList (pi_one (tk := s1.toks) I1 _ (turn_list a _) ⟨_, Heap.get?_push_size _ rfl, rfl, rfl⟩ (qd _ H1 ((_, .ref a), (.non, .non)) e1 (HR.one rb) (itn_list (by rw [h3.length]; exact h2))))
  | tup xs =>
    cases ed
    obtain ⟨a, ys, rfl, h1, h2, h3⟩ := rb.tup
    cases r1
    obtain ⟨its, rv, p, hz⟩ := I1.tuple h1
    refine wpAny_pyIter_tuple (show s1.heap.IsTuple a its.toArray from p) (pi_one (tk := s1.toks) I1 _ (turn_tuple a _) ⟨_, Heap.get?_push_size _ rfl, rfl, rfl⟩ (qd _ H1 ((_, .ref a), (.non, .non)) e1 (HR.one rb) (itn_tup (by rw [h3.length]; exact h2))))
  | str z =>
    have eq : dItems (.str z) = if z.length ≤ sizeLine then .ok (signs z) else .err := rfl
    rw [eq] at ed
    split at ed
    · rename_i hz
      cases ed
      rw [rb.str] at r1
      obtain ⟨t, rfl⟩ := r1
      cases ha : z.cps.all (· < 128)
      · exact wpAny_pyIter_wide ha (pi_one (tk := s1.toks) I1 _ (turn_str _ z t "str_iterator" (.inr rfl)) ⟨_, Heap.get?_push_size _ rfl, rfl, rfl⟩ (qd _ H1 ((.non, .non), (.non, .non)) e1 HR.nil (itn_str hz)))
      · exact wpAny_pyIter_ascii ha (pi_one (tk := s1.toks) I1 _ (turn_str _ z t "str_ascii_iterator" (.inl rfl)) ⟨_, Heap.get?_push_size _ rfl, rfl, rfl⟩ (qd _ H1 ((.non, .non), (.non, .non)) e1 HR.nil (itn_str hz)))
    · cases ed
  | _ => cases ed
theorem ei_range1 (hg : Gl X "range") (hm : X.mg "range" = none) (ha : EA X W L n2 m [a] fs) (hs : starEach [a] X.env = [(false, eval a X.env)] := by rfl) : EI X W L n tg (.Call (.Name "range" p) [a] [] pos) (iCall dRng1 fs) :=
  PI.imp (pi_range1 hg hm ha hs) fun σ H Q ⟨ex, ρ, fp, I, o⟩ => ⟨ex, ρ, fp, I, o.bind.mono fun ds q vs H1 e1 r1 _ => by
    unfold dRng1 at q
    split at q
    · split at q
      · rename_i j hj
        cases r1 with
        | cons r t =>
          cases t
          rw [RB.int r]
          have hj' := hj
          exact ⟨j, rfl, hj.2, by omega, q (Itr 0 j.toNat) H1 ((.non, .non), (.non, .non)) e1 HR.nil (itn_rng (by rw [line_eq]; omega))⟩
      · exact q.elim
    · exact q.elim⟩
theorem ei_range2 (hg : Gl X "range") (hm : X.mg "range" = none) (ha : EA X W L n2 m [a, b] fs) (hs : starEach [a, b] X.env = [(false, eval a X.env), (false, eval b X.env)] := by rfl) (hs2 : starEach [b] X.env = [(false, eval b X.env)] := by rfl) :
    EI X W L n tg (.Call (.Name "range" p) [a, b] [] pos) (iCall dRng2 fs) :=
  PI.imp (pi_range2 hg hm ha hs hs2) fun σ H Q ⟨ex, ρ, fp, I, o⟩ => ⟨ex, ρ, fp, I, o.bind.mono fun ds q vs H1 e1 r1 _ => by
    unfold dRng2 at q
    split at q
    · split at q
      · rename_i i j hj
        cases r1 with
        | cons r t =>
          cases t with
          | cons r2 t =>
            cases t
            rw [RB.int r, RB.int r2]
            exact ⟨i, j, rfl, hj.2, q (Itr i (j - i).toNat) H1 ((.non, .non), (.non, .non)) e1 HR.nil (itn_rng (by rw [line_eq]; omega))⟩
      · exact q.elim
    · exact q.elim⟩
theorem ei_range3 (hg : Gl X "range") (hm : X.mg "range" = none) (ha : EA X W L n2 m [a, b, c] fs) (hs : starEach [a, b, c] X.env = (false, eval a X.env) :: starEach [b, c] X.env := by rfl) (hpl : (backTo pos (starEach [b, c] X.env)).any (·.1) = false := by rfl) :
    EI X W L n tg (.Call (.Name "range" p) [a, b, c] [] pos) (iCall dRng3 fs) :=
  PI.imp (pi_range3 hg hm ha hs hpl) fun σ H Q ⟨ex, ρ, fp, I, o⟩ => ⟨ex, ρ, fp, I, o.bind.mono fun ds q vs H1 e1 r1 _ => by
    unfold dRng3 at q
    split at q
    · split at q
      · rename_i i j c hj
        obtain ⟨hc, hj⟩ := hj
        subst hc
        cases r1 with
        | cons r t =>
          cases t with
          | cons r2 t =>
            cases t with
            | cons r3 t =>
              cases t
              rw [RB.int r, RB.int r2, RB.int r3]
              exact ⟨i, j, -1, (i - j).toNat, rfl, RgC.neg hj.2.1 hj.2.2.1 hj.2.2.2.1 hj.2.2.2.2, q (Itc i (-1) (i - j).toNat) H1 ((.non, .non), (.non, .non)) e1 HR.nil (itn_rngC (by rw [line_eq]; omega))⟩
      · exact q.elim
    · exact q.elim⟩
end

/-! ### targets -/
abbrev Sets := List (Nat × D × V)
def setE (ρ : Env) (l : Sets) : Env := l.foldl (fun ρ t => ρ.set t.1 (some t.2.1)) ρ
def setS (σ : L2.St) (l : Sets) : L2.St := l.foldl (fun σ t => σ.set t.1 (some t.2.2)) σ
/-- a target does what a function over data does; it sets the slots is -/
def GSem (K : PySem.W.Frag) (g : TG) (gf : Env → D → Res Env) (is : List Nat) : Prop :=
  ∀ ex v σ H Q d ρ ρ', R K ex H d v → gf ρ d = .ok ρ' → (∀ l : Sets, (∀ t ∈ l, R K ex H t.2.1 t.2.2 ∧ t.1 ∈ is) → ρ' = setE ρ l → Q (setS σ l) H) → g v σ H Q
def gfName (i : Nat) : Env → D → Res Env := fun ρ d => .ok (ρ.set i (some d))
theorem gs_name {K : PySem.W.Frag} (i : Nat) : GSem K (gName i) (gfName i) [i] := fun ex v σ H Q d ρ ρ' r e h => by
  cases e
  exact h [(i, d, v)] (fun t ht => by
    rw [List.mem_singleton.mp ht]
    exact ⟨r, List.mem_singleton.mpr rfl⟩) rfl
def setL (ρ : Env) : List Nat → List D → Env
  | i :: is, d :: ds => setL (ρ.set i (some d)) is ds
  | _, _ => ρ
def gfTup (is : List Nat) : Env → D → Res Env := fun ρ d => match d with
  | .tup ds => if ds.length = is.length then .ok (setL ρ is ds) else .err
  | _ => .err
def gNames : List Nat → TGs
  | [] => gNil
  | i :: is => gCons (gName i) (gNames is)
theorem gNames_ok {K : PySem.W.Frag} {ex : AS} {H : Hp} {Q : L2.St → Hp → Prop} : ∀ (is : List Nat) (ds : List D) (vs : List V) (σ : L2.St) (ρ : Env), ds.length = is.length → Paired (R K ex H) ds vs →
    (∀ l : Sets, (∀ t ∈ l, R K ex H t.2.1 t.2.2 ∧ t.1 ∈ is) → setL ρ is ds = setE ρ l → Q (setS σ l) H) → gNames is vs σ H Q
  | [], [], _, σ, ρ, _, .nil, h => ⟨rfl, h [] (fun t ht => nomatch ht) rfl⟩
  | [], _ :: _, _, _, _, e, _, _ => by simp at e
  | _ :: _, [], _, _, _, e, _, _ => by simp at e
  | i :: is, d :: ds, _, σ, ρ, e, .cons (b := v) r t, h => by
    refine ⟨v, _, rfl, ?_⟩
    refine gNames_ok is ds _ (σ.set i (some v)) (ρ.set i (some d)) (by simpa using e) t fun l hl e2 => ?_
    exact h ((i, d, v) :: l) (fun t ht => by
      rcases List.mem_cons.mp ht with rfl | ht
      · exact ⟨r, List.mem_cons_self⟩
      · exact ⟨(hl t ht).1, List.mem_cons_of_mem _ (hl t ht).2⟩) e2
theorem gs_tup {K : PySem.W.Frag} (is : List Nat) : GSem K (gTup K is.length (gNames is)) (gfTup is) is := fun ex v σ H Q d ρ ρ' r e h => by
  unfold gfTup at e
  split at e
  · split at e
    · rename_i ds hl
      cases e
      rw [R] at r
      obtain ⟨a, xs, rfl, h1, h2⟩ := r
      exact ⟨a, xs, rfl, .inl (.inl h1.1), by rw [← RL.length h2]; exact hl, gNames_ok is ds xs σ ρ hl (RL.pair h2) h⟩
    · cases e
  · cases e
def wipeE (ρ : Env) : List Nat → Env
  | [] => ρ
  | v :: vs => (wipeE ρ vs).set v none
theorem wipeE_length (ρ : Env) : ∀ vs : List Nat, (wipeE ρ vs).length = ρ.length
  | [] => rfl
  | v :: vs => by rw [wipeE, List.length_set, wipeE_length ρ vs]
theorem wipeE_some {ρ : Env} {i : Nat} {d : D} : ∀ {vs : List Nat}, (wipeE ρ vs)[i]? = some (some d) → ρ[i]? = some (some d) ∧ i ∉ vs
  | [], h => ⟨h, fun q => nomatch q⟩
  | v :: vs, h => by
    rw [wipeE] at h
    by_cases e : v = i
    · subst e
      by_cases hl : v < (wipeE ρ vs).length
      · rw [List.getElem?_set_self hl] at h
        cases h
      · rw [List.getElem?_eq_none (by rw [List.length_set]; omega)] at h
        cases h
    · rw [List.getElem?_set_ne e] at h
      obtain ⟨h1, h2⟩ := wipeE_some h
      exact ⟨h1, fun q => by
        rcases List.mem_cons.mp q with q | q
        · exact e q.symm
        · exact h2 q⟩
section
variable {K : PySem.W.Frag} {ex ex' : AS} {H H' : Hp} {L : List Nat} {ρ : Env} {σ : L2.St} {fp : Nat → List Addr}
theorem SI.wipe (I : SI K ex L ρ σ H fp) (vs : List Nat) : SI K ex L (wipeE ρ vs) (L2.wipe σ vs) H fp where
  len := by rw [wipeE_length, L2.wipe_length]; exact I.len
  val := fun i d h => by
    obtain ⟨h1, h2⟩ := wipeE_some h
    obtain ⟨v, h3, h4⟩ := I.val i d h1
    exact ⟨v, by rw [L2.wipe_out h2]; exact h3, h4⟩
  nod := I.nod
  dis := I.dis
  sub := I.sub
  ext := I.ext
/-- a slot that is shared is stored -/
theorem SI.set (I : SI K ex L ρ σ H fp) {i : Nat} {d : D} {v : V} (r : R K ex H d v) (hL : L.getD i 0 = 0) : ∃ fp', SI K ex L (ρ.set i (some d)) (σ.set i (some v)) H fp' ∧ (∀ j a, a ∈ fp' j → a ∈ fp j) := by
  refine ⟨fun j => if j = i then [] else fp j, ⟨?_, fun j d' h => ?_, fun j => ?_, fun j k a h1 h2 => ?_, fun j a h => ?_, I.ext⟩, fun j a h => ?_⟩
  · rw [List.length_set, List.length_set]
    exact I.len
  · by_cases e : i = j
    · subst e
      by_cases hl : i < ρ.length
      · rw [List.getElem?_set_self hl] at h
        cases h
        refine ⟨v, List.getElem?_set_self (by rw [← I.len]; exact hl), ?_⟩
        rw [hL, if_pos rfl]
        exact ⟨rfl, r⟩
      · rw [List.getElem?_eq_none (by rw [List.length_set]; omega)] at h
        cases h
    · rw [List.getElem?_set_ne e] at h
      obtain ⟨u, h1, h2⟩ := I.val j d' h
      refine ⟨u, by rw [List.getElem?_set_ne e]; exact h1, ?_⟩
      show RO K ex H _ d' u (if j = i then [] else fp j)
      rw [if_neg (fun q => e q.symm)]
      exact h2
  · show (if j = i then [] else fp j).Nodup
    split
    · exact List.nodup_nil
    · exact I.nod j
  · have h1 : a ∈ (if j = i then [] else fp j) := h1
    have h2 : a ∈ (if k = i then [] else fp k) := h2
    split at h1
    · cases h1
    · split at h2
      · cases h2
      · exact I.dis j k a h1 h2
  · have h : a ∈ (if j = i then [] else fp j) := h
    split at h
    · cases h
    · exact I.sub j a h
  · have h : a ∈ (if j = i then [] else fp j) := h
    split at h
    · cases h
    · exact h
theorem SI.sets : ∀ (l : Sets) {ρ : Env} {σ : L2.St} {fp : Nat → List Addr}, SI K ex L ρ σ H fp → (∀ t ∈ l, R K ex H t.2.1 t.2.2 ∧ L.getD t.1 0 = 0) → ∃ fp', SI K ex L (setE ρ l) (setS σ l) H fp' ∧ (∀ j a, a ∈ fp' j → a ∈ fp j)
  | [], _, _, fp, I, _ => ⟨fp, I, fun _ _ h => h⟩
  | t :: l, _, _, _, I, h => by
    obtain ⟨fp1, I1, m1⟩ := I.set (h t List.mem_cons_self).1 (h t List.mem_cons_self).2
    obtain ⟨fp2, I2, m2⟩ := SI.sets l I1 fun u hu => h u (List.mem_cons_of_mem _ hu)
    exact ⟨fp2, I2, fun j a q => m1 j a (m2 j a q)⟩
/-- more is owned (by others), all of it new to H -/
theorem SI.more (I : SI K ex L ρ σ H fp) (e : Same H H') (h1 : ∀ a, ex' a → ex a ∨ H a = none) (h2 : ∀ a, ex a → ex' a) (h3 : ∀ a, ex' a → H' a ≠ none) : SI K ex' L ρ σ H' fp where
  len := I.len
  val := fun i d h => by
    obtain ⟨v, q1, q2⟩ := I.val i d h
    exact ⟨v, q1, RO.keep (Keep.same e) h1 (fun a _ o q => e a o q) q2⟩
  nod := I.nod
  dis := I.dis
  sub := fun i a h => h2 a (I.sub i a h)
  ext := h3
end
end Px

namespace Px
open PySem PySem.Spec PyProof.Rows L2

/-! ### list comprehensions -/
def noX {α : Type} : Res α → Res α
  | .ok a => .ok a
  | _ => .err
theorem noX_ok {α : Type} {r : Res α} {a : α} (h : noX r = .ok a) : r = .ok a := by
  cases r with
  | ok b => exact h
  | exc c => cases h
  | err => cases h
@[simp] theorem noX_is {α : Type} (a : α) : noX (.ok a) = .ok a := id rfl
def lcE (gf : Env → D → Res Env) (tt : Env → Res Bool) (f : EF) (ρ : Env) : List D → Res (List D)
  | [] => .ok []
  | d :: ds => noX (gf ρ d) >>= fun ρ1 => noX (tt ρ1) >>= fun b => if b = true then noX (f ρ1) >>= fun y => lcE gf tt f ρ ds >>= fun ys => .ok (y :: ys) else lcE gf tt f ρ ds
theorem lcE_nx {gf : Env → D → Res Env} {tt : Env → Res Bool} {f : EF} {ρ : Env} : ∀ (ds : List D) (c : Str), lcE gf tt f ρ ds ≠ .exc c
  | [], c, h => by cases h
  | d :: ds, c, h => by
    rw [lcE] at h
    cases h1 : noX (gf ρ d) with
    | ok ρ1 =>
      rw [h1, Res.bind_ok] at h
      cases h2 : noX (tt ρ1) with
      | ok b =>
        rw [h2, Res.bind_ok] at h
        split at h
        · cases h3 : noX (f ρ1) with
          | ok y =>
            rw [h3, Res.bind_ok] at h
            cases h4 : lcE gf tt f ρ ds with
            | ok ys =>
              rw [h4] at h
              cases h
            | exc c2 => exact lcE_nx ds c2 h4
            | err =>
              rw [h4] at h
              cases h
          | exc c2 =>
            cases q : f ρ1 <;> rw [q] at h3 <;> cases h3
          | err =>
            rw [h3] at h
            cases h
        · exact lcE_nx ds c h
      | exc c2 =>
        cases q : tt ρ1 <;> rw [q] at h2 <;> cases h2
      | err =>
        rw [h2] at h
        cases h
    | exc c2 =>
      cases q : gf ρ d <;> rw [q] at h1 <;> cases h1
    | err =>
      rw [h1] at h
      cases h
def eLc (fI : Env → Res (List D)) (own : List Nat) (gf : Env → D → Res Env) (tt : Env → Res Bool) (f : EF) : EF := fun ρ => fI ρ >>= fun ds => lcE gf tt f (wipeE ρ own) ds >>= fun ys => .ok (.lst ys)
abbrev W0 : WX := fun _ _ _ _ => False
theorem P3.app {α β γ : Type} {F : α → β → γ → Prop} : ∀ {as as2 : List α} {bs bs2 : List β} {cs cs2 : List γ}, P3 F as bs cs → P3 F as2 bs2 cs2 → P3 F (as ++ as2) (bs ++ bs2) (cs ++ cs2)
  | _, _, _, _, _, _, .nil, h => h
  | _, _, _, _, _, _, .cons x t, h => .cons x (P3.app t h)
theorem P3.length {α β γ : Type} {F : α → β → γ → Prop} : ∀ {as : List α} {bs : List β} {cs : List γ}, P3 F as bs cs → as.length = bs.length
  | _, _, _, .nil => rfl
  | _, _, _, .cons x t => by rw [List.length_cons, List.length_cons, P3.length t]
theorem wipe_set {σ : L2.St} : ∀ {vs : List Nat} {i : Nat} {x : Option V}, i ∈ vs → wipe (σ.set i x) vs = wipe σ vs
  | v :: vs, i, x, h => by
    rw [wipe, wipe]
    by_cases hi : i ∈ vs
    · rw [wipe_set hi]
    · have e : v = i := by
        rcases List.mem_cons.mp h with q | q
        · exact q.symm
        · exact absurd q hi
      subst e
      have : ∀ {vs : List Nat}, v ∉ vs → wipe (σ.set v x) vs = (wipe σ vs).set v x := by
        intro vs
        induction vs with
        | nil => intro _; rfl
        | cons u us ih =>
          intro h
          have h1 : v ≠ u := fun q => h (by rw [q]; exact List.mem_cons_self)
          rw [wipe, wipe, ih (fun q => h (List.mem_cons_of_mem _ q)), List.set_comm _ _ h1]
      rw [this hi, List.set_set]
theorem wipe_idem {σ : L2.St} : ∀ vs : List Nat, wipe (wipe σ vs) vs = wipe σ vs := by
  have key : ∀ (us vs : List Nat), (∀ u ∈ us, u ∈ vs) → ∀ σ : L2.St, wipe (wipe σ us) vs = wipe σ vs := by
    intro us
    induction us with
    | nil => intro vs _ σ; rfl
    | cons u us ih =>
      intro vs h σ
      rw [wipe, wipe_set (h u List.mem_cons_self), ih vs fun x hx => h x (List.mem_cons_of_mem _ hx)]
  exact fun vs => key vs vs (fun _ h => h) σ
theorem wipe_sets {vs : List Nat} : ∀ (l : Sets) {σ : L2.St}, (∀ t ∈ l, t.1 ∈ vs) → wipe (setS σ l) vs = wipe σ vs
  | [], _, _ => rfl
  | t :: l, σ, h => by
    have : setS σ (t :: l) = setS (σ.set t.1 (some t.2.2)) l := rfl
    rw [this, wipe_sets l fun u hu => h u (List.mem_cons_of_mem _ hu), wipe_set (h t List.mem_cons_self)]
section
variable {K : PySem.W.Frag} {ex ex' : AS} {H H' : Hp}
theorem RB.more (e : Same H H') (m : ∀ a, ex' a → ex a ∨ H a = none) : ∀ {n : Nat} {d : Px.D} {v : V}, RB K ex H n d v → RB K ex' H' n d v
  | 0, d, _, h => R.keep (Keep.same e) m d h
  | n + 1, d, v, h => by
    cases c : isC d with
    | true =>
      obtain ⟨a, xs, q, h1, h2⟩ := (RB.cn c).mp h
      exact (RB.cn c).mpr ⟨a, xs, q, Same.cnR e h1, h2.mono fun _ _ q => RB.more e m q⟩
    | false => exact (RB.nc c).mpr (R.keep (Keep.same e) m _ ((RB.nc c).mp h))
theorem P3.there {k : Nat} {a : Addr} : ∀ {ys : List Px.D} {vs : List V} {gps : List (List Addr)}, P3 (RO K ex H k) ys vs gps → a ∈ gps.flatten → H a ≠ none
  | _, _, _, .nil, h => by simp at h
  | _, _, _, .cons r t, h => by
    rw [List.flatten_cons] at h
    rcases List.mem_append.mp h with h | h
    · exact RO.there r a h
    · exact P3.there t h
theorem P3.keep {k : Nat} (kp : Keep ex H H') (m : ∀ a, ex' a → ex a ∨ H a = none) : ∀ {ys : List Px.D} {vs : List V} {gps : List (List Addr)}, (∀ a ∈ gps.flatten, ∀ o, H a = some o → H' a = some o) → P3 (RO K ex H k) ys vs gps → P3 (RO K ex' H' k) ys vs gps
  | _, _, _, _, .nil => .nil
  | _, _, _, h, .cons r t => by
    rw [List.flatten_cons] at h
    exact .cons (RO.keep kp m (fun a ha => h a (List.mem_append_left _ ha)) r) (P3.keep kp m (fun a ha => h a (List.mem_append_right _ ha)) t)
end
section
variable {X : Cx} {W : WX} {L : List Nat} {k : Nat} {fI : Env → Res (List D)} {own : List Nat} {gf : Env → D → Res Env} {ft : Env → Res Bool} {f : EF} {g : TG} {is : List Nat}
theorem HR.more {K : PySem.W.Frag} {ex ex' : AS} {H H' : Hp} (e : Same H H') (m : ∀ a, ex' a → ex a ∨ H a = none) {n : Nat} {g : (Px.D × V) × (Px.D × V)} (h : HR K ex H n g) : HR K ex' H' n g := ⟨RB.more e m h.1, RB.more e m h.2⟩
/-- what a list comprehension asks follows from its meaning -/
theorem lc_imp (gs : GSem X.K g gf is) (hs : ∀ i ∈ is, i ∈ own) (hL : ∀ i ∈ is, L.getD i 0 = 0) {σ : L2.St} {H : Hp} {Q : VK} (h : tO X W L (k + 1) (eLc fI own gf ft f) σ H Q) : tLc (tI X W L 1 fI) g (tT X W0 L ft) (tO X W0 L k f) own σ H Q := by
  obtain ⟨ex, ρ, fp, I, o⟩ := h
  refine ⟨ex, ρ, fp, I, o.bind.mono fun ds q J H1 gh e1 rg itn D hD => ?_⟩
  obtain ⟨all, hall, q⟩ := no_exc q.bind (lcE_nx ds)
  have hDH : H D = none := e1.free hD
  refine ⟨fun i m Hi => i + m = ds.length ∧ Same H1 Hi ∧ ∃ (vs : List V) (fps : List (List Addr)) (ys rest : List Px.D), Hi D = some (.lst vs) ∧ P3 (RO X.K (fun a => a ∈ fps.flatten ∨ a = D ∨ ex a) Hi k) ys vs fps ∧ fps.flatten.Nodup ∧
    (∀ a ∈ fps.flatten, H1 a = none ∧ a ≠ D) ∧ ys.length ≤ i ∧ all = ys ++ rest ∧ lcE gf ft f (wipeE ρ own) (ds.drop i) = .ok rest, ⟨ds.length, by omega, same_upd hD, [], [], [], all, upd_same, .nil, List.nodup_nil, ⟨fun a ha => (by simp at ha), Nat.zero_le _, rfl, hall⟩⟩, fun i m Hi hW => ?_⟩
  obtain ⟨em, e2, vs, fps, ys, rest, hDi, hP, nod, fr, hlen, eall, erest⟩ := hW
  by_cases hi : i < ds.length
  · refine .inr ⟨itn.go ex Hi i ⟨rg.1.same e2, rg.2.same e2⟩ hi, fun H' => ∃ m', m' < m ∧ (i + 1 + m' = ds.length ∧ Same H1 H' ∧ ∃ (vs : List V) (fps : List (List Addr)) (ys rest : List Px.D), H' D = some (.lst vs) ∧ P3 (RO X.K (fun a => a ∈ fps.flatten ∨ a = D ∨ ex a) H' k) ys vs fps ∧ fps.flatten.Nodup ∧
      (∀ a ∈ fps.flatten, H1 a = none ∧ a ≠ D) ∧ ys.length ≤ i + 1 ∧ all = ys ++ rest ∧ lcE gf ft f (wipeE ρ own) (ds.drop (i + 1)) = .ok rest), fun H' h => h, fun x H' hy => ?_⟩
    obtain ⟨d, hd⟩ : ∃ d, ds[i]? = some d := ⟨_, List.getElem?_eq_getElem hi⟩
    obtain ⟨e3, rx⟩ := itn.item (fun a => a ∈ fps.flatten ∨ a = D ∨ ex a) Hi i d x H' (HR.more e2 (fun a h => by
      rcases h with h | h | h
      · exact .inr (fr a h).1
      · rw [h]
        exact .inr hD
      · exact .inl h) rg) hd hy
    have ed : ds.drop i = d :: ds.drop (i + 1) := by
      rw [List.drop_eq_getElem_cons hi]
      congr 1
      rw [List.getElem?_eq_getElem hi] at hd
      exact Option.some.inj hd
    rw [ed, lcE] at erest
    cases hg : noX (gf (wipeE ρ own) d) with
    | exc c => rw [hg] at erest; cases erest
    | err => rw [hg] at erest; cases erest
    | ok ρ1 =>
      rw [hg, Res.bind_ok] at erest
      have esame : Same H H' := (e1.trans e2).trans e3
      -- what is owned while the element is reckoned
      have hDex : ∀ a, (a ∈ fps.flatten ∨ a = D ∨ ex a) → ex a ∨ H a = none := fun a h => by
        rcases h with h | h | h
        · exact .inr (e1.free (fr a h).1)
        · rw [h]
          exact .inr hDH
        · exact .inl h
      have hthere : ∀ a, (a ∈ fps.flatten ∨ a = D ∨ ex a) → H' a ≠ none := fun a h q => by
        rcases h with h | h | h
        · exact P3.there hP h (e3.free q)
        · rw [h] at q
          have := e3 D _ hDi
          rw [q] at this
          cases this
        · exact I.ext a h (esame.free q)
      have I' : SI X.K (fun a => a ∈ fps.flatten ∨ a = D ∨ ex a) L (wipeE ρ own) (wipe σ own) H' fp := (I.wipe own).more esame hDex (fun a h => .inr (.inr h)) hthere
      refine gs (fun a => a ∈ fps.flatten ∨ a = D ∨ ex a) x (wipe σ own) H' _ d (wipeE ρ own) ρ1 rx (noX_ok hg) fun l hl e4 => ?_
      obtain ⟨fp1, I1, _⟩ := SI.sets l I' fun t ht => ⟨(hl t ht).1, hL _ (hl t ht).2⟩
      rw [← e4] at I1
      refine ⟨by rw [wipe_sets l fun t ht => hs _ (hl t ht).2, wipe_idem], ?_⟩
      cases ht : noX (ft ρ1) with
      | exc c => rw [ht] at erest; cases erest
      | err => rw [ht] at erest; cases erest
      | ok b =>
        rw [ht, Res.bind_ok] at erest
        refine ⟨_, ρ1, fp1, I1, ?_⟩
        rw [noX_ok ht]
        intro H3 e5
        cases b with
        | false =>
          rw [if_neg Bool.false_ne_true] at erest ⊢
          refine ⟨m - 1, by omega, by omega, (e2.trans e3).trans e5, vs, fps, ys, rest, e5 _ _ (e3 _ _ hDi), ?_, nod, fr, by omega, eall, erest⟩
          exact P3.keep (Keep.same (e3.trans e5)) (fun a h => .inl h) (fun a _ o q => (e3.trans e5) a o q) hP
        | true =>
          rw [if_pos rfl] at erest ⊢
          cases hf : noX (f ρ1) with
          | exc c => rw [hf] at erest; cases erest
          | err => rw [hf] at erest; cases erest
          | ok y =>
            rw [hf, Res.bind_ok] at erest
            refine ⟨_, ρ1, fp1, I1.same e5, ?_⟩
            rw [noX_ok hf]
            intro v H4 fq e6 ro nd nw
            have hD4 : H4 D = some (.lst vs) := e6 _ _ (e5 _ _ (e3 _ _ hDi))
            have hvl : ys.length = vs.length := P3.length hP
            have hsz : vs.length < sizeLine := by
              have := itn.len
              omega
            refine ⟨vs, hD4, hsz, ?_⟩
            cases hr : lcE gf ft f (wipeE ρ own) (ds.drop (i + 1)) with
            | exc c => rw [hr] at erest; cases erest
            | err => rw [hr] at erest; cases erest
            | ok rest' =>
              rw [hr, Res.bind_ok] at erest
              have er : rest = y :: rest' := by cases erest; rfl
              have e36 : Same Hi H4 := (e3.trans e5).trans e6
              have fqD : ∀ a ∈ fq, a ≠ D := fun a ha q => by
                have h1 := nw a ha
                rw [q] at h1
                have h2 := e5 _ _ (e3 _ _ hDi)
                rw [h1] at h2
                cases h2
              have fqI : ∀ a ∈ fq, Hi a = none := fun a ha => (e3.trans e5).free (nw a ha)
              have kp : Keep (fun a => a ∈ fps.flatten ∨ a = D ∨ ex a) Hi (upd H4 D (.lst (vs ++ [v]))) := by
                exact Keep.upd e36 hDi (fun _ q => nomatch q) (.inr (.inl rfl))
              have kp2 : Keep (fun a => a ∈ fq ∨ (a ∈ fps.flatten ∨ a = D ∨ ex a)) H4 (upd H4 D (.lst (vs ++ [v]))) := by
                exact Keep.upd (Same.refl _) hD4 (fun _ q => nomatch q) (.inr (.inr (.inl rfl)))
              have mem : ∀ a, a ∈ (fps ++ [fq]).flatten ↔ a ∈ fps.flatten ∨ a ∈ fq := fun a => by
                rw [List.flatten_append, List.mem_append]
                simp
              refine ⟨m - 1, by omega, by omega, fun b o h => ?_, vs ++ [v], fps ++ [fq], ys ++ [y], rest', upd_same, P3.app ?_ (.cons ?_ .nil), ?_, fun a ha => ?_, by rw [List.length_append]; simp; omega, by rw [eall, er, List.append_assoc]; rfl, rfl⟩
              · have hb : b ≠ D := fun q => by
                  rw [q, hD] at h
                  cases h
                rw [upd_ne hb]
                exact e36 _ _ (e2 _ _ h)
              · refine P3.keep kp (fun a h => ?_) (fun a ha o q => ?_) hP
                · rcases h with h | h
                  · rcases (mem a).mp h with h | h
                    · exact .inl (.inl h)
                    · exact .inr (fqI a h)
                  · exact .inl (.inr h)
                · rw [upd_ne (fr a ha).2]
                  exact e36 _ _ q
              · refine RO.keep kp2 (fun a h => ?_) (fun a ha o q => ?_) ro
                · rcases h with h | h
                  · rcases (mem a).mp h with h | h
                    · exact .inl (.inr (.inl h))
                    · exact .inl (.inl h)
                  · exact .inl (.inr (.inr h))
                · rw [upd_ne (fqD a ha)]
                  exact q
              · rw [List.flatten_append]
                refine List.nodup_append.mpr ⟨nod, by simpa using nd, fun a ha b hb q => ?_⟩
                have hb : b ∈ fq := by simpa using hb
                rw [← q] at hb
                exact P3.there hP ha (fqI a hb)
              · rcases (mem a).mp ha with ha | ha
                · exact fr a ha
                · exact ⟨e2.free (fqI a ha), fqD a ha⟩
  · have ei : i = ds.length := by omega
    rw [ei, List.drop_length, lcE] at erest
    have er : rest = [] := by cases erest; rfl
    rw [er, List.append_nil] at eall
    have hm : m = 0 := by omega
    refine .inl ⟨by rw [ei]; exact itn.stop ex Hi ⟨rg.1.same e2, rg.2.same e2⟩, ?_⟩
    have hvl : ys.length = vs.length := P3.length hP
    have hln := itn.len
    refine q (.ref D) Hi (D :: fps.flatten) (e1.trans e2) ?_ (List.nodup_cons.mpr ⟨fun h => (fr D h).2 rfl, nod⟩) fun a ha => ?_
    · rw [eall]
      refine (RO.cn rfl).mpr ⟨D, vs, fps, _, rfl, ⟨⟨rfl, by omega⟩, hDi⟩, rfl, P3.keep (Keep.same (Same.refl Hi)) (fun a h => .inl ?_) (fun _ _ _ h => h) hP⟩
      rcases h with h | h
      · rcases List.mem_cons.mp h with h | h
        · exact .inr (.inl h)
        · exact .inl h
      · exact .inr (.inr h)
    · rcases List.mem_cons.mp ha with h | h
      · rw [h]
        exact hDH
      · exact e1.free (fr a h).1
end
end Px

namespace Px
open PySem PySem.Spec PyProof.Rows L2

section
variable {X : Cx} {W : WX} {L : List Nat} {k : Nat} {fI : Env → Res (List D)} {gf : Env → D → Res Env} {ft : Env → Res Bool} {f : EF} {g : TG} {is : List Nat} {elt tg iter c : Expr} {ifs : List Expr} {scope : Scope} {own : List (Str × Nat)} {pos : Pos}
abbrev ETs (X : Cx) (W : WX) (L : List Nat) (ifs : List Expr) (f : Env → Res Bool) : Prop := PTs X ifs (tT X W L f)
def bYes : Env → Res Bool := fun _ => .ok true
theorem PTs.imp {X : Cx} {ifs : List Expr} {t t' : TT} (h : PTs X ifs t) (m : ∀ σ H Q, t' σ H Q → t σ H Q) : PTs X ifs t' := ⟨fun pins s σ H Q I q => h.run pins s σ H Q I (m σ H Q q)⟩
theorem ets_nil : ETs X W L [] bYes := PTs.imp pts_nil fun σ H Q ⟨ex, ρ, fp, I, o⟩ => o H (Same.refl H)
theorem ets_one (h : ET X W L c ft) : ETs X W L [c] ft := pts_one h
theorem eo_lc (hc : X.calm = true) (hN : X.N.Nodup) (hi : EI X W L 1 tg iter fI) (ok : BlkOk X.N X.env.scope scope own)
    (hg : ∀ (s : Shared) (H : Hp) (C : Addr) (cl : List (Str × Addr)) (fp : List Addr), PG (X.blk s H scope (compEnvC scope cl C X.env) fp) tg g)
    (ht : ∀ (s : Shared) (H : Hp) (C : Addr) (cl : List (Str × Addr)) (fp : List Addr), ETs (X.blk s H scope (compEnvC scope cl C X.env) fp) W0 L ifs ft)
    (he : ∀ (s : Shared) (H : Hp) (C : Addr) (cl : List (Str × Addr)) (fp : List Addr), EO (X.blk s H scope (compEnvC scope cl C X.env) fp) W0 L k elt f)
    (gs : GSem X.K g gf is) (hs : ∀ i ∈ is, i ∈ own.map (·.2)) (hL : ∀ i ∈ is, L.getD i 0 = 0) (hfs : ∀ x, foldedSetIterable iter X.env x = pure x := by intro _; rfl) :
    EO X W L (k + 1) (.ListComp elt [⟨tg, iter, ifs, 0⟩] scope pos) (eLc fI (own.map (·.2)) gf ft f) :=
  PE.imp (pe_lc hc hN hi ok hg ht he hfs) fun σ H Q h => lc_imp gs hs hL h
end

/-! ### a def's names -/
section
variable {K : PySem.W.Frag} {H0 H H1 H2 : Hp} {mb : Option Nat} {ex0 : CS mb} {G : List (D × V)} {L : List Nat} {ρ : Env} {σ : L2.St} {fp : Nat → List Addr}
abbrev exOf {mb : Option Nat} (fp : Nat → List Addr) (ex0 : CS mb) : AS := fun a => (∃ i, a ∈ fp i) ∨ ex0 a
/-- the object whose method it is stays in its slot -/
theorem h0_of {kr : RM} {i : Nat} (ex0 : CS kr.b) (h : kr.b ≠ some i) : kr.b ≠ some i := h
theorem h0_all {kr : RM} {is : List Nat} (ex0 : CS kr.b) (h : ∀ i ∈ is, kr.b ≠ some i) : ∀ i ∈ is, kr.b ≠ some i := h
theorem Slf.set {σ : L2.St} (s : Slf ex0 σ) {i : Nat} {u : Option V} (h0 : mb ≠ some i) : Slf ex0 (σ.set i u) := fun j v e h => by
  rw [List.getElem?_set_ne fun q => h0 (by rw [q]; exact e)]
  exact s j v e h
theorem SS.up (S : SS K H0 ex0 G L ρ σ H fp) (e : Same H H1) : SS K H0 ex0 G L ρ σ H1 fp := ⟨S.si.same e, S.own, S.old, S.same.trans (Keep.same e), S.slf, fun g hg => (S.held g hg).same e⟩
theorem SS.tail {g : D × V} (S : SS K H0 ex0 (g :: G) L ρ σ H fp) : SS K H0 ex0 G L ρ σ H fp := ⟨S.si, S.own, S.old, S.same, S.slf, fun g hg => S.held g (List.mem_cons_of_mem _ hg)⟩
theorem SS.hold {g : D × V} (S : SS K H0 ex0 G L ρ σ H fp) (r : R K (exOf fp ex0) H g.1 g.2) : SS K H0 ex0 (g :: G) L ρ σ H fp := ⟨S.si, S.own, S.old, S.same, S.slf, fun h hg => by
  rcases List.mem_cons.mp hg with rfl | hg
  · exact r
  · exact S.held h hg⟩
theorem SS.ex_ne (S : SS K H0 ex0 G L ρ σ H fp) {i : Nat} {a : Addr} (h : a ∈ fp i) : ¬ ex0 a := fun q => by
  rcases S.own i a h with z | z
  · exact (S.old a q).1 z
  · exact (S.old a q).2 z
theorem SS.own2 (S : SS K H0 ex0 G L ρ σ H fp) {a : Addr} (h : H a = none) : H0 a = none ∨ ex0.io a := .inl (S.same.free h)
/-- another division of what is owned; nothing in the heap changes -/
theorem SS.re (S : SS K H0 ex0 G L ρ σ H fp) {L' : List Nat} {ρ' : Env} {σ' : L2.St} {fp' : Nat → List Addr} (e : Same H H1) (len : ρ'.length = σ'.length)
    (val : ∀ i d, ρ'[i]? = some (some d) → ∃ v, σ'[i]? = some (some v) ∧ RO K (exOf fp' ex0) H1 (L'.getD i 0) d v (fp' i)) (nod : ∀ i, (fp' i).Nodup) (dis : ∀ i j a, a ∈ fp' i → a ∈ fp' j → i = j)
    (new : ∀ i a, a ∈ fp' i → a ∈ fp i ∨ H a = none) (there : ∀ i a, a ∈ fp' i → H1 a ≠ none) (slf : Slf ex0 σ') : SS K H0 ex0 G L' ρ' σ' H1 fp' where
  si := ⟨len, val, nod, dis, fun i a h => .inl ⟨i, h⟩, fun a h q => by
    rcases h with ⟨i, h⟩ | h
    · exact there i a h q
    · exact S.si.ext a (.inr h) (e.free q)⟩
  own := fun i a h => by
    rcases new i a h with q | q
    · exact S.own i a q
    · exact S.own2 q
  old := S.old
  same := S.same.trans (Keep.same e)
  slf := slf
  held := fun g hg => R.keep (Keep.same e) (fun a h => by
    rcases h with ⟨i, h⟩ | h
    · rcases new i a h with q | q
      · exact .inl (.inl ⟨i, q⟩)
      · exact .inr q
    · exact .inl (.inr h)) _ (S.held g hg)
theorem getD_set_eq {L : List Nat} {i k : Nat} (h : i < L.length) : (L.set i k).getD i 0 = k := by
  rw [List.getD_eq_getElem?_getD, List.getElem?_set_self h]
  rfl
theorem getD_set_ne {L : List Nat} {i j k : Nat} (h : i ≠ j) : (L.set i k).getD j 0 = L.getD j 0 := by
  rw [List.getD_eq_getElem?_getD, List.getElem?_set_ne h, List.getD_eq_getElem?_getD]
theorem slf_set (S : SS K H0 ex0 G L ρ σ H fp) {i : Nat} {u : Option V} (h0 : mb ≠ some i) : Slf ex0 (σ.set i u) := S.slf.set h0
/-- a value, new or shared, is stored -/
theorem SS.put (S : SS K H0 ex0 G L ρ σ H fp) (e : Same H H1) {i k : Nat} {d : D} {v : V} {fq : List Addr} (r : RO K (fun a => a ∈ fq ∨ exOf fp ex0 a) H1 k d v fq) (nd : fq.Nodup) (nw : ∀ a ∈ fq, H a = none) (hi : i < L.length) (h0 : mb ≠ some i) :
    ∃ fp', SS K H0 ex0 G (L.set i k) (ρ.set i (some d)) (σ.set i (some v)) H1 fp' := by
  have nd2 : ∀ j a, a ∈ fq → a ∈ fp j → False := fun j a h1 h2 => S.si.ext a (.inl ⟨j, h2⟩) (nw a h1)
  refine ⟨fun j => if j = i then fq else fp j, S.re e ?_ (fun j d' h => ?_) (fun j => ?_) (fun j l a h1 h2 => ?_) (fun j a h => ?_) (fun j a h => ?_) (slf_set S h0)⟩
  · rw [List.length_set, List.length_set]
    exact S.si.len
  · by_cases ej : i = j
    · subst ej
      by_cases hl : i < ρ.length
      · rw [List.getElem?_set_self hl] at h
        cases h
        refine ⟨v, List.getElem?_set_self (by rw [← S.si.len]; exact hl), ?_⟩
        rw [getD_set_eq hi, if_pos rfl]
        refine r.less fun a h => .inl ?_
        rcases h with ⟨l, h⟩ | h
        · have h : a ∈ (if l = i then fq else fp l) := h
          split at h
          · exact .inl h
          · exact .inr (.inl ⟨l, h⟩)
        · exact .inr (.inr h)
      · rw [List.getElem?_eq_none (by rw [List.length_set]; omega)] at h
        cases h
    · rw [List.getElem?_set_ne ej] at h
      obtain ⟨u, h1, h2⟩ := S.si.val j d' h
      refine ⟨u, by rw [List.getElem?_set_ne ej]; exact h1, ?_⟩
      rw [getD_set_ne ej]
      show RO K _ H1 _ d' u (if j = i then fq else fp j)
      rw [if_neg (fun q => ej q.symm)]
      refine RO.keep (Keep.same e) (fun a h => ?_) (fun a _ o q => e a o q) h2
      rcases h with ⟨l, h⟩ | h
      · have h : a ∈ (if l = i then fq else fp l) := h
        split at h
        · exact .inr (nw a h)
        · exact .inl (.inl ⟨l, h⟩)
      · exact .inl (.inr h)
  · show (if j = i then fq else fp j).Nodup
    split
    · exact nd
    · exact S.si.nod j
  · have h1 : a ∈ (if j = i then fq else fp j) := h1
    have h2 : a ∈ (if l = i then fq else fp l) := h2
    split at h1
    · split at h2
      · rename_i a1 a2
        rw [a1, a2]
      · exact (nd2 _ _ h1 h2).elim
    · split at h2
      · exact (nd2 _ _ h2 h1).elim
      · exact S.si.dis j l a h1 h2
  · have h : a ∈ (if j = i then fq else fp j) := h
    split at h
    · exact .inr (nw a h)
    · exact .inl h
  · have h : a ∈ (if j = i then fq else fp j) := h
    split at h
    · exact r.there a h
    · exact fun q => S.si.ext a (.inl ⟨j, h⟩) (e.free q)
/-- what a slot owns is given up: others may know it from now on -/
theorem SS.drop (S : SS K H0 ex0 G L ρ σ H fp) (i : Nat) : ∃ fp', SS K H0 ex0 G (L.set i 0) ρ σ H fp' := by
  refine ⟨fun j => if j = i then [] else fp j, S.re (Same.refl H) S.si.len (fun j d' h => ?_) (fun j => ?_) (fun j l a h1 h2 => ?_) (fun j a h => ?_) (fun j a h => ?_) S.slf⟩
  · obtain ⟨u, h1, h2⟩ := S.si.val j d' h
    refine ⟨u, h1, ?_⟩
    have le : ∀ a, exOf (fun j => if j = i then [] else fp j) ex0 a → exOf fp ex0 a := fun a h => by
      rcases h with ⟨l, h⟩ | h
      · have h : a ∈ (if l = i then [] else fp l) := h
        split at h
        · cases h
        · exact .inl ⟨l, h⟩
      · exact .inr h
    by_cases ej : i = j
    · subst ej
      have e0 : (L.set i 0).getD i 0 = 0 := by
        by_cases hl : i < L.length
        · exact getD_set_eq hl
        · rw [List.getD_eq_getElem?_getD, List.getElem?_eq_none (by rw [List.length_set]; omega)]
          rfl
      rw [e0, if_pos rfl]
      refine ⟨rfl, h2.shared le fun a ha q => ?_⟩
      rcases q with ⟨l, q⟩ | q
      · have q : a ∈ (if l = i then [] else fp l) := q
        split at q
        · cases q
        · rename_i hl
          exact hl (S.si.dis l i a q ha)
      · exact S.ex_ne ha q
    · rw [getD_set_ne ej]
      show RO K _ H _ d' u (if j = i then [] else fp j)
      rw [if_neg (fun q => ej q.symm)]
      exact h2.less fun a h => .inl (le a h)
  · show (if j = i then [] else fp j).Nodup
    split
    · exact List.nodup_nil
    · exact S.si.nod j
  · have h1 : a ∈ (if j = i then [] else fp j) := h1
    have h2 : a ∈ (if l = i then [] else fp l) := h2
    split at h1
    · cases h1
    · split at h2
      · cases h2
      · exact S.si.dis j l a h1 h2
  · have h : a ∈ (if j = i then [] else fp j) := h
    split at h
    · cases h
    · exact .inl h
  · have h : a ∈ (if j = i then [] else fp j) := h
    split at h
    · cases h
    · exact S.si.ext a (.inl ⟨j, h⟩)
/-- all is given up -/
theorem SS.dropAll (S : SS K H0 ex0 G L ρ σ H fp) : SS K H0 ex0 G [] ρ σ H fun _ => [] := by
  refine S.re (Same.refl H) S.si.len (fun j d' h => ?_) (fun j => List.nodup_nil) (fun j l a h1 h2 => nomatch h1) (fun j a h => nomatch h) (fun j a h => nomatch h) S.slf
  obtain ⟨u, h1, h2⟩ := S.si.val j d' h
  refine ⟨u, h1, rfl, h2.shared (fun a h => ?_) fun a ha q => ?_⟩
  · rcases h with ⟨l, h⟩ | h
    · cases h
    · exact .inr h
  · rcases q with ⟨l, q⟩ | q
    · cases q
    · exact S.ex_ne ha q
theorem SS.kill (S : SS K H0 ex0 G L ρ σ H fp) (is : List Nat) : SS K H0 ex0 G L (wipeE ρ is) σ H fp :=
  ⟨⟨by rw [wipeE_length]; exact S.si.len, fun i d h => S.si.val i d (wipeE_some h).1, S.si.nod, S.si.dis, S.si.sub, S.si.ext⟩, S.own, S.old, S.same, S.slf, S.held⟩
theorem slf_sets : ∀ (l : Sets) {σ : L2.St}, Slf ex0 σ → (∀ t ∈ l, mb ≠ some t.1) → Slf ex0 (setS σ l)
  | [], _, h, _ => h
  | t :: l, σ, h, h0 => slf_sets l (σ := σ.set t.1 (some t.2.2)) (h.set (h0 t List.mem_cons_self)) (fun u hu => h0 u (List.mem_cons_of_mem _ hu))
/-- shared values are stored in shared slots -/
theorem SS.sets (S : SS K H0 ex0 G L ρ σ H fp) (l : Sets) (h : ∀ t ∈ l, R K (exOf fp ex0) H t.2.1 t.2.2 ∧ L.getD t.1 0 = 0) (h0 : ∀ t ∈ l, mb ≠ some t.1) : ∃ fp', SS K H0 ex0 G L (setE ρ l) (setS σ l) H fp' := by
  obtain ⟨fp', I', m⟩ := SI.sets l S.si h
  refine ⟨fp', S.re (Same.refl H) I'.len (fun i d hd => ?_) I'.nod I'.dis (fun i a h => .inl (m i a h)) (fun i a h => I'.ext a (I'.sub i a h)) (slf_sets l S.slf h0)⟩
  obtain ⟨v, h1, h2⟩ := I'.val i d hd
  refine ⟨v, h1, h2.less fun a q => .inl ?_⟩
  rcases q with ⟨j, q⟩ | q
  · exact .inl ⟨j, m j a q⟩
  · exact .inr q
/-- what the slot i owns is changed -/
theorem SS.mut (S : SS K H0 ex0 G L ρ σ H fp) {i : Nat} {g : AS} (hg : ∀ b, g b → b ∈ fp i) (kp : Keep g H H2) {dN : D} {vN : V} {fqN : List Addr} (hσ : σ[i]? = some (some vN))
    (r : RO K (exOf (fun j => if j = i then fqN else fp j) ex0) H2 (L.getD i 0) dN vN fqN) (nd : fqN.Nodup) (nw : ∀ b ∈ fqN, b ∈ fp i ∨ H b = none) :
    SS K H0 ex0 G L (ρ.set i (some dN)) σ H2 fun j => if j = i then fqN else fp j := by
  have kp1 : Keep (exOf fp ex0) H H2 := kp.more fun b h => .inl ⟨i, hg b h⟩
  have le : ∀ b, exOf (fun j => if j = i then fqN else fp j) ex0 b → exOf fp ex0 b ∨ H b = none := fun b h => by
    rcases h with ⟨l, h⟩ | h
    · have h : b ∈ (if l = i then fqN else fp l) := h
      split at h
      · rcases nw b h with q | q
        · exact .inl (.inl ⟨i, q⟩)
        · exact .inr q
      · exact .inl (.inl ⟨l, h⟩)
    · exact .inl (.inr h)
  have nd2 : ∀ j b, j ≠ i → b ∈ fqN → b ∈ fp j → False := fun j b hj h1 h2 => by
    rcases nw b h1 with q | q
    · exact hj (S.si.dis j i b h2 q)
    · exact S.si.ext b (.inl ⟨j, h2⟩) q
  refine ⟨⟨by rw [List.length_set]; exact S.si.len, fun j d' h => ?_, fun j => ?_, fun j l b h1 h2 => ?_, fun j b h => .inl ⟨j, h⟩, fun b h q => ?_⟩, fun j b h => ?_, S.old, ?_, S.slf, fun g hg => R.keep kp1 le _ (S.held g hg)⟩
  · by_cases ej : i = j
    · subst ej
      by_cases hl : i < ρ.length
      · rw [List.getElem?_set_self hl] at h
        cases h
        refine ⟨_, hσ, ?_⟩
        rw [if_pos rfl]
        exact r
      · rw [List.getElem?_eq_none (by rw [List.length_set]; omega)] at h
        cases h
    · rw [List.getElem?_set_ne ej] at h
      obtain ⟨u, h1, h2⟩ := S.si.val j d' h
      refine ⟨u, h1, ?_⟩
      show RO K _ _ _ d' u (if j = i then fqN else fp j)
      rw [if_neg (fun q => ej q.symm)]
      refine RO.keep kp1 le (fun b hb o q => ?_) h2
      exact kp.obj b o (fun z => ej (S.si.dis i j b (hg b z) hb)) q
  · show (if j = i then fqN else fp j).Nodup
    split
    · exact nd
    · exact S.si.nod j
  · have h1 : b ∈ (if j = i then fqN else fp j) := h1
    have h2 : b ∈ (if l = i then fqN else fp l) := h2
    split at h1
    · split at h2
      · rename_i a1 a2
        rw [a1, a2]
      · rename_i hl
        exact (nd2 _ _ hl h1 h2).elim
    · split at h2
      · rename_i hj _
        exact (nd2 _ _ hj h2 h1).elim
      · exact S.si.dis j l b h1 h2
  · rcases h with ⟨l, h⟩ | h
    · have h : b ∈ (if l = i then fqN else fp l) := h
      split at h
      · exact r.there b h q
      · exact S.si.ext b (.inl ⟨l, h⟩) (kp.free q)
    · exact S.si.ext b (.inr h) (kp.free q)
  · have h : b ∈ (if j = i then fqN else fp j) := h
    split at h
    · rcases nw b h with q | q
      · exact S.own i b q
      · exact S.own2 q
    · exact S.own j b h
  · refine ⟨fun a xs h => kp.tup a xs (S.same.tup a xs h), fun a o n h => kp.obj a o (fun z => ?_) (S.same.obj a o n h), fun a h => kp.there a (S.same.there a h)⟩
    rcases S.own i a (hg a z) with q | q
    · rw [q] at h
      cases h
    · exact n q
/-- the object at a, owned by the slot i, is changed -/
theorem SS.upd (S : SS K H0 ex0 G L ρ σ H fp) (e : Same H H1) {i : Nat} {a : Addr} {o o' : HO} {dN : D} {vN : V} {fqN : List Addr} (hσ : σ[i]? = some (some vN)) (ha : a ∈ fp i) (hH : H a = some o) (nt : ∀ ys, o ≠ .tup ys)
    (r : RO K (exOf (fun j => if j = i then fqN else fp j) ex0) (L2.upd H1 a o') (L.getD i 0) dN vN fqN) (nd : fqN.Nodup) (nw : ∀ b ∈ fqN, b ∈ fp i ∨ H b = none) :
    SS K H0 ex0 G L (ρ.set i (some dN)) σ (L2.upd H1 a o') fun j => if j = i then fqN else fp j :=
  S.mut (g := fun b => b = a) (fun b h => by rw [h]; exact ha) (Keep.upd e hH nt rfl) hσ r nd nw
end
end Px

namespace Px
open PySem PySem.Spec PyProof.Rows L2

/-! ### statements -/
/-- an outcome's wish -/
def FOut (X : Cx) (W : WX) (kr : RM) (Lb L' : List Nat) (ex0 : CS kr.b) (G : List (D × V)) (Dn : Ends) (r : Flow) : Prop := match r with
  | .next ρ' => ∀ σ' H' fp', SS X.K X.H_0 ex0 G L' ρ' σ' H' fp' → Dn.nx σ' H'
  | .brk ρ' => ∀ σ' H' fp', SS X.K X.H_0 ex0 G Lb ρ' σ' H' fp' → Dn.bk σ' H'
  | .cont ρ' => ∀ σ' H' fp', SS X.K X.H_0 ex0 G Lb ρ' σ' H' fp' → Dn.ct σ' H'
  | .ret d => match kr with
    | .r kr => ∀ v H' fq, Keep ex0.io X.H_0 H' → RO X.K (fun a => a ∈ fq ∨ ex0 a) H' kr d v fq → fq.Nodup → (∀ a ∈ fq, X.H_0 a = none) → Dn.rt v H'
    | .m kr km _ => ∃ d1 s1, d = .tup [d1, s1] ∧ ∀ v u H' fq fs, ex0.sv = some u → Keep ex0.io X.H_0 H' → RO X.K (fun a => a ∈ fq ∨ a ∈ fs ∨ ex0 a) H' kr d1 v fq → RO X.K (fun a => a ∈ fq ∨ a ∈ fs ∨ ex0 a) H' km s1 u fs → fq.Nodup → fs.Nodup → (∀ a ∈ fq, X.H_0 a = none ∧ a ∉ fs) → (∀ a ∈ fs, X.H_0 a = none ∨ ex0.io a) → Dn.rt v H'
  | .exc c ρ' => ∀ C, X.mg c = some (.ref C) → ∀ σ' H' fp', SS X.K X.H_0 ex0 G [] ρ' σ' H' fp' → W (.ref C) none σ' H'
  | .err => False
def tS (X : Cx) (W : WX) (kr : RM) (Lb L L' : List Nat) (F : SF) : TS := fun Dn σ H => ∃ (ex0 : CS kr.b) (G : List (D × V)) (ρ : Px.Env) (fp : Nat → List Addr), SS X.K X.H_0 ex0 G L ρ σ H fp ∧ FOut X W kr Lb L' ex0 G Dn (F ρ)
abbrev SJ (X : Cx) (W : WX) (kr : RM) (Lb L L' : List Nat) (st : Stmt) (F : SF) : Prop := PS X st (tS X W kr Lb L L' F)
abbrev SJs (X : Cx) (W : WX) (kr : RM) (Lb L L' : List Nat) (st : List Stmt) (F : SF) : Prop := PSs X st (tS X W kr Lb L L' F)
def sNext : SF := fun ρ => .next ρ
def sSeq (F G : SF) : SF := fun ρ => match F ρ with
  | .next ρ' => G ρ'
  | r => r
/-- an expression's outcome, then a statement's -/
def Res.flow {α : Type} (r : Res α) (ρ : Env) (k : α → Flow) : Flow := match r with
  | .ok a => k a
  | .exc c => .exc c ρ
  | .err => .err
@[simp] theorem flow_ok {α : Type} (a : α) (ρ : Env) (k : α → Flow) : (Res.ok a).flow ρ k = k a := id rfl
@[simp] theorem flow_exc {α : Type} (c : Str) (ρ : Env) (k : α → Flow) : (Res.exc c : Res α).flow ρ k = .exc c ρ := id rfl
@[simp] theorem flow_err {α : Type} (ρ : Env) (k : α → Flow) : (Res.err : Res α).flow ρ k = .err := id rfl
section
variable {X : Cx} {W : WX} {kr : RM} {n m k : Nat} {Lb L L1 Lc : List Nat} {st : Stmt} {sts a b : List Stmt} {F G : SF} {e c : Expr} {f : EF} {ft : Env → Res Bool} {pos : Pos}
theorem FOut.nx {L' : List Nat} {ex0 : CS kr.b} {Gs : List (D × V)} {Dn : Ends} {nx : L2.St → Hp → Prop} {r : Flow} (h : FOut X W kr Lb L' ex0 Gs Dn r) (hn : ∀ ρ', r ≠ .next ρ') : FOut X W kr Lb L1 ex0 Gs { Dn with nx := nx } r := by
  cases r with
  | next ρ' => exact absurd rfl (hn ρ')
  | _ => exact h
/-- an expression ahead of the rest of a statement -/
theorem flow_out {α : Type} {r : Res α} {ρ : Env} {σ : L2.St} {H : Hp} {fp : Nat → List Addr} {L' : List Nat} {ex0 : CS kr.b} {Gs : List (D × V)} {Dn : Ends} {kk : α → Flow} (S : SS X.K X.H_0 ex0 Gs L ρ σ H fp) (h : FOut X W kr Lb L' ex0 Gs Dn (r.flow ρ kk)) :
    Out X W σ H r fun a => FOut X W kr Lb L' ex0 Gs Dn (kk a) := by
  cases r with
  | ok a => exact h
  | exc c => exact fun C hC H' e => h C hC σ H' _ (S.dropAll.up e)
  | err => exact h
theorem sjs_nil : SJs X W kr Lb L L [] sNext := PSs.imp pss_nil fun Dn σ H ⟨ex0, Gs, ρ, fp, S, o⟩ => o σ H fp S
theorem sjs_cons (h1 : SJ X W kr Lb L L1 st F) (h2 : SJs X W kr Lb L1 Lc sts G) : SJs X W kr Lb L Lc (st :: sts) (sSeq F G) := PSs.imp (pss_cons h1 h2) fun Dn σ H ⟨ex0, Gs, ρ, fp, S, o⟩ => by
  refine ⟨ex0, Gs, ρ, fp, S, ?_⟩
  unfold sSeq at o
  cases q : F ρ with
  | next ρ' =>
    rw [q] at o
    exact fun σ' H' fp' S' => ⟨ex0, Gs, ρ', fp', S', o⟩
  | _ =>
    rw [q] at o
    exact o
theorem sjs_one (h1 : SJ X W kr Lb L L1 st F) : SJs X W kr Lb L L1 [st] F := pss_one h1
/-- a slot's list is known to others from here on -/
theorem sjs_drop (i : Nat) (h : SJs X W kr Lb (L.set i 0) L1 sts F) : SJs X W kr Lb L L1 sts F := PSs.imp h fun Dn σ H ⟨ex0, Gs, ρ, fp, S, o⟩ => by
  obtain ⟨fp', S'⟩ := S.drop i
  exact ⟨ex0, Gs, ρ, fp', S', o⟩
/-- slots are forgotten -/
def sKill (is : List Nat) (F : SF) : SF := fun ρ => F (wipeE ρ is)
theorem sjs_kill (is : List Nat) (h : SJs X W kr Lb L L1 sts F) : SJs X W kr Lb L L1 sts (sKill is F) := PSs.imp h fun Dn σ H ⟨ex0, Gs, ρ, fp, S, o⟩ => ⟨ex0, Gs, _, fp, S.kill is, o⟩
theorem sj_pass : SJ X W kr Lb L L (.Pass pos) sNext := PS.imp ps_pass fun Dn σ H ⟨ex0, Gs, ρ, fp, S, o⟩ => o σ H fp S
def sBreak : SF := fun ρ => .brk ρ
def sCont : SF := fun ρ => .cont ρ
theorem sj_break : SJ X W kr L L L1 (.Break pos) sBreak := PS.imp ps_break fun Dn σ H ⟨ex0, Gs, ρ, fp, S, o⟩ => o σ H fp S
theorem sj_cont : SJ X W kr L L L1 (.Continue pos) sCont := PS.imp ps_continue fun Dn σ H ⟨ex0, Gs, ρ, fp, S, o⟩ => o σ H fp S
def sRet (f : EF) : SF := fun ρ => (f ρ).flow ρ fun d => .ret d
theorem sj_ret (h : EO X W L k e f) : SJ X W (.r k) Lb L L1 (.Return (some e) pos) (sRet f) := PS.imp (ps_ret h) fun Dn σ H ⟨ex0, Gs, ρ, fp, S, o⟩ =>
  ⟨_, ρ, fp, S.si, (flow_out S o).mono fun d q v H' fq e r nd nw => q v H' fq (S.same.trans (Keep.same e)) (r.less fun a h => .inl (by
    rcases h with h | h
    · exact .inl h
    · exact .inr (.inr h))) nd fun a ha => S.same.free (nw a ha)⟩
def sRetN : SF := fun _ => .ret .non
theorem sj_retN : SJ X W (.r k) Lb L L1 (.Return none pos) sRetN := PS.imp ps_retN fun Dn σ H ⟨ex0, Gs, ρ, fp, S, o⟩ =>
  o .non H [] S.same (RO.flat (by rw [R]) rfl) List.nodup_nil fun a h => nomatch h
/-- a method hands back a value, and its object as it stands -/
def retA (sl : Nat) (ρ : Px.Env) (d : D) : Flow := match ρ.getD sl none with
  | some s => .ret (.tup [d, s])
  | none => .err
abbrev retM : Px.Env → D → Flow := retA 0
def sRetA (sl : Nat) (f : EF) : SF := fun ρ => (f ρ).flow ρ (retA sl ρ)
def sRetM (f : EF) : SF := fun ρ => (f ρ).flow ρ (retM ρ)
theorem retA_out {km sl : Nat} {ex0 : CS (RM.m k km sl).b} {Gs : List (D × V)} {ρ : Px.Env} {σ : L2.St} {H H' : Hp} {fp : Nat → List Addr} {Dn : Ends} {d : D} {v : V} {fq : List Addr} (S : SS X.K X.H_0 ex0 Gs L ρ σ H fp) (hL : L.getD sl 0 = km)
    (q : FOut X W (.m k km sl) Lb L1 ex0 Gs Dn (retA sl ρ d)) (e : Same H H') (r : RO X.K (fun a => a ∈ fq ∨ exOf fp ex0 a) H' k d v fq) (nd : fq.Nodup) (nw : ∀ a ∈ fq, H a = none) : Dn.rt v H' := by
  unfold retA at q
  cases hρ : ρ.getD sl none with
  | none =>
    rw [hρ] at q
    exact q.elim
  | some s =>
    rw [hρ] at q
    obtain ⟨d1, s1, ed, q⟩ := q
    cases ed
    obtain ⟨u, h1, h2⟩ := S.si.val sl s (getD_some hρ)
    rw [hL] at h2
    cases hs : ex0.sv with
    | none =>
      exact absurd hs (ex0.hv nofun)
    | some w =>
      have := S.slf sl w rfl hs
      rw [h1] at this
      cases this
      exact q v u H' fq (fp sl) hs (S.same.trans (Keep.same e)) (r.less fun a h => .inl (by
        rcases h with h | h | h
        · exact .inl h
        · exact .inr (.inl ⟨sl, h⟩)
        · exact .inr (.inr h))) (RO.keep (Keep.same e) (fun a h => by
        rcases h with h | h | h
        · exact .inr (nw a h)
        · exact .inl (.inl ⟨sl, h⟩)
        · exact .inl (.inr h)) (fun a _ o z => e a o z) h2) nd (S.si.nod sl) (fun a ha => ⟨S.same.free (nw a ha), fun z => S.si.ext a (.inl ⟨sl, z⟩) (nw a ha)⟩) (fun a ha => S.own sl a ha)
theorem sj_retA {km sl : Nat} (h : EO X W L k e f) (hL : L.getD sl 0 = km := by rfl) : SJ X W (.m k km sl) Lb L L1 (.Return (some e) pos) (sRetA sl f) := PS.imp (ps_ret h) fun Dn σ H ⟨ex0, Gs, ρ, fp, S, o⟩ =>
  ⟨_, ρ, fp, S.si, (flow_out S o).mono fun d q v H' fq e r nd nw => retA_out S hL q e r nd nw⟩
def sRetNA (sl : Nat) : SF := fun ρ => retA sl ρ .non
theorem sj_retNA {km sl : Nat} (hL : L.getD sl 0 = km := by rfl) : SJ X W (.m k km sl) Lb L L1 (.Return none pos) (sRetNA sl) := PS.imp ps_retN fun Dn σ H ⟨ex0, Gs, ρ, fp, S, o⟩ =>
  retA_out S hL o (Same.refl H) (RO.flat (by rw [R]) rfl) List.nodup_nil fun a h => nomatch h
theorem sj_retM {km : Nat} (h : EO X W L k e f) (hL : L.getD 0 0 = km := by rfl) : SJ X W (.m k km 0) Lb L L1 (.Return (some e) pos) (sRetM f) := PS.imp (ps_ret h) fun Dn σ H ⟨ex0, Gs, ρ, fp, S, o⟩ =>
  ⟨_, ρ, fp, S.si, (flow_out S o).mono fun d q v H' fq e r nd nw => retA_out S hL q e r nd nw⟩
def sRetNM : SF := fun ρ => retM ρ .non
theorem sj_retNM {km : Nat} (hL : L.getD 0 0 = km := by rfl) : SJ X W (.m k km 0) Lb L L1 (.Return none pos) sRetNM := PS.imp ps_retN fun Dn σ H ⟨ex0, Gs, ρ, fp, S, o⟩ =>
  retA_out S hL o (Same.refl H) (RO.flat (by rw [R]) rfl) List.nodup_nil fun a h => nomatch h
def sDrop (f : EF) : SF := fun ρ => (f ρ).flow ρ fun _ => .next ρ
theorem sj_expr (h : EB X W L n e f) (hs : swapsWith e none pos.line X.env = pure false := by rfl) : SJ X W kr Lb L L (.Expr e pos) (sDrop f) := PS.imp (ps_expr h hs) fun Dn σ H ⟨ex0, Gs, ρ, fp, S, o⟩ =>
  ⟨_, ρ, fp, S.si, (flow_out S o).mono fun d q v H' e r => q σ H' fp (S.up e)⟩
def sIf (t : Env → Res Bool) (F G : SF) : SF := fun ρ => (t ρ).flow ρ fun b => if b = true then F ρ else G ρ
theorem sj_if (hc : ET X W L c ft) (ha : SJs X W kr Lb L L1 a F) (hb : SJs X W kr Lb L L1 b G) : SJ X W kr Lb L L1 (.If c a b pos) (sIf ft F G) := PS.imp (ps_if hc ha hb) fun Dn σ H ⟨ex0, Gs, ρ, fp, S, o⟩ =>
  ⟨_, ρ, fp, S.si, (flow_out S o).mono fun t q H' e => by
    cases t with
    | true => exact ⟨ex0, Gs, ρ, fp, S.up e, q⟩
    | false => exact ⟨ex0, Gs, ρ, fp, S.up e, q⟩⟩
/-- x = e -/
def sSet (i : Nat) (f : EF) : SF := fun ρ => (f ρ).flow ρ fun d => .next (ρ.set i (some d))
theorem asg_imp {i k : Nat} (hi : i < L.length) (h0 : kr.b ≠ some i) {Dn : Ends} {σ : L2.St} {H : Hp} (h : tS X W kr Lb L (L.set i k) (sSet i f) Dn σ H) : tAsg (tO X W L k f) (gName i) Dn σ H := by
  obtain ⟨ex0, Gs, ρ, fp, S, o⟩ := h
  refine ⟨_, ρ, fp, S.si, (flow_out S o).mono fun d q v H' fq e r nd nw => ?_⟩
  obtain ⟨fp', S'⟩ := S.put e r nd nw hi (h0_of ex0 h0)
  exact q _ _ _ S'
theorem sj_set {i k : Nat} {x : Str} {pos' : Pos} (hN : X.N.Nodup) (hx' : X.N[i]? = some x) (hx : Loc X.env.scope x) (he : EO X W L k e f) (hi : i < L.length) (hs : swapsWith e (some (.Name x pos')) pos.line X.env = pure false := by rfl) (h0 : kr.b ≠ some i := by first | exact nofun | exact fun _ _ => nofun | decide)
    (hf : X.fn x = true ∨ X.env.scope.names.lookup x = some .local := by first | exact .inl rfl | exact .inr rfl | assumption) : SJ X W kr Lb L (L.set i k) (.Assign [.Name x pos'] e pos) (sSet i f) :=
  PS.imp (ps_set hN hx' hx he hs hf) fun Dn σ H h => asg_imp hi h0 h
/-- x = [.. for ..] where the model stores within the comprehension -/
theorem sj_setLc {i k : Nat} {y : Str} {py spos : Pos} {elt tg iter : Expr} {ifs : List Expr} {scope : Scope} {own : List (Str × Nat)} {fI : Env → Res (List D)} {gf : Env → D → Res Env} {g : TG} {is : List Nat}
    (hc : X.calm = true) (hN : X.N.Nodup) (hy : X.N[i]? = some y) (hyl : X.env.scope.names.lookup y = some .local) (hi' : i < L.length)
    (hsw : swapsWith (.ListComp elt [⟨tg, iter, ifs, 0⟩] scope pos) (some (.Name y py)) spos.line X.env = pure true) (hi : EI X W L 1 tg iter fI) (ok : BlkOk X.N X.env.scope scope own)
    (hg : ∀ (s : Shared) (H : Hp) (C : Addr) (cl : List (Str × Addr)) (fp : List Addr), PG (X.blk s H scope (compEnvC scope cl C X.env) fp) tg g)
    (ht : ∀ (s : Shared) (H : Hp) (C : Addr) (cl : List (Str × Addr)) (fp : List Addr), ETs (X.blk s H scope (compEnvC scope cl C X.env) fp) W0 L ifs ft)
    (he : ∀ (s : Shared) (H : Hp) (C : Addr) (cl : List (Str × Addr)) (fp : List Addr), EO (X.blk s H scope (compEnvC scope cl C X.env) fp) W0 L k elt f)
    (gs : GSem X.K g gf is) (hs : ∀ i ∈ is, i ∈ own.map (·.2)) (hL : ∀ i ∈ is, L.getD i 0 = 0) (hfs : ∀ x, foldedSetIterable iter X.env x = pure x := by intro _; rfl) (h0 : kr.b ≠ some i := by first | exact nofun | exact fun _ _ => nofun | decide) :
    SJ X W kr Lb L (L.set i (k + 1)) (.Assign [.Name y py] (.ListComp elt [⟨tg, iter, ifs, 0⟩] scope pos) spos) (sSet i (eLc fI (own.map (·.2)) gf ft f)) :=
  PS.imp (ps_setLc (te := tO X W0 L k f) (tt := tT X W0 L ft) hc hN hy hyl hsw hi ok hg ht he hfs) fun Dn σ H h => by
    have h2 := asg_imp hi' h0 h
    exact lc_imp gs hs hL h2
/-- a target that unpacks: shared values to shared slots -/
def sUnp (gf : Env → D → Res Env) (f : EF) : SF := fun ρ => (f ρ).flow ρ fun d => (noX' (gf ρ d)) where
  noX' : Res Env → Flow
    | .ok ρ' => .next ρ'
    | _ => .err
theorem sj_unp {tg : Expr} {g : TG} {gf : Env → D → Res Env} {is : List Nat} (hg : PG X tg g) (gs : GSem X.K g gf is) (he : EB X W L 0 e f) (hL : ∀ i ∈ is, L.getD i 0 = 0) (hs : swapsWithSole [tg] e pos.line X.env = pure false := by rfl) (hw : swappedStores [tg] e X.env = pure none := by rfl)
    (h1 : (assignEach [tg] X.env).map (·.2) = [assign tg X.env] := by rfl) (h0 : ∀ i ∈ is, kr.b ≠ some i := by first | exact nofun | exact fun _ _ => nofun | decide) : SJ X W kr Lb L L (.Assign [tg] e pos) (sUnp gf f) :=
  PS.imp (ps_asg he hg hs hw h1) fun Dn σ H ⟨ex0, Gs, ρ, fp, S, o⟩ => ⟨_, ρ, fp, S.si, (flow_out S o).mono fun d q v H' e r => by
    cases hg : gf ρ d with
    | ok ρ' =>
      rw [hg] at q
      refine gs _ v σ H' _ d ρ ρ' r hg fun l hl e2 => ?_
      obtain ⟨fp', S'⟩ := (S.up e).sets l (fun t ht => ⟨(hl t ht).1, hL _ (hl t ht).2⟩) fun t ht => h0_all ex0 h0 _ (hl t ht).2
      rw [← e2] at S'
      exact q _ _ _ S'
    | exc c =>
      rw [hg] at q
      exact q.elim
    | err =>
      rw [hg] at q
      exact q.elim⟩
/-- x += e, of ints and texts -/
def sAug (o : D → D → Res D) (i : Nat) (f : EF) : SF := fun ρ => (eVar i ρ).flow ρ fun a => (f ρ).flow ρ fun b => match o a b with
  | .ok d => .next (ρ.set i (some d))
  | _ => .err
theorem sj_aug {op : Operator} {o : D → D → Res D} {i : Nat} {x : Str} {pos' : Pos} (hN : X.N.Nodup) (hx' : X.N[i]? = some x) (hx : Loc X.env.scope x) (ho : Op2 X 0 0 0 (inplaceOp op) o) (he : EB X W L 0 e f) (hi : i < L.length) (hL : L.getD i 0 = 0)
    (h0 : kr.b ≠ some i := by first | exact nofun | exact fun _ _ => nofun | decide) (hf : X.fn x = true ∨ X.env.scope.names.lookup x = some .local := by first | exact .inl rfl | exact .inr rfl | assumption) : SJ X W kr Lb L (L.set i 0) (.AugAssign (.Name x pos') op e pos) (sAug o i f) :=
  PS.imp (ps_aug hN hx' hx he ho hf) fun Dn σ H ⟨ex0, Gs, ρ, fp, S, q⟩ => by
    unfold sAug at q
    cases ev : eVar i ρ with
    | exc c =>
      unfold eVar at ev
      split at ev <;> cases ev
    | err =>
      rw [ev] at q
      exact q.elim
    | ok d0 =>
      rw [ev, flow_ok] at q
      have hρ : ρ.getD i none = some d0 := by
        unfold eVar at ev
        split at ev
        · rename_i d hd
          cases ev
          exact hd
        · cases ev
      obtain ⟨v0, h1, h2⟩ := S.si.val i d0 (getD_some hρ)
      rw [hL] at h2
      refine ⟨v0, h1, _, ρ, fp, S.si, (flow_out S q).mono fun d1 q1 v1 H1 e1 r1 => ?_⟩
      cases ed : o d0 d1 with
      | ok d =>
        rw [ed] at q1
        refine ⟨_, d0, d1, d, (S.si.same e1).ext, (show R X.K _ H1 d0 v0 from h2.2.same e1), r1, ed, fun v H2 fq e2 ro nd nw => ?_⟩
        obtain ⟨fp', S'⟩ := (S.up e1).put e2 ro nd nw hi (h0_of ex0 h0)
        exact q1 _ _ _ S'
      | exc c =>
        rw [ed] at q1
        exact q1.elim
      | err =>
        rw [ed] at q1
        exact q1.elim

/-! ### loops -/
/-- behind a turn of a loop -/
def loopK (r : Flow) (k : Env → Flow) : Flow := match r with
  | .next ρ => k ρ
  | .cont ρ => k ρ
  | .brk ρ => .next ρ
  | .ret d => .ret d
  | .exc c ρ => .exc c ρ
  | .err => .err
@[simp] theorem loopK_next (ρ : Env) (k : Env → Flow) : loopK (.next ρ) k = k ρ := id rfl
@[simp] theorem loopK_cont (ρ : Env) (k : Env → Flow) : loopK (.cont ρ) k = k ρ := id rfl
@[simp] theorem loopK_brk (ρ : Env) (k : Env → Flow) : loopK (.brk ρ) k = .next ρ := id rfl
@[simp] theorem loopK_ret (d : D) (k : Env → Flow) : loopK (.ret d) k = .ret d := id rfl
@[simp] theorem loopK_exc (c : Str) (ρ : Env) (k : Env → Flow) : loopK (.exc c ρ) k = .exc c ρ := id rfl
@[simp] theorem loopK_err (k : Env → Flow) : loopK .err k = .err := id rfl
/-- what may not raise -/
def Res.must {α : Type} (r : Res α) (k : α → Flow) : Flow := match r with
  | .ok a => k a
  | _ => .err
@[simp] theorem must_ok {α : Type} (a : α) (k : α → Flow) : (Res.ok a).must k = k a := id rfl
@[simp] theorem must_exc {α : Type} (c : Str) (k : α → Flow) : (Res.exc c : Res α).must k = .err := id rfl
@[simp] theorem must_err {α : Type} (k : α → Flow) : (Res.err : Res α).must k = .err := id rfl
def forE (gf : Env → D → Res Env) (F : SF) : List D → Env → Flow
  | [], ρ => .next ρ
  | d :: ds, ρ => (gf ρ d).must fun ρ1 => loopK (F ρ1) (forE gf F ds)
def sFor (fI : Env → Res (List D)) (gf : Env → D → Res Env) (F : SF) : SF := fun ρ => (fI ρ).flow ρ fun ds => forE gf F ds ρ
theorem sj_for {tg iter : Expr} {g : TG} {gf : Env → D → Res Env} {is : List Nat} {fI : Env → Res (List D)} {body : List Stmt} (hp : PassesOwn (model X.prog X.w) X.A X.env X.xe) (hc : X.calm = true) (hi : EI X W L 0 tg iter fI) (hg : PG X tg g) (gs : GSem X.K g gf is) (hL : ∀ i ∈ is, L.getD i 0 = 0)
    (hb : SJs X W kr L L L body F) (hs : ∀ x, foldedSetIterable iter X.env x = pure x := by intro _; rfl) (h0 : ∀ i ∈ is, kr.b ≠ some i := by first | exact nofun | exact fun _ _ => nofun | decide) : SJ X W kr Lb L L (.For tg iter body [] pos) (sFor fI gf F) :=
  PS.imp (ps_for hp hc hi hg hb hs) fun Dn σ H ⟨ex0, Gs, ρ, fp, S, o⟩ => by
    refine ⟨_, ρ, fp, S.si, (flow_out S o).mono fun ds q J H1 gh e1 rg itn => ?_⟩
    refine ⟨fun i m σi Hi => i + m = ds.length ∧ ∃ ρi fpi, SS X.K X.H_0 ex0 (gh.2 :: gh.1 :: Gs) L ρi σi Hi fpi ∧ FOut X W kr Lb L ex0 Gs Dn (forE gf F (ds.drop i) ρi), ⟨ds.length, by omega, ρ, fp, ((S.up e1).hold rg.1).hold rg.2, q⟩, fun i m σi Hi hW => ?_⟩
    obtain ⟨em, ρi, fpi, Si, qi⟩ := hW
    have hold : HR X.K (exOf fpi ex0) Hi 0 gh := ⟨Si.held gh.1 (List.mem_cons_of_mem _ List.mem_cons_self), Si.held gh.2 List.mem_cons_self⟩
    by_cases hi : i < ds.length
    · refine .inr ⟨itn.go _ Hi i hold hi, fun σ' H' => ∃ m', m' < m ∧ i + 1 + m' = ds.length ∧ ∃ ρi fpi, SS X.K X.H_0 ex0 (gh.2 :: gh.1 :: Gs) L ρi σ' H' fpi ∧ FOut X W kr Lb L ex0 Gs Dn (forE gf F (ds.drop (i + 1)) ρi), fun σ' H' h => h, fun x H' hy => ?_⟩
      obtain ⟨d, hd⟩ : ∃ d, ds[i]? = some d := ⟨_, List.getElem?_eq_getElem hi⟩
      obtain ⟨e3, rx⟩ := itn.item _ Hi i d x H' hold hd hy
      have ed : ds.drop i = d :: ds.drop (i + 1) := by
        rw [List.drop_eq_getElem_cons hi]
        congr 1
        rw [List.getElem?_eq_getElem hi] at hd
        exact Option.some.inj hd
      rw [ed, forE] at qi
      cases hgf : gf ρi d with
      | exc c => rw [hgf] at qi; exact qi.elim
      | err => rw [hgf] at qi; exact qi.elim
      | ok ρ1 =>
        rw [hgf, must_ok] at qi
        refine gs _ x σi H' _ d ρi ρ1 rx hgf fun l hl e4 => ?_
        obtain ⟨fp', S'⟩ := (Si.up e3).sets l (fun t ht => ⟨(hl t ht).1, hL _ (hl t ht).2⟩) fun t ht => h0_all ex0 h0 _ (hl t ht).2
        rw [← e4] at S'
        refine ⟨ex0, gh.2 :: gh.1 :: Gs, ρ1, fp', S', ?_⟩
        cases hF : F ρ1 with
        | next ρ2 =>
          rw [hF] at qi
          exact fun σ2 H2 fp2 S2 => ⟨m - 1, by omega, by omega, ρ2, fp2, S2, qi⟩
        | cont ρ2 =>
          rw [hF] at qi
          exact fun σ2 H2 fp2 S2 => ⟨m - 1, by omega, by omega, ρ2, fp2, S2, qi⟩
        | brk ρ2 =>
          rw [hF] at qi
          exact fun σ2 H2 fp2 S2 => qi σ2 H2 fp2 S2.tail.tail
        | ret d =>
          rw [hF] at qi
          exact qi
        | exc c ρ2 =>
          rw [hF] at qi
          exact fun C hC σ2 H2 fp2 S2 => qi C hC σ2 H2 fp2 S2.tail.tail
        | err =>
          rw [hF] at qi
          exact qi.elim
    · have ei : i = ds.length := by omega
      rw [ei, List.drop_length, forE] at qi
      exact .inl ⟨by rw [ei]; exact itn.stop _ Hi hold, qi σi Hi fpi Si.tail.tail⟩
def whileE (t : Env → Res Bool) (F : SF) : Nat → Env → Flow
  | 0, _ => .err
  | n + 1, ρ => (t ρ).flow ρ fun b => if b = true then loopK (F ρ) (whileE t F n) else .next ρ
def sWhile (n : Nat) (t : Env → Res Bool) (F : SF) : SF := whileE t F n
theorem sj_while {body : List Stmt} (n : Nat) (hp : PassesOwn (model X.prog X.w) X.A X.env X.xe) (hc : ET X W L c ft) (hb : SJs X W kr L L L body F) : SJ X W kr Lb L L (.While c body [] pos) (sWhile n ft F) :=
  PS.imp (ps_while hp hc hb) fun Dn σ H ⟨ex0, Gs, ρ, fp, S, o⟩ => by
    refine ⟨fun m σi Hi => ∃ ρi fpi, SS X.K X.H_0 ex0 Gs L ρi σi Hi fpi ∧ FOut X W kr Lb L ex0 Gs Dn (whileE ft F m ρi), ⟨n, ρ, fp, S, o⟩, fun m σi Hi hW => ?_⟩
    obtain ⟨ρi, fpi, Si, qi⟩ := hW
    cases m with
    | zero => exact qi.elim
    | succ m =>
      rw [whileE] at qi
      refine ⟨_, ρi, fpi, Si.si, (flow_out Si qi).mono fun t q H' e => ?_⟩
      cases t with
      | false =>
        rw [if_neg Bool.false_ne_true] at q ⊢
        exact q σi H' fpi (Si.up e)
      | true =>
        rw [if_pos rfl] at q ⊢
        refine ⟨fun σ2 H2 => ∃ ρ2 fp2, SS X.K X.H_0 ex0 Gs L ρ2 σ2 H2 fp2 ∧ FOut X W kr Lb L ex0 Gs Dn (whileE ft F m ρ2), fun σ2 H2 h => ⟨m, Nat.lt_succ_self m, h⟩, ex0, Gs, ρi, fpi, Si.up e, ?_⟩
        cases hF : F ρi with
        | next ρ2 =>
          rw [hF] at q
          exact fun σ2 H2 fp2 S2 => ⟨ρ2, fp2, S2, q⟩
        | cont ρ2 =>
          rw [hF] at q
          exact fun σ2 H2 fp2 S2 => ⟨ρ2, fp2, S2, q⟩
        | brk ρ2 =>
          rw [hF] at q
          exact q
        | ret d =>
          rw [hF] at q
          exact q
        | exc c ρ2 =>
          rw [hF] at q
          exact q
        | err =>
          rw [hF] at q
          exact q.elim
end
end Px

namespace Px
open PySem PySem.Spec PyProof.Rows L2

/-! ### defs -/
/-- the promise of a def that does C -/
def Spec (K : PySem.W.Frag) (mg : Str → Option Value) (ar kr : Nat) (C : List D → Res D) : Sp := fun vs H Q E => vs.length = ar ∧ ∃ ex ds, (∀ a, ex a → H a ≠ none) ∧ Paired (R K ex H) ds vs ∧ match C ds with
  | .ok d => QO K ex H kr Q d
  | .exc c => ∀ Cl, mg c = some (.ref Cl) → ∀ H', Same H H' → E (.ref Cl) none H'
  | .err => False
def startE (n : Nat) (ds : List D) : Env := ds.map some ++ List.replicate (n - ds.length) none
/-- a body's meaning as a function of its arguments -/
def fnE (n : Nat) (F : SF) (ds : List D) : Res D := match F (startE n ds) with
  | .ret d => .ok d
  | .next _ => .ok .non
  | .exc c _ => .exc c
  | _ => .err
theorem start_val {K : PySem.W.Frag} {ex : AS} {H : Hp} {N : List Str} {ds : List D} {vs : List V} (h : Paired (R K ex H) ds vs) : ∀ (i : Nat) (d : D), (startE N.length ds)[i]? = some (some d) → ∃ v : V, (L2.start N vs)[i]? = some (some v) ∧ R K ex H d v := by
  intro i d e
  unfold startE at e
  unfold L2.start
  by_cases hi : i < ds.length
  · rw [List.getElem?_append_left (by rw [List.length_map]; exact hi), List.getElem?_map] at e
    cases q : ds[i]? with
    | none => rw [q] at e; cases e
    | some d' =>
      rw [q] at e
      cases e
      obtain ⟨v, h1, h2⟩ := Paired.get h q
      refine ⟨v, ?_, h2⟩
      rw [List.getElem?_append_left (by rw [List.length_map, ← h.length]; exact hi), List.getElem?_map, h1]
      rfl
  · rw [List.getElem?_append_right (by rw [List.length_map]; omega), List.getElem?_replicate] at e
    split at e <;> cases e
theorem getD_rep0 (n i : Nat) : (List.replicate n 0).getD i 0 = 0 := by
  rw [List.getD_eq_getElem?_getD, List.getElem?_replicate]
  split <;> rfl
section
variable {P : Program} {w : World} {K : PySem.W.Frag} {mg : Str → Option Value} {base : Heap}
theorem fn_ok {x qual : Str} {st : Stmt} {f : Addr} {fd : FuncData} {N ps : List Str} {k kr ar nN : Nat} {L L' : List Nat} {FF : SF} {C : List D → Res D} (F : Fun K x qual st f fd) (S : FnScope N ps (defScope st)) (hn : nN = N.length) (har : ar = ps.length) (hL0 : L = List.replicate nN 0) (hC : C = fnE nN FF)
    (h : ∀ (cdv : Value) (A : Around) (outer : List PySem.Env) (s : Shared) (H : Hp) (E : XK), Room k (A.deeper (envOfC qual (defScope st) s.heap.objs.size f cdv)) →
      SJs (cxOf (L2.CX P w) P w K mg base N qual (defScope st) f cdv A outer s H E) (fun cls d _ H => E cls d H) (.r kr) [] L L' (defBody st) FF) :
    FnOk P w K mg base (L2.CX P w) (k + 1) f fd ps (Spec K mg ar kr C) := by
  subst hn har hL0 hC
  refine F.okX S (fun vs H Q E h => h.1) (fun cdv A outer s H vs Q E hr hsp => ⟨_, h cdv A outer s H E hr, ?_⟩)
  obtain ⟨hl, ex, ds, ext, r, q⟩ := hsp
  let c0 : CS (RM.r kr).b := ⟨ex, fun _ => False, none, fun _ => rfl, fun q => absurd rfl q⟩
  have e0 : ∀ a, exOf (fun _ => []) c0 a → ex a := fun a z => by
    rcases z with ⟨_, z⟩ | z
    · cases z
    · exact z
  have hlen := r.length
  have SSi : SS K H c0 [] (List.replicate N.length 0) (startE N.length ds) (L2.start N vs) H fun _ => [] := by
    refine ⟨⟨?_, fun i d e => ?_, fun i => List.nodup_nil, fun i j a z => (nomatch z), fun i a z => (nomatch z), fun a z => ext a (e0 a z)⟩, fun i a z => (nomatch z), fun a z => ⟨ext a z, fun q => q⟩, Keep.same (Same.refl H), fun j v z => (nomatch z), fun g z => (nomatch z)⟩
    · unfold startE L2.start
      simp [hlen]
    · obtain ⟨v, h1, h2⟩ := start_val r i d e
      exact ⟨v, h1, by rw [getD_rep0]; exact ⟨rfl, h2.less fun a z => .inl (e0 a z)⟩⟩
  refine ⟨c0, [], startE N.length ds, fun _ => [], SSi, ?_⟩
  unfold fnE at q
  unfold FOut
  cases hF : FF (startE N.length ds) with
  | next ρ' =>
    rw [hF] at q
    intro σ' H' fp' S'
    exact q .non H' [] S'.same.toSame (RO.flat (by rw [R]) rfl) List.nodup_nil fun a z => nomatch z
  | ret d =>
    rw [hF] at q
    exact fun v H' fq kp r nd nw => q v H' fq kp.toSame r nd nw
  | exc c ρ' =>
    rw [hF] at q
    exact fun C hC σ' H' fp' S' => q C hC H' S'.same.toSame
  | brk ρ' =>
    rw [hF] at q
    exact q.elim
  | cont ρ' =>
    rw [hF] at q
    exact q.elim
  | err =>
    rw [hF] at q
    exact q.elim
end
section
variable {X : Cx} {W : WX} {L : List Nat} {n m k kr : Nat} {pos p : Pos} {e : Expr} {es : List Expr} {f : Addr} {fd : FuncData} {ps : List Str} {x : Str} {C : List D → Res D} {fs : Env → Res (List D)}
theorem eo_call (F : FnOk X.prog X.w X.K X.mg X.base (L2.CX X.prog X.w) k f fd ps (Spec X.K X.mg m kr C)) (hr : Room k X.A) (hg : Gl X x) (hm : X.mg x = some (.ref f)) (hk : PySem.W.keepIn X.K (.ref f) = true) (hb : Binds X.K fd ps []) (tk : Takes X W)
    (ha : EA X W L 0 m (e :: es) fs) (hdb : (x == ("__debug__" : Str)) = false := by decide) (he : starEach (e :: es) X.env = (false, eval e X.env) :: starEach es X.env := by rfl) (hpl : (backTo pos (starEach es X.env)).any (·.1) = false := by rfl) :
    EO X W L kr (.Call (.Name x p) (e :: es) [] pos) (eCall C fs) :=
  PE.imp (pe_callS F hr hg hm hk hb (fun σ => passAt tk σ) ha hdb he hpl) fun σ H Q ⟨ex, ρ, fp, I, o⟩ => ⟨ex, ρ, fp, I, o.bind.mono fun ds q vs H1 e1 r1 hl => by
    refine ⟨hl, ex, ds, (I.same e1).ext, r1, ?_⟩
    cases hC : C ds with
    | ok d =>
      rw [hC] at q
      exact fun v H2 fq e2 ro nd nw => q v H2 fq (e1.trans e2) ro nd fun a ha => e1.free (nw a ha)
    | exc c =>
      rw [hC] at q
      exact fun Cl hCl H' e2 => q Cl hCl H' (e1.trans e2)
    | err =>
      rw [hC] at q
      exact q.elim⟩
mutual
/-- no list within -/
def noL : D → Bool
  | .non => true
  | .bl _ => true
  | .int _ => true
  | .str _ => true
  | .tup xs => noLL xs
  | .lst _ => false
  | .dic _ _ _ => false
  | .ins _ _ _ => false
  | .set _ => false
  | .exc _ => false
  | .oth => false
def noLL : List D → Bool
  | [] => true
  | d :: ds => noL d && noLL ds
end
theorem noLL_all : ∀ xs : List D, noLL xs = xs.all noL
  | [] => by rw [noLL, List.all_nil]
  | x :: xs => by rw [noLL, List.all_cons, noLL_all xs]
mutual
theorem R.any {K : PySem.W.Frag} {ex ex' : AS} {H : Hp} : ∀ (d : D) {v : V}, noL d = true → R K ex H d v → R K ex' H d v
  | .non, _, _, h => by
    rw [R] at h ⊢
    exact h
  | .bl _, _, _, h => by
    rw [R] at h ⊢
    exact h
  | .int _, _, _, h => by
    rw [R] at h ⊢
    exact h
  | .str _, _, _, h => by
    rw [R] at h ⊢
    exact h
  | .tup ds, _, n, h => by
    rw [R] at h ⊢
    rw [noL] at n
    obtain ⟨a, xs, e, h1, h2⟩ := h
    exact ⟨a, xs, e, h1, RL.any ds n h2⟩
  | .lst _, _, n, _ => by
    rw [noL] at n
    cases n
  | .dic _ _ _, _, n, _ => by
    rw [noL] at n
    cases n
  | .ins _ _ _, _, n, _ => by
    rw [noL] at n
    cases n
  | .set _, _, n, _ => by
    rw [noL] at n
    cases n
  | .exc _, _, n, _ => by
    rw [noL] at n
    cases n
  | .oth, _, n, _ => by
    rw [noL] at n
    cases n
theorem RL.any {K : PySem.W.Frag} {ex ex' : AS} {H : Hp} : ∀ (ds : List D) {vs : List V}, noLL ds = true → RL K ex H ds vs → RL K ex' H ds vs
  | [], _, _, h => by
    rw [RL] at h ⊢
    exact h
  | d :: ds, _, n, h => by
    rw [RL] at h ⊢
    rw [noLL, Bool.and_eq_true] at n
    obtain ⟨v, r, e, h1, h2⟩ := h
    exact ⟨v, r, e, R.any d n.1 h1, RL.any ds n.2 h2⟩
end
/-- borrowed for a look: nothing is owned by anyone -/
theorem RB.look {K : PySem.W.Frag} {ex : AS} {H : Hp} : ∀ {n : Nat} {d : D} {v : V}, RB K ex H n d v → R K (fun _ => False) H d v
  | 0, _, _, h => R.less (fun a q => q.elim) h
  | n + 1, d, v, h => by
    cases c : isC d with
    | true =>
      obtain ⟨a, xs, e, h1, h2⟩ := (RB.cn c).mp h
      exact (R.cn c).mpr ⟨a, xs, e, h1.x fun q => q, RL.of (h2.mono fun _ _ q => RB.look q)⟩
    | false => exact R.less (fun a q => q.elim) ((RB.nc c).mp h)
/-- of its own to the depth k, no list below -/
def okP : Nat → D → Bool
  | 0, d => noL d
  | k + 1, d => if isC d = true then (kids d).all (okP k) else noL d
theorem P3.mapL {α β γ : Type} {F G : α → β → γ → Prop} : ∀ {as : List α} {bs : List β} {cs : List γ}, P3 F as bs cs → (∀ a ∈ as, ∀ b c, F a b c → G a b c) → P3 G as bs cs
  | _, _, _, .nil, _ => .nil
  | _, _, _, .cons x t, h => .cons (h _ List.mem_cons_self _ _ x) (P3.mapL t fun a ha => h a (List.mem_cons_of_mem _ ha))
theorem RO.any {K : PySem.W.Frag} {ex ex' : AS} {H : Hp} : ∀ (k : Nat) {d : D} {v : V} {fq : List Addr}, okP k d = true → RO K ex H k d v fq → RO K ex' H k d v fq
  | 0, d, _, _, h, r => by
    rw [RO] at r ⊢
    exact ⟨r.1, R.any d h r.2⟩
  | k + 1, d, v, fq, h, r => by
    cases c : isC d with
    | true =>
      rw [okP, if_pos c, List.all_eq_true] at h
      obtain ⟨a, xs, fps, o, e, h1, e2, h2⟩ := (RO.cn c).mp r
      exact (RO.cn c).mpr ⟨a, xs, fps, o, e, h1, e2, P3.mapL h2 fun x hx y z q => RO.any k (h x hx) q⟩
    | false =>
      rw [okP, if_neg (by rw [c]; decide)] at h
      obtain ⟨e, r⟩ := (RO.nc c).mp r
      exact (RO.nc c).mpr ⟨e, R.any d h r⟩
/-- a call that only looks at what is owned here: what it hands back is new to the depth k, no list below -/
def eCallP (k : Nat) (C : List D → Res D) (fs : Env → Res (List D)) : EF := fun ρ => fs ρ >>= fun ds => C ds >>= fun d => if okP k d = true then .ok d else .err
theorem look_out {W : WX} {σ : L2.St} {H H1 : Hp} {ex : AS} {ds : List D} {kr : Nat} {C : List D → Res D} {Q : VK} (e1 : Same H H1) (q : Out X W σ H (C ds >>= fun d => if okP kr d = true then .ok d else .err) fun d => ∀ v H' fq, Same H H' → RO X.K (fun a => a ∈ fq ∨ ex a) H' kr d v fq → fq.Nodup → (∀ a ∈ fq, H a = none) → Q v H') :
    match C ds with
    | .ok d => QO X.K (fun _ => False) H1 kr Q d
    | .exc c => ∀ Cl, X.mg c = some (.ref Cl) → ∀ H', Same H1 H' → W (.ref Cl) none σ H'
    | .err => False := by
  cases hC : C ds with
  | ok d =>
    rw [hC, Res.bind_ok] at q
    split at q
    · rename_i hn
      intro v H2 fq e2 ro nd nw
      exact q v H2 fq (e1.trans e2) (RO.any kr hn ro) nd fun a ha => e1.free (nw a ha)
    · exact q.elim
  | exc c =>
    rw [hC] at q
    exact fun Cl hCl H' e2 => q Cl hCl H' (e1.trans e2)
  | err =>
    rw [hC] at q
    exact q.elim
theorem eo_callP (F : FnOk X.prog X.w X.K X.mg X.base (L2.CX X.prog X.w) k f fd ps (Spec X.K X.mg m kr C)) (hr : Room k X.A) (hg : Gl X x) (hm : X.mg x = some (.ref f)) (hk : PySem.W.keepIn X.K (.ref f) = true) (hb : Binds X.K fd ps []) (tk : Takes X W)
    (ha : EA X W L n m (e :: es) fs) (hdb : (x == ("__debug__" : Str)) = false := by decide) (he : starEach (e :: es) X.env = (false, eval e X.env) :: starEach es X.env := by rfl) (hpl : (backTo pos (starEach es X.env)).any (·.1) = false := by rfl) :
    EO X W L kr (.Call (.Name x p) (e :: es) [] pos) (eCallP kr C fs) :=
  PE.imp (pe_callS F hr hg hm hk hb (fun σ => passAt tk σ) ha hdb he hpl) fun σ H Q ⟨ex, ρ, fp, I, o⟩ => ⟨ex, ρ, fp, I, o.bind.mono fun ds q vs H1 e1 r1 hl =>
    ⟨hl, fun _ => False, ds, fun a z => z.elim, r1.mono fun _ _ z => RB.look z, look_out e1 q⟩⟩
end

/-! ### kinds -/
def tyS : D → Option String
  | .non => some "NoneType"
  | .bl _ => some "bool"
  | .int _ => some "int"
  | .str _ => some "str"
  | .tup _ => some "tuple"
  | .lst _ => some "list"
  | _ => none
def isInt : D → Bool
  | .int _ => true
  | .bl _ => true
  | _ => false
def isBool : D → Bool
  | .bl _ => true
  | _ => false
def isStr : D → Bool
  | .str _ => true
  | _ => false
def isTup : D → Bool
  | .tup _ => true
  | _ => false
def isLst : D → Bool
  | .lst _ => true
  | _ => false
def Kind (T : String) (p : D → Bool) : Prop := ∀ d ty, tyS d = some ty → kitB ty T = some (p d)
theorem kind_int : Kind "int" isInt := fun d ty h => by
  cases d <;> cases h
  · exact (show kitB "NoneType" "int" = some false by decide +kernel)
  · exact (show kitB "bool" "int" = some true by decide +kernel)
  · exact (show kitB "int" "int" = some true by decide +kernel)
  · exact (show kitB "str" "int" = some false by decide +kernel)
  · exact (show kitB "tuple" "int" = some false by decide +kernel)
  · exact (show kitB "list" "int" = some false by decide +kernel)
theorem kind_bool : Kind "bool" isBool := fun d ty h => by
  cases d <;> cases h
  · exact (show kitB "NoneType" "bool" = some false by decide +kernel)
  · exact (show kitB "bool" "bool" = some true by decide +kernel)
  · exact (show kitB "int" "bool" = some false by decide +kernel)
  · exact (show kitB "str" "bool" = some false by decide +kernel)
  · exact (show kitB "tuple" "bool" = some false by decide +kernel)
  · exact (show kitB "list" "bool" = some false by decide +kernel)
theorem kind_str : Kind "str" isStr := fun d ty h => by
  cases d <;> cases h
  · exact (show kitB "NoneType" "str" = some false by decide +kernel)
  · exact (show kitB "bool" "str" = some false by decide +kernel)
  · exact (show kitB "int" "str" = some false by decide +kernel)
  · exact (show kitB "str" "str" = some true by decide +kernel)
  · exact (show kitB "tuple" "str" = some false by decide +kernel)
  · exact (show kitB "list" "str" = some false by decide +kernel)
theorem kind_tup : Kind "tuple" isTup := fun d ty h => by
  cases d <;> cases h
  · exact (show kitB "NoneType" "tuple" = some false by decide +kernel)
  · exact (show kitB "bool" "tuple" = some false by decide +kernel)
  · exact (show kitB "int" "tuple" = some false by decide +kernel)
  · exact (show kitB "str" "tuple" = some false by decide +kernel)
  · exact (show kitB "tuple" "tuple" = some true by decide +kernel)
  · exact (show kitB "list" "tuple" = some false by decide +kernel)
theorem kind_lst : Kind "list" isLst := fun d ty h => by
  cases d <;> cases h
  · exact (show kitB "NoneType" "list" = some false by decide +kernel)
  · exact (show kitB "bool" "list" = some false by decide +kernel)
  · exact (show kitB "int" "list" = some false by decide +kernel)
  · exact (show kitB "str" "list" = some false by decide +kernel)
  · exact (show kitB "tuple" "list" = some false by decide +kernel)
  · exact (show kitB "list" "list" = some true by decide +kernel)
theorem RB.ty {K : PySem.W.Frag} {ex : AS} {H : Hp} {n : Nat} {d : D} {v : V} {ty : String} (h : RB K ex H n d v) (e : tyS d = some ty) : TyX K H v (.type ty) := by
  cases d with
  | non =>
    cases e
    rw [h.non]
    exact .base .non
  | bl b =>
    cases e
    rw [h.bl]
    exact .base (.bl b)
  | int b =>
    cases e
    rw [h.int]
    exact .base (.int b)
  | str b =>
    cases e
    rw [h.str]
    exact .base (.str b)
  | tup xs =>
    cases e
    obtain ⟨a, ys, rfl, h1, _⟩ := h.tup
    rcases h1 with (h1 | ⟨o, h1⟩) | ⟨o, its, m, h1, h2, _⟩
    · exact .base (.tup h1)
    · exact .fTuple h1
    · exact .kTuple h1 h2
  | lst xs =>
    cases e
    obtain ⟨a, ys, rfl, h1, _⟩ := h.up.lst
    rcases h1 with (h1 | ⟨o, h1⟩) | ⟨o, its, m, h1, h2, _⟩
    · exact .base (.lst h1)
    · exact .base (.frz h1)
    · exact .kList h1 h2
  | _ => cases e
def dIsi (p : D → Bool) (d : D) : Res D := match tyS d with
  | some _ => .ok (.bl (p d))
  | none => .err
theorem dIsi_nx {p : D → Bool} : NoX1 (dIsi p) := fun a c h => by
  unfold dIsi at h
  split at h <;> cases h
section
variable {X : Cx} {W : WX} {L : List Nat} {n m k kr : Nat} {pos p p2 : Pos} {e : Expr} {f : EF}
theorem eo_isi {T : String} {pr : D → Bool} {t : Str} (hT : Kind T pr) (hg : Gl X "isinstance") (hm : X.mg "isinstance" = none) (hg2 : Gl X t) (hm2 : X.mg t = none) (hv2 : bootBuiltins t = some (.type T)) (he : EB X W L n e f)
    (hn2 : t ≠ "__name__" := by decide) (hdb2 : (t == ("__debug__" : Str)) = false := by decide)
    (hs1 : starEach [e, .Name t p2] X.env = (false, eval e X.env) :: starEach [.Name t p2] X.env := by rfl) (hs2 : starEach [.Name t p2] X.env = (false, eval (.Name t p2) X.env) :: starEach [] X.env := by rfl) (hpl : (backTo pos (starEach [.Name t p2] X.env)).any (·.1) = false := by rfl) :
    EO X W L k (.Call (.Name "isinstance" p) [e, .Name t p2] [] pos) (eUn (dIsi pr) f) :=
  PE.imp (pe_callB call_isi hg hm (by decide +kernel) (pa_cons he (pa_cons (pe_bltn (v := .ty T) hg2 hm2 hv2 rfl hn2 hdb2) pa_nil hs2) hs1) (by decide) (by decide) hs1 hpl) fun σ H Q ⟨ex, ρ, fp, I, o⟩ =>
    ⟨ex, ρ, fp, I, o.bind.mono fun d q v H1 e1 r1 => by
      obtain ⟨z, ez, qz⟩ := no_exc q (dIsi_nx d)
      unfold dIsi at ez
      split at ez
      · rename_i ty hty
        cases ez
        refine ⟨v, .ty T, .type ty, .type T, pr d, rfl, .ty T, r1.ty hty, kit_ty (hT d ty hty), ?_⟩
        exact QO.bl (K := X.K) (ex := ex) (k := k) fun v H2 fq e2 ro nd nw => qz v H2 fq (e1.trans e2) ro nd fun a ha => e1.free (nw a ha)
      · cases ez⟩
end

/-! ### lists that change -/
section
variable {X : Cx} {W : WX} {kr : RM} {n k : Nat} {Lb L : List Nat} {e : Expr} {f g : EF} {pos apos cpos npos : Pos} {x : Str} {i : Nat}
theorem own_list {K : PySem.W.Frag} {H0 H : Hp} {mb : Option Nat} {ex0 : CS mb} {G : List (D × V)} {ρ : Env} {σ : L2.St} {fp : Nat → List Addr} (S : SS K H0 ex0 G L ρ σ H fp) {xs : List D} (hρ : ρ.getD i none = some (.lst xs)) (hL : L.getD i 0 = k + 1) :
    ∃ a vs fps, σ[i]? = some (some (.ref a)) ∧ H a = some (.lst vs) ∧ vs.length ≤ sizeLine ∧ fp i = a :: fps.flatten ∧ P3 (RO K (exOf fp ex0) H k) xs vs fps := by
  obtain ⟨v, h1, h2⟩ := S.si.val i _ (getD_some hρ)
  rw [hL] at h2
  obtain ⟨a, vs, fps, o, rfl, ⟨⟨rfl, h3⟩, h4⟩, h5, h6⟩ := (RO.cn rfl).mp h2
  exact ⟨a, vs, fps, h1, h4, h3, h5, h6⟩
def sAppend (i : Nat) (f : EF) : SF := fun ρ => match ρ.getD i none with
  | some (.lst xs) => (f ρ).flow ρ fun d => if xs.length < sizeLine then .next (ρ.set i (some (.lst (xs ++ [d])))) else .err
  | _ => .err
theorem sj_append (hx' : X.N[i]? = some x) (hv : Vis X.env.scope x) (hL : L.getD i 0 = k + 1) (he : EO X W L k e f) (hd : (x == ("__debug__" : Str)) = false := by decide) (hcd : (x == ("__classdict__" : Str)) = false := by decide)
    (hbase : attributeBase (.Name x npos) "append" X.env (eval (.Name x npos) X.env) = eval (.Name x npos) X.env := by rfl)
    (hfew : ((backTo cpos (starEach [e] X.env)).all (fun x => !x.1) && (backToKw cpos (keywordEach [] X.env)).all (fun x => x.1.isSome)
      && decide ([e].length + ([] : List Keyword).length + (if ([] : List Keyword).isEmpty then 0 else 1) < 30)) = true := by rfl)
    (hline : (apos.endLine == cpos.line) = true := by rfl) (hs : starEach [e] X.env = (false, eval e X.env) :: starEach [] X.env := by rfl) (hplain : (backTo cpos (starEach [] X.env)).any (·.1) = false := by rfl)
    (hsw : swapsWith (.Call (.Attribute (.Name x npos) "append" apos) [e] [] cpos) none pos.line X.env = pure false := by rfl) :
    SJ X W kr Lb L L (.Expr (.Call (.Attribute (.Name x npos) "append" apos) [e] [] cpos) pos) (sAppend i f) :=
  PS.imp (ps_expr (pe_bm PySem.F.plainAttrs_list PySem.F.slot_list_append PySem.F.type_list_append mt_append (pe_var hx' hv hd hcd) (pa_cons he pa_nil hs) hbase hfew hline hs hplain) hsw) fun Dn σ H ⟨ex0, Gs, ρ, fp, S, o⟩ => by
    unfold sAppend at o
    cases hρ : ρ.getD i none with
    | none => rw [hρ] at o; exact o.elim
    | some d0 =>
      rw [hρ] at o
      cases d0 with
      | lst xs =>
        obtain ⟨a, vs, fps, h1, h2, h3, h4, h5⟩ := own_list S hρ hL
        refine ⟨.ref a, h1, .inl ⟨rfl, vs, .inl (.inl h2)⟩, _, ρ, fp, S.si, (flow_out S o).mono fun d q v H1 fq e1 ro nd nw => ?_⟩
        split at q
        · rename_i hz
          have hlv : xs.length = vs.length := P3.length h5
          have hH1 : H1 a = some (.lst vs) := e1 _ _ h2
          refine ⟨a, vs, v, rfl, rfl, hH1, by omega, ?_⟩
          have ha : a ∈ fp i := by rw [h4]; exact List.mem_cons_self
          have hafq : a ∉ fq := fun z => by
            have := nw a z
            rw [h2] at this
            cases this
          have hnod := S.si.nod i
          rw [h4] at hnod
          obtain ⟨ha2, hnod2⟩ := List.nodup_cons.mp hnod
          have hfq : ∀ b ∈ fps.flatten, b ∉ fq := fun b hb z => P3.there h5 hb (nw b z)
          have mem : ∀ b, b ∈ (fps ++ [fq]).flatten ↔ b ∈ fps.flatten ∨ b ∈ fq := fun b => by
            rw [List.flatten_append, List.mem_append]
            simp
          have kp : Keep (exOf fp ex0) H (L2.upd H1 a (.lst (vs ++ [v]))) := Keep.upd e1 h2 (fun _ q => nomatch q) (.inl ⟨i, ha⟩)
          have kp2 : Keep (fun b => b ∈ fq ∨ exOf fp ex0 b) H1 (L2.upd H1 a (.lst (vs ++ [v]))) := Keep.upd (Same.refl _) hH1 (fun _ q => nomatch q) (.inr (.inl ⟨i, ha⟩))
          refine q _ _ _ (S.upd e1 (i := i) (a := a) (o' := .lst (vs ++ [v])) (dN := .lst (xs ++ [d])) (fqN := a :: (fps ++ [fq]).flatten) h1 ha h2 (fun _ q => nomatch q) ?_ ?_ ?_)
          · have le1 : ∀ b, exOf (fun j => if j = i then a :: (fps ++ [fq]).flatten else fp j) ex0 b → b ∈ fq ∨ exOf fp ex0 b := fun b h => by
              rcases h with ⟨l, h⟩ | h
              · have h : b ∈ (if l = i then a :: (fps ++ [fq]).flatten else fp l) := h
                split at h
                · rcases List.mem_cons.mp h with h | h
                  · exact .inr (.inl ⟨i, by rw [h]; exact ha⟩)
                  · rcases (mem b).mp h with h | h
                    · exact .inr (.inl ⟨i, by rw [h4]; exact List.mem_cons_of_mem _ h⟩)
                    · exact .inl h
                · exact .inr (.inl ⟨l, h⟩)
              · exact .inr (.inr h)
            rw [hL]
            refine (RO.cn rfl).mpr ⟨a, vs ++ [v], fps ++ [fq], _, rfl, ⟨⟨rfl, by rw [List.length_append]; simp; omega⟩, upd_same⟩, rfl, P3.app ?_ (.cons ?_ .nil)⟩
            · refine P3.keep kp (fun b h => ?_) (fun b hb o q => ?_) h5
              · rcases le1 b h with h | h
                · exact .inr (nw b h)
                · exact .inl h
              · have hba : b ≠ a := fun z => ha2 (by rw [← z]; exact hb)
                rw [upd_ne hba]
                exact e1 _ _ q
            · refine RO.keep kp2 (fun b h => .inl (le1 b h)) (fun b hb o q => ?_) ro
              have hba : b ≠ a := fun z => hafq (by rw [← z]; exact hb)
              rw [upd_ne hba]
              exact q
          · refine List.nodup_cons.mpr ⟨fun z => ?_, ?_⟩
            · rcases (mem a).mp z with z | z
              · exact ha2 z
              · exact hafq z
            · rw [List.flatten_append]
              refine List.nodup_append.mpr ⟨hnod2, by simpa using nd, fun b hb c hc z => ?_⟩
              have hc : c ∈ fq := by simpa using hc
              exact hfq b hb (by rw [z]; exact hc)
          · intro b hb
            rcases List.mem_cons.mp hb with h | h
            · rw [h]
              exact .inl ha
            · rcases (mem b).mp h with h | h
              · exact .inl (by rw [h4]; exact List.mem_cons_of_mem _ h)
              · exact .inr (nw b h)
        · exact q.elim
      | _ => exact o.elim

/-! ### raise -/
def sRaise (c : Str) : SF := fun ρ => .exc c ρ
theorem sj_raise {L1 : List Nat} {y msg : Str} {j : Nat} {C : Addr} {p2 pos2 : Pos} {newId initId B : String} {bmB : List Value} (hc : X.calm = true) (tk : Takes X W) (F : ExcBaseFacts B newId initId bmB) (q : PySem.W.excIn X.K C bmB newId = true)
    (gC : X.mg y = some (.ref C)) (kC : PySem.W.keepIn X.K (.ref C) = true) (r : Raises X (.ref C)) (hg : Gl X y) (hdb : (y == ("__debug__" : Str)) = false := by decide) :
    SJ X W kr Lb L L1 (.Raise (some (.Call (.Name y npos) [.Constant (.str msg) j p2] [] pos)) none pos2) (sRaise y) :=
  PS.imp (ps_raise hc tk (pmk_own F q gC kC r hg hdb)) fun Dn σ H ⟨ex0, Gs, ρ, fp, S, o⟩ => o C gC σ H _ S.dropAll
end
end Px

namespace Px
open PySem PySem.Spec PyProof.Rows L2

/-! ### comparisons as tests -/
def asB : D → Res Bool
  | .bl b => .ok b
  | _ => .err
section
variable {X : Cx} {W : WX} {L : List Nat} {n n1 n2 m k kr : Nat} {pos p p2 : Pos} {a b c e : Expr} {f g h : EF} {o o' : D → D → Res D}
theorem PT.ofV {X : Cx} {e : Expr} {t : TE} {t' : TT} (h : PT X e (tTest t)) (m : ∀ σ H Q, t' σ H Q → tTest t σ H Q) : PT X e t' := PT.imp h m
theorem et_cmp {op : CmpOp} (ho : Op2 X n1 n2 0 (compareOp op) o) (nx : NoX2 o) (ha : EB X W L n1 a f) (hb : EB X W L n2 b g) (hm : behindInMarks op b = false) : ET X W L (.Compare a [op] [b] pos) (eUn asB (eOp o f g)) :=
  PT.imp (pt_cmpR ho ha hb hm) fun σ H Q ⟨ex, ρ, fp, I, q⟩ => by
    refine ⟨ex, ρ, fp, I, q.bind.bind.mono fun d1 q1 v1 H1 e1 r1 => ⟨ex, ρ, fp, I.same e1, (q1.bind.later e1).mono fun d2 q2 v2 H2 e2 r2 => ?_⟩⟩
    obtain ⟨d, ed, qd⟩ := no_exc q2 (nx d1 d2)
    refine ⟨ex, d1, d2, d, ((I.same e1).same e2).ext, r1.same e2, r2, ed, fun v H3 fq e3 ro nd nw => ?_⟩
    have r3 : RB X.K (fun a => a ∈ fq ∨ ex a) H3 0 d v := ro.borrow
    cases d with
    | bl t => exact ⟨t, r3.bl, qd H3 ((e1.trans e2).trans e3)⟩
    | _ => exact qd.elim
theorem et_chain {op op' : CmpOp} (ho : Op2 X 0 0 0 (compareOp op) o) (nx : NoX2 o) (ho' : Op2 X 0 0 0 (compareOp op') o') (nx' : NoX2 o') (ha : EB X W L 0 a f) (hb : EB X W L 0 b g) (hc : EB X W L 0 c h)
    (hm : lastMarks [op, op'] [b, c] = false := by with_unfolding_all rfl) : ET X W L (.Compare a [op, op'] [b, c] pos) (eUn asB (eChain o o' f g h)) :=
  PT.imp (pt_chain ho ho' ha hb hc hm) fun σ H Q ⟨ex, ρ, fp, I, q⟩ => by
    refine ⟨ex, ρ, fp, I, q.bind.bind.mono fun d1 q1 v1 H1 e1 r1 => ⟨ex, ρ, fp, I.same e1, (q1.bind.later e1).mono fun d2 q2 v2 H2 e2 r2 => ?_⟩⟩
    obtain ⟨d, ed, qd⟩ := no_exc q2.bind (nx d1 d2)
    refine ⟨ex, d1, d2, d, ((I.same e1).same e2).ext, r1.same e2, r2, ed, fun v H3 fq e3 ro nd nw => ?_⟩
    have r3 : RB X.K (fun a => a ∈ fq ∨ ex a) H3 0 d v := ro.borrow
    cases d with
    | bl t =>
      cases t with
      | true =>
        refine ⟨true, r3.bl, ?_⟩
        rw [if_pos rfl]
        refine ⟨ex, ρ, fp, ((I.same e1).same e2).same e3, ((Out.bind qd).later ((e1.trans e2).trans e3)).mono fun d3 q3 v4 H4 e4 r4 => ?_⟩
        obtain ⟨z, ez, qz⟩ := no_exc q3 (nx' d2 d3)
        refine ⟨ex, d2, d3, z, ((((I.same e1).same e2).same e3).same e4).ext, (r2.same e3).same e4, r4, ez, fun v H5 fq e5 ro nd nw => ?_⟩
        have r5 : RB X.K (fun a => a ∈ fq ∨ ex a) H5 0 z v := ro.borrow
        cases z with
        | bl t => exact ⟨t, r5.bl, qz H5 ((((e1.trans e2).trans e3).trans e4).trans e5)⟩
        | _ => exact qz.elim
      | false =>
        refine ⟨false, r3.bl, ?_⟩
        rw [if_neg Bool.false_ne_true]
        exact ⟨false, rfl, qd H3 ((e1.trans e2).trans e3)⟩
    | _ => exact qd.elim

/-! ### constants of the module -/
theorem eo_gint {x : Str} {i : Int} {t : Tok} (hg : Gl X x) (hm : X.mg x = some (.int i t)) (hd : (x == ("__debug__" : Str)) = false := by decide) : EO X W L k (.Name x pos) (eC (.int i)) :=
  PE.imp (pe_glob (v := .int i) hg hm ⟨t, rfl⟩ hd) fun σ H Q ⟨ex, ρ, fp, I, o⟩ => QO.int o
theorem eo_gstr {x i : Str} {t : Tok} (hg : Gl X x) (hm : X.mg x = some (.str i t)) (hd : (x == ("__debug__" : Str)) = false := by decide) : EO X W L k (.Name x pos) (eC (.str i)) :=
  PE.imp (pe_glob (v := .str i) hg hm ⟨t, rfl⟩ hd) fun σ H Q ⟨ex, ρ, fp, I, o⟩ => QO.str o

/-! ### {k: v, ..}[i] -/
def keyD : D → Option Key
  | .int i => some (.inl i)
  | .str s => some (.inr s)
  | _ => none
theorem keyD_v {K : PySem.W.Frag} {ex : AS} {H : Hp} {d : D} {v : V} {kk : Key} (r : RB K ex H n d v) (e : keyD d = some kk) : v = kV kk := by
  unfold keyD at e
  split at e
  · cases e
    exact r.int
  · cases e
    exact r.str
  · cases e
def evPairs : List (EF × EF) → Env → Res (List (Key × D))
  | [], _ => .ok []
  | p :: r, ρ => p.1 ρ >>= fun a => p.2 ρ >>= fun b => match keyD a with
    | some kk => evPairs r ρ >>= fun l => .ok ((kk, b) :: l)
    | none => .err
/-- the last one wins -/
def lookLast (l : List (Key × D)) (kk : Key) : Option D := (l.reverse.find? fun q => decide (q.1 = kk)).map (·.2)
def eDLit (ps : List (EF × EF)) (f : EF) : EF := fun ρ => evPairs ps ρ >>= fun l => f ρ >>= fun d => match keyD d with
  | some kk => (match lookLast l kk with
    | some r => .ok r
    | none => .err)
  | none => .err
abbrev trsOf (X : Cx) (W : WX) (L : List Nat) (ps : List (EF × EF)) : List (TE × TE) := ps.map fun q => (tB X W L 0 q.1, tB X W L 0 q.2)
abbrev EPs (X : Cx) (W : WX) (L : List Nat) (pos : Pos) (keys : List (Option Expr)) (values : List Expr) (ps : List (EF × EF)) : Prop := PPs X pos keys values (trsOf X W L ps)
theorem eps_nil : EPs X W L pos [] [] [] := pps_nil
theorem eps_cons {kx v : Expr} {ks : List (Option Expr)} {vs : List Expr} {ps : List (EF × EF)} (hk : EB X W L 0 kx f) (hv : EB X W L 0 v g) (hr : EPs X W L pos ks vs ps) : EPs X W L pos (some kx :: ks) (v :: vs) ((f, g) :: ps) := pps_cons hk hv hr
abbrev KR (K : PySem.W.Frag) (ex : AS) (H : Hp) (l : List (Key × D)) (kvs : List (Key × V)) : Prop := Paired (fun q z => q.1 = z.1 ∧ R K ex H q.2 z.2) l kvs
theorem pairs_imp {σ : L2.St} {ex : AS} {ρ : Env} {fp : Nat → List Addr} : ∀ (ps : List (EF × EF)) {H : Hp} {Q : List (V × V) → Hp → Prop}, SI X.K ex L ρ σ H fp →
    Out X W σ H (evPairs ps ρ) (fun l => ∀ kvs H', Same H H' → KR X.K ex H' l kvs → kvs.length = ps.length → Q (kvs.map fun kv => (kV kv.1, kv.2)) H') → tPairs (trsOf X W L ps) σ H Q
  | [], H, Q, I, o => o [] H (Same.refl H) .nil rfl
  | p :: r, H, Q, I, o => by
    refine ⟨ex, ρ, fp, I, o.bind.mono fun d1 q1 v1 H1 e1 r1 => ⟨ex, ρ, fp, I.same e1, (q1.bind.later e1).mono fun d2 q2 v2 H2 e2 r2 => ?_⟩⟩
    cases hk : keyD d1 with
    | none => rw [hk] at q2; exact q2.elim
    | some kk =>
      rw [hk] at q2
      refine pairs_imp r ((I.same e1).same e2) ((Out.later (Out.bind q2) (e1.trans e2)).mono fun l q3 kvs H3 e3 kr hl => ?_)
      have := q3 ((kk, v2) :: kvs) H3 ((e1.trans e2).trans e3) (.cons ⟨rfl, R.same e3 r2⟩ kr) (by rw [List.length_cons, List.length_cons, hl])
      rw [keyD_v r1 hk]
      exact this
theorem merge_val (kk : Key) : ∀ (kvs acc : List (Key × V)), valV (mergeK acc kvs) kk = match (kvs.reverse.find? fun q => decide (q.1 = kk)).map (·.2) with
    | some v => some v
    | none => valV acc kk
  | [], acc => rfl
  | p :: r, acc => by
    have e : mergeK acc (p :: r) = mergeK (putK acc p.1 p.2) r := rfl
    rw [e, merge_val kk r, List.reverse_cons, List.find?_append, valV_put]
    cases q : r.reverse.find? (fun q => decide (q.1 = kk)) with
    | some z => simp
    | none =>
      simp only [Option.map_none, Option.none_or, List.find?_cons, List.find?_nil]
      by_cases hp : p.1 = kk
      · simp [hp]
      · have : ¬ kk = p.1 := fun z => hp z.symm
        simp [hp, this]
theorem find_kr {K : PySem.W.Frag} {ex : AS} {H : Hp} {kk : Key} {d : D} : ∀ {l : List (Key × D)} {kvs : List (Key × V)}, KR K ex H l kvs → (l.find? fun q => decide (q.1 = kk)).map (·.2) = some d → ∃ v, (kvs.find? fun q => decide (q.1 = kk)).map (·.2) = some v ∧ R K ex H d v
  | _, _, .nil, h => by simp at h
  | a :: l, b :: kvs, .cons r t, h => by
    rw [List.find?_cons] at h ⊢
    by_cases hq : a.1 = kk
    · have hq2 : b.1 = kk := r.1 ▸ hq
      rw [decide_eq_true hq] at h
      rw [decide_eq_true hq2]
      have e : a.2 = d := by simpa using h
      rw [← e]
      exact ⟨b.2, rfl, r.2⟩
    · have hq2 : ¬ b.1 = kk := r.1 ▸ hq
      rw [decide_eq_false hq] at h
      rw [decide_eq_false hq2]
      exact find_kr t h
theorem eb_dlit {keys : List (Option Expr)} {values : List Expr} {ps : List (EF × EF)} {i : Expr} {dpos : Pos} (hu : X.A.units + 1 < cLine) (h : EPs X W L dpos keys values ps) (hi : EB X W L 0 i f) (hall : keys.all (·.isSome) = true := by rfl) (hl : keys.length = values.length := by rfl) (h0 : keys ≠ [] := by exact fun h => nomatch h) (h15 : keys.length ≤ 15 := by decide) (p15 : ps.length ≤ 15 := by decide)
    (hs : NoSl i := by intro _ _; rfl) : EB X W L 0 (.Subscript (.Dict keys values dpos) i pos) (eDLit ps f) :=
  PE.imp (pe_dget hu (pe_disp h hall hl h0 h15) hi hs) fun σ H Q ⟨ex, ρ, fp, I, o⟩ => fun pp hp => by
    have e0 : Same H (upd H pp (.dK [])) := same_upd hp
    have I0 : SI X.K (fun a => a = pp ∨ ex a) L ρ σ (upd H pp (.dK [])) fp := I.more e0 (fun a h => h.elim (fun z => .inr (by rw [z]; exact hp)) .inl) (fun a h => .inr h) (fun a h => h.elim (fun z => by rw [z, upd_same]; exact fun q => nomatch q) fun z q => I.ext a z (e0.free q))
    refine pairs_imp ps I0 ((Out.later o.bind e0).mono fun l q kvs H2 e2 kr hkl => ?_)
    have hp2 : H2 pp = some (.dK []) := e2 _ _ upd_same
    refine ⟨hp2, kvs, rfl, by omega, ?_⟩
    have e3 : Same H (upd H2 pp (.dK (mergeK [] kvs))) := fun b o hb => by
      have hne : b ≠ pp := fun z => by
        rw [z, hp] at hb
        cases hb
      rw [upd_ne hne]
      exact e2 _ _ (by rw [upd_ne hne]; exact hb)
    have kp : Keep (fun a => a = pp ∨ ex a) H2 (upd H2 pp (.dK (mergeK [] kvs))) := Keep.upd (Same.refl _) hp2 (fun _ q => nomatch q) (.inl rfl)
    refine ⟨ex, ρ, fp, I.same e3, ((Out.later (Out.bind q) e3)).mono fun d q2 y H4 e4 ry => ?_⟩
    cases hk : keyD d with
    | none => rw [hk] at q2; exact q2.elim
    | some kk =>
      rw [hk] at q2
      cases hf : lookLast l kk with
      | none =>
        simp only [hf] at q2
        exact q2.elim
      | some r =>
        simp only [hf] at q2
        obtain ⟨v, hv, rv⟩ := find_kr (Paired.revP kr) hf
        have hm : valV (mergeK [] kvs) kk = some v := by rw [merge_val, hv]
        refine ⟨pp, v, rfl, ?_, q2 v H4 (e3.trans e4) (R.same e4 (R.keep kp (fun _ z => .inl (.inr z)) r rv))⟩
        rw [keyD_v ry hk, ← hm]
        exact DGet.k (e4 _ _ upd_same)
end
end Px

namespace Px
open PySem PySem.Spec PyProof.Rows L2

theorem gl_of {X : Cx} {x : Str} (h : X.env.scope.names.lookup x = some .globalImplicit) : Gl X x := h
theorem hu65 {k : Nat} {A : Around} (hr : Room k A) : A.units + 65 < cLine := by
  have := hr.un
  omega
section
variable {X : Cx} {W : WX} {L : List Nat} {n n1 n2 m k : Nat} {kr : RM} {Lb : List Nat} {pos p : Pos} {a b e : Expr} {f g : EF}
theorem o_mul : Op2 X n m k (binaryOp .Mult) dMul := fun pins s σ H x y v u Q I rx ry h => by
  obtain ⟨ex, d1, d2, d, ext, r1, r2, e, q⟩ := h
  unfold dMul at e
  split at e
  · split at e
    · rename_i hm
      cases e
      exact L2.op_mul pins s σ H x y v u Q I rx ry ⟨_, _, r1.int, r2.int, by unfold mulOk at hm; rw [decide_eq_true_eq] at hm; exact hm, q.int⟩
    · cases e
  · cases e
/-- [..] * n of a new list -/
def dRep : D → D → Res D
  | .lst a, .int j => if a.length * j.toNat ≤ sizeLine ∧ j < 2 ^ 62 ∧ -(2 ^ 62) < j then .ok (.lst (List.replicate j.toNat a).flatten) else .err
  | _, _ => .err
theorem dRep_nx : NoX2 dRep := fun a b c h => by
  unfold dRep at h
  split at h <;> first | cases h | (split at h <;> cases h)
theorem shared_of1 {K : PySem.W.Frag} {ex : AS} {H : Hp} {ds : List D} {v : V} {fq : List Addr} (h : RO K ex H 1 (.lst ds) v fq) : ∃ a xs, v = .ref a ∧ H a = some (.lst xs) ∧ xs.length ≤ sizeLine ∧ fq = [a] ∧ Paired (R K ex H) ds xs := by
  obtain ⟨a, xs, fps, o, rfl, ⟨⟨rfl, hz⟩, hH⟩, rfl, h2⟩ := (RO.cn rfl).mp h
  obtain ⟨e, p⟩ := p3_zero h2
  exact ⟨a, xs, rfl, hH, hz, by rw [e], p⟩
theorem eo_rep (ha : EO X W L 1 a f) (hb : EB X W L 0 b g) : EO X W L 1 (.BinOp a .Mult b pos) (eOp dRep f g) :=
  PE.imp (pe_op op_rep ha hb) fun σ H Q ⟨ex, ρ, fp, I, q⟩ => by
    refine ⟨ex, ρ, fp, I, q.bind.mono fun d1 q1 v1 H1 fq e1 r1 nd nw => ?_⟩
    have e12 : ∀ {c : Addr}, (c ∈ fq ∨ ex c) → ex c ∨ H c = none := fun {c} h => h.elim (fun z => .inr (nw c z)) .inl
    have I' : SI X.K (fun c => c ∈ fq ∨ ex c) L ρ σ H1 fp := I.more e1 (fun c h => e12 h) (fun c h => .inr h) (fun c h => h.elim (fun z => r1.there c z) fun z q => I.ext c z (e1.free q))
    refine ⟨_, ρ, fp, I', (q1.bind.later e1).mono fun d2 q2 v2 H2 e2 r2 => ?_⟩
    obtain ⟨d, ed, qd⟩ := no_exc q2 (dRep_nx d1 d2)
    unfold dRep at ed
    split at ed
    · split at ed
      · rename_i xs j hc
        cases ed
        obtain ⟨c, ys, rfl, h1, h2, rfl, h3⟩ := shared_of1 (r1.same e2)
        have hl : xs.length = ys.length := h3.length
        refine ⟨c, j, ys, rfl, r2.int, h1, by omega, by omega, by rw [← hl]; exact hc.1, fun p hp => ?_⟩
        have h4 : Paired (R X.K ex H2) xs ys := h3.mono fun _ _ z => R.less (fun a h => .inl (.inr h)) z
        refine QO.lst (K := X.K) (ex := ex) (fun v H5 fr e5 ro nd nw => qd v H5 fr ((e1.trans e2).trans e5) ro nd fun a ha => (e1.trans e2).free (nw a ha)) (Paired.flattenP h4 j.toNat) hp ?_
        rw [PyProof.Rows.lm_len_rep_flat, Nat.mul_comm, ← hl]
        exact hc.1
      · cases ed
    · cases ed

/-! ### a, b = e1, e2 -/
def evL : List EF → Env → Res (List D)
  | [], _ => .ok []
  | f :: r, ρ => f ρ >>= fun d => evL r ρ >>= fun ds => .ok (d :: ds)
def sPar (is : List Nat) (fs : List EF) : SF := fun ρ => (evL fs ρ).flow ρ fun ds => .next (setL ρ is ds)
/-- values, each owned to a depth of its own -/
def AOs (K : PySem.W.Frag) (ex : AS) (H : Hp) : List Nat → List D → List V → List (List Addr) → Prop
  | [], [], [], [] => True
  | k :: ks, d :: ds, v :: vs, fq :: fqs => RO K ex H k d v fq ∧ AOs K ex H ks ds vs fqs
  | _, _, _, _ => False
def tAO (X : Cx) (W : WX) (L : List Nat) (ks : List Nat) (fs : List EF) : TA := fun σ H Q => ∃ ex ρ fp, SI X.K ex L ρ σ H fp ∧ Out X W σ H (evL fs ρ) fun ds => ∀ vs fqs H', Same H H' → AOs X.K (fun a => a ∈ fqs.flatten ∨ ex a) H' ks ds vs fqs → fqs.flatten.Nodup → (∀ a ∈ fqs.flatten, H a = none) → Q vs H'
abbrev EAO (X : Cx) (W : WX) (L : List Nat) (ks : List Nat) (es : List Expr) (fs : List EF) : Prop := PA X es (tAO X W L ks fs)
theorem AOs.keep {K : PySem.W.Frag} {ex ex' : AS} {H H' : Hp} (e : Same H H') (m : ∀ a, ex' a → ex a ∨ H a = none) : ∀ {ks : List Nat} {ds : List D} {vs : List V} {fqs : List (List Addr)}, AOs K ex H ks ds vs fqs → AOs K ex' H' ks ds vs fqs
  | [], [], [], [], _ => trivial
  | _ :: _, _ :: _, _ :: _, _ :: _, h => ⟨RO.keep (Keep.same e) m (fun a _ o q => e a o q) h.1, AOs.keep e m h.2⟩
variable {es : List Expr} {fs : List EF} {ks : List Nat}
theorem eas_nil : EAO X W L [] [] [] := PA.imp pa_nil fun σ H Q ⟨ex, ρ, fp, I, o⟩ => o [] [] H (Same.refl H) trivial List.nodup_nil fun a h => (by simp at h)
theorem eas_cons (h : EO X W L k e f) (t : EAO X W L ks es fs) (hs : starEach (e :: es) X.env = (false, eval e X.env) :: starEach es X.env := by rfl) : EAO X W L (k :: ks) (e :: es) (f :: fs) :=
  PA.imp (pa_cons h t hs) fun σ H Q ⟨ex, ρ, fp, I, o⟩ => ⟨ex, ρ, fp, I, (show Out X W σ H (f ρ >>= fun d => evL fs ρ >>= fun ds => .ok (d :: ds)) _ from o).bind.mono fun d1 q1 v1 H1 fq e1 r1 nd1 nw1 => by
    have I' : SI X.K (fun c => c ∈ fq ∨ ex c) L ρ σ H1 fp := I.more e1 (fun c h => h.elim (fun z => .inr (nw1 c z)) .inl) (fun c h => .inr h) (fun c h => h.elim (fun z => r1.there c z) fun z q => I.ext c z (e1.free q))
    refine ⟨_, ρ, fp, I', (q1.bind.later e1).mono fun ds q2 vs fqs H2 e2 r2 nd2 nw2 => ?_⟩
    refine q2 (v1 :: vs) (fq :: fqs) H2 (e1.trans e2) ⟨?_, r2.keep (Same.refl H2) fun a h => .inl ?_⟩ ?_ fun a ha => ?_
    · refine RO.keep (Keep.same e2) (fun a h => ?_) (fun a _ o q => e2 a o q) r1
      rw [List.flatten_cons, List.mem_append] at h
      rcases h with (h | h) | h
      · exact .inl (.inl h)
      · exact .inr (nw2 a h)
      · exact .inl (.inr h)
    · rw [List.flatten_cons, List.mem_append] at h
      rcases h with (h | h) | h
      · exact .inr (.inl h)
      · exact .inl h
      · exact .inr (.inr h)
    · rw [List.flatten_cons]
      refine List.nodup_append.mpr ⟨nd1, nd2, fun a ha b hb q => ?_⟩
      rw [← q] at hb
      exact r1.there a ha (nw2 a hb)
    · rw [List.flatten_cons, List.mem_append] at ha
      rcases ha with ha | ha
      · exact nw1 a ha
      · exact e1.free (nw2 a ha)⟩
/-- slots and what they own, over a fixed EX -/
structure VS (K : PySem.W.Frag) (EX : AS) (H : Hp) (L : List Nat) (ρ : Env) (σ : L2.St) (fp : Nat → List Addr) : Prop where
  len : ρ.length = σ.length
  val : ∀ i d, ρ[i]? = some (some d) → ∃ v, σ[i]? = some (some v) ∧ RO K EX H (L.getD i 0) d v (fp i)
  nod : ∀ i, (fp i).Nodup
  dis : ∀ i j a, a ∈ fp i → a ∈ fp j → i = j
def putF (fp : Nat → List Addr) (i : Nat) (fq : List Addr) : Nat → List Addr := fun j => if j = i then fq else fp j
theorem VS.put {K : PySem.W.Frag} {EX : AS} {H : Hp} {L : List Nat} {ρ : Env} {σ : L2.St} {fp : Nat → List Addr} (S : VS K EX H L ρ σ fp) {i k : Nat} {d : D} {v : V} {fq : List Addr} (r : RO K EX H k d v fq) (nd : fq.Nodup) (nw : ∀ a ∈ fq, ∀ j, a ∉ fp j) (hi : i < L.length) :
    VS K EX H (L.set i k) (ρ.set i (some d)) (σ.set i (some v)) (putF fp i fq) := by
  refine ⟨by rw [List.length_set, List.length_set]; exact S.len, fun j d' h => ?_, fun j => ?_, fun j l a h1 h2 => ?_⟩
  · unfold putF
    by_cases ej : i = j
    · subst ej
      by_cases hl : i < ρ.length
      · rw [List.getElem?_set_self hl] at h
        cases h
        exact ⟨v, List.getElem?_set_self (by rw [← S.len]; exact hl), by rw [getD_set_eq hi, if_pos rfl]; exact r⟩
      · rw [List.getElem?_eq_none (by rw [List.length_set]; omega)] at h
        cases h
    · rw [List.getElem?_set_ne ej] at h
      obtain ⟨u, h1, h2⟩ := S.val j d' h
      exact ⟨u, by rw [List.getElem?_set_ne ej]; exact h1, by rw [getD_set_ne ej, if_neg (fun q => ej q.symm)]; exact h2⟩
  · unfold putF
    split
    · exact nd
    · exact S.nod j
  · unfold putF at h1 h2
    split at h1
    · split at h2
      · rename_i a1 a2
        rw [a1, a2]
      · exact absurd h2 (nw a h1 l)
    · split at h2
      · exact absurd h1 (nw a h2 j)
      · exact S.dis j l a h1 h2
def setLv : List Nat → List Nat → List Nat → List Nat
  | L, i :: is, k :: ks => setLv (L.set i k) is ks
  | L, _, _ => L
def setV (σ : L2.St) : List Nat → List V → L2.St
  | i :: is, v :: vs => setV (σ.set i (some v)) is vs
  | _, _ => σ
theorem setLv_length : ∀ (L is ks : List Nat), (setLv L is ks).length = L.length
  | L, [], _ => by rw [setLv]; intro _ _ _ _ h; cases h
  | L, _ :: _, [] => by rw [setLv]; intro _ _ _ _ _ h; cases h
  | L, i :: is, k :: ks => by rw [setLv, setLv_length, List.length_set]
theorem VS.puts {K : PySem.W.Frag} {EX : AS} {H : Hp} : ∀ (is ks : List Nat) (ds : List D) (vs : List V) (fqs : List (List Addr)) {L : List Nat} {ρ : Env} {σ : L2.St} {fp : Nat → List Addr}, VS K EX H L ρ σ fp → AOs K EX H ks ds vs fqs → fqs.flatten.Nodup → (∀ a ∈ fqs.flatten, ∀ j, a ∉ fp j) →
    is.length = ks.length → (∀ i ∈ is, i < L.length) → ∃ fp', VS K EX H (setLv L is ks) (setL ρ is ds) (setV σ is vs) fp' ∧ ∀ j a, a ∈ fp' j → a ∈ fp j ∨ a ∈ fqs.flatten
  | [], ks, ds, vs, fqs, L, ρ, σ, fp, S, _, _, _, _, _ => ⟨fp, by
      have e1 : setLv L [] ks = L := by cases ks <;> rfl
      have e2 : setL ρ [] ds = ρ := by cases ds <;> rfl
      have e3 : setV σ [] vs = σ := by cases vs <;> rfl
      rw [e1, e2, e3]
      exact S, fun j a h => .inl h⟩
  | i :: is, [], _, _, _, _, _, _, _, _, _, _, _, hl, _ => by simp at hl
  | i :: is, k :: ks, [], _, _, _, _, _, _, _, h, _, _, _, _ => by simp [AOs] at h
  | i :: is, k :: ks, d :: ds, [], _, _, _, _, _, _, h, _, _, _, _ => by simp [AOs] at h
  | i :: is, k :: ks, d :: ds, v :: vs, [], _, _, _, _, _, h, _, _, _, _ => by simp [AOs] at h
  | i :: is, k :: ks, d :: ds, v :: vs, fq :: fqs, L, ρ, σ, fp, S, h, nd, nw, hl, hi => by
    rw [List.flatten_cons] at nd nw
    obtain ⟨n1, n2, n3⟩ := List.nodup_append.mp nd
    have S1 := S.put (i := i) h.1 n1 (fun a ha => nw a (List.mem_append_left _ ha)) (hi i List.mem_cons_self)
    obtain ⟨fp', S2, m⟩ := VS.puts is ks ds vs fqs S1 h.2 n2 (fun a ha j q => by
      unfold putF at q
      split at q
      · exact n3 a q a ha rfl
      · exact nw a (List.mem_append_right _ ha) j q) (by simpa using hl) (fun l hl => by
        rw [List.length_set]
        exact hi l (List.mem_cons_of_mem _ hl))
    refine ⟨fp', S2, fun j a q => ?_⟩
    rw [List.flatten_cons, List.mem_append]
    rcases m j a q with q | q
    · unfold putF at q
      split at q
      · exact .inr (.inl q)
      · exact .inl q
    · exact .inr (.inr q)
theorem AOs.there {K : PySem.W.Frag} {ex : AS} {H : Hp} {a : Addr} : ∀ {ks : List Nat} {ds : List D} {vs : List V} {fqs : List (List Addr)}, AOs K ex H ks ds vs fqs → a ∈ fqs.flatten → H a ≠ none
  | [], [], [], [], _, h => by simp at h
  | _ :: _, _ :: _, _ :: _, _ :: _, h, m => by
    rw [List.flatten_cons, List.mem_append] at m
    rcases m with m | m
    · exact h.1.there a m
    · exact AOs.there h.2 m
theorem slf_setV {mb : Option Nat} {ex0 : CS mb} : ∀ (is : List Nat) (vs : List V) {σ : L2.St}, Slf ex0 σ → (∀ i ∈ is, mb ≠ some i) → Slf ex0 (setV σ is vs)
  | [], _, _, h, _ => h
  | _ :: _, [], _, h, _ => h
  | i :: is, u :: vs, σ, h, h0 => slf_setV is vs (σ := σ.set i (some u)) (h.set (h0 i List.mem_cons_self)) fun j hj => h0 j (List.mem_cons_of_mem _ hj)
theorem SS.puts {K : PySem.W.Frag} {H0 H H1 : Hp} {mb : Option Nat} {ex0 : CS mb} {G : List (D × V)} {L : List Nat} {ρ : Env} {σ : L2.St} {fp : Nat → List Addr} (S : SS K H0 ex0 G L ρ σ H fp) (e : Same H H1) {is ks : List Nat} {ds : List D} {vs : List V} {fqs : List (List Addr)}
    (r : AOs K (fun a => a ∈ fqs.flatten ∨ exOf fp ex0 a) H1 ks ds vs fqs) (nd : fqs.flatten.Nodup) (nw : ∀ a ∈ fqs.flatten, H a = none) (hl : is.length = ks.length) (hi : ∀ i ∈ is, i < L.length) (h0 : ∀ i ∈ is, mb ≠ some i) :
    ∃ fp', SS K H0 ex0 G (setLv L is ks) (setL ρ is ds) (setV σ is vs) H1 fp' := by
  have V0 : VS K (fun a => a ∈ fqs.flatten ∨ exOf fp ex0 a) H1 L ρ σ fp := ⟨S.si.len, fun i d h => by
    obtain ⟨v, h1, h2⟩ := S.si.val i d h
    refine ⟨v, h1, RO.keep (Keep.same e) (fun a q => ?_) (fun a _ o q => e a o q) h2⟩
    rcases q with q | q
    · exact .inr (nw a q)
    · exact .inl q, S.si.nod, S.si.dis⟩
  obtain ⟨fp', V1, m⟩ := VS.puts is ks ds vs fqs V0 r nd (fun a ha j q => S.si.ext a (.inl ⟨j, q⟩) (nw a ha)) hl hi
  refine ⟨fp', S.re e V1.len (fun i d h => ?_) V1.nod V1.dis (fun i a h => ?_) (fun i a h => ?_) (slf_setV is vs S.slf h0)⟩
  · obtain ⟨v, h1, h2⟩ := V1.val i d h
    refine ⟨v, h1, h2.less fun a q => .inl ?_⟩
    rcases q with ⟨j, q⟩ | q
    · rcases m j a q with q | q
      · exact .inr (.inl ⟨j, q⟩)
      · exact .inl q
    · exact .inr (.inr q)
  · rcases m i a h with q | q
    · exact .inl q
    · exact .inr (nw a q)
  · rcases m i a h with q | q
    · exact fun z => S.si.ext a (.inl ⟨i, q⟩) (e.free z)
    · exact r.there q
theorem AOs.lens {K : PySem.W.Frag} {ex : AS} {H : Hp} : ∀ {ks : List Nat} {ds : List D} {vs : List V} {fqs : List (List Addr)}, AOs K ex H ks ds vs fqs → vs.length = ks.length
  | [], [], [], [], _ => rfl
  | _ :: _, _ :: _, _ :: _, _ :: _, h => by rw [List.length_cons, List.length_cons, AOs.lens h.2]
theorem sj_par2 {i j k1 k2 : Nat} {x y : Str} {px py pt : Pos} {kt kt2 : Nat} {pt2 : Pos} (hc : X.calm = true) (hN : X.N.Nodup) (hi : X.N[i]? = some x) (hj : X.N[j]? = some y) (hij : i ≠ j) (hx : X.env.scope.names.lookup x = some .local) (hy : X.env.scope.names.lookup y = some .local)
    (h1 : EO X W L k1 a f) (h2 : EO X W L k2 b g) (li : i < L.length) (lj : j < L.length)
    (hw : swappedStores [.Tuple [.Name x px, .Name y py] kt pt] (.Tuple [a, b] kt2 pt2) X.env = pure (some [x, y])) (hs : swapsWithSole [.Tuple [.Name x px, .Name y py] kt pt] (.Tuple [a, b] kt2 pt2) pos.line X.env = pure false := by rfl)
    (hs1 : starEach [a, b] X.env = (false, eval a X.env) :: starEach [b] X.env := by rfl) (hs2 : starEach [b] X.env = (false, eval b X.env) :: starEach [] X.env := by rfl) (h0 : ∀ q ∈ [i, j], kr.b ≠ some q := by first | exact nofun | exact fun _ _ => nofun | decide) :
    SJ X W kr Lb L (setLv L [i, j] [k1, k2]) (.Assign [.Tuple [.Name x px, .Name y py] kt pt] (.Tuple [a, b] kt2 pt2) pos) (sPar [i, j] [f, g]) :=
  PS.imp (ps_par hc hN hi hj hij hx hy (eas_cons h1 (eas_cons h2 eas_nil hs2) hs1) hw hs) fun Dn σ H ⟨ex0, Gs, ρ, fp, S, o⟩ => by
    refine ⟨_, ρ, fp, S.si, (flow_out S o).mono fun ds q vs fqs H1 e1 r nd nw => ?_⟩
    obtain ⟨fp', S'⟩ := S.puts (is := [i, j]) e1 r nd nw rfl (fun l hl => by
      rcases List.mem_cons.mp hl with rfl | hl
      · exact li
      · rw [List.mem_singleton.mp hl]
        exact lj) (h0_all ex0 h0)
    have hl := r.lens
    clear nd nw r
    match vs, hl with
    | [v1, v2], _ => exact ⟨v1, v2, rfl, q _ _ _ S'⟩
/-- .. where the model makes a tuple and unpacks it -/
theorem gNames_vs {Q : L2.St → Hp → Prop} {H : Hp} : ∀ (is : List Nat) (vs : List V) (σ : L2.St), is.length = vs.length → Q (setV σ is vs) H → gNames is vs σ H Q
  | [], [], _, _, h => ⟨rfl, h⟩
  | [], _ :: _, _, e, _ => by simp at e
  | _ :: _, [], _, e, _ => by simp at e
  | i :: is, v :: vs, σ, e, h => ⟨v, vs, rfl, gNames_vs is vs _ (by simpa using e) h⟩
theorem sj_parT {is : List Nat} {tg : Expr} {tn : Nat} {tpos : Pos} (hg : PG X tg (gTup X.K is.length (gNames is))) (ha : EAO X W L ks es fs) (hl : is.length = ks.length) (hi : ∀ i ∈ is, i < L.length) (hz : ks.length ≤ sizeLine := by decide) (hs : swapsWithSole [tg] (.Tuple es tn tpos) pos.line X.env = pure false := by rfl) (hw : swappedStores [tg] (.Tuple es tn tpos) X.env = pure none := by with_unfolding_all rfl)
    (h1 : (assignEach [tg] X.env).map (·.2) = [assign tg X.env] := by rfl) (h0 : ∀ q ∈ is, kr.b ≠ some q := by first | exact nofun | exact fun _ _ => nofun | decide) : SJ X W kr Lb L (setLv L is ks) (.Assign [tg] (.Tuple es tn tpos) pos) (sPar is fs) :=
  PS.imp (ps_asg (pe_tup ha) hg hs hw h1) fun Dn σ H ⟨ex0, Gs, ρ, fp, S, o⟩ => by
    refine ⟨_, ρ, fp, S.si, (flow_out S o).mono fun ds q vs fqs H1 e1 r nd nw => ⟨by rw [r.lens]; exact hz, fun p hp => ?_⟩⟩
    have e2 : Same H1 (L2.upd H1 p (.tup vs)) := same_upd hp
    obtain ⟨fp', S'⟩ := S.puts (is := is) (e1.trans e2) (r.keep e2 fun a h => .inl h) nd nw hl hi (h0_all ex0 h0)
    exact ⟨p, vs, rfl, .inl (.inl upd_same), by rw [r.lens, hl], gNames_vs is vs σ (by rw [r.lens, hl]) (q _ _ _ S')⟩
end
end Px

namespace Px
open PySem PySem.Spec PyProof.Rows L2
/-! ### the end -/
theorem rl_ints {K : PySem.W.Frag} {ex : AS} {H : Hp} : ∀ ns : List Int, RL K ex H (ns.map .int) (ns.map V.int)
  | [] => by rw [List.map_nil, List.map_nil, RL]
  | n :: ns => by
    rw [List.map_cons, List.map_cons, RL]
    exact ⟨_, _, rfl, by rw [R], rl_ints ns⟩
/-- a law's promise: handed a list of ints it answers True -/
theorem spec_law {K : PySem.W.Frag} {mg : Str → Option Value} {C : List D → Res D} {H : Hp} {a : Addr} {ns : List Int} (h : C [.lst (ns.map .int)] = .ok (.bl true)) (hl : ns.length ≤ sizeLine) (hS : SqL K H a (ns.map V.int)) :
    Spec K mg 1 0 C [.ref a] H (fun v _ => v = .bl true) (fun _ _ _ => False) := by
  refine ⟨rfl, fun _ => False, [.lst (ns.map .int)], fun _ z => z.elim, .cons ?_ .nil, ?_⟩
  · rw [R]
    exact ⟨a, _, rfl, (CnR.of hS (by rw [List.length_map]; exact hl)).x (fun z => z), rl_ints ns⟩
  · rw [h]
    intro v H' fq e r nd nw
    obtain ⟨_, r⟩ := r
    rw [R] at r
    exact r
/-- how a def without defaults binds -/
def BA (fd : FuncData) (ps : List Str) : Prop := ∀ (s : Shared) (us : List Value), us.length = ps.length → BindsTo s fd ⟨us, []⟩ (ps.zip us)
theorem BA.b {K : PySem.W.Frag} {fd : FuncData} {ps : List Str} (h : BA fd ps) : Binds K fd ps [] := fun s us _ hl => by
  rw [List.append_nil] at hl ⊢
  exact h s us hl
theorem txt_fun {K : PySem.W.Frag} {fa : List He.Fa} {fn : List He.FnD} (c : He.SaysE fa fn K) (i j : Nat) {x : Str} {ps : List Str} {st : Stmt} (h : fn[i]? = some ⟨(x, none), x, x, defArgs st, defBody st, defScope st⟩) (hk : fa[j]? = some (.keep x))
    (hb : ∀ (kV doc pm : Value) (an : Option Addr) (cdv ct : Value) (us : List Value), us.length = ps.length → bindArgs (PySem.W.fnOf x x (defArgs st) (defBody st) (defScope st) .none kV doc pm an cdv ct) ⟨us, []⟩ = pure (ps.zip us)) :
    ∃ fd, Fun K x x st (He.ga K x) fd ∧ BA fd ps := by
  obtain ⟨oc, od, osl, kV, doc, pm, an, cdv, ct, l, q⟩ := c.def_ i h
  have F := fun_mk (K := K) (st := st) (x := x) (qual := x) l q (He.keep_ok (c.fact j hk))
  exact ⟨_, F, fun s us hl => .of_eq (hb kV doc pm an cdv ct us hl)⟩
theorem txt_exc {K : PySem.W.Frag} {fa : List He.Fa} {fn : List He.FnD} {h : Heap} {mg : Str → Option Value} (X : K.In h) (G : h.Ns mainGlobals mg) (c : He.SaysE fa fn K) (i j : Nat) {x : Str} (h1 : fa[i]? = some (.glo x)) (h2 : fa[j]? = some (.exc x)) :
    mg x = some (.ref (He.ga K x)) ∧ PySem.W.excIn K (He.ga K x) He.veBase "ValueError.__new__" = true ∧ PySem.W.keepIn K (.ref (He.ga K x)) = true ∧ PySem.W.subIn K (.ref (He.ga K x)) (.type "BaseException") = some true ∧ PySem.W.typeIn K (.ref (He.ga K x)) = some (.type "type") :=
  ⟨He.glo_ok X G (c.fact i h1), He.exc_ok (c.fact j h2)⟩
/-- a law over a head by facts, exceptions let -/
theorem walk_px {l : PySem.W.OpenLaw} {n k : Nat} {q : Program} {loose : List Str} {XP : (Str → Option Value) → Heap → Prop} {YP : World → Heap → Prop} {d : DefRec} {x : Str}
    (hn : l.most = some n) (hn2 : n ≤ sizeLine) (hdf : d.params.defaults = []) (hr : Room k callerA)
    (F : ∀ (w : World) (mg : Str → Option Value) (fa : Addr) (h : Heap), YP w h → h.Ns mainGlobals mg → mg d.name = some (.ref fa) →
      ∃ (K : PySem.W.Frag) (fd : FuncData) (sp : Sp), K.In h ∧ (∀ (s : Shared) (u : Value), BindsTo s fd ⟨[u], []⟩ [(x, u)]) ∧
        (∀ (H : Hp) (a : Addr) (ns : List Int), ns.length ≤ n → (∀ z ∈ ns, Builtin.Int.intBits z ≤ 1048576) → Only H → SqL K H a (ns.map V.int) → sp [.ref a] H (fun v _ => v = .bl true) fun _ _ _ => False) ∧
        ∀ base : Heap, K.In base → base.Ns mainGlobals mg → FnOk l.prog w K mg base (L2.CX l.prog w) k fa fd [x] sp) :
    PySem.W.WalkO q loose XP YP l.row.toRowW d [] (fun f vs => PySem.call f vs) := by
  refine Att.attach_callB hn hdf fun w s₀ s₁ mg mb fa o pm cd doc a vs ns G Y ho hd hcd hmg hobj hints hlen hbits hg => ?_
  obtain ⟨K, fd, sp, KX, hb, hsp, hF⟩ := F w mg fa _ Y G.T.g hmg
  exact law_call KX G.T.g G.T.b G.T.builtins G.T.nolimit hg hobj hints (Nat.le_trans hlen hn2) hr hF hb (fun H hO hS => hsp H a ns hlen hbits hO hS) fun H e s' ⟨_, _, _, _, _, _, _, _, _, _, _, _, z⟩ => z
end Px

namespace Px
open PySem PySem.Spec PyProof.Rows L2
/-! ### plain reading: tools -/
@[simp] theorem x_eC (d : D) (ρ : Env) : eC d ρ = .ok d := id rfl
@[simp] theorem x_aNil (ρ : Env) : aNil ρ = .ok [] := id rfl
@[simp] theorem x_aCons (f : EF) (g : Env → Res (List D)) (ρ : Env) : aCons f g ρ = f ρ >>= fun d => g ρ >>= fun ds => .ok (d :: ds) := id rfl
@[simp] theorem x_eTup (fs : Env → Res (List D)) (ρ : Env) : eTup fs ρ = fs ρ >>= fun ds => .ok (.tup ds) := id rfl
@[simp] theorem x_eLst (fs : Env → Res (List D)) (ρ : Env) : eLst fs ρ = fs ρ >>= fun ds => .ok (.lst ds) := id rfl
@[simp] theorem x_eOp (o : D → D → Res D) (f g : EF) (ρ : Env) : eOp o f g ρ = f ρ >>= fun a => g ρ >>= fun b => o a b := id rfl
@[simp] theorem x_eUn {α : Type} (o : D → Res α) (f : EF) (ρ : Env) : eUn o f ρ = f ρ >>= o := id rfl
@[simp] theorem x_eCall (o : List D → Res D) (f : Env → Res (List D)) (ρ : Env) : eCall o f ρ = f ρ >>= o := id rfl
@[simp] theorem x_eIf (t : Env → Res Bool) (f g : EF) (ρ : Env) : eIf t f g ρ = t ρ >>= fun b => if b = true then f ρ else g ρ := id rfl
@[simp] theorem x_eNot (f : EF) (ρ : Env) : eNot f ρ = f ρ >>= fun d => dTru d >>= fun b => .ok (.bl (!b)) := id rfl
@[simp] theorem x_eAnd (f g : EF) (ρ : Env) : eAnd f g ρ = f ρ >>= fun d => dTru d >>= fun b => if b = true then g ρ else .ok d := id rfl
@[simp] theorem x_eOr (f g : EF) (ρ : Env) : eOr f g ρ = f ρ >>= fun d => dTru d >>= fun b => if b = true then .ok d else g ρ := id rfl
@[simp] theorem x_bAnd (f g : Env → Res Bool) (ρ : Env) : bAnd f g ρ = f ρ >>= fun b => if b = true then g ρ else .ok false := id rfl
@[simp] theorem x_bOr (f g : Env → Res Bool) (ρ : Env) : bOr f g ρ = f ρ >>= fun b => if b = true then .ok true else g ρ := id rfl
@[simp] theorem x_bNot (f : Env → Res Bool) (ρ : Env) : bNot f ρ = f ρ >>= fun b => .ok (!b) := id rfl
@[simp] theorem x_bYes (ρ : Env) : bYes ρ = .ok true := id rfl
@[simp] theorem x_iSeq (f : EF) (ρ : Env) : iSeq f ρ = f ρ >>= dItems := id rfl
@[simp] theorem x_iCall (o : List D → Res (List D)) (fs : Env → Res (List D)) (ρ : Env) : iCall o fs ρ = fs ρ >>= o := id rfl
@[simp] theorem x_sNext (ρ : Env) : sNext ρ = .next ρ := id rfl
@[simp] theorem x_sRet (f : EF) (ρ : Env) : sRet f ρ = (f ρ).flow ρ fun d => .ret d := id rfl
@[simp] theorem x_sRetN (ρ : Env) : sRetN ρ = .ret .non := id rfl
@[simp] theorem x_sDrop (f : EF) (ρ : Env) : sDrop f ρ = (f ρ).flow ρ fun _ => .next ρ := id rfl
@[simp] theorem x_sIf (t : Env → Res Bool) (F G : SF) (ρ : Env) : sIf t F G ρ = (t ρ).flow ρ fun b => if b = true then F ρ else G ρ := id rfl
@[simp] theorem x_sSet (i : Nat) (f : EF) (ρ : Env) : sSet i f ρ = (f ρ).flow ρ fun d => .next (ρ.set i (some d)) := id rfl
def resF (r : Res Env) : Flow := match r with
  | .ok ρ' => .next ρ'
  | _ => .err
@[simp] theorem resF_ok (ρ : Env) : resF (.ok ρ) = .next ρ := id rfl
@[simp] theorem x_sUnp (gf : Env → D → Res Env) (f : EF) (ρ : Env) : sUnp gf f ρ = (f ρ).flow ρ fun d => resF (gf ρ d) := by
  unfold sUnp
  cases f ρ with
  | ok d =>
    show sUnp.noX' _ = resF _
    cases gf ρ d <;> rfl
  | _ => rfl
@[simp] theorem x_sBreak (ρ : Env) : sBreak ρ = .brk ρ := id rfl
@[simp] theorem x_sCont (ρ : Env) : sCont ρ = .cont ρ := id rfl
@[simp] theorem x_sPar (is : List Nat) (fs : List EF) (ρ : Env) : sPar is fs ρ = (evL fs ρ).flow ρ fun ds => .next (setL ρ is ds) := id rfl
@[simp] theorem x_sRaise (c : Str) (ρ : Env) : sRaise c ρ = .exc c ρ := id rfl
@[simp] theorem x_gfName (i : Nat) (ρ : Env) (d : D) : gfName i ρ d = .ok (ρ.set i (some d)) := id rfl
@[simp] theorem x_gfTup (is : List Nat) (ρ : Env) (ds : List D) : gfTup is ρ (.tup ds) = if ds.length = is.length then .ok (setL ρ is ds) else .err := id rfl
@[simp] theorem x_setL0 (ρ : Env) (ds : List D) : setL ρ [] ds = ρ := by unfold setL; rfl
@[simp] theorem x_setL1 (ρ : Env) (i : Nat) (is : List Nat) (d : D) (ds : List D) : setL ρ (i :: is) (d :: ds) = setL (ρ.set i (some d)) is ds := id rfl
@[simp] theorem x_evL0 (ρ : Env) : evL [] ρ = .ok [] := id rfl
@[simp] theorem x_evL1 (f : EF) (r : List EF) (ρ : Env) : evL (f :: r) ρ = f ρ >>= fun d => evL r ρ >>= fun ds => .ok (d :: ds) := id rfl
@[simp] theorem x_wipe0 (ρ : Env) : wipeE ρ [] = ρ := id rfl
@[simp] theorem x_wipe1 (ρ : Env) (v : Nat) (vs : List Nat) : wipeE ρ (v :: vs) = (wipeE ρ vs).set v none := id rfl
theorem x_sFor (fI : Px.Env → Res (List D)) (gf : Px.Env → D → Res Px.Env) (F : SF) (ρ : Px.Env) : sFor fI gf F ρ = (fI ρ).flow ρ fun ds => forE gf F ds ρ := id rfl
@[simp] theorem x_oNone (ρ : Env) : oNone ρ = .ok none := id rfl
def asI : D → Res (Option Int)
  | .int i => .ok (some i)
  | _ => .err
@[simp] theorem asI_int (i : Int) : asI (.int i) = .ok (some i) := id rfl
@[simp] theorem x_oSome (f : EF) (ρ : Env) : oSome f ρ = f ρ >>= asI := by
  unfold oSome
  cases f ρ with
  | ok d => cases d <;> rfl
  | _ => rfl
@[simp] theorem x_eSl (f : EF) (lo hi : Env → Res (Option Int)) (ρ : Env) : eSl f lo hi ρ = f ρ >>= fun d => lo ρ >>= fun a => hi ρ >>= fun b => dSl d a b := id rfl
@[simp] theorem x_dSl_l (xs : List D) (a b : Option Int) : dSl (.lst xs) a b = .ok (.lst (cut xs a b)) := id rfl
@[simp] theorem x_dSl_t (xs : List D) (a b : Option Int) : dSl (.tup xs) a b = .ok (.tup (cut xs a b)) := id rfl
def vD (o : Option D) : Res D := match o with
  | some d => .ok d
  | none => .err
@[simp] theorem vD_some (d : D) : vD (some d) = .ok d := id rfl
@[simp] theorem x_eVar (i : Nat) (ρ : Env) : eVar i ρ = vD (ρ.getD i none) := id rfl
@[simp] theorem x_asB (b : Bool) : asB (.bl b) = .ok b := id rfl
@[simp] theorem x_tru_n : dTru .non = .ok false := id rfl
@[simp] theorem x_tru_b (b : Bool) : dTru (.bl b) = .ok b := id rfl
@[simp] theorem x_tru_i (i : Int) : dTru (.int i) = .ok (i != 0) := id rfl
@[simp] theorem x_tru_t (xs : List D) : dTru (.tup xs) = .ok (!xs.isEmpty) := id rfl
@[simp] theorem x_tru_l (xs : List D) : dTru (.lst xs) = .ok (!xs.isEmpty) := id rfl
@[simp] theorem x_add (i j : Int) : dAdd (.int i) (.int j) = .ok (.int (i + j)) := id rfl
@[simp] theorem x_add_l (a b : List D) : dAdd (.lst a) (.lst b) = if a.length + b.length ≤ sizeLine then .ok (.lst (a ++ b)) else .err := id rfl
@[simp] theorem x_add_t (a b : List D) : dAdd (.tup a) (.tup b) = if a.length + b.length ≤ sizeLine then .ok (.tup (a ++ b)) else .err := id rfl
@[simp] theorem x_sub (i j : Int) : dSub (.int i) (.int j) = .ok (.int (i - j)) := id rfl
@[simp] theorem x_mod (i j : Int) (h : 0 < j) : dMod (.int i) (.int j) = .ok (.int (i % j)) := by
  show (if _ then _ else _) = _
  rw [if_pos h]
@[simp] theorem x_cmp (p : Int → Int → Bool) (i j : Int) : dCmpI p (.int i) (.int j) = .ok (.bl (p i j)) := id rfl
@[simp] theorem x_len_t (xs : List D) : fLen [.tup xs] = .ok (.int xs.length) := id rfl
@[simp] theorem x_len_l (xs : List D) : fLen [.lst xs] = .ok (.int xs.length) := id rfl
@[simp] theorem x_tup_t (xs : List D) : fTuple [.tup xs] = .ok (.tup xs) := id rfl
@[simp] theorem x_tup_l (xs : List D) : fTuple [.lst xs] = .ok (.tup xs) := id rfl
@[simp] theorem x_list_t (xs : List D) : fList [.tup xs] = .ok (.lst xs) := id rfl
@[simp] theorem x_list_l (xs : List D) : fList [.lst xs] = .ok (.lst xs) := id rfl
@[simp] theorem x_int_i (i : Int) : fInt [.int i] = .ok (.int i) := id rfl
@[simp] theorem x_abs (i : Int) : fAbs [.int i] = .ok (.int (if i < 0 then -i else i)) := id rfl
@[simp] theorem x_items_t (xs : List D) : dItems (.tup xs) = .ok xs := id rfl
@[simp] theorem x_items_l (xs : List D) : dItems (.lst xs) = .ok xs := id rfl
@[simp] theorem x_pow (i : Int) (j : Int) (h : 0 ≤ j ∧ j ≤ 1000000 ∧ i.natAbs < 2 ^ 64) : dPow (.int i) (.int j) = .ok (.int (i ^ j.toNat)) := by
  show (if _ then _ else _) = _
  rw [if_pos h]
theorem sl_eq : sizeLine = 16777216 := sizeLine_eq
@[simp] theorem sKill_x (is : List Nat) (F : SF) (ρ : Env) : sKill is F ρ = F (wipeE ρ is) := id rfl
theorem sSeq_of {F G : SF} {ρ ρ' : Env} (h : F ρ = .next ρ') : sSeq F G ρ = G ρ' := by
  unfold sSeq
  rw [h]
theorem sSeq_ret {F G : SF} {ρ : Env} {d : D} (h : F ρ = .ret d) : sSeq F G ρ = .ret d := by
  unfold sSeq
  rw [h]
@[simp] theorem sSeq_set (i : Nat) (f : EF) (G : SF) (ρ : Env) : sSeq (sSet i f) G ρ = (f ρ).flow ρ fun d => G (ρ.set i (some d)) := by
  unfold sSeq sSet
  cases f ρ <;> rfl
theorem sSeq_def (F G : SF) (ρ : Env) : sSeq F G ρ = match F ρ with
  | .next ρ' => G ρ'
  | r => r := rfl
def seqK (r : Flow) (k : Env → Flow) : Flow := match r with
  | .next ρ' => k ρ'
  | r => r
@[simp] theorem seqK_next (ρ : Env) (k : Env → Flow) : seqK (.next ρ) k = k ρ := id rfl
@[simp] theorem seqK_ret (d : D) (k : Env → Flow) : seqK (.ret d) k = .ret d := id rfl
@[simp] theorem seqK_cont (ρ : Env) (k : Env → Flow) : seqK (.cont ρ) k = .cont ρ := id rfl
@[simp] theorem seqK_brk (ρ : Env) (k : Env → Flow) : seqK (.brk ρ) k = .brk ρ := id rfl
@[simp] theorem seqK_exc (c : Str) (ρ : Env) (k : Env → Flow) : seqK (.exc c ρ) k = .exc c ρ := id rfl
@[simp] theorem sSeq_x (F G : SF) (ρ : Env) : sSeq F G ρ = seqK (F ρ) G := by
  unfold sSeq seqK
  rfl
@[simp] theorem seqK_ite {c : Prop} [Decidable c] (a b : Flow) (k : Env → Flow) : seqK (if c then a else b) k = if c then seqK a k else seqK b k := by split <;> rfl
@[simp] theorem loopK_ite {c : Prop} [Decidable c] (a b : Flow) (k : Env → Flow) : loopK (if c then a else b) k = if c then loopK a k else loopK b k := by split <;> rfl
@[simp] theorem dMul_i (i j : Int) (h : mulOk i j = true) : dMul (.int i) (.int j) = .ok (.int (i * j)) := by
  show (if _ then _ else _) = _
  rw [if_pos h]
@[simp] theorem dDiv_i (i j : Int) (h : 0 < j ∧ j < 1073741824) : dDiv (.int i) (.int j) = .ok (.int (i / j)) := by
  show (if _ then _ else _) = _
  rw [if_pos h]
theorem mulOk_r (i j : Int) (h : -(2 ^ 64) < j ∧ j < 2 ^ 64) : mulOk i j = true := decide_eq_true (.inr h)
theorem mulOk_l (i j : Int) (h : -(2 ^ 64) < i ∧ i < 2 ^ 64) : mulOk i j = true := decide_eq_true (.inl h)
theorem app_ok {i : Nat} {f : EF} {ρ : Env} {xs : List D} {d : D} (h : ρ.getD i none = some (.lst xs)) (hf : f ρ = .ok d) (hl : xs.length < sizeLine) : sAppend i f ρ = .next (ρ.set i (some (.lst (xs ++ [d])))) := by
  unfold sAppend
  rw [h]
  dsimp only
  rw [hf]
  dsimp only [Res.flow]
  rw [if_pos hl]
/-- a walk that neither ends nor leaves -/
theorem for_inv {gf : Env → D → Res Env} {F : SF} {P : Nat → Env → Prop} : ∀ {ds : List D} {n : Nat} {ρ : Env}, P n ρ →
    (∀ i d, ds[i]? = some d → ∀ ρ, P (n + i) ρ → ∃ ρ1 ρ', gf ρ d = .ok ρ1 ∧ (F ρ1 = .next ρ' ∨ F ρ1 = .cont ρ') ∧ P (n + i + 1) ρ') → ∃ ρ', forE gf F ds ρ = .next ρ' ∧ P (n + ds.length) ρ'
  | [], n, ρ, h, _ => ⟨ρ, rfl, h⟩
  | d :: ds, n, ρ, h, st => by
    obtain ⟨ρ1, ρ', e1, e2, p⟩ := st 0 d rfl ρ h
    obtain ⟨ρ2, e3, p2⟩ := for_inv (ds := ds) (n := n + 1) p fun i d' hi ρ hp => by
      have := st (i + 1) d' hi ρ (by rw [show n + (i + 1) = n + 1 + i by omega]; exact hp)
      rw [show n + (i + 1) + 1 = n + 1 + i + 1 by omega] at this
      exact this
    refine ⟨ρ2, ?_, by rw [List.length_cons, show n + (ds.length + 1) = n + 1 + ds.length by omega]; exact p2⟩
    unfold forE
    rw [e1]
    dsimp only [Res.must]
    rcases e2 with e2 | e2 <;> (rw [e2]; exact e3)
/-- a walk that looks for the first that ends it -/
def Scan (P : Env → Prop) (o : Option D) (fl : Flow) : Prop := match o with
  | some r => fl = .ret r
  | none => ∃ ρ, (fl = .next ρ ∨ fl = .cont ρ) ∧ P ρ
theorem for_scan {gf : Env → D → Res Env} {F : SF} {P : Env → Prop} {bad : D → Option D} : ∀ {ds : List D} {ρ : Env}, P ρ →
    (∀ d ∈ ds, ∀ ρ, P ρ → ∃ ρ1, gf ρ d = .ok ρ1 ∧ Scan P (bad d) (F ρ1)) → match ds.findSome? bad with
      | some r => forE gf F ds ρ = .ret r
      | none => ∃ ρ', forE gf F ds ρ = .next ρ' ∧ P ρ'
  | [], ρ, h, _ => ⟨ρ, rfl, h⟩
  | d :: ds, ρ, h, st => by
    obtain ⟨ρ1, e1, sc⟩ := st d List.mem_cons_self ρ h
    unfold forE
    rw [e1]
    dsimp only [Res.must]
    rw [List.findSome?_cons]
    cases e : bad d with
    | some r =>
      rw [e] at sc
      have sc : F ρ1 = .ret r := sc
      rw [sc]
      rfl
    | none =>
      rw [e] at sc
      obtain ⟨ρ', e2, p⟩ := sc
      have ih := for_scan (ds := ds) p fun d' hd => st d' (List.mem_cons_of_mem _ hd)
      dsimp only
      rcases e2 with e2 | e2 <;> (rw [e2]; exact ih)
theorem lc_map {i : Nat} {f : EF} {ρ : Env} {g : D → D} : ∀ {ds : List D}, (∀ d ∈ ds, f (ρ.set i (some d)) = .ok (g d)) → lcE (gfName i) bYes f ρ ds = .ok (ds.map g)
  | [], _ => rfl
  | d :: ds, h => by
    have := lc_map (ds := ds) fun d' hd => h d' (List.mem_cons_of_mem _ hd)
    simp [lcE, h d List.mem_cons_self, this]
@[simp] theorem atI_nat {α : Type} (xs : List α) (n : Nat) : atI xs (n : Int) = xs[n]? := by
  unfold atI ixN
  by_cases h : n < xs.length
  · have : ((n : Int) < xs.length) := by omega
    simp [this]
  · have : ¬ ((n : Int) < xs.length) := by omega
    simp [this]
    omega
theorem dIx_lst {xs : List D} {n : Nat} {d : D} (h : xs[n]? = some d) : dIx (.lst xs) (.int n) = .ok d := by
  simp [dIx, h]
theorem dIx_tup {xs : List D} {n : Nat} {d : D} (h : xs[n]? = some d) : dIx (.tup xs) (.int n) = .ok d := by
  simp [dIx, h]
@[simp] theorem rng_zero (n : Nat) : rng 0 n = (List.range n).map fun i => .int (i : Nat) := by
  simp [rng]
theorem dRng1_nat (n : Nat) (h : n ≤ 16777216) : dRng1 [.int n] = .ok ((List.range n).map fun i => .int (i : Nat)) := by
  have : ((n : Int) ≤ 16777216 ∧ -(2 ^ 62) ≤ (n : Int)) := ⟨by omega, by omega⟩
  simp only [dRng1]
  rw [if_pos this]
  simp
@[simp] theorem x_eq_ii (i j : Int) : dEq (.int i) (.int j) = .ok (.bl (i == j)) := by
  simp [dEq, okN, eqD]
@[simp] theorem x_ne_ii (i j : Int) : dNe (.int i) (.int j) = .ok (.bl (!(i == j))) := by
  simp [dNe, okN, eqD]
theorem x_eq_ss (a b : Str) (h : PyData.strOk a = true) (h2 : PyData.strOk b = true) : dEq (.str a) (.str b) = .ok (.bl (a == b)) := by
  simp [dEq, okN, eqD, h, h2]
theorem x_ne_ss (a b : Str) (h : PyData.strOk a = true) (h2 : PyData.strOk b = true) : dNe (.str a) (.str b) = .ok (.bl (!(a == b))) := by
  simp [dNe, okN, eqD, h, h2]
@[simp] theorem x_is_n (d : D) : dIs d .non = .ok (.bl (isNon d)) := by
  cases d <;> rfl
@[simp] theorem x_isNot_n (d : D) : dIsNot d .non = .ok (.bl (!isNon d)) := by
  cases d <;> rfl
@[simp] theorem isNon_n : isNon .non = true := id rfl
@[simp] theorem isNon_i (i : Int) : isNon (.int i) = false := id rfl
@[simp] theorem isNon_s (i : Str) : isNon (.str i) = false := id rfl
@[simp] theorem isNon_t (i : List D) : isNon (.tup i) = false := id rfl
@[simp] theorem isNon_l (i : List D) : isNon (.lst i) = false := id rfl
@[simp] theorem isNon_b (i : Bool) : isNon (.bl i) = false := id rfl
@[simp] theorem isi_n (p : D → Bool) : dIsi p .non = .ok (.bl (p .non)) := id rfl
@[simp] theorem isi_b (p : D → Bool) (b : Bool) : dIsi p (.bl b) = .ok (.bl (p (.bl b))) := id rfl
@[simp] theorem isi_i (p : D → Bool) (b : Int) : dIsi p (.int b) = .ok (.bl (p (.int b))) := id rfl
@[simp] theorem isi_s (p : D → Bool) (b : Str) : dIsi p (.str b) = .ok (.bl (p (.str b))) := id rfl
@[simp] theorem isi_t (p : D → Bool) (b : List D) : dIsi p (.tup b) = .ok (.bl (p (.tup b))) := id rfl
@[simp] theorem isi_l (p : D → Bool) (b : List D) : dIsi p (.lst b) = .ok (.bl (p (.lst b))) := id rfl
@[simp] theorem k_ii (i : Int) : isInt (.int i) = true := id rfl
@[simp] theorem k_ib (i : Bool) : isInt (.bl i) = true := id rfl
@[simp] theorem k_in : isInt .non = false := id rfl
@[simp] theorem k_is (i : Str) : isInt (.str i) = false := id rfl
@[simp] theorem k_it (i : List D) : isInt (.tup i) = false := id rfl
@[simp] theorem k_il (i : List D) : isInt (.lst i) = false := id rfl
@[simp] theorem k_bi (i : Int) : isBool (.int i) = false := id rfl
@[simp] theorem k_bb (i : Bool) : isBool (.bl i) = true := id rfl
@[simp] theorem k_bn : isBool .non = false := id rfl
@[simp] theorem k_bs (i : Str) : isBool (.str i) = false := id rfl
@[simp] theorem k_bt (i : List D) : isBool (.tup i) = false := id rfl
@[simp] theorem k_bl (i : List D) : isBool (.lst i) = false := id rfl
@[simp] theorem k_si (i : Int) : isStr (.int i) = false := id rfl
@[simp] theorem k_sb (i : Bool) : isStr (.bl i) = false := id rfl
@[simp] theorem k_sn : isStr .non = false := id rfl
@[simp] theorem k_ss (i : Str) : isStr (.str i) = true := id rfl
@[simp] theorem k_st (i : List D) : isStr (.tup i) = false := id rfl
@[simp] theorem k_sl (i : List D) : isStr (.lst i) = false := id rfl
@[simp] theorem k_ti (i : Int) : isTup (.int i) = false := id rfl
@[simp] theorem k_tb (i : Bool) : isTup (.bl i) = false := id rfl
@[simp] theorem k_tn : isTup .non = false := id rfl
@[simp] theorem k_ts (i : Str) : isTup (.str i) = false := id rfl
@[simp] theorem k_tt (i : List D) : isTup (.tup i) = true := id rfl
@[simp] theorem k_tl (i : List D) : isTup (.lst i) = false := id rfl
@[simp] theorem k_li (i : Int) : isLst (.int i) = false := id rfl
@[simp] theorem k_lb (i : Bool) : isLst (.bl i) = false := id rfl
@[simp] theorem k_ln : isLst .non = false := id rfl
@[simp] theorem k_ls (i : Str) : isLst (.str i) = false := id rfl
@[simp] theorem k_lt (i : List D) : isLst (.tup i) = false := id rfl
@[simp] theorem k_ll (i : List D) : isLst (.lst i) = true := id rfl
theorem isi_ok {n : Nat} {p : D → Bool} {d : D} (h : okN n d = true) : dIsi p d = .ok (.bl (p d)) := by
  cases d with
  | dic _ _ _ => rw [okN] at h <;> first | cases h | (intro q; cases q)
  | ins _ _ _ => rw [okN] at h <;> first | cases h | (intro q; cases q)
  | set _ => rw [okN] at h <;> first | cases h | (intro q; cases q)
  | exc _ => rw [okN] at h <;> first | cases h | (intro q; cases q)
  | oth => rw [okN] at h <;> first | cases h | (intro q; cases q)
  | _ => rfl
@[simp] theorem x_min2 (i j : Int) : fMin [.int i, .int j] = .ok (.int (if j < i then j else i)) := id rfl
@[simp] theorem x_max2 (i j : Int) : fMax [.int i, .int j] = .ok (.int (if j > i then j else i)) := id rfl
theorem x_min_l (b : Int) (bs : List Int) : fMin [.lst ((b :: bs).map .int)] = .ok (.int (bs.foldl min b)) := by
  simp only [fMin, nums_map]
theorem x_min_t (b : Int) (bs : List Int) : fMin [.tup ((b :: bs).map .int)] = .ok (.int (bs.foldl min b)) := by
  simp only [fMin, nums_map]
theorem x_all (bs : List Bool) : fAll [.lst (bs.map .bl)] = .ok (.bl (bs.all fun z => z)) := by
  simp only [fAll, bools_map]
theorem x_any (bs : List Bool) : fAny [.lst (bs.map .bl)] = .ok (.bl (bs.any fun z => z)) := by
  simp only [fAny, bools_map]
/-- a comprehension: what holds of each -/
theorem lc_ex {gf : Px.Env → D → Res Px.Env} {f : EF} {ρ : Px.Env} {Q : D → Prop} : ∀ {ds : List D}, (∀ d ∈ ds, ∃ ρ1 y, gf ρ d = .ok ρ1 ∧ f ρ1 = .ok y ∧ Q y) → ∃ ys, lcE gf bYes f ρ ds = .ok ys ∧ ys.length = ds.length ∧ ∀ y ∈ ys, Q y
  | [], _ => ⟨[], rfl, rfl, fun y h => nomatch h⟩
  | d :: ds, h => by
    obtain ⟨ρ1, y, e1, e2, q⟩ := h d List.mem_cons_self
    obtain ⟨ys, e3, hl, hq⟩ := lc_ex (ds := ds) fun d' hd => h d' (List.mem_cons_of_mem _ hd)
    refine ⟨y :: ys, ?_, by simp [hl], fun z hz => ?_⟩
    · simp [lcE, e1, e2, e3]
    · rcases List.mem_cons.mp hz with rfl | hz
      · exact q
      · exact hq z hz
/-- a comprehension of bools -/
theorem lc_bools {gf : Px.Env → D → Res Px.Env} {f : EF} {ρ : Px.Env} {p : D → Bool} : ∀ {ds : List D}, (∀ d ∈ ds, ∃ ρ1, gf ρ d = .ok ρ1 ∧ f ρ1 = .ok (.bl (p d))) → lcE gf bYes f ρ ds = .ok ((ds.map p).map .bl)
  | [], _ => rfl
  | d :: ds, h => by
    obtain ⟨ρ1, e1, e2⟩ := h d List.mem_cons_self
    have := lc_bools (ds := ds) fun d' hd => h d' (List.mem_cons_of_mem _ hd)
    simp [lcE, e1, e2, this]
theorem imin_lt (a b x : Int) : min a b < x ↔ a < x ∨ b < x := by omega
theorem cut_hi {α : Type} (xs : List α) (n : Nat) : cut xs none (some (n : Int)) = xs.take n := by
  unfold cut
  rw [HT.sIx_none, HT.sIx_nat, List.drop_zero, Nat.sub_zero]
  apply List.take_eq_take_iff.mpr
  omega
theorem cut_lo {α : Type} (xs : List α) (n : Nat) : cut xs (some (n : Int)) none = xs.drop n := by
  unfold cut
  rw [HT.sIx_none, HT.sIx_nat]
  rw [List.take_of_length_le (by simp)]
  apply List.drop_eq_drop_iff.mpr
  omega
theorem cut_lh {α : Type} (xs : List α) (a b : Nat) : cut xs (some (a : Int)) (some (b : Int)) = (xs.drop a).take (b - a) := by
  unfold cut
  rw [HT.sIx_nat, HT.sIx_nat]
  have e : xs.drop (min a xs.length) = xs.drop a := List.drop_eq_drop_iff.mpr (by omega)
  rw [e]
  apply List.take_eq_take_iff.mpr
  simp
  omega
end Px

namespace Px
open PySem PySem.Spec PyProof.Rows L2
/-! ### nested targets -/
def GSems (K : PySem.W.Frag) (g : TGs) (gfs : Px.Env → List D → Res Px.Env) (is : List Nat) : Prop :=
  ∀ ex vs σ H Q ds ρ ρ', Paired (R K ex H) ds vs → gfs ρ ds = .ok ρ' → (∀ l : Sets, (∀ t ∈ l, R K ex H t.2.1 t.2.2 ∧ t.1 ∈ is) → ρ' = setE ρ l → Q (setS σ l) H) → g vs σ H Q
def gfN : Px.Env → List D → Res Px.Env := fun ρ ds => match ds with
  | [] => .ok ρ
  | _ => .err
def gfC (gf : Px.Env → D → Res Px.Env) (gfs : Px.Env → List D → Res Px.Env) : Px.Env → List D → Res Px.Env := fun ρ ds => match ds with
  | d :: r => (match gf ρ d with
    | .ok ρ1 => gfs ρ1 r
    | _ => .err)
  | _ => .err
def gfT (n : Nat) (gfs : Px.Env → List D → Res Px.Env) : Px.Env → D → Res Px.Env := fun ρ d => match d with
  | .tup ds => if ds.length = n then gfs ρ ds else .err
  | _ => .err
@[simp] theorem x_gfN (ρ : Px.Env) : gfN ρ [] = .ok ρ := id rfl
@[simp] theorem x_gfT (n : Nat) (gfs : Px.Env → List D → Res Px.Env) (ρ : Px.Env) (ds : List D) : gfT n gfs ρ (.tup ds) = if ds.length = n then gfs ρ ds else .err := id rfl
@[simp] theorem x_gfCn (i : Nat) (gfs : Px.Env → List D → Res Px.Env) (ρ : Px.Env) (d : D) (ds : List D) : gfC (gfName i) gfs ρ (d :: ds) = gfs (ρ.set i (some d)) ds := id rfl
theorem setE_append (ρ : Px.Env) (l1 l2 : Sets) : setE (setE ρ l1) l2 = setE ρ (l1 ++ l2) := by
  unfold setE
  rw [List.foldl_append]
theorem setS_append (σ : L2.St) (l1 l2 : Sets) : setS (setS σ l1) l2 = setS σ (l1 ++ l2) := by
  unfold setS
  rw [List.foldl_append]
theorem gs_n {K : PySem.W.Frag} : GSems K gNil gfN [] := fun ex vs σ H Q ds ρ ρ' p e h => by
  cases p with
  | nil =>
    cases e
    exact ⟨rfl, h [] (fun t ht => nomatch ht) rfl⟩
  | cons r t => cases e
theorem gs_c {K : PySem.W.Frag} {g : TG} {gs : TGs} {gf : Px.Env → D → Res Px.Env} {gfs : Px.Env → List D → Res Px.Env} {is js : List Nat} (h1 : GSem K g gf is) (h2 : GSems K gs gfs js) : GSems K (gCons g gs) (gfC gf gfs) (is ++ js) := fun ex vs σ H Q ds ρ ρ' p e h => by
  cases p with
  | nil => cases e
  | cons r t =>
    rename_i d v ds vs
    simp only [gfC] at e
    cases e1 : gf ρ d with
    | ok ρ1 =>
      rw [e1] at e
      refine ⟨v, vs, rfl, h1 ex v σ H _ d ρ ρ1 r e1 fun l hl q => ?_⟩
      refine h2 ex vs _ H Q ds ρ1 ρ' t e fun l2 hl2 q2 => ?_
      rw [setS_append]
      refine h (l ++ l2) (fun z hz => ?_) (by rw [← setE_append, ← q, q2])
      rcases List.mem_append.mp hz with hz | hz
      · exact ⟨(hl z hz).1, List.mem_append.mpr (.inl (hl z hz).2)⟩
      · exact ⟨(hl2 z hz).1, List.mem_append.mpr (.inr (hl2 z hz).2)⟩
    | exc c => rw [e1] at e; cases e
    | err => rw [e1] at e; cases e
theorem gs_t {K : PySem.W.Frag} {n : Nat} {gs : TGs} {gfs : Px.Env → List D → Res Px.Env} {is : List Nat} (h1 : GSems K gs gfs is) : GSem K (gTup K n gs) (gfT n gfs) is := fun ex v σ H Q d ρ ρ' r e h => by
  unfold gfT at e
  split at e
  · split at e
    · rename_i ds hl
      rw [R] at r
      obtain ⟨a, xs, rfl, h1', h2⟩ := r
      exact ⟨a, xs, rfl, .inl (.inl h1'.1), by rw [← RL.length h2]; exact hl, h1 ex xs σ H Q ds ρ ρ' (RL.pair h2) e h⟩
    · cases e
  · cases e
end Px

/-! enumerate over what begins an iterator -/
namespace PySem
open Sem (wp)
theorem px_enum_new {v : Value} {o : Obj} {H : Heap → Prop} (B : Begins v o H) :
    Meets (Builtin.«enumerate.__new__» ⟨[.type "enumerate", v], []⟩) (fun _ R s => H s.heap ∧
      R (.ok (.ret (.ref (s.heap.push o).objs.size))) { s with heap := (s.heap.push o).push { cls := .type "enumerate", data := .fields #[.none, .bool false, .ref s.heap.objs.size, rawInt 0, .none, .none] } }) :=
  .of_wp fun prog w A R s h => by
    obtain ⟨hp, g, d, tk, os⟩ := s; obtain ⟨h1, h⟩ := h
    have hsub := sub_enumerate
    have q1 : ∀ {A' : Around} {E : Value → Shared → Prop} {Q : Value → Shared → Prop}, Q (.ref hp.objs.size) ⟨hp.push o, g, d, tk, os⟩ → wpAny (model prog w) A' (pyIter v) Q E ⟨hp, g, d, tk, os⟩ :=
      fun q => B.iter prog w _ _ ⟨hp, g, d, tk, os⟩ _ h1 q
    wp_walk using q1
    refine wpAny_stack_any fun st => wpAny_pure ?_
    split
    · rename_i c _ _ _ _ _
      cases (c == Value.type "enumerate")
      · wp_walk using q1
        exact ⟨_, rfl, h⟩
      · wp_walk using q1
        exact ⟨_, rfl, h⟩
    · wp_walk using q1
      exact ⟨_, rfl, h⟩
theorem px_call_enum {prog : Program} {w : World} {A : Around} {E : Value → Shared → Prop} {s : Shared} {v : Value} {o : Obj} {H : Heap → Prop} {Q : Value → Shared → Prop} (B : Begins v o H) (h1 : H s.heap)
    (h : ∀ h', IsEnum h' (s.heap.objs.size + 1) s.heap.objs.size 0 .none → h'.get? s.heap.objs.size = some o → h'.objs.size = s.heap.objs.size + 2 →
      (∀ b o, s.heap.get? b = some o → h'.get? b = some o) → Q (.ref (s.heap.objs.size + 1)) { s with heap := h' }) :
    wpAny (model prog w) A (call (.type "enumerate") [v]) Q E s := by
  refine callType_new F.called_enumerate (by decide) (F.typeCall_enumerate_1 _) (F.newCall_enumerate_1 _) (fun obj => F.args_object_init_2 obj _) F.entry_enumerate_new
    (px_enum_new B) ⟨h1, ?_⟩
  have hz : (s.heap.push o).objs.size = s.heap.objs.size + 1 := Heap.size_push ..
  show _ ∧ _
  rw [hz]
  have he : IsEnum ((s.heap.push o).push { cls := .type "enumerate", data := .fields #[.none, .bool false, .ref s.heap.objs.size, rawInt 0, .none, .none] }) (s.heap.objs.size + 1) s.heap.objs.size 0 .none := by
    have := Heap.get?_push_size (s.heap.push o) (o := { cls := .type "enumerate", data := .fields #[.none, .bool false, .ref s.heap.objs.size, rawInt 0, .none, .none] }) rfl
    rw [hz] at this; exact this
  refine ⟨⟨_, he, rfl⟩, h _ he (Heap.get?_push_of_some _ (Heap.get?_push_size _ B.free)) (by rw [Heap.size_push, hz]) fun b o x => Heap.get?_push_of_some _ (Heap.get?_push_of_some _ x)⟩
theorem wpAny_pyNext_enum_endT {prog : Program} {w : World} {A : Around} {E : Value → Shared → Prop} {s : Shared} {e it l : Addr} {i : Nat} {items : Array Value} {old : Value} {Q : Option Value → Shared → Prop} (hh : A.handled = none)
    (he : IsEnum s.heap e it i old) (hit : s.heap.IsTupleIter it l i) (hl : s.heap.IsTuple l items) (hx : items[i]? = none)
    (hQ : ∀ h', Heap.ExtBut it s.heap h' → Q none { s with heap := h' }) : wpAny (model prog w) A (pyNext (.ref e)) Q E s := by
  have hT : s.TypeIs (.ref e) "enumerate" := ⟨_, he, rfl⟩
  unfold pyNext
  refine wpAny_bind (wpAny_attempt (wpAny_callSpecial?_slot (name := Str.ofString "__next__") hT F.slot_enumerate_next
    (wpAny_call_entry F.slot_enumerate_next hT F.entry_enumerate_next ?_ (F.args_enumerate_next_1 _))))
  show wpAny _ _ (field (.ref e) 2 >>= _) _ _ _
  refine wpAny_bind (wpAny_field he rfl (x := .ref it) rfl ?_)
  refine wpAny_bind (wpAny_nextOf_tuple_end hh hit hl hx fun h' x he' hx' => ?_)
  obtain ⟨o, ho, hc⟩ := hx'
  refine wpAny_bind (wpAny_isInstance (T := "StopIteration") (b := true) ⟨o, ho, hc⟩ isSubtype_stop ?_)
  exact wpAny_pure (hQ _ he')
end PySem
namespace Px
open PySem PySem.Spec PyProof.Rows L2
/-- the tuple at a, each item in a new pair -/
def IteT (K : PySem.W.Frag) (a : Addr) : It :=
  ⟨fun i H => ∃ (xs : List V) (x : V), SqT K H a xs ∧ xs[i]? = some x, fun i H v H' => ∃ T x, v = .ref T ∧ H T = none ∧ H' = upd H T (.tup [.int (i : Nat), x]) ∧ ∀ xs, SqT K H a xs → xs[i]? = some x, fun i H => ∃ xs : List V, SqT K H a xs ∧ xs.length ≤ i⟩
theorem turn_enumT {P : Program} {w : World} {K : PySem.W.Frag} {elts : List Expr} {kk : Nat} {tpos : Pos} (a e it : Addr) :
    Turn P w K (.Tuple elts kk tpos) (IteT K a) [e, it] e (fun i h => (∃ old, IsEnum h e it ((i : Nat) : Int) old) ∧ h.IsTupleIter it a i ∧ e ≠ it ∧ a ≠ it ∧ a ≠ e) where
  mem := by simp
  obj := fun i h st b hb => by
    obtain ⟨⟨old, he⟩, ⟨o, ho, hc, hd⟩, _⟩ := st
    have e' : b = e ∨ b = it := by simpa using hb
    rcases e' with z | z
    · rw [z]; exact ⟨_, he, fun v q => nomatch q⟩
    · rw [z]; exact ⟨o, ho, fun v q => by rw [hd] at q; cases q⟩
  keep := fun i h h' st k => let ⟨⟨old, he⟩, hi, hne⟩ := st; ⟨⟨old, k e (by simp) _ he⟩, hi.at fun o q => k it (by simp) o q, hne⟩
  item := by
    intro X hP hw hK hc i pins s σ H E I hf st hg
    subst hP hw hK
    obtain ⟨⟨old, he⟩, hit, hne, ha1, ha2⟩ := st
    obtain ⟨xs, x, hq, hx⟩ := hg
    obtain ⟨its, rv, p, hz⟩ := I.tuple hq
    obtain ⟨u, hu, ru⟩ := rv.get hx
    have hel : e < s.heap.objs.size := Heap.lt_size he
    have hil : it < s.heap.objs.size := by obtain ⟨_, q, _⟩ := hit; exact Heap.lt_size q
    have hlt : i < its.toArray.size := by
      have := (List.getElem?_eq_some_iff.mp hu).1
      simpa using this
    refine wpAny_pyNext_enum_itemD (Draws.tuple (prog := X.prog) (w := X.w) (A := X.A.in1) (show X.A.in1.handled = none from I.ok.hd hc) it a ha1 its.toArray) he ⟨hit, p⟩ hlt hne (by simp [hne, Ne.symm ha2]) fun u' h' tk hu' ho hit' hT hsz hk => ?_
    have eu : u' = u := by
      have h1 : its[i]? = some u' := by simpa using hu'
      exact Option.some.inj (h1.symm.trans hu)
    subst eu
    refine ⟨_, rfl, wpAny_letOwnedTupleGo_enum (s := { s with heap := h', toks := tk + 1 }) ho fun h'' he' sb => ?_⟩
    have hT2 : h''.get? s.heap.objs.size = some { cls := .type "tuple", data := .seq #[.int i tk, u'] } := (sb.2 _ (Nat.ne_of_gt hel)).trans hT
    have new : ObjOk X.prog X.w (upd H s.heap.objs.size (.tup [.int (i : Nat), x])) h'' s.heap.objs.size (.tup [.int (i : Nat), x]) :=
      ⟨by show 2 ≤ sizeLine; decide, [.int i tk, u'], .cons ⟨_, rfl⟩ (.cons ru .nil), ⟨_, hT2, rfl, _, rfl⟩⟩
    have I1 : Inv X pins σ (upd H s.heap.objs.size (.tup [.int (i : Nat), x])) { s with heap := h'', toks := tk + 1 } :=
      I.turnedNew (ch := [e, it]) (fun b ob hb q => (sb.2 b (fun z => hb (by simp [z]))).trans (hk b ob (fun z => hb (by simp [z])) (fun z => hb (by simp [z])) q)) hf (Nat.le_refl _) new
    refine ⟨.ref s.heap.objs.size, _, I1, rfl, ⟨_, x, rfl, I.hok.fresh (Nat.le_refl _), rfl, fun ys hy => by rw [I.tuple_inj hy hq]; exact hx⟩, ⟨⟨u', ?_⟩, hit'.1.at fun o q => (sb.2 it (Ne.symm hne)).trans q, hne, ha1, ha2⟩, fun b hb => ?_⟩
    · have e1 : ((i + 1 : Nat) : Int) = (i : Int) + 1 := by omega
      rw [e1]; exact he'
    · have hb' : b < s.heap.objs.size := by
        have e' : b = e ∨ b = it := by simpa using hb
        rcases e' with z | z
        · rw [z]; exact hel
        · rw [z]; exact hil
      rw [upd_ne (Nat.ne_of_lt hb')]
      exact (hf b hb).1
  done := by
    intro X hP hw hK hc i pins s σ H E I hf st hg
    subst hP hw hK
    obtain ⟨⟨old, he⟩, hit, hne, ha1, ha2⟩ := st
    obtain ⟨xs, hq, hx⟩ := hg
    obtain ⟨its, rv, p, hz⟩ := I.tuple hq
    obtain ⟨f0, f1, f2, f3, f4, f5⟩ := hf it (by simp)
    have hl := rv.length
    have hit2 : s.heap.IsTupleIter it a i := hit
    exact wpAny_pyNext_enum_endT (I.ok.hd hc) he hit (show s.heap.IsTuple a its.toArray from p) (by simp; omega) fun h' eb => ⟨rfl, I.turned (t' := s.toks) (fun b o hb q => eb b o hb q) f0 f1 f3 f4 f5⟩
  self := fun A i s Q E st h => let ⟨⟨_, he⟩, _⟩ := st; wpAny_pyIter_enum he h
end Px
namespace Px
open PySem PySem.Spec PyProof.Rows L2
def enumL (xs : List D) : List D := xs.zipIdx.map fun p => .tup [.int (p.2 : Nat), p.1]
theorem enumL_len (xs : List D) : (enumL xs).length = xs.length := by simp [enumL]
theorem enumL_get {xs : List D} {i : Nat} {d : D} (h : (enumL xs)[i]? = some d) : ∃ x, xs[i]? = some x ∧ d = .tup [.int (i : Nat), x] := by
  simp only [enumL, List.getElem?_map, List.getElem?_zipIdx, Nat.zero_add] at h
  cases e : xs[i]? with
  | none => rw [e] at h; cases h
  | some x =>
    rw [e] at h
    cases h
    exact ⟨x, rfl, rfl⟩
theorem itn_enumT {K : PySem.W.Frag} {n : Nat} {ds : List D} {a : Addr} (hl : ds.length ≤ sizeLine) : Itn K n (IteT K a) ((.tup ds, .ref a), (.non, .non)) (enumL ds) := by
  have ob : ∀ ex H, RB K ex H n (.tup ds) (.ref a) → ∃ xs, SqT K H a xs ∧ Paired (R K ex H) ds xs := fun ex H h => by
    obtain ⟨b, xs, e, h1, h2, h3⟩ := RB.tup h
    cases e
    exact ⟨xs, h1, h3⟩
  refine ⟨by rw [enumL_len]; exact hl, fun ex H i h hi => ?_, fun ex H h => ?_, fun ex H i d x H' h hd hy => ?_⟩
  · rw [enumL_len] at hi
    obtain ⟨xs, h1, h2⟩ := ob ex H h.1
    obtain ⟨x, hx, _⟩ := Paired.get h2 (List.getElem?_eq_getElem hi)
    exact ⟨xs, x, h1, hx⟩
  · obtain ⟨xs, h1, h2⟩ := ob ex H h.1
    exact ⟨xs, h1, by rw [enumL_len, h2.length]; exact Nat.le_refl _⟩
  · obtain ⟨xs, h1, h2⟩ := ob ex H h.1
    obtain ⟨z, hz, rfl⟩ := enumL_get hd
    obtain ⟨y, hy1, ry⟩ := Paired.get h2 hz
    obtain ⟨T, x', rfl, hT, rfl, hy2⟩ := hy
    have e := hy2 xs h1
    rw [hy1] at e
    cases e
    have sm : Same H (upd H T (.tup [.int (i : Nat), y])) := same_upd hT
    refine ⟨sm, RB.of ?_⟩
    rw [R]
    refine ⟨T, [.int (i : Nat), y], rfl, ⟨upd_same, (by decide : (2 : Nat) ≤ sizeLine)⟩, RL.of (.cons (by rw [R]) (.cons (R.same sm ry) .nil))⟩
def dEnum : List D → Res (List D)
  | [.tup xs] => .ok (enumL xs)
  | _ => .err
@[simp] theorem x_dEnum (xs : List D) : dEnum [.tup xs] = .ok (enumL xs) := id rfl
def iEnumT (K : PySem.W.Frag) (ta : TA) : TI := fun σ H R => ta σ H fun vs H1 => ∃ a xs, vs = [.ref a] ∧ SqT K H1 a xs ∧ R (IteT K a) H1
theorem pi_enumT {X : Cx} {e : Expr} {ta : TA} {p pos tpos : Pos} {elts : List Expr} {kk : Nat} (hg : Gl X "enumerate") (hm : X.mg "enumerate" = none) (ha : PA X [e] ta) (hs : starEach [e] X.env = [(false, eval e X.env)] := by rfl) :
    PI X (.Tuple elts kk tpos) (.Call (.Name "enumerate" p) [e] [] pos) (iEnumT X.K ta) := by
  refine ⟨fun pins s σ H R I h => ?_⟩
  refine Call_ (ld_blt I hg hm boot_enumerate (PyProof.Rows.callWith_type1 (thn (ha.run pos pins s σ H _ I h) fun us s1 ⟨vs, H1, I1, r1, q1⟩ => ?_) hs rfl))
  obtain ⟨a, xs, ex, hq, q⟩ := q1
  subst ex
  cases r1 with
  | cons r rr =>
    cases rr
    cases r
    obtain ⟨its, rv, p', hz⟩ := I1.tuple hq
    refine px_call_enum (begins_tuple a its.toArray) (show s1.heap.IsTuple a its.toArray from p') fun h' he hit hsz hk => wpAny_pyIter_enum he ?_
    have hal : a < s1.heap.objs.size := by
      obtain ⟨o, ho, _⟩ := (show s1.heap.IsTuple a its.toArray from p')
      exact Heap.lt_size ho
    have I2 : Inv X pins σ H1 { s1 with heap := h' } := I1.kept (t' := s1.toks) hk
    refine ⟨s1.heap.objs.size + 1, [s1.heap.objs.size + 1, s1.heap.objs.size], _, _, H1, rfl, I2, turn_enumT a (s1.heap.objs.size + 1) s1.heap.objs.size, ⟨⟨.none, he⟩, ⟨_, hit, rfl, rfl⟩, Nat.succ_ne_self _, Nat.ne_of_lt hal, Nat.ne_of_lt (Nat.lt_succ_of_lt hal)⟩, fun b hb => ?_, q⟩
    have e' : b = s1.heap.objs.size + 1 ∨ b = s1.heap.objs.size := by simpa using hb
    have hle : s1.heap.objs.size ≤ b := by
      rcases e' with z | z
      · rw [z]; exact Nat.le_add_right _ _
      · rw [z]; exact Nat.le_refl _
    exact I1.fpOk hle (I1.hok.fresh hle)
section
variable {X : Cx} {W : WX} {L : List Nat} {n kk : Nat} {elts : List Expr} {tpos p pos : Pos} {e : Expr} {fs : Px.Env → Res (List D)}
theorem ei_enum (hg : Gl X "enumerate") (hm : X.mg "enumerate" = none) (ha : EA X W L n 1 [e] fs) (hs : starEach [e] X.env = [(false, eval e X.env)] := by rfl) : EI X W L n (.Tuple elts kk tpos) (.Call (.Name "enumerate" p) [e] [] pos) (iCall dEnum fs) :=
  PI.imp (pi_enumT hg hm ha hs) fun σ H Q ⟨ex, ρ, fp, I, o⟩ => ⟨ex, ρ, fp, I, o.bind.mono fun ds q vs H1 e1 r1 _ => by
    unfold dEnum at q
    split at q
    · rename_i xs
      cases r1 with
      | cons r t =>
        cases t
        have r' := r
        obtain ⟨a, ys, rfl, h1, h2, h3⟩ := RB.tup r
        exact ⟨a, ys, rfl, h1, q (IteT X.K a) H1 ((.tup xs, .ref a), (.non, .non)) e1 (HR.one r') (itn_enumT (by rw [h3.length]; exact h2))⟩
    · exact q.elim⟩
end
end Px

namespace Px
open PySem PySem.Spec PyProof.Rows L2
/-! ### try: body; except x: .. -/
def pick : List (List Str × SF) → Str → Px.Env → Px.Flow
  | [], c, ρ => .exc c ρ
  | h :: r, c, ρ => if c ∈ h.1 then h.2 ρ else pick r c ρ
/-- us: the classes that the clauses are known for -/
def sTry (us : List Str) (F : SF) (hs : List (List Str × SF)) : SF := fun ρ => match F ρ with
  | .exc c ρ' => if c ∈ us then pick hs c ρ' else .err
  | r => r
section
variable {X : Cx} {W : WX} {kr : RM} {Lb L L' : List Nat}
theorem wMany_ok {Dn : Ends} {c : Str} {ρ' : Px.Env} {ex0 : CS kr.b} {G : List (D × V)} : ∀ (hs : List (Value × List Str × SF)), (∀ h ∈ hs, ∀ C, X.mg c = some (.ref C) → PySem.W.exmOne X.K (.ref C) h.1 = some (decide (c ∈ h.2.1))) →
    FOut X W kr Lb L' ex0 G Dn (pick (hs.map (·.2)) c ρ') → ∀ C, X.mg c = some (.ref C) → ∀ σ' H' fp', SS X.K X.H_0 ex0 G [] ρ' σ' H' fp' →
    wMany X.K W Dn (hs.map fun h => (h.1, fun _ _ _ => tS X W kr Lb [] L' h.2.2)) (.ref C) none σ' H'
  | [], _, o, C, hC, σ', H', fp', S => o C hC σ' H' fp' S
  | h :: r, hm, o, C, hC, σ', H', fp', S => by
    refine ⟨_, hm h List.mem_cons_self C hC, fun hb a ha => ?_, fun hb => ?_⟩
    · have hb := of_decide_eq_true hb
      simp only [List.map_cons, pick, if_pos hb] at o
      exact ⟨ex0, G, ρ', fp', S, o⟩
    · have hb := of_decide_eq_false hb
      simp only [List.map_cons, pick, if_neg hb] at o
      exact wMany_ok r (fun h' hh => hm h' (List.mem_cons_of_mem _ hh)) o C hC σ' H' fp' S
theorem sj_try {body : List Stmt} {h₀ : ExceptHandler} {hds : List ExceptHandler} {pos : Pos} {F : SF} {us : List Str} (hs : List (Value × List Str × SF)) (hst : X.stack = X.env :: X.outer) (hf : X.env.frame = some X.env.locals) (tk : Takes X W)
    (hm : ∀ c ∈ us, ∀ h ∈ hs, ∀ C, X.mg c = some (.ref C) → PySem.W.exmOne X.K (.ref C) h.1 = some (decide (c ∈ h.2.1)))
    (hb : ∀ (W' : WX) (pn : List (Addr × Obj)) (xe : Value → Shared → Prop), Takes (X.tr pn xe) W' → PassesOwn (model X.prog X.w) X.A X.env xe → SJs (X.tr pn xe) W' kr Lb L L' body F)
    (hh : HdsOk X (h₀ :: hds) (hs.map fun h => (h.1, fun _ _ _ => tS X W kr Lb [] L' h.2.2))) : SJ X W kr Lb L L' (.Try body (h₀ :: hds) [] [] pos) (sTry us F (hs.map (·.2))) :=
  PS.imp (ps_try_many (tb := fun W' => tS X W' kr Lb L L' F) hst hf tk hb hh) fun Dn σ H ⟨ex0, G, ρ, fp, S, o⟩ => by
    refine ⟨ex0, G, ρ, fp, S, ?_⟩
    unfold sTry at o
    cases q : F ρ with
    | exc c ρ' =>
      rw [q] at o
      dsimp only at o
      split at o
      · rename_i hc
        exact wMany_ok hs (fun h hh C hC => hm c hc h hh C hC) o
      · exact o.elim
    | next ρ' => rw [q] at o; exact o
    | brk ρ' => rw [q] at o; exact o
    | cont ρ' => rw [q] at o; exact o
    | ret d => rw [q] at o; exact o
    | err => rw [q] at o; exact o
end
/-- a clause's suite may not raise -/
def sNx (F : SF) : SF := fun ρ => match F ρ with
  | .exc _ _ => .err
  | r => r
theorem SS.zero {K : PySem.W.Frag} {H0 H : Hp} {mb : Option Nat} {ex0 : CS mb} {G : List (D × V)} {L L0 : List Nat} {ρ : Px.Env} {σ : L2.St} {fp : Nat → List Addr} (S : SS K H0 ex0 G L ρ σ H fp) (h : ∀ i, L0.getD i 0 = L.getD i 0) : SS K H0 ex0 G L0 ρ σ H fp :=
  ⟨⟨S.si.len, fun i d e => by rw [h i]; exact S.si.val i d e, S.si.nod, S.si.dis, S.si.sub, S.si.ext⟩, S.own, S.old, S.same, S.slf, S.held⟩
theorem zeros (n : Nat) (i : Nat) : (List.replicate n 0).getD i 0 = ([] : List Nat).getD i 0 := by
  rw [List.getD_eq_getElem?_getD, List.getElem?_replicate]
  split <;> rfl
abbrev HdsP (X : Cx) (W : WX) (kr : RM) (Lb L' : List Nat) (hds : List ExceptHandler) (hs : List (Value × List Str × SF)) : Prop := HdsOk X hds (hs.map fun h => (h.1, fun _ _ _ => tS X W kr Lb [] L' h.2.2))
section
variable {X : Cx} {W : WX} {kr : RM} {Lb L' : List Nat}
theorem hp_nil : HdsP X W kr Lb L' [] [] := HdsOk.nil
theorem hp_cons {x : Str} {c : Value} {l : List Str} {b₀ : Stmt} {suite : List Stmt} {np pos' : Pos} {hds : List ExceptHandler} {hs : List (Value × List Str × SF)} {F : SF} (n : Nat) (hc : Names X x c)
    (h : ∀ (a : Addr) (pn : List (Addr × Obj)), SJs (X.suite a pn) (fun _ _ _ _ => False) kr Lb (List.replicate n 0) L' (b₀ :: suite) F) (r : HdsP X W kr Lb L' hds hs) :
    HdsP X W kr Lb L' (.ExceptHandler (some (.Name x np)) none (b₀ :: suite) pos' :: hds) ((c, l, sNx F) :: hs) :=
  HdsOk.cons hc (fun a oe cls d pn _ _ => PSs.imp (h a _) fun Dn σ H ⟨ex0, G, ρ, fp, S, o⟩ => by
    refine ⟨ex0, G, ρ, fp, S.zero (zeros n), ?_⟩
    dsimp only at o
    unfold sNx at o
    cases q : F ρ with
    | exc c ρ' => rw [q] at o; exact o.elim
    | next ρ' => rw [q] at o; exact o
    | brk ρ' => rw [q] at o; exact o
    | cont ρ' => rw [q] at o; exact o
    | ret d => rw [q] at o; exact o
    | err => rw [q] at o; exact o) r
end
section
variable {X : Cx}
theorem names_g {x : Str} {c : Value} (hg : Gl X x) (hm : X.mg x = some c) (hd : (x == ("__debug__" : Str)) = false := by decide) : Names X x c := ⟨hg, hd, .inl hm⟩
def HC (X : Cx) (c : Str) (hs : List (Value × List Str × SF)) : Prop := ∀ h ∈ hs, ∀ C, X.mg c = some (.ref C) → PySem.W.exmOne X.K (.ref C) h.1 = some (decide (c ∈ h.2.1))
def HM (X : Cx) (us : List Str) (hs : List (Value × List Str × SF)) : Prop := ∀ c ∈ us, HC X c hs
theorem hc_n {c : Str} : HC X c [] := fun h hh => nomatch hh
theorem hc_c {c : Str} {A : Addr} {v : Value} {b : Bool} {l : List Str} {G : SF} {hs : List (Value × List Str × SF)} (he : X.mg c = some (.ref A)) (hx : PySem.W.exmOne X.K (.ref A) v = some b) (hb : b = decide (c ∈ l)) (r : HC X c hs) : HC X c ((v, l, G) :: hs) := fun h hh C hC => by
  rcases List.mem_cons.mp hh with rfl | hh
  · have e := he.symm.trans hC
    cases e
    rw [hx, hb]
  · exact r h hh C hC
theorem hm_n {hs : List (Value × List Str × SF)} : HM X [] hs := fun c hc => nomatch hc
theorem hm_c {c : Str} {us : List Str} {hs : List (Value × List Str × SF)} (h : HC X c hs) (r : HM X us hs) : HM X (c :: us) hs := fun c' hc => by
  rcases List.mem_cons.mp hc with rfl | hc
  · exact h
  · exact r c' hc
end
end Px

namespace Px
open PySem PySem.Spec PyProof.Rows L2
/-! ### augmented operators -/
def dAddI : D → D → Res D
  | .int i, .int j => .ok (.int (i + j))
  | .str a, .str b => if a.length + b.length ≤ sizeLine then .ok (.str (a ++ b)) else .err
  | _, _ => .err
@[simp] theorem x_addI (i j : Int) : dAddI (.int i) (.int j) = .ok (.int (i + j)) := id rfl
theorem o_iadd {X : Cx} : Op2 X 0 0 0 (inplaceOp .Add) dAddI := fun pins s σ H x y v u Q I rx ry h => by
  obtain ⟨ex, d1, d2, d, ext, r1, r2, e, q⟩ := h
  unfold dAddI at e
  split at e
  · cases e
    exact iop_add pins s σ H x y v u Q I rx ry ⟨_, _, r1.int, r2.int, q.int⟩
  · split at e
    · rename_i hc
      cases e
      exact iop_add_str pins s σ H x y v u Q I rx ry ⟨_, _, r1.str, r2.str, hc, q.str⟩
    · cases e
  · cases e
theorem o_isub {X : Cx} : Op2 X 0 0 0 (inplaceOp .Sub) dSub := fun pins s σ H x y v u Q I rx ry h => by
  obtain ⟨ex, d1, d2, d, ext, r1, r2, e, q⟩ := h
  unfold dSub at e
  split at e
  · cases e
    exact iop_sub pins s σ H x y v u Q I rx ry ⟨_, _, r1.int, r2.int, q.int⟩
  · cases e
end Px

namespace Px
open PySem PySem.Spec PyProof.Rows L2
/-! ### zip of two tuples -/
def zipL (xs ys : List D) : List D := (xs.zip ys).map fun p => .tup [p.1, p.2]
theorem zipL_len (xs ys : List D) : (zipL xs ys).length = min xs.length ys.length := by simp [zipL]
theorem zipL_get {xs ys : List D} {i : Nat} {d : D} (h : (zipL xs ys)[i]? = some d) : ∃ x y, xs[i]? = some x ∧ ys[i]? = some y ∧ d = .tup [x, y] := by
  simp only [zipL, List.getElem?_map] at h
  cases e : (xs.zip ys)[i]? with
  | none => rw [e] at h; cases h
  | some p =>
    rw [e] at h
    cases h
    obtain ⟨h1, h2⟩ := List.getElem?_zip_eq_some.mp e
    exact ⟨p.1, p.2, h1, h2, rfl⟩
def dZip : List D → Res (List D)
  | [.tup xs, .tup ys] => .ok (zipL xs ys)
  | _ => .err
@[simp] theorem x_dZip (xs ys : List D) : dZip [.tup xs, .tup ys] = .ok (zipL xs ys) := id rfl
theorem itn_zip {K : PySem.W.Frag} {n : Nat} {ds es : List D} {a b : Addr} (hl : ds.length ≤ sizeLine) : Itn K n (RZ.ItzT K a b) ((.tup ds, .ref a), (.tup es, .ref b)) (zipL ds es) := by
  have ob : ∀ {ex H d a}, RB K ex H n (.tup d) (.ref a) → ∃ xs, SqT K H a xs ∧ Paired (R K ex H) d xs := fun {ex H d a} h => by
    obtain ⟨b, xs, e, h1, h2, h3⟩ := RB.tup h
    cases e
    exact ⟨xs, h1, h3⟩
  refine ⟨by rw [zipL_len]; omega, fun ex H i h hi => ?_, fun ex H h => ?_, fun ex H i d x H' h hd hy => ?_⟩
  · rw [zipL_len] at hi
    obtain ⟨xs, h1, h2⟩ := ob h.1
    obtain ⟨ys, h3, h4⟩ := ob h.2
    obtain ⟨x, hx, _⟩ := Paired.get h2 (List.getElem?_eq_getElem (show i < ds.length by omega))
    obtain ⟨y, hy, _⟩ := Paired.get h4 (List.getElem?_eq_getElem (show i < es.length by omega))
    exact ⟨xs, ys, x, y, h1, h3, hx, hy⟩
  · obtain ⟨xs, h1, h2⟩ := ob h.1
    obtain ⟨ys, h3, h4⟩ := ob h.2
    refine ⟨xs, ys, h1, h3, ?_⟩
    rw [zipL_len, ← h2.length, ← h4.length]
    omega
  · obtain ⟨xs, h1, h2⟩ := ob h.1
    obtain ⟨ys, h3, h4⟩ := ob h.2
    obtain ⟨z1, z2, hz1, hz2, rfl⟩ := zipL_get hd
    obtain ⟨y1, hy1, ry1⟩ := Paired.get h2 hz1
    obtain ⟨y2, hy2, ry2⟩ := Paired.get h4 hz2
    obtain ⟨T, x1, x2, rfl, hT, rfl, q1, q2⟩ := hy
    have e1 := q1 xs h1
    have e2 := q2 ys h3
    rw [hy1] at e1
    rw [hy2] at e2
    cases e1
    cases e2
    have sm : Same H (upd H T (.tup [y1, y2])) := same_upd hT
    refine ⟨sm, RB.of ?_⟩
    rw [R]
    refine ⟨T, [y1, y2], rfl, ⟨upd_same, (by decide : (2 : Nat) ≤ sizeLine)⟩, RL.of (.cons (R.same sm ry1) (.cons (R.same sm ry2) .nil))⟩
section
variable {X : Cx} {W : WX} {L : List Nat} {n kk : Nat} {elts : List Expr} {tpos p pos : Pos} {e e2 : Expr} {fs : Px.Env → Res (List D)}
theorem ei_zip (hg : Gl X "zip") (hm : X.mg "zip" = none) (ha : EA X W L n 2 [e, e2] fs) (hs : starEach [e, e2] X.env = (false, eval e X.env) :: starEach [e2] X.env := by rfl) (hpl : (backTo pos (starEach [e2] X.env)).any (·.1) = false := by rfl) :
    EI X W L n (.Tuple elts kk tpos) (.Call (.Name "zip" p) [e, e2] [] pos) (iCall dZip fs) :=
  PI.imp (RZ.pi_zipA hg hm ha hs hpl) fun σ H Q ⟨ex, ρ, fp, I, o⟩ => ⟨ex, ρ, fp, I, o.bind.mono fun ds q vs H1 e1 r1 _ => by
    unfold dZip at q
    split at q
    · rename_i xs ys
      cases r1 with
      | cons r t =>
        cases t with
        | cons r2 t =>
          cases t
          have r' := r
          have r2' := r2
          obtain ⟨a, zs, rfl, h1, h2, h3⟩ := RB.tup r
          obtain ⟨b, ws, rfl, h4, h5, h6⟩ := RB.tup r2
          exact ⟨a, b, zs, ws, rfl, .inr ⟨h1, h4, q (RZ.ItzT X.K a b) H1 ((.tup xs, .ref a), (.tup ys, .ref b)) e1 ⟨r', r2'⟩ (itn_zip (by rw [h3.length]; exact h2))⟩⟩
    · exact q.elim⟩
end
end Px

namespace Px
open PySem PySem.Spec PyProof.Rows L2
/-! ### what is not walked: no claim -/
def eErr : EF := fun _ => .err
def sErr : SF := fun _ => .err
def bErr : Px.Env → Res Bool := fun _ => .err
def iErr : Px.Env → Res (List D) := fun _ => .err
section
variable {X : Cx} {W : WX} {L L' Lb : List Nat} {n k : Nat} {kr : RM} {e : Expr} {st : Stmt}
theorem eb_err : EB X W L n e eErr := ⟨fun pins s σ H Q I ⟨ex, ρ, fp, S, o⟩ => o.elim⟩
theorem eo_err : EO X W L k e eErr := ⟨fun pins s σ H Q I ⟨ex, ρ, fp, S, o⟩ => o.elim⟩
theorem et_err : ET X W L e bErr := ⟨fun pins s σ H Q I ⟨ex, ρ, fp, S, o⟩ => o.elim⟩
theorem sj_err : SJ X W kr Lb L L' st sErr := ⟨fun pins s σ H D I ⟨ex, G, ρ, fp, S, o⟩ => o.elim⟩
theorem sjs_err {sts : List Stmt} : SJs X W kr Lb L L' sts sErr := ⟨fun pins s σ H D I ⟨ex, G, ρ, fp, S, o⟩ => o.elim⟩
end
/-! ### methods of a str -/
def asStr : D → Res Str
  | .str s => .ok s
  | _ => .err
@[simp] theorem x_asStr (s : Str) : asStr (.str s) = .ok s := id rfl
def eMS (o : Str → List D → Res D) (f : EF) (fs : Px.Env → Res (List D)) : EF := fun ρ => f ρ >>= asStr >>= fun s => fs ρ >>= o s
@[simp] theorem x_eMS (o : Str → List D → Res D) (f : EF) (fs : Px.Env → Res (List D)) (ρ : Px.Env) : eMS o f fs ρ = f ρ >>= asStr >>= fun s => fs ρ >>= o s := id rfl
def NoXS (g : Str → List D → Res D) : Prop := ∀ s ds c, g s ds ≠ .exc c
def MethS (X : Cx) (id : String) (n k : Nat) (g : Str → List D → Res D) : Prop :=
  MtR X id fun x xs H Q => ∃ ex s ds d, (∀ a, ex a → H a ≠ none) ∧ x = .str s ∧ Paired (RB X.K ex H n) ds xs ∧ g s ds = .ok d ∧ QO X.K ex H k Q d
section
variable {X : Cx} {W : WX} {L : List Nat} {n n0 k m : Nat} {e e1 : Expr} {es : List Expr} {f : EF} {fs : Px.Env → Res (List D)} {o : Str → List D → Res D} {name : Str} {id : String} {apos cpos : Pos}
theorem eo_ms (hm : MethS X id n k o) (nx : NoXS o) (slot : Slot "str" name id) (hty : typeOf (.builtin id) = pure (.type "method_descriptor")) (hf : EB X W L n0 e f) (ha : EA X W L n m (e1 :: es) fs)
    (hbase : attributeBase e name X.env (eval e X.env) = eval e X.env := by rfl)
    (hfew : ((backTo cpos (starEach (e1 :: es) X.env)).all (fun x => !x.1) && (backToKw cpos (keywordEach [] X.env)).all (fun x => x.1.isSome)
      && decide ((e1 :: es).length + ([] : List Keyword).length + (if ([] : List Keyword).isEmpty then 0 else 1) < 30)) = true := by rfl)
    (hline : (apos.endLine == cpos.line) = true := by rfl) (hs : starEach (e1 :: es) X.env = (false, eval e1 X.env) :: starEach es X.env := by rfl) (hplain : (backTo cpos (starEach es X.env)).any (·.1) = false := by rfl) :
    EO X W L k (.Call (.Attribute e name apos) (e1 :: es) [] cpos) (eMS o f fs) :=
  PE.imp (pe_bm PySem.F.plainAttrs_str slot hty hm hf ha hbase hfew hline hs hplain) fun σ H Q ⟨ex, ρ, fp, I, q⟩ => by
    refine ⟨ex, ρ, fp, I, q.bind.bind.mono fun d1 q1 v1 H1 e1 r1 => ?_⟩
    cases d1 with
    | str s =>
      have hv := r1.str
      subst hv
      refine ⟨rfl, ex, ρ, fp, I.same e1, (Out.later (show Out X W σ H (fs ρ >>= o s) _ from q1) e1).bind.mono fun ds q2 vs H2 e2 r2 _ => ?_⟩
      obtain ⟨d, ed, qd⟩ := no_exc q2 (nx s ds)
      exact ⟨ex, s, ds, d, ((I.same e1).same e2).ext, rfl, r2, ed, fun v H3 fq e3 ro nd nw => qd v H3 fq ((e1.trans e2).trans e3) ro nd fun a ha => (e1.trans e2).free (nw a ha)⟩
    | _ => exact (show False from q1).elim
end
def txtsD : List D → Option (List Str)
  | [] => some []
  | .str b :: r => (txtsD r).map (b :: ·)
  | _ :: _ => none
theorem txtsD_vals {K : PySem.W.Frag} {ex : AS} {H : Hp} : ∀ {ds : List D} {vs : List V} {bs : List Str}, Paired (R K ex H) ds vs → txtsD ds = some bs → vs = bs.map V.str
  | [], _, _, .nil, h => by cases h; rfl
  | d :: ds, _, _, .cons r t, h => by
    cases d with
    | str b =>
      rw [txtsD] at h
      cases q : txtsD ds with
      | none => rw [q] at h; cases h
      | some bs =>
        rw [q] at h
        cases h
        rw [R] at r
        rw [r, txtsD_vals t q]
        rfl
    | _ => cases h
@[simp] theorem txtsD_map (bs : List Str) : txtsD (bs.map D.str) = some bs := by
  induction bs with
  | nil => rfl
  | cons b r ih => rw [List.map_cons, txtsD, ih]; rfl
def joinR (a : Str) (xs : List D) : Res D := match txtsD xs with
  | some ys => if (ys.map (·.length)).sum + ys.length * a.length ≤ 16777216 then .ok (.str (Txt.join a ys)) else .err
  | none => .err
def fJoin (a : Str) : List D → Res D
  | [.lst xs] => joinR a xs
  | [.tup xs] => joinR a xs
  | _ => .err
theorem fJoin_nx : NoXS fJoin := fun s ds c h => by
  unfold fJoin at h
  split at h <;> first | cases h | (unfold joinR at h; split at h <;> first | cases h | (split at h <;> cases h))
def fSIndex (a : Str) : List D → Res D
  | [.str b] => match Builtin.Str.occurrences a b 0 a.length 1 with
    | i :: _ => .ok (.int (i : Nat))
    | [] => .err
  | _ => .err
theorem fSIndex_nx : NoXS fSIndex := fun s ds c h => by
  unfold fSIndex at h
  split at h <;> first | cases h | (split at h <;> cases h)
def fStarts (a : Str) : List D → Res D
  | [.str b] => .ok (.bl (Txt.startswith a b))
  | _ => .err
theorem fStarts_nx : NoXS fStarts := fun s ds c h => by
  unfold fStarts at h
  split at h <;> cases h
def fSplit (a : Str) : List D → Res D
  | [.str b] => if b.length ≠ 0 ∧ a.length + 2 ≤ sizeLine ∧ (Txt.split a b).length ≤ sizeLine then .ok (.lst ((Txt.split a b).map .str)) else .err
  | _ => .err
theorem fSplit_nx : NoXS fSplit := fun s ds c h => by
  unfold fSplit at h
  split at h <;> first | cases h | (split at h <;> cases h)
def fLstrip (a : Str) : List D → Res D
  | [.str b] => if a.length ≤ sizeLine then .ok (.str (Txt.lstripChars a b)) else .err
  | _ => .err
theorem fLstrip_nx : NoXS fLstrip := fun s ds c h => by
  unfold fLstrip at h
  split at h <;> first | cases h | (split at h <;> cases h)
def fSCount (a : Str) : List D → Res D
  | [.str b] => .ok (.int (Txt.count a b))
  | _ => .err
theorem fSCount_nx : NoXS fSCount := fun s ds c h => by
  unfold fSCount at h
  split at h <;> cases h
section
variable {X : Cx} {k : Nat}
theorem m_join : MethS X "str.join" 1 k fJoin := fun pins s σ H x xs v us Q I rx r h => by
  obtain ⟨ex, a, ds, d, ext, rfl, rs, e, q⟩ := h
  unfold fJoin at e
  split at e
  · unfold joinR at e
    split at e
    · rename_i hb
      split at e
      · rename_i hc
        cases e
        cases rs with
        | cons r1 t =>
          cases t
          obtain ⟨p, zs, rfl, h1, h2, h3⟩ := r1.lst
          have ez := txtsD_vals h3 hb
          subst ez
          exact mt_join pins s σ H _ _ v us Q I rx r ⟨a, p, _, rfl, rfl, .inl h1, hc, q.str⟩
      · cases e
    · cases e
  · unfold joinR at e
    split at e
    · rename_i hb
      split at e
      · rename_i hc
        cases e
        cases rs with
        | cons r1 t =>
          cases t
          obtain ⟨p, zs, rfl, h1, h2, h3⟩ := r1.tup
          have ez := txtsD_vals h3 hb
          subst ez
          exact mt_join pins s σ H _ _ v us Q I rx r ⟨a, p, _, rfl, rfl, .inr h1, hc, q.str⟩
      · cases e
    · cases e
  · cases e
theorem m_sindex : MethS X "str.index" 0 k fSIndex := fun pins s σ H x xs v us Q I rx r h => by
  obtain ⟨ex, a, ds, d, ext, rfl, rs, e, q⟩ := h
  unfold fSIndex at e
  split at e
  · split at e
    · rename_i i rest ho
      cases e
      cases rs with
      | cons r1 t =>
        cases t
        have := r1.str
        subst this
        exact mt_sindex pins s σ H _ _ v us Q I rx r ⟨a, _, i, rest, rfl, rfl, ho, q.int⟩
    · cases e
  · cases e
theorem m_starts : MethS X "str.startswith" 0 k fStarts := fun pins s σ H x xs v us Q I rx r h => by
  obtain ⟨ex, a, ds, d, ext, rfl, rs, e, q⟩ := h
  unfold fStarts at e
  split at e
  · cases e
    cases rs with
    | cons r1 t =>
      cases t
      have := r1.str
      subst this
      exact mt_startswith pins s σ H _ _ v us Q I rx r ⟨a, _, rfl, rfl, q.bl⟩
  · cases e
theorem m_scount : MethS X "str.count" 0 k fSCount := fun pins s σ H x xs v us Q I rx r h => by
  obtain ⟨ex, a, ds, d, ext, rfl, rs, e, q⟩ := h
  unfold fSCount at e
  split at e
  · cases e
    cases rs with
    | cons r1 t =>
      cases t
      have := r1.str
      subst this
      exact mt_count pins s σ H _ _ v us Q I rx r ⟨a, _, rfl, rfl, q.int⟩
  · cases e
theorem m_lstrip : MethS X "str.lstrip" 0 k fLstrip := fun pins s σ H x xs v us Q I rx r h => by
  obtain ⟨ex, a, ds, d, ext, rfl, rs, e, q⟩ := h
  unfold fLstrip at e
  split at e
  · split at e
    · rename_i hc
      cases e
      cases rs with
      | cons r1 t =>
        cases t
        have := r1.str
        subst this
        exact mt_lstripChars pins s σ H _ _ v us Q I rx r ⟨a, _, rfl, rfl, hc, q.str⟩
    · cases e
  · cases e
theorem m_split : MethS X "str.split" 0 1 fSplit := fun pins s σ H x xs v us Q I rx r h => by
  obtain ⟨ex, a, ds, d, ext, rfl, rs, e, q⟩ := h
  unfold fSplit at e
  split at e
  · split at e
    · rename_i b hc
      cases e
      cases rs with
      | cons r1 t =>
        cases t
        have := r1.str
        subst this
        refine mt_split pins s σ H _ _ v us Q I rx r ⟨a, _, rfl, rfl, by simpa using hc.1, hc.2.1, fun p hp => q.lst ?_ hp (by rw [List.length_map]; exact hc.2.2)⟩
        generalize Txt.split a b = l
        induction l with
        | nil => exact .nil
        | cons z l ih => exact .cons (by rw [R]) ih
    · cases e
  · cases e
end
/-! ### str(i), int(s) -/
def fStr : List D → Res D
  | [.int i] => if i.natAbs.log2 < 1920 then .ok (.str (toString i)) else .err
  | [.str s] => .ok (.str s)
  | _ => .err
theorem fStr_nx : NoXL fStr := fun ds c h => by
  unfold fStr at h
  split at h <;> first | cases h | (split at h <;> cases h)
section
variable {X : Cx} {n k : Nat}
theorem c_str : CallD X n k (.type "str") fStr := fun pins s σ H xs us Q I r h => by
  obtain ⟨ex, ds, d, ext, rs, e, q⟩ := h
  unfold fStr at e
  split at e
  · split at e
    · rename_i hc
      cases e
      cases rs with
      | cons r1 t =>
        cases t
        rw [RB.int r1] at *
        exact call_str_int pins s σ H _ us Q I r ⟨_, rfl, hc, q.str⟩
    · cases e
  · cases e
    cases rs with
    | cons r1 t =>
      cases t
      rw [RB.str r1] at *
      exact SkE.call_str_str pins s σ H _ us Q I r ⟨_, rfl, q.str⟩
  · cases e
/-- int(x): also of a text of figures -/
def fIntS : List D → Res D
  | [.int i] => .ok (.int i)
  | [.bl b] => .ok (.int (if b then 1 else 0))
  | [.str a] => match PySem.intText? a with
    | some n => if a.length ≤ 640 then .ok (.int n) else .err
    | none => .err
  | _ => .err
theorem fIntS_nx : NoXL fIntS := fun ds c h => by
  unfold fIntS at h
  split at h <;> first | cases h | (split at h <;> first | cases h | (split at h <;> cases h))
theorem c_intS : CallD X n k (.type "int") fIntS := fun pins s σ H xs us Q I r h => by
  obtain ⟨ex, ds, d, ext, rs, e, q⟩ := h
  unfold fIntS at e
  split at e
  · cases e
    cases rs with
    | cons r1 t =>
      cases t
      rw [RB.int r1] at *
      exact call_int1 pins s σ H _ us Q I r (.inl ⟨_, rfl, q.int⟩)
  · cases e
    cases rs with
    | cons r1 t =>
      cases t
      rw [RB.bl r1] at *
      exact call_int1 pins s σ H _ us Q I r (.inr ⟨_, rfl, q.int⟩)
  · split at e
    · rename_i hi
      split at e
      · rename_i hc
        cases e
        cases rs with
        | cons r1 t =>
          cases t
          rw [RB.str r1] at *
          exact call_int_str pins s σ H _ us Q I r ⟨_, _, rfl, hi, hc, q.int⟩
      · cases e
    · cases e
  · cases e
end
/-! ### a tuple's augmented sum -/
section
variable {prog : Program} {w : World} {A : Around} {E : Value → Shared → Prop} {s : Shared}
theorem noI_tuple_add : typeLookup (.type "tuple") (dunderI "add") = pure none := by rw [typeLookup_type, builtinLookup_eq_fast]; kernel_rfl
theorem iconcat_meets {T id : String} {B : Builtin} {a b : Value} {S : PySem.Spec} {Q : Value → Shared → Prop} (ha : s.TypeIs a T) (hb : s.TypeIs b T) (hno : typeLookup (.type T) (dunderI "add") = pure none)
    (hfill : fillsNumberSlot (.type T) "add" = pure false) (hseq : seqSlot? (.type T) "__add__" = pure (some (.builtin id))) (slot : Slot T "__add__" id)
    (entry : entryFor table id = some B) (args : argsOk id ⟨[a, b], []⟩) (g : Meets (B ⟨[a, b], []⟩) S) (h : S A (wants Q E) s) : wpAny (model prog w) A (inplaceOp .Add a b) Q E s :=
  wpAny_inplaceOp_concat ha hb hno hfill hseq (call_meets slot ha entry args g h)
theorem icat_tup {t b : Addr} {vs ws : List Value} {Q : Value → Shared → Prop} (ht : IsTup s.heap t vs.toArray) (hb : IsTup s.heap b ws.toArray) (hv : vs ≠ [])
    (h1 : ws = [] → Q (.ref t) s) (h2 : ws ≠ [] → Q (.ref s.heap.objs.size) { s with heap := s.heap.push { cls := .type "tuple", data := .seq (vs ++ ws).toArray } })
    (hsz : vs.length + ws.length ≤ sizeLine) : wpAny (model prog w) A (inplaceOp .Add (.ref t) (.ref b)) Q E s := by
  obtain ⟨⟨cls, dd, data, sl⟩, ho, hc, n, hd⟩ := id ht
  obtain ⟨⟨cls2, dd2, data2, sl2⟩, ho2, hc2, n2, hd2⟩ := id hb
  simp only at hc hd hc2 hd2
  subst hc hd hc2 hd2
  have e : vs.toArray ++ ws.toArray = (vs ++ ws).toArray := by simp
  by_cases hw : ws = []
  · exact iconcat_meets ⟨_, ho, rfl⟩ ⟨_, ho2, rfl⟩ noI_tuple_add noFill_tuple_add seq_tuple_add PySem.F.slot_tuple_add PySem.F.entry_tuple_add (PySem.F.args_tuple_add_2 _ _)
      (tuple_addW1 t b vs.toArray ws.toArray n n2 dd dd2 sl sl2 (by simpa using hv) (by simp [hw])) ⟨ho, ho2, h1 hw⟩
  · refine iconcat_meets ⟨_, ho, rfl⟩ ⟨_, ho2, rfl⟩ noI_tuple_add noFill_tuple_add seq_tuple_add PySem.F.slot_tuple_add PySem.F.entry_tuple_add (PySem.F.args_tuple_add_2 _ _)
      (tuple_addW2 t b vs.toArray ws.toArray n n2 dd dd2 sl sl2 (by simpa using hv) (by simpa using hw) (by rw [List.size_toArray, List.size_toArray]; exact hsz)) ⟨ho, ho2, ?_⟩
    rw [e]
    exact h2 hw
theorem icat_tup0 {t b : Addr} {ws : List Value} {Q : Value → Shared → Prop} (ht : IsTup s.heap t ([] : List Value).toArray) (hb : IsTup s.heap b ws.toArray) (h : Q (.ref b) s) : wpAny (model prog w) A (inplaceOp .Add (.ref t) (.ref b)) Q E s := by
  obtain ⟨⟨cls, dd, data, sl⟩, ho, hc, n, hd⟩ := id ht
  obtain ⟨⟨cls2, dd2, data2, sl2⟩, ho2, hc2, n2, hd2⟩ := id hb
  simp only at hc hd hc2 hd2
  subst hc hd hc2 hd2
  exact iconcat_meets ⟨_, ho, rfl⟩ ⟨_, ho2, rfl⟩ noI_tuple_add noFill_tuple_add seq_tuple_add PySem.F.slot_tuple_add PySem.F.entry_tuple_add (PySem.F.args_tuple_add_2 _ _)
    (tuple_addW0 t b ([] : List Value).toArray ws.toArray n n2 dd dd2 sl sl2 (by simp)) ⟨ho, ho2, h⟩
end
section
variable {X : Cx}
theorem iop_catA : OpR X (inplaceOp .Add) (rCatA X.K) := by
  intro pins s σ H x y v u Q I rx ry h
  obtain ⟨a, b, xs, ys, rfl, rfl, ha, hb, hz, q0, q1, q2⟩ := h
  by_cases hx : xs = []
  · subst hx
    cases rx
    cases ry
    obtain ⟨its, r1, p1, _⟩ := I.tuple ha
    obtain ⟨its2, r2, p2, _⟩ := I.tuple hb
    cases r1
    exact icat_tup0 p1 p2 ⟨.ref b, H, I, rfl, q0 rfl⟩
  · cases rx
    cases ry
    obtain ⟨its, r1, p1, _⟩ := I.tuple ha
    obtain ⟨its2, r2, p2, _⟩ := I.tuple hb
    refine icat_tup p1 p2 (fun z => hx (r1.nil_iff.mp z)) (fun z => ⟨.ref a, H, I, rfl, q1 hx (r2.nil_iff.mp z)⟩) (fun z => ?_) (by rw [← r1.length, ← r2.length]; exact hz)
    refine ⟨.ref s.heap.objs.size, _, I.laid (t' := s.toks) (o := .tup (xs ++ ys)) (fun b ob q => Heap.get?_push_of_some _ q) (Nat.le_refl _) ?_, rfl, q2 hx (fun w => z (r2.nil_iff.mpr w)) _ (I.hok.fresh (Nat.le_refl _))⟩
    exact ⟨by rw [List.length_append]; exact hz, _, r1.append r2, IsTup.new _ _⟩
/-- x += y of ints, txtsD, tuples -/
def dAddT : D → D → Res D
  | .int i, .int j => .ok (.int (i + j))
  | .str a, .str b => if a.length + b.length ≤ sizeLine then .ok (.str (a ++ b)) else .err
  | .tup a, .tup b => if a.length + b.length ≤ sizeLine then .ok (.tup (a ++ b)) else .err
  | _, _ => .err
theorem o_iaddT : Op2 X 0 0 0 (inplaceOp .Add) dAddT := fun pins s σ H x y v u Q I rx ry h => by
  obtain ⟨ex, d1, d2, d, ext, r1, r2, e, q⟩ := h
  unfold dAddT at e
  split at e
  · cases e
    exact iop_add pins s σ H x y v u Q I rx ry ⟨_, _, r1.int, r2.int, q.int⟩
  · split at e
    · rename_i hc
      cases e
      exact iop_add_str pins s σ H x y v u Q I rx ry ⟨_, _, r1.str, r2.str, hc, q.str⟩
    · cases e
  · split at e
    · rename_i hc
      cases e
      obtain ⟨l, xs, rfl, h1, z1, p1⟩ := r1.tupX
      obtain ⟨b, ys, rfl, h2, z2, p2⟩ := r2.tupX
      have hl : xs.length + ys.length ≤ sizeLine := by rw [← p1.length, ← p2.length]; exact hc
      refine iop_catA pins s σ H _ _ v u Q I rx ry ⟨l, b, xs, ys, rfl, rfl, .inl (.inl h1), .inl (.inl h2), hl, fun e => ?_, fun _ e => ?_, fun _ _ p hp => q.tup (Paired.app p1 p2) hp (by rw [List.length_append]; exact hl)⟩
      · subst e
        cases p1
        exact q.flat (by rw [R]; exact ⟨b, ys, rfl, ⟨h2, z2⟩, RL.of p2⟩) rfl
      · subst e
        cases p2
        rw [List.append_nil] at q
        exact q.flat (by rw [R]; exact ⟨l, xs, rfl, ⟨h1, z1⟩, RL.of p1⟩) rfl
    · cases e
  · cases e
theorem o_imul : Op2 X 0 0 0 (inplaceOp .Mult) dMul := fun pins s σ H x y v u Q I rx ry h => by
  obtain ⟨ex, d1, d2, d, ext, r1, r2, e, q⟩ := h
  unfold dMul at e
  split at e
  · split at e
    · rename_i hm
      cases e
      exact iop_mul pins s σ H x y v u Q I rx ry ⟨_, _, r1.int, r2.int, by unfold mulOk at hm; rw [decide_eq_true_eq] at hm; exact hm, q.int⟩
    · cases e
  · cases e
theorem o_idiv : Op2 X 0 0 0 (inplaceOp .FloorDiv) dDiv := fun pins s σ H x y v u Q I rx ry h => by
  obtain ⟨ex, d1, d2, d, ext, r1, r2, e, q⟩ := h
  unfold dDiv at e
  split at e
  · split at e
    · rename_i hc
      cases e
      exact iop_fdiv pins s σ H x y v u Q I rx ry ⟨_, _, r1.int, r2.int, hc, q.int⟩
    · cases e
  · cases e
theorem o_imod : Op2 X 0 0 0 (inplaceOp .Mod) dMod := fun pins s σ H x y v u Q I rx ry h => by
  obtain ⟨ex, d1, d2, d, ext, r1, r2, e, q⟩ := h
  unfold dMod at e
  split at e
  · split at e
    · rename_i hc
      cases e
      exact iop_mod pins s σ H x y v u Q I rx ry ⟨_, _, r1.int, r2.int, hc, q.int⟩
    · cases e
  · cases e
end
/-! ### plain reading -/
@[simp] theorem x_addT_i (i j : Int) : dAddT (.int i) (.int j) = .ok (.int (i + j)) := id rfl
@[simp] theorem x_addT_t (a b : List D) : dAddT (.tup a) (.tup b) = if a.length + b.length ≤ sizeLine then .ok (.tup (a ++ b)) else .err := id rfl
@[simp] theorem x_addT_s (a b : Str) : dAddT (.str a) (.str b) = if a.length + b.length ≤ sizeLine then .ok (.str (a ++ b)) else .err := id rfl
end Px

namespace Px
open PySem PySem.Spec PyProof.Rows L2
/-! ### list(range(..)), tuple(range(..)) -/
def rgD (mk : List D → D) (i : Int) : D → Res D
  | .int j => if -(2 ^ 61) ≤ i ∧ i ≤ 2 ^ 61 ∧ -(2 ^ 61) ≤ j ∧ j ≤ 2 ^ 61 ∧ j - i ≤ 16777216 then .ok (mk (rng i (j - i).toNat)) else .err
  | _ => .err
def eRg1 (mk : List D → D) (f : EF) : EF := fun ρ => f ρ >>= fun d => rgD mk 0 d
def eRg2 (mk : List D → D) (f g : EF) : EF := fun ρ => f ρ >>= fun a => g ρ >>= fun b => match a with
  | .int i => rgD mk i b
  | _ => .err
@[simp] theorem x_eRg1 (mk : List D → D) (f : EF) (ρ : Px.Env) : eRg1 mk f ρ = f ρ >>= fun d => rgD mk 0 d := id rfl
theorem rgD_nat (mk : List D → D) (n : Nat) (h : n ≤ 16777216) : rgD mk 0 (.int n) = .ok (mk ((List.range n).map fun i => .int (i : Nat))) := by
  show (if _ then _ else _) = _
  rw [if_pos ⟨by omega, by omega, by omega, by omega, by omega⟩]
  simp
theorem rng_paired {K : PySem.W.Frag} {ex : AS} {H : Hp} (i j : Int) : Paired (R K ex H) (rng i (j - i).toNat) (rgV i j) := by
  unfold rng rgV
  generalize List.range (j - i).toNat = l
  induction l with
  | nil => exact .nil
  | cons a l ih => exact .cons (by rw [R]) ih
section
variable {X : Cx} {W : WX} {L : List Nat} {n m kk : Nat} {a b : Expr} {f g : EF} {p p2 p3 pos : Pos}
theorem eo_lrg1 (hc : X.calm = true) (hg : Gl X "list") (hm : X.mg "list" = none) (hg2 : Gl X "range") (hm2 : X.mg "range" = none) (ha : EB X W L n a f)
    (na : starEach [a] X.env = (false, eval a X.env) :: starEach [] X.env := by rfl)
    (nb : starEach [Expr.Call (.Name "range" p2) [a] [] p3] X.env = (false, eval (Expr.Call (.Name "range" p2) [a] [] p3) X.env) :: starEach [] X.env := by rfl) : EO X W L 1 (.Call (.Name "list" p) [.Call (.Name "range" p2) [a] [] p3] [] pos) (eRg1 .lst f) :=
  PE.imp (pe_listRg hc hg hm (prg_1 hg2 hm2 ha na) nb) fun σ H Q ⟨ex, ρ, fp, I, o⟩ => ⟨ex, ρ, fp, I, o.bind.mono fun d q v H1 e1 r1 => by
    unfold rgD at q
    split at q
    · rename_i j
      split at q
      · rename_i hj
        refine ⟨j, r1.int, ⟨by omega, by omega, by omega, by omega, by omega⟩, fun l hl => ?_⟩
        refine QO.lst (K := X.K) (ex := ex) (fun v H5 fq e5 ro nd nw => q v H5 fq (e1.trans e5) ro nd fun a ha => e1.free (nw a ha)) (rng_paired 0 j) hl ?_
        rw [rgV_length, sizeLine_eq]
        omega
      · exact q.elim
    · exact q.elim⟩
theorem eo_trg1 (hc : X.calm = true) (hg : Gl X "tuple") (hm : X.mg "tuple" = none) (hg2 : Gl X "range") (hm2 : X.mg "range" = none) (ha : EB X W L n a f)
    (na : starEach [a] X.env = (false, eval a X.env) :: starEach [] X.env := by rfl)
    (nb : starEach [Expr.Call (.Name "range" p2) [a] [] p3] X.env = (false, eval (Expr.Call (.Name "range" p2) [a] [] p3) X.env) :: starEach [] X.env := by rfl) : EO X W L kk (.Call (.Name "tuple" p) [.Call (.Name "range" p2) [a] [] p3] [] pos) (eRg1 .tup f) :=
  PE.imp (pe_tupRg hc hg hm (prg_1 hg2 hm2 ha na) nb) fun σ H Q ⟨ex, ρ, fp, I, o⟩ => ⟨ex, ρ, fp, I, o.bind.mono fun d q v H1 e1 r1 => by
    unfold rgD at q
    split at q
    · rename_i j
      split at q
      · rename_i hj
        refine ⟨j, r1.int, ⟨by omega, by omega, by omega, by omega, by omega⟩, fun l hl => ?_⟩
        refine QO.tup (K := X.K) (ex := ex) (fun v H5 fq e5 ro nd nw => q v H5 fq (e1.trans e5) ro nd fun a ha => e1.free (nw a ha)) (rng_paired 0 j) hl ?_
        rw [rgV_length, sizeLine_eq]
        omega
      · exact q.elim
    · exact q.elim⟩
theorem eo_lrg2 (hc : X.calm = true) (hg : Gl X "list") (hm : X.mg "list" = none) (hg2 : Gl X "range") (hm2 : X.mg "range" = none) (ha : EB X W L n a f) (hb : EB X W L m b g)
    (na : starEach [a, b] X.env = (false, eval a X.env) :: starEach [b] X.env := by rfl) (nb : starEach [b] X.env = (false, eval b X.env) :: starEach [] X.env := by rfl) (hp : (backTo p3 (starEach [b] X.env)).any (·.1) = false := by rfl)
    (nc : starEach [Expr.Call (.Name "range" p2) [a, b] [] p3] X.env = (false, eval (Expr.Call (.Name "range" p2) [a, b] [] p3) X.env) :: starEach [] X.env := by rfl) : EO X W L 1 (.Call (.Name "list" p) [.Call (.Name "range" p2) [a, b] [] p3] [] pos) (eRg2 .lst f g) :=
  PE.imp (pe_listRg hc hg hm (prg_2 hg2 hm2 ha hb na nb hp) nc) fun σ H Q ⟨ex, ρ, fp, I, o⟩ => ⟨ex, ρ, fp, I, o.bind.mono fun d q v H1 e1 r1 => ⟨ex, ρ, fp, I.same e1, (q.bind.later e1).mono fun d2 q2 v2 H2 e2 r2 => by
    cases d with
    | int i =>
      cases d2 with
      | int j =>
        have e9 : rgD .lst i (.int j) = if -(2 ^ 61) ≤ i ∧ i ≤ 2 ^ 61 ∧ -(2 ^ 61) ≤ j ∧ j ≤ 2 ^ 61 ∧ j - i ≤ 16777216 then .ok (.lst (rng i (j - i).toNat)) else .err := rfl
        dsimp only at q2
        rw [e9] at q2
        split at q2
        · rename_i hj
          refine ⟨i, j, r1.int, r2.int, ⟨by omega, by omega, by omega, by omega, by omega⟩, fun l hl => ?_⟩
          refine QO.lst (K := X.K) (ex := ex) (fun v H5 fq e5 ro nd nw => q2 v H5 fq ((e1.trans e2).trans e5) ro nd fun a ha => (e1.trans e2).free (nw a ha)) (rng_paired i j) hl ?_
          rw [rgV_length, sizeLine_eq]
          omega
        · exact q2.elim
      | _ => exact q2.elim
    | _ => exact q2.elim⟩⟩
end
/-! ### f() -/
section
variable {X : Cx} {W : WX} {L : List Nat} {k kr : Nat} {pos p : Pos} {f : Addr} {fd : FuncData} {ps : List Str} {x : Str} {C : List D → Res D}
theorem pe_callS0 {sp : Sp} {E : L2.St → XK} (F : FnOk X.prog X.w X.K X.mg X.base (L2.CX X.prog X.w) k f fd ps sp) (hr : Room k X.A) (hg : Gl X x) (hm : X.mg x = some (.ref f)) (hk : PySem.W.keepIn X.K (.ref f) = true) (hb : Binds X.K fd ps []) (hx : ∀ σ, PassesAt (L2.CX X.prog X.w) X σ (E σ))
    (hdb : (x == ("__debug__" : Str)) = false := by decide) : PE X (.Call (.Name x p) [] [] pos) (tCallS sp E tNil) := by
  refine ⟨fun pins s σ H Q I h => ?_⟩
  refine wpAny_Call_Name_kw (ld_glob I hg hm ?_ hdb)
  exact PySem.W.callWith_K0 I.kIn hk (run_fnS (us := []) F hr hb (hx σ) I .nil h)
theorem eo_call0 (F : FnOk X.prog X.w X.K X.mg X.base (L2.CX X.prog X.w) k f fd ps (Spec X.K X.mg 0 kr C)) (hr : Room k X.A) (hg : Gl X x) (hm : X.mg x = some (.ref f)) (hk : PySem.W.keepIn X.K (.ref f) = true) (hb : Binds X.K fd ps []) (tk : Takes X W)
    (hdb : (x == ("__debug__" : Str)) = false := by decide) : EO X W L kr (.Call (.Name x p) [] [] pos) (eCall C aNil) :=
  PE.imp (pe_callS0 F hr hg hm hk hb (fun σ => passAt tk σ) hdb) fun σ H Q ⟨ex, ρ, fp, I, o⟩ => by
    have o : Out X W σ H (C []) _ := o
    refine ⟨rfl, ex, [], I.ext, .nil, ?_⟩
    cases hC : C [] with
    | ok d =>
      rw [hC] at o
      exact fun v H2 fq e2 ro nd nw => o v H2 fq e2 ro nd nw
    | exc c =>
      rw [hC] at o
      exact fun Cl hCl H' e2 => o Cl hCl H' e2
    | err =>
      rw [hC] at o
      exact o.elim
end
/-! ### a, b, c = .. -/
section
variable {X : Cx} {W : WX} {kr : RM} {Lb L : List Nat} {a b c : Expr} {f g h : EF} {pos : Pos}
theorem sj_par3 {i j l k1 k2 k3 : Nat} {x y z : Str} {px py pz pt : Pos} {kt kt2 : Nat} {pt2 : Pos} (hc : X.calm = true) (hN : X.N.Nodup) (hi : X.N[i]? = some x) (hj : X.N[j]? = some y) (hl : X.N[l]? = some z) (hij : i ≠ j) (hil : i ≠ l) (hjl : j ≠ l)
    (hx : X.env.scope.names.lookup x = some .local) (hy : X.env.scope.names.lookup y = some .local) (hz : X.env.scope.names.lookup z = some .local)
    (h1 : EO X W L k1 a f) (h2 : EO X W L k2 b g) (h3 : EO X W L k3 c h) (li : i < L.length) (lj : j < L.length) (ll : l < L.length)
    (hw : swappedStores [.Tuple [.Name x px, .Name y py, .Name z pz] kt pt] (.Tuple [a, b, c] kt2 pt2) X.env = pure (some [x, y, z])) (hs : swapsWithSole [.Tuple [.Name x px, .Name y py, .Name z pz] kt pt] (.Tuple [a, b, c] kt2 pt2) pos.line X.env = pure false := by rfl)
    (hs1 : starEach [a, b, c] X.env = (false, eval a X.env) :: starEach [b, c] X.env := by rfl) (hs2 : starEach [b, c] X.env = (false, eval b X.env) :: starEach [c] X.env := by rfl) (hs3 : starEach [c] X.env = (false, eval c X.env) :: starEach [] X.env := by rfl) (h0 : ∀ q ∈ [i, j, l], kr.b ≠ some q := by first | exact nofun | exact fun _ _ => nofun | decide) :
    SJ X W kr Lb L (setLv L [i, j, l] [k1, k2, k3]) (.Assign [.Tuple [.Name x px, .Name y py, .Name z pz] kt pt] (.Tuple [a, b, c] kt2 pt2) pos) (sPar [i, j, l] [f, g, h]) :=
  PS.imp (ps_par3 hc hN hi hj hl hij hil hjl hx hy hz (eas_cons h1 (eas_cons h2 (eas_cons h3 eas_nil hs3) hs2) hs1) hw hs) fun Dn σ H ⟨ex0, Gs, ρ, fp, S, o⟩ => by
    refine ⟨_, ρ, fp, S.si, (flow_out S o).mono fun ds q vs fqs H1 e1 r nd nw => ?_⟩
    obtain ⟨fp', S'⟩ := S.puts (is := [i, j, l]) e1 r nd nw rfl (fun l' hl => by
      rcases List.mem_cons.mp hl with rfl | hl
      · exact li
      · rcases List.mem_cons.mp hl with rfl | hl
        · exact lj
        · rw [List.mem_singleton.mp hl]
          exact ll) (h0_all ex0 h0)
    have hl := r.lens
    clear nd nw r
    match vs, hl with
    | [v1, v2, v3], _ => exact ⟨v1, v2, v3, rfl, q _ _ _ S'⟩
end
end Px

namespace Px
open PySem PySem.Spec PyProof.Rows L2
/-! ### sep.join(a str) -/
section
open Builtin Builtin.Str
variable {prog : Program} {w : World} {A : Around} {E : Value → Shared → Prop} {s : Shared}
theorem join_tree_str (sep y : Str) (t u : Tok) : «str.join» ⟨[.str sep t, .str y u], []⟩ = (do
    let ty ← typeOf (.str y u)
    if (ty == .type "list" || ty == .type "tuple") = true then (do
      match ← seqItems? (.str y u) with
      | some xs => joinTail sep xs.toList
      | none => unsupported "internal:str.join")
    else (do
      let it ← (pyIter (.str y u)).tryCatch fun e => do
        if ← isInstance e (.type "TypeError") then rule "str.join.not-iterable"; raiseError "TypeError" "can only join an iterable" else throw e
      let items ← collect it
      joinTail sep items)) := rfl
def chs (y : Str) : List Str := y.cps.toList.map fun c => ⟨#[c]⟩
theorem join_str {x y : Str} {t u : Tok} {Q : Value → Shared → Prop} (hh : A.handled = none) (hsz : y.length ≤ sizeLine) (hok : y.length + y.length * x.length ≤ 16777216)
    (hq : ∀ h' k t', (∀ b o, s.heap.get? b = some o → h'.get? b = some o) → Q (.str (Txt.join x (chs y)) t') { s with heap := h', toks := k }) :
    wpAny (model prog w) A (call (.builtin "str.join") [.str x t, .str y u]) Q E s := by
  refine wpAny_call (codeAny_call_builtin F.slot_str_join.plain F.entry_str_join (F.slot_str_join.check _ _ _ _ _ _ _ _ (typeIs_str _ _ _) (F.args_str_join_2 _ _) ?_))
  rw [join_tree_str]
  refine wpAny_bind (wpAny_typeOf (typeIs_str _ y u) ?_)
  show wpAny _ A.in1 ((pyIter (.str y u)).tryCatch _ >>= fun it => collect it >>= fun items => joinTail x items) _ _ s
  refine wpAny_bind (wpAny_tryCatch (wpAny_pyIter_strU ?_))
  have hx : ∀ b o, s.heap.get? b = some o → (s.heap.push { cls := .type (strIterType y), data := .fields #[.str y u, .int 0 0] }).get? b = some o := fun b o e => Heap.get?_push_of_some _ e
  refine wpAny_bind (wpAny_collect_strIter (ty := strIterType y) (x := y) (t := u) hh (by unfold strIterType; split <;> simp) ⟨_, Heap.get?_push_size _ rfl, rfl, rfl⟩ (fun s' acc hk hg hd ho hacc => ?_) hsz)
  obtain ⟨l, hl⟩ := exists_strValues acc.toList fun v hv => by
    obtain ⟨j, hj, rfl⟩ := Array.mem_iff_getElem.mp (Array.mem_toList_iff.mp hv)
    obtain ⟨c, u, _, e⟩ := hacc.2 j _ (Array.getElem?_eq_getElem hj)
    exact ⟨_, u, e⟩
  have hlen : l.length = y.cps.size := by
    have := congrArg List.length hl
    have h2 : acc.toList.length = y.cps.size := by rw [Array.length_toList]; exact hacc.1
    rw [h2] at this
    rw [← this]
    simp [strValues]
  have hl1 : l.map (·.1) = chs y := by
    refine List.ext_getElem? fun j => ?_
    by_cases hj : j < l.length
    · have hj2 : j < y.cps.size := by omega
      have e1 : acc.toList[j]? = some (.str (l[j]).1 (l[j]).2) := by
        rw [← hl]
        simp [strValues, hj]
      rw [Array.getElem?_toList] at e1
      obtain ⟨c, u', hc, e2⟩ := hacc.2 j _ e1
      have h1 : (l[j]).1 = ⟨#[c]⟩ := (Value.str.inj e2).1
      rw [List.getElem?_map, List.getElem?_eq_getElem hj]
      unfold chs
      rw [List.getElem?_map, Array.getElem?_toList, hc]
      simp [h1]
    · rw [List.getElem?_eq_none (by rw [List.length_map]; omega), List.getElem?_eq_none (by unfold chs; rw [List.length_map, Array.length_toList]; omega)]
  have hsum : ∀ l : List Nat, ((l.map fun c => (⟨#[c]⟩ : Str)).map (·.length)).sum = l.length := fun l => by
    induction l with
    | nil => rfl
    | cons a l ih =>
      rw [List.map_cons, List.map_cons, List.sum_cons, ih, List.length_cons]
      show 1 + l.length = _
      omega
  have hok' : JoinOk x (l.map (·.1)) = true := by
    rw [hl1]
    refine joinOk_of ?_
    unfold chs
    rw [hsum, List.length_map, Array.length_toList]
    exact hok
  rw [← hl]
  unfold JoinOk at hok'
  rw [Bool.not_eq_true'] at hok'
  have g : Gives (joinTail x (strValues l)) (joinMade x l) := by
    have g0 := gives_joinTail x l hok'
    cases l with
    | nil => exact g0
    | cons p r => cases r with
      | nil => exact g0
      | cons q r' => exact g0
  refine g prog w A (wants Q E) s' (post_join l ⟨joinFit_length hok', fun t' k => ?_⟩)
  rw [hl1]
  obtain ⟨h', g', d', tk', os'⟩ := s'
  cases hg
  cases hd
  cases ho
  exact hq h' k t' fun b o e => hk b o (fun q => absurd (Heap.lt_size e) (by rw [q]; exact Nat.lt_irrefl _)) (hx b o e)
end
def fJoinS (a : Str) : List D → Res D
  | [.str y] => if y.length ≤ sizeLine ∧ y.length + y.length * a.length ≤ 16777216 then .ok (.str (Txt.join a (chs y))) else .err
  | [.lst xs] => joinR a xs
  | [.tup xs] => joinR a xs
  | _ => .err
theorem fJoinS_nx : NoXS fJoinS := fun s ds c h => by
  unfold fJoinS at h
  split at h <;> first | cases h | (split at h <;> cases h) | (unfold joinR at h; split at h <;> first | cases h | (split at h <;> cases h))
section
variable {X : Cx} {k : Nat}
theorem m_joinS (hc : X.calm = true) : MethS X "str.join" 1 k fJoinS := fun pins s σ H x xs v us Q I rx r h => by
  obtain ⟨ex, a, ds, d, ext, rfl, rs, e, q⟩ := h
  unfold fJoinS at e
  split at e
  · split at e
    · rename_i y hy
      cases e
      cases rs with
      | cons r1 t =>
        cases t
        have := r1.str
        subst this
        cases r with
        | cons r2 r3 =>
          cases r3
          obtain ⟨t1, rfl⟩ := rx
          obtain ⟨t2, rfl⟩ := r2
          exact join_str (I.ok.hd hc) hy.1 hy.2 fun h' kk t' hk => ⟨.str (Txt.join a (chs _)), H, I.kept (t' := kk) hk, ⟨t', rfl⟩, q.str⟩
    · cases e
  · exact m_join (k := k) pins s σ H _ xs v us Q I rx r ⟨ex, a, _, d, ext, rfl, rs, e, q⟩
  · exact m_join (k := k) pins s σ H _ xs v us Q I rx r ⟨ex, a, _, d, ext, rfl, rs, e, q⟩
  · cases e
end
end Px

namespace Px
open PySem PySem.Spec PyProof.Rows L2
/-! ### plain reading: more tools -/
abbrev dN (n : Nat) : D := .int (n : Int)
theorem dN_def (n : Nat) : dN n = .int (n : Int) := id rfl
mutual
theorem eqD_self : ∀ (k : Nat) (d : D), okN k d = true → eqD d d = true
  | k, .non, _ => by rw [eqD]
  | k, .bl b, _ => by rw [eqD]; simp
  | k, .int b, _ => by rw [eqD]; simp
  | k, .str b, _ => by rw [eqD]; simp
  | 0, .tup xs, h => by rw [okN] at h; cases h
  | k + 1, .tup xs, h => by rw [okN] at h; rw [eqD]; exact eqDL_self k xs h
  | 0, .lst xs, h => by rw [okN] at h; cases h
  | k + 1, .lst xs, h => by rw [okN] at h; rw [eqD]; exact eqDL_self k xs h
  | k, .dic _ _ _, h => by rw [okN] at h; cases h
  | k, .ins _ _ _, h => by rw [okN] at h; cases h
  | k, .set _, h => by rw [okN] at h; cases h
  | k, .exc _, h => by rw [okN] at h; cases h
  | k, .oth, h => by rw [okN] at h; cases h
theorem eqDL_self : ∀ (k : Nat) (xs : List D), okL k xs = true → eqDL xs xs = true
  | k, [], _ => by rw [eqDL]
  | k, x :: xs, h => by
    rw [okL, Bool.and_eq_true] at h
    rw [eqDL, eqD_self k x h.1, eqDL_self k xs h.2]
    rfl
end
theorem dEq_self {d : D} (h : okN 60 d = true) : dEq d d = .ok (.bl true) := by
  unfold dEq
  rw [h, eqD_self 60 d h]
  rfl
theorem dNe_self {d : D} (h : okN 60 d = true) : dNe d d = .ok (.bl false) := by
  unfold dNe
  rw [h, eqD_self 60 d h]
  rfl
mutual
theorem okN_mono : ∀ {k m : Nat} {d : D}, k ≤ m → okN k d = true → okN m d = true
  | k, m, .non, _, _ => by rw [okN]
  | k, m, .bl _, _, _ => by rw [okN]
  | k, m, .int _, _, _ => by rw [okN]
  | k, m, .str s, _, h => by rw [okN] at h ⊢; exact h
  | 0, m, .tup xs, _, h => by rw [okN] at h; cases h
  | k + 1, 0, .tup xs, hk, h => by omega
  | k + 1, m + 1, .tup xs, hk, h => by rw [okN] at h ⊢; exact okL_mono (by omega) h
  | 0, m, .lst xs, _, h => by rw [okN] at h; cases h
  | k + 1, 0, .lst xs, hk, h => by omega
  | k + 1, m + 1, .lst xs, hk, h => by rw [okN] at h ⊢; exact okL_mono (by omega) h
  | k, m, .dic _ _ _, _, h => by rw [okN] at h; cases h
  | k, m, .ins _ _ _, _, h => by rw [okN] at h; cases h
  | k, m, .set _, _, h => by rw [okN] at h; cases h
  | k, m, .exc _, _, h => by rw [okN] at h; cases h
  | k, m, .oth, _, h => by rw [okN] at h; cases h
theorem okL_mono : ∀ {k m : Nat} {xs : List D}, k ≤ m → okL k xs = true → okL m xs = true
  | k, m, [], _, _ => by rw [okL]
  | k, m, x :: xs, hk, h => by
    rw [okL, Bool.and_eq_true] at h ⊢
    exact ⟨okN_mono hk h.1, okL_mono hk h.2⟩
end
theorem okN_tup {k : Nat} {xs : List D} (h : ∀ x ∈ xs, okN k x = true) : okN (k + 1) (.tup xs) = true := by
  rw [okN, okL_all]
  exact List.all_eq_true.mpr h
theorem okN_lst {k : Nat} {xs : List D} (h : ∀ x ∈ xs, okN k x = true) : okN (k + 1) (.lst xs) = true := by
  rw [okN, okL_all]
  exact List.all_eq_true.mpr h
@[simp] theorem ok_non (k : Nat) : okN k .non = true := by rw [okN]
@[simp] theorem ok_bl (k : Nat) (b : Bool) : okN k (.bl b) = true := by rw [okN]
@[simp] theorem ok_int (k : Nat) (i : Int) : okN k (.int i) = true := by rw [okN]
@[simp] theorem ok_str (k : Nat) (s : Str) : okN k (.str s) = PyData.strOk s := by rw [okN]
theorem ok_ints (k : Nat) (l : List Nat) : okN (k + 1) (.tup (l.map dN)) = true := okN_tup fun x h => by
  obtain ⟨n, _, rfl⟩ := List.mem_map.mp h
  exact ok_int _ _
/-- equal exactly if the images are -/
theorem eqDL_map {α : Type} [DecidableEq α] {f : α → D} (h : ∀ a b, eqD (f a) (f b) = decide (a = b)) : ∀ (xs ys : List α), eqDL (xs.map f) (ys.map f) = decide (xs = ys)
  | [], [] => by rw [List.map_nil, eqDL]; simp
  | [], y :: ys => by rw [List.map_nil, List.map_cons, eqDL]; simp; all_goals (intros; contradiction)
  | x :: xs, [] => by rw [List.map_nil, List.map_cons, eqDL]; simp; all_goals (intros; contradiction)
  | x :: xs, y :: ys => by
    rw [List.map_cons, List.map_cons, eqDL, h, eqDL_map h xs ys]
    simp
theorem eqD_N (a b : Nat) : eqD (dN a) (dN b) = decide (a = b) := by
  rw [eqD]
  by_cases h : a = b
  · subst h; simp
  · rw [decide_eq_false h]
    exact beq_eq_false_iff_ne.mpr fun q => h (by omega)
theorem cut_map {α β : Type} (f : α → β) (xs : List α) (a b : Option Int) : cut (xs.map f) a b = (cut xs a b).map f := by
  unfold cut
  rw [List.length_map, List.map_take, List.map_drop]
theorem dIx_tm {α : Type} {f : α → D} {xs : List α} {n : Nat} {a : α} (h : xs[n]? = some a) : dIx (.tup (xs.map f)) (.int n) = .ok (f a) := dIx_tup (by rw [List.getElem?_map, h]; rfl)
theorem dIx_lm {α : Type} {f : α → D} {xs : List α} {n : Nat} {a : α} (h : xs[n]? = some a) : dIx (.lst (xs.map f)) (.int n) = .ok (f a) := dIx_lst (by rw [List.getElem?_map, h]; rfl)
theorem whileE_succ (t : Px.Env → Res Bool) (F : SF) (n : Nat) (ρ : Px.Env) : whileE t F (n + 1) ρ = (t ρ).flow ρ fun b => if b = true then loopK (F ρ) (whileE t F n) else .next ρ := id rfl
@[simp] theorem x_sWhile (n : Nat) (t : Px.Env → Res Bool) (F : SF) : sWhile n t F = whileE t F n := id rfl
@[simp] theorem forE_nil (gf : Px.Env → D → Res Px.Env) (F : SF) (ρ : Px.Env) : forE gf F [] ρ = .next ρ := id rfl
theorem forE_cons (gf : Px.Env → D → Res Px.Env) (F : SF) (d : D) (ds : List D) (ρ : Px.Env) : forE gf F (d :: ds) ρ = (gf ρ d).must fun ρ1 => loopK (F ρ1) (forE gf F ds) := id rfl
/-- x += e -/
def augK (r : Res D) (ρ : Px.Env) (i : Nat) : Px.Flow := match r with
  | .ok d => .next (ρ.set i (some d))
  | _ => .err
@[simp] theorem augK_ok (d : D) (ρ : Px.Env) (i : Nat) : augK (.ok d) ρ i = .next (ρ.set i (some d)) := id rfl
@[simp] theorem x_sAug (o : D → D → Res D) (i : Nat) (f : EF) (ρ : Px.Env) : sAug o i f ρ = (vD (ρ.getD i none)).flow ρ fun a => (f ρ).flow ρ fun b => augK (o a b) ρ i := by
  unfold sAug
  rw [x_eVar]
  rfl
@[simp] theorem flow_ite {α : Type} {c : Prop} [Decidable c] (a b : Res α) (ρ : Px.Env) (k : α → Px.Flow) : (if c then a else b).flow ρ k = if c then a.flow ρ k else b.flow ρ k := by split <;> rfl
@[simp] theorem bind_ite {α β : Type} {c : Prop} [Decidable c] (a b : Res α) (k : α → Res β) : ((if c then a else b) >>= k) = if c then a >>= k else b >>= k := by split <;> rfl
end Px

namespace Px
open PySem PySem.Spec PyProof.Rows L2
/-! ### texts by their signs -/
def sOf (l : List Nat) : Str := ⟨l.toArray⟩
abbrev dS (l : List Nat) : D := .str (sOf l)
theorem sOf_len (l : List Nat) : (sOf l).length = l.length := id rfl
theorem sOf_cps (l : List Nat) : (sOf l).cps.toList = l := id rfl
theorem sOf_one (c : Nat) : (⟨#[c]⟩ : Str) = sOf [c] := id rfl
theorem sOf_inj {a b : List Nat} (h : sOf a = sOf b) : a = b := by
  have := congrArg (fun s : Str => s.cps.toList) h
  exact this
theorem sOf_app (a b : List Nat) : sOf a ++ sOf b = sOf (a ++ b) := by
  show (⟨a.toArray ++ b.toArray⟩ : Str) = ⟨(a ++ b).toArray⟩
  rw [List.append_toArray]
theorem sOf_eta (s : Str) : sOf s.cps.toList = s := by
  obtain ⟨⟨l⟩⟩ := s
  rfl
theorem s_len (l : List Nat) (h : l.length ≤ 16777216) : fLen [.str (sOf l)] = .ok (.int l.length) := by
  show (if _ then _ else _) = _
  rw [sOf_len, if_pos (by rw [sizeLine_eq]; exact h)]
theorem s_ix (l : List Nat) (n c : Nat) (h : l[n]? = some c) (hl : l.length ≤ 16777216) : dIx (.str (sOf l)) (.int n) = .ok (.str (sOf [c])) := by
  show (if _ then _ else _) = _
  rw [sOf_len, if_pos (by rw [sizeLine_eq]; exact hl), sOf_cps, atI_nat, h]
  rfl
theorem s_items (l : List Nat) (h : l.length ≤ 16777216) : dItems (.str (sOf l)) = .ok (l.map fun c => .str (sOf [c])) := by
  show (if _ then _ else _) = _
  rw [sOf_len, if_pos (by rw [sizeLine_eq]; exact h)]
  rfl
theorem s_add (a b : List Nat) (h : a.length + b.length ≤ 16777216) : dAdd (.str (sOf a)) (.str (sOf b)) = .ok (.str (sOf (a ++ b))) := by
  show (if _ then _ else _) = _
  rw [sOf_len, sOf_len, if_pos (by rw [sizeLine_eq]; exact h), sOf_app]
theorem s_addT (a b : List Nat) (h : a.length + b.length ≤ 16777216) : dAddT (.str (sOf a)) (.str (sOf b)) = .ok (.str (sOf (a ++ b))) := by
  show (if _ then _ else _) = _
  rw [sOf_len, sOf_len, if_pos (by rw [sizeLine_eq]; exact h), sOf_app]
theorem s_sl (l : List Nat) (a b : Option Int) (h : l.length ≤ 16777216) : dSl (.str (sOf l)) a b = .ok (.str (sOf (cut l a b))) := by
  show (if _ then _ else _) = _
  rw [sOf_len, if_pos (by rw [sizeLine_eq]; exact h), sOf_cps]
  rfl
theorem s_rev (l : List Nat) (h : l.length ≤ 16777216) : dRev (.str (sOf l)) = .ok (.str (sOf l.reverse)) := by
  show (if _ then _ else _) = _
  rw [sOf_len, if_pos (by rw [sizeLine_eq]; exact h), sOf_cps]
  rfl
theorem s_in (c : Nat) (l : List Nat) : dIn (.str (sOf [c])) (.str (sOf l)) = .ok (.bl (decide (c ∈ l))) := by
  have e : (sOf [c]).cps.size = 1 := rfl
  show (if (sOf [c]).cps.size = 1 then Res.ok (D.bl (decide ((sOf [c]).cps.getD 0 0 ∈ (sOf l).cps.toList))) else .err) = _
  rw [if_pos e]
  rfl
theorem s_notIn (c : Nat) (l : List Nat) : dNotIn (.str (sOf [c])) (.str (sOf l)) = .ok (.bl (!decide (c ∈ l))) := by
  unfold dNotIn
  rw [s_in]
theorem s_ok (l : List Nat) : PyData.strOk (sOf l) = l.all (· < 0x110000) := by
  unfold PyData.strOk
  rw [← Array.all_toList]
  rfl
theorem s_eqD (a b : List Nat) : eqD (.str (sOf a)) (.str (sOf b)) = decide (a = b) := by
  rw [eqD]
  by_cases h : a = b
  · subst h; simp
  · rw [decide_eq_false h]
    exact beq_eq_false_iff_ne.mpr fun q => h (sOf_inj q)
theorem s_tru (l : List Nat) (h : l.length ≤ 16777216) : dTru (.str (sOf l)) = .ok (!l.isEmpty) := by
  show (if _ then _ else _) = _
  rw [sOf_len, if_pos (by rw [sizeLine_eq]; exact h)]
  congr 1
  cases l with
  | nil => rfl
  | cons a l =>
    rw [List.length_cons]
    simp
    omega
theorem s_sumlen : ∀ ps : List (List Nat), ((ps.map sOf).map (·.length)).sum = (ps.map (·.length)).sum
  | [] => rfl
  | p :: ps => by rw [List.map_cons, List.map_cons, List.map_cons, List.sum_cons, List.sum_cons, s_sumlen ps, sOf_len]
theorem s_txts : ∀ ps : List (List Nat), txtsD (ps.map fun l => .str (sOf l)) = some (ps.map sOf)
  | [] => rfl
  | p :: ps => by rw [List.map_cons, txtsD, s_txts ps]; rfl
theorem s_tl (ps : List (List Nat)) : (ps.map sOf).map TL.tl = ps := by
  induction ps with
  | nil => rfl
  | cons p ps ih => rw [List.map_cons, List.map_cons, ih]; rfl
theorem s_join (s : List Nat) (ps : List (List Nat)) (h : (ps.map (·.length)).sum + ps.length * s.length ≤ 16777216) : joinR (sOf s) (ps.map fun l => .str (sOf l)) = .ok (.str (sOf (TL.joinL s ps))) := by
  unfold joinR
  rw [s_txts]
  dsimp only
  rw [s_sumlen, List.length_map, sOf_len, if_pos h]
  congr 2
  have := TL.tl_join (sOf s) (ps.map sOf)
  rw [s_tl] at this
  rw [← sOf_eta (Txt.join (sOf s) (ps.map sOf))]
  congr 1
  rw [show Txt.join (sOf s) (ps.map sOf) = Str.join (sOf s) (ps.map sOf) from StrLaws.glued_eq_join _ _]
  exact this
theorem joinL_nil : ∀ ps : List (List Nat), TL.joinL [] ps = ps.flatten
  | [] => rfl
  | [p] => by rw [TL.joinL]; simp
  | p :: q :: r => by rw [TL.joinL, joinL_nil (q :: r)]; simp
@[simp] theorem x_all_c {α : Type} (p : α → Bool) (xs : List α) : fAll [.lst (xs.map (D.bl ∘ p))] = .ok (.bl (xs.all p)) := by
  rw [← List.map_map, x_all, List.all_map]
  rfl
@[simp] theorem x_any_c {α : Type} (p : α → Bool) (xs : List α) : fAny [.lst (xs.map (D.bl ∘ p))] = .ok (.bl (xs.any p)) := by
  rw [← List.map_map, x_any, List.any_map]
  rfl
@[simp] theorem x_all_f {α : Type} (p : α → Bool) (xs : List α) : fAll [.lst (xs.map fun x => D.bl (p x))] = .ok (.bl (xs.all p)) := x_all_c p xs
@[simp] theorem x_any_f {α : Type} (p : α → Bool) (xs : List α) : fAny [.lst (xs.map fun x => D.bl (p x))] = .ok (.bl (xs.any p)) := x_any_c p xs
/-- a comprehension over what comes of a list by a map -/
theorem lc_fun {α : Type} {gf : Px.Env → D → Res Px.Env} {f : EF} {ρ : Px.Env} {e : α → D} {g : α → D} : ∀ {xs : List α}, (∀ x ∈ xs, ∃ ρ1, gf ρ (e x) = .ok ρ1 ∧ f ρ1 = .ok (g x)) → lcE gf bYes f ρ (xs.map e) = .ok (xs.map g)
  | [], _ => rfl
  | x :: xs, h => by
    obtain ⟨ρ1, e1, e2⟩ := h x List.mem_cons_self
    have := lc_fun (xs := xs) fun y hy => h y (List.mem_cons_of_mem _ hy)
    simp [lcE, e1, e2, this]
end Px

namespace Px
open PySem PySem.Spec PySem.Calls PyProof.Rows L2
/-! ### sorted(xs) of a tuple (the kit has it of lists) -/
section
variable {prog : Program} {w : World} {A : Around} {E : Value → Shared → Prop} {s : Shared}
theorem collect_tuple {l : Addr} {vs : List Value} {Q : List Value → Shared → Prop} (hl : s.heap.IsTuple l vs.toArray)
    (h : Q vs { s with heap := (s.heap.push (seqObj "list" #[] 0)).update s.heap.objs.size (Obj.mapSeq (· ++ vs.toArray)) }) (hsz : vs.length ≤ sizeLine) :
    wpAny (model prog w) A (collect (.ref l)) Q E s := by
  obtain ⟨o, ho, hc, n, hd⟩ := id hl
  unfold collect
  refine wpAny_bind (wpAny_runValue (codeAny_builtin entry_proto_collect' ?_))
  show wpAny _ _ (do again (.builtin "list.__iadd__" ⟨[← newList [], .ref l], []⟩)) _ _ s
  refine wpAny_bind (wpAny_newList (wpAny_pure ⟨Code.quiet_builtin _ (by decide +kernel), codeAny_builtin entry_list_iadd' ?_⟩))
  show wpAny _ _ (Builtin.List.listExtendWith (.ref s.heap.objs.size) (.ref l) (.ref s.heap.objs.size)) _ _ { s with heap := s.heap.push (seqObj "list" #[] 0) }
  unfold Builtin.List.listExtendWith
  have ho' : (s.heap.push (seqObj "list" #[] 0)).get? l = some o := Heap.get?_push_of_some _ ho
  refine wpAny_bind (wpAny_typeOf (T := "tuple") ⟨o, ho', hc⟩ ?_)
  have ht : (Value.type "tuple" == Value.type "tuple") = true := by rfl
  rw [if_pos (by rw [ht]; simp)]
  refine wpAny_bind (listItems_at ho' hd ?_)
  refine wpAny_bind (listItems_at (xs := #[]) (n := 0) (Heap.get?_push_size _ rfl) rfl ?_)
  rw [if_neg (by simp)]
  refine wpAny_bind (listUpdate_at (xs := #[]) (n := 0) (Heap.get?_push_size _ rfl) rfl ?_ (Nat.zero_le _) (by show (#[] ++ vs.toArray).size ≤ sizeLine + 1; simp only [Array.size_append, List.size_toArray, List.length_nil]; omega))
  refine wpAny_pure ?_
  show wpAny (model prog w) A (do
      let o ← load s.heap.objs.size
      match o.data with
      | .seq xs _ => pure xs.toList
      | _ => unsupported "internal:collect") Q E { s with heap := (s.heap.push (seqObj "list" #[] 0)).update s.heap.objs.size (Obj.mapSeq (· ++ vs.toArray)) }
  refine wpAny_bind (wpAny_load (get?_update_seq (Heap.get?_push_size _ rfl) _) ?_)
  show wpAny _ _ (pure ((#[] : Array Value) ++ vs.toArray).toList) Q E _
  rw [show ((#[] : Array Value) ++ vs.toArray).toList = vs by simp]
  exact wpAny_pure h
theorem sorted_of_sort_t {l : Addr} {vs : List Value} {Q : Value → Shared → Prop} (hl : s.heap.IsTuple l vs.toArray) (hL : vs.length ≤ sizeLine)
    (body : ∀ E' : Value → Shared → Prop, wpAny (model prog w) A.in1.in1 (Builtin.«list.sort» ⟨[.ref (s.heap.objs.size + 1)], []⟩) (fun f s' => f = .done (.ret .none) ∧ Q (.ref (s.heap.objs.size + 1)) s') E' { s with heap := PySem.W.copyHeap s.heap vs }) :
    wpAny (model prog w) A (call (.builtin "sorted") [.ref l] []) Q E s := by
  refine call_function_entry_kw kind_sorted plain_sorted entry_sorted (args_sorted1 _) ?_
  unfold Builtin.«sorted»
  refine wpAny_bind (m := checkCount "sorted" 1 1 _) (wpAny_pure ?_)
  refine wpAny_bind (collect_tuple hl ?_ hL)
  refine wpAny_bind (wpAny_newList ?_ hL)
  have hsz : ((s.heap.push (seqObj "list" #[] 0)).update s.heap.objs.size (Obj.mapSeq (· ++ vs.toArray))).objs.size = s.heap.objs.size + 1 := by
    rw [Heap.size_update, size_push']
  show wpAny _ _ _ _ _ { s with heap := PySem.W.copyHeap s.heap vs }
  rw [hsz]
  refine wpAny_bind (wpAny_holding (wpAny_call_entry_kw slot_list_sort ⟨_, PySem.W.copyHeap_at s.heap vs, rfl⟩ entry_list_sort ?body (args_list_sort _)))
  case body =>
    show wpAny (model prog w) A.in1.in1 (Builtin.«list.sort» ⟨[.ref (s.heap.objs.size + 1)], []⟩) _ _ _
    refine wpAny_mono (body _) (fun f s' hf => ?_) fun _ _ e => e
    obtain ⟨rfl, hq⟩ := hf
    exact ⟨_, rfl, wpAny_pure ⟨_, rfl, hq⟩⟩
variable {β : Type} {vs : List Value} {bs : List β} {enc : β → PyData} {R : Value → β → Prop}
theorem sorted_data_t {l : Addr} {Q : Value → Shared → Prop} (hl : s.heap.IsTuple l vs.toArray) (e : PySem.W.EachIs R vs bs) (er : PySem.W.EachIs (fun v b => ∃ as, Reads s.heap v (enc b) as) vs bs) (hal : PySem.W.AllAlike (bs.map enc)) (hk : PySem.W.Sortable (bs.map enc)) (hL : bs.length ≤ sizeLine)
    (hu : ∀ b, b ∈ bs → A.units + 2 + (enc b).depth < cLine) (h : ∀ out, out.length = bs.length → PySem.W.EachIs R out (bs.mergeSort (PySem.W.dataLe false enc)) → Q (.ref (s.heap.objs.size + 1)) { s with heap := sortedAll s.heap vs (List.toArray out) }) :
    wpAny (model prog w) A (call (.builtin "sorted") [.ref l] []) Q E s := by
  have er' : PySem.W.EachIs (fun v b => ∃ as, Reads (PySem.W.sortingHeap (PySem.W.copyHeap s.heap vs) (s.heap.objs.size + 1) vs) v (enc b) as) vs bs := er.mono fun _ _ ⟨as, r⟩ => ⟨as, PyProof.Rows.Reads.keeps (fun _ _ => PySem.W.sorting_copy_old) r⟩
  exact sorted_of_sort_t hl (by rw [e.length]; exact hL) fun _ => PySem.W.list_sort_vals (s := { s with heap := PySem.W.copyHeap s.heap vs }) (PySem.W.copyHeap_at s.heap vs)
    (PySem.W.SortsAt.data (s := { s with heap := PySem.W.sortingHeap (PySem.W.copyHeap s.heap vs) (s.heap.objs.size + 1) vs }) (PySem.W.each_map (R := fun v d => ∃ as, Reads (PySem.W.sortingHeap (PySem.W.copyHeap s.heap vs) (s.heap.objs.size + 1) vs) v d as) enc er') hal hk (PySem.W.bound_map hu)) (by rw [e.length]; exact hL)
    ⟨rfl, h _ (by rw [PySem.W.sortVals_length false rfl]; exact e.length) (PySem.W.sortVals_data false e er' hal)⟩
end
/-! ### the rule -/
def tupAt : D → Bool
  | .tup (_ :: _) => true
  | _ => false
def noTup : D → Bool
  | .non => false
  | .tup _ => false
  | _ => true
def srtOk (xs : List D) : Bool := okL 60 xs && (xs.all fun a => xs.all fun b => PySem.W.alike (toP a) (toP b)) && (xs.all tupAt || xs.all noTup)
def dLe (a b : D) : Bool := PySem.W.dataLe false toP a b
def fSorted : List D → Res D
  | [.tup xs] => if srtOk xs = true then .ok (.lst (xs.mergeSort dLe)) else .err
  | [.lst xs] => if srtOk xs = true then .ok (.lst (xs.mergeSort dLe)) else .err
  | _ => .err
theorem fSorted_nx : NoXL fSorted := fun ds c h => by
  unfold fSorted at h
  split at h <;> first | cases h | (split at h <;> cases h)
theorem srt_facts {xs : List D} (h : srtOk xs = true) : (∀ b, b ∈ xs → (toP b).depth ≤ 60) ∧ PySem.W.AllAlike (xs.map toP) ∧ PySem.W.Sortable (xs.map toP) := by
  unfold srtOk at h
  rw [Bool.and_eq_true, Bool.and_eq_true, okL_all] at h
  obtain ⟨⟨h1, h2⟩, h3⟩ := h
  refine ⟨fun b hb => (ok_lay 60 b (List.all_eq_true.mp h1 b hb)).2, ?_, ?_⟩
  · intro d hd d' hd'
    obtain ⟨a, ha, rfl⟩ := List.mem_map.mp hd
    obtain ⟨b, hb, rfl⟩ := List.mem_map.mp hd'
    exact List.all_eq_true.mp (List.all_eq_true.mp h2 a ha) b hb
  · rw [Bool.or_eq_true] at h3
    rcases h3 with h3 | h3
    · refine .inl fun d hd => ?_
      obtain ⟨a, ha, rfl⟩ := List.mem_map.mp hd
      have := List.all_eq_true.mp h3 a ha
      cases a with
      | tup ys =>
        cases ys with
        | nil => cases this
        | cons y ys => exact ⟨toP y, toPL ys, by rw [toP, toPL]⟩
      | _ => cases this
    · refine .inr fun d hd => ?_
      obtain ⟨a, ha, rfl⟩ := List.mem_map.mp hd
      have := List.all_eq_true.mp h3 a ha
      have ok := List.all_eq_true.mp h1 a ha
      cases a with
      | tup ys => cases this
      | non => cases this
      | bl b => exact ⟨by rw [toP]; exact PyData.noConfusion, fun ys h => by rw [toP] at h; cases h⟩
      | int b => exact ⟨by rw [toP]; exact PyData.noConfusion, fun ys h => by rw [toP] at h; cases h⟩
      | str b => exact ⟨by rw [toP]; exact PyData.noConfusion, fun ys h => by rw [toP] at h; cases h⟩
      | lst b => exact ⟨by rw [toP]; exact PyData.noConfusion, fun ys h => by rw [toP] at h; cases h⟩
      | _ => exact absurd ok (by simp [okN])
section
variable {X : Cx}
/-- what a value stands for, by a plain datum -/
def Stands (K : PySem.W.Frag) (H : Hp) (v : Value) (d : D) : Prop := ∃ x, RelV x v ∧ R K (fun _ => False) H d x
theorem stands_of {K : PySem.W.Frag} {ex : AS} {H : Hp} (P : D → V → Prop) : ∀ {ds : List D} {xs : List V} {us : List Value}, Paired P ds xs → Vals xs us → PySem.W.EachIs (fun v d => ∃ x, RelV x v ∧ P d x) us ds
  | [], _, _, .nil, h => by cases h; exact .nil
  | d :: ds, _, _, .cons r t, h => by
    cases h with
    | cons h1 h2 => exact .cons ⟨_, h1, r⟩ (stands_of (K := K) (ex := ex) (H := H) P t h2)
theorem of_stands (P : D → V → Prop) : ∀ {ds : List D} {us : List Value}, PySem.W.EachIs (fun v d => ∃ x, RelV x v ∧ P d x) us ds → ∃ xs, Paired P ds xs ∧ Vals xs us
  | _, _, .nil => ⟨[], .nil, .nil⟩
  | _, _, .cons ⟨x, h1, r⟩ t => by
    obtain ⟨xs, p, q⟩ := of_stands P t
    exact ⟨x :: xs, .cons r p, .cons h1 q⟩
theorem Paired.also {α β : Type} {F : α → β → Prop} {p : α → Prop} : ∀ {as : List α} {bs : List β}, Paired F as bs → (∀ a ∈ as, p a) → Paired (fun a b => F a b ∧ p a) as bs
  | _, _, .nil, _ => .nil
  | _, _, .cons r t, h => .cons ⟨r, h _ List.mem_cons_self⟩ (Paired.also t fun a ha => h a (List.mem_cons_of_mem _ ha))
theorem c_sorted (hu : X.A.units + 64 < cLine) : CallD X 1 1 (.builtin "sorted") fSorted := fun pins s σ H xs us Q I r h => by
  obtain ⟨ex, ds, d, ext, rs, e, q⟩ := h
  have key : ∀ (zs : List D) (a : Addr) (ys : List V) (its : List Value), srtOk zs = true → d = .lst (zs.mergeSort dLe) → Paired (R X.K ex H) zs ys → Vals ys its → ys.length ≤ sizeLine → (s.heap.IsTuple a its.toArray ∨ s.heap.IsList a its.toArray) → wpAny (model X.prog X.w) X.A (call (.builtin "sorted") [.ref a] []) (L2.EP X pins σ Q) X.xe s := fun zs a ys its ok hd h3 rv hz hq => by
    subst hd
    obtain ⟨f1, f2, f3⟩ := srt_facts ok
    have e1 := stands_of (K := X.K) (ex := ex) (H := H) (R X.K ex H) h3 rv
    have hall : ∀ b ∈ zs, okN 60 b = true := by
      unfold srtOk at ok
      rw [Bool.and_eq_true, Bool.and_eq_true, okL_all] at ok
      exact List.all_eq_true.mp ok.1.1
    have e2 := stands_of (K := X.K) (ex := ex) (H := H) (fun d x => R X.K ex H d x ∧ okN 60 d = true) (Paired.also h3 hall) rv
    have er : PySem.W.EachIs (fun v b => ∃ as, Reads s.heap v (toP b) as) its zs := e2.mono fun v b ⟨x, h1, h2⟩ => Dp.reads I (toP b) x v (R.dp 60 b h2.2 h2.1) h1
    have hzl : zs.length ≤ sizeLine := by rw [← e1.length, ← rv.length]; exact hz
    have fin : ∀ out : List Value, out.length = zs.length → PySem.W.EachIs (fun v d => ∃ x, RelV x v ∧ R X.K ex H d x) out (zs.mergeSort (PySem.W.dataLe false toP)) → L2.EP X pins σ Q (.ref (s.heap.objs.size + 1)) { s with heap := sortedAll s.heap its (List.toArray out) } := fun out ho eo => by
      obtain ⟨ws, p, rw_⟩ := of_stands _ eo
      obtain ⟨ep, he'⟩ := PyProof.Rows.sortedAll_at s.heap its out.toArray
      have hlen : ws.length ≤ sizeLine := by rw [rw_.length, ho]; exact hzl
      exact ⟨.ref _, upd H (s.heap.objs.size + 1) (.lst ws), I.laid (t' := s.toks) (fun _ _ => PyProof.Rows.sortedAll_old) (Nat.le_succ _) ⟨hlen, out, ep, rw_, he'⟩, rfl, q.lst p (I.hok.fresh (Nat.le_succ _)) hlen⟩
    have hu2 : ∀ b, b ∈ zs → X.A.units + 2 + (toP b).depth < cLine := fun b hb => by have := f1 b hb; omega
    rcases hq with hq | hq
    · exact sorted_data_t hq e1 er f2 f3 hzl hu2 fin
    · exact PySem.W.sorted_data hq e1 er f2 f3 hzl hu2 fin
  unfold fSorted at e
  split at e
  · split at e
    · rename_i ok
      cases e
      cases rs with
      | cons r1 t =>
        cases t
        obtain ⟨a, ys, rfl, h1, h2, h3⟩ := RB.tup r1
        obtain ⟨its, rv, hl, hz⟩ := I.tuple h1
        rw [Vals.ref1 r]
        exact key _ a ys its ok rfl h3 rv hz (.inl hl)
    · cases e
  · split at e
    · rename_i ok
      cases e
      cases rs with
      | cons r1 t =>
        cases t
        obtain ⟨a, ys, rfl, h1, h2, h3⟩ := RB.lst r1
        obtain ⟨its, rv, hl, hz⟩ := I.list h1
        rw [Vals.ref1 r]
        exact key _ a ys its ok rfl h3 rv hz (.inr hl.isList)
    · cases e
  · cases e
end
end Px

namespace Px
open PySem PySem.Spec PyProof.Rows L2
/-! ### places within what a slot owns -/
abbrev Lens := D × (D → D)
abbrev PLF := Px.Env → Res Lens
def setKid : D → Nat → D → D
  | .lst xs, n, c => .lst (xs.set n c)
  | .dic t ks vs, n, c => .dic t ks (vs.set n c)
  | .ins k ns vs, n, c => .ins k ns (vs.set n c)
  | d, _, _ => d
def kidIx : D → D → Res Nat
  | .lst xs, .int z => match ixN xs.length z with
    | some n => .ok n
    | none => .err
  | .dic t ks _, k => match dFind t ks k with
    | .ok (some n) => .ok n
    | _ => .err
  | _, _ => .err
def nIdx : List Str → Str → Option Nat
  | [], _ => none
  | g :: r, f => if f = g then some 0 else (nIdx r f).map (· + 1)
def fldIx (c : Str) : D → Str → Res Nat
  | .ins c' ns _, f => if c' = c then (match nIdx ns f with
    | some n => .ok n
    | none => .err) else .err
  | _, _ => .err
def lensAt (l : Lens) (n : Nat) : Res Lens := match (kids l.1)[n]? with
  | some c => .ok (c, fun c' => l.2 (setKid l.1 n c'))
  | none => .err
def plVar (i : Nat) : PLF := fun ρ => match ρ.getD i none with
  | some d => .ok (d, fun x => x)
  | none => .err
def plIx (p : PLF) (f : EF) : PLF := fun ρ => p ρ >>= fun l => f ρ >>= fun j => kidIx l.1 j >>= lensAt l
def plFld (c : Str) (p : PLF) (f : Str) : PLF := fun ρ => p ρ >>= fun l => fldIx c l.1 f >>= lensAt l
theorem kids_setKid {d : D} (c : isC d = true) (n : Nat) (x : D) : kids (setKid d n x) = (kids d).set n x := by
  cases d <;> first | rfl | cases c
theorem isC_setKid {d : D} (c : isC d = true) (n : Nat) (x : D) : isC (setKid d n x) = true := by
  cases d <;> first | rfl | cases c
theorem CnO.setKid {K : PySem.W.Frag} {d : D} {xs : List V} {o : HO} (h : CnO K d xs o) (n : Nat) (x : D) : CnO K (setKid d n x) xs o := by
  cases d <;> exact h
section
theorem P3.at {α β γ : Type} {F : α → β → γ → Prop} : ∀ {as : List α} {bs : List β} {cs : List γ} {n : Nat} {a : α}, P3 F as bs cs → as[n]? = some a → ∃ b c, bs[n]? = some b ∧ cs[n]? = some c ∧ F a b c
  | _, _, _, _, _, .nil, h => by simp at h
  | _, _, _, 0, _, .cons x t, h => by simp at h; subst h; exact ⟨_, _, rfl, rfl, x⟩
  | _, _, _, n + 1, a, .cons x t, h => by
    obtain ⟨b, c, h1, h2, h3⟩ := P3.at (n := n) t (by simpa using h)
    exact ⟨b, c, by simpa using h1, by simpa using h2, h3⟩
theorem P3.setAt {α β γ : Type} {F G : α → β → γ → Prop} {a' : α} {b : β} {c' : γ} : ∀ {as : List α} {bs : List β} {cs : List γ} {n : Nat}, P3 F as bs cs → (∀ m a b c, m ≠ n → cs[m]? = some c → F a b c → G a b c) → bs[n]? = some b → G a' b c' → P3 G (as.set n a') bs (cs.set n c')
  | _, _, _, _, .nil, _, h, _ => by simp at h
  | _, _, _, 0, .cons x t, h, e, g => by
    simp at e
    subst e
    refine .cons g ?_
    have key : ∀ {as : List α} {bs : List β} {cs : List γ} {k : Nat}, P3 F as bs cs → (∀ m a b c, m ≠ 0 → (∃ j, m = j + k + 1 ∧ cs[j]? = some c) → F a b c → G a b c) → P3 G as bs cs := by
      intro as bs cs k t
      induction t generalizing k with
      | nil => intro _; exact .nil
      | cons y u ih =>
        intro hh
        refine .cons (hh (k + 1) _ _ _ (by omega) ⟨0, by omega, rfl⟩ y) (ih (k := k + 1) fun m a b c hm ⟨j, e1, e2⟩ f => hh m a b c hm ⟨j + 1, by omega, by simpa using e2⟩ f)
    exact key (k := 0) t fun m a b c hm ⟨j, e1, e2⟩ f => h m a b c hm (by rw [e1]; simpa using e2) f
  | _, _, _, n + 1, .cons x t, h, e, g => by
    refine .cons (h 0 _ _ _ (by omega) rfl x) (P3.setAt t (fun m a b c hm e2 f => h (m + 1) a b c (by omega) (by simpa using e2) f) (by simpa using e) g)
theorem flat_disj : ∀ {cs : List (List Addr)} {m n : Nat} {c1 c2 : List Addr} {b : Addr}, cs.flatten.Nodup → cs[m]? = some c1 → cs[n]? = some c2 → m ≠ n → b ∈ c1 → b ∉ c2
  | [], _, _, _, _, _, _, h, _, _, _ => by simp at h
  | c :: cs, m, n, c1, c2, b, nd, h1, h2, hm, hb => fun hb2 => by
    rw [List.flatten_cons] at nd
    obtain ⟨n1, n2, n3⟩ := List.nodup_append.mp nd
    cases m with
    | zero =>
      cases n with
      | zero => exact hm rfl
      | succ n =>
        simp at h1 h2
        subst h1
        exact n3 _ hb _ (List.mem_flatten.mpr ⟨c2, List.mem_of_getElem? h2, hb2⟩) rfl
    | succ m =>
      cases n with
      | zero =>
        simp at h1 h2
        subst h2
        exact n3 _ hb2 _ (List.mem_flatten.mpr ⟨c1, List.mem_of_getElem? h1, hb⟩) rfl
      | succ n =>
        simp at h1 h2
        exact flat_disj n2 h1 h2 (by omega) hb hb2
theorem flat_set : ∀ {cs : List (List Addr)} {n : Nat} {c' : List Addr} {b : Addr}, b ∈ (cs.set n c').flatten → b ∈ c' ∨ b ∈ cs.flatten
  | [], _, _, _, h => by simp at h
  | c :: cs, 0, c', b, h => by
    rw [List.set_cons_zero, List.flatten_cons, List.mem_append] at h
    rcases h with h | h
    · exact .inl h
    · exact .inr (by rw [List.flatten_cons]; exact List.mem_append_right _ h)
  | c :: cs, n + 1, c', b, h => by
    rw [List.set_cons_succ, List.flatten_cons, List.mem_append] at h
    rcases h with h | h
    · exact .inr (by rw [List.flatten_cons]; exact List.mem_append_left _ h)
    · rcases flat_set h with h | h
      · exact .inl h
      · exact .inr (by rw [List.flatten_cons]; exact List.mem_append_right _ h)
theorem flat_set2 : ∀ {cs : List (List Addr)} {n : Nat} {c' : List Addr} {b : Addr}, b ∈ (cs.set n c').flatten → b ∈ c' ∨ ∃ m c, m ≠ n ∧ cs[m]? = some c ∧ b ∈ c
  | [], _, _, _, h => by simp at h
  | c :: cs, 0, c', b, h => by
    rw [List.set_cons_zero, List.flatten_cons, List.mem_append] at h
    rcases h with h | h
    · exact .inl h
    · obtain ⟨z, hz, hb⟩ := List.mem_flatten.mp h
      obtain ⟨m, hm⟩ := List.mem_iff_getElem?.mp hz
      exact .inr ⟨m + 1, z, by omega, by simpa using hm, hb⟩
  | c :: cs, n + 1, c', b, h => by
    rw [List.set_cons_succ, List.flatten_cons, List.mem_append] at h
    rcases h with h | h
    · exact .inr ⟨0, c, by omega, rfl, h⟩
    · rcases flat_set2 h with h | ⟨m, z, h1, h2, h3⟩
      · exact .inl h
      · exact .inr ⟨m + 1, z, by omega, by simpa using h2, h3⟩
theorem nodup_set : ∀ {cs : List (List Addr)} {n : Nat} {c c' : List Addr}, cs[n]? = some c → cs.flatten.Nodup → c'.Nodup → (∀ b ∈ c', b ∈ c ∨ b ∉ cs.flatten) → (cs.set n c').flatten.Nodup
  | [], _, _, _, h, _, _, _ => by simp at h
  | x :: cs, 0, c, c', h, nd, nd', hm => by
    simp at h
    subst h
    rw [List.flatten_cons] at nd
    obtain ⟨n1, n2, n3⟩ := List.nodup_append.mp nd
    rw [List.set_cons_zero, List.flatten_cons]
    refine List.nodup_append.mpr ⟨nd', n2, fun a ha b hb e => ?_⟩
    subst e
    rcases hm a ha with q | q
    · exact n3 a q a hb rfl
    · exact q (by rw [List.flatten_cons]; exact List.mem_append_right _ hb)
  | x :: cs, n + 1, c, c', h, nd, nd', hm => by
    simp at h
    rw [List.flatten_cons] at nd
    obtain ⟨n1, n2, n3⟩ := List.nodup_append.mp nd
    rw [List.set_cons_succ, List.flatten_cons]
    refine List.nodup_append.mpr ⟨n1, nodup_set h n2 nd' (fun b hb => ?_), fun a ha b hb e => ?_⟩
    · rcases hm b hb with q | q
      · exact .inl q
      · exact .inr fun z => q (by rw [List.flatten_cons]; exact List.mem_append_right _ z)
    · subst e
      rcases flat_set hb with q | q
      · rcases hm a q with z | z
        · exact n3 a ha a (List.mem_flatten.mpr ⟨c, List.mem_of_getElem? h, z⟩) rfl
        · exact z (by rw [List.flatten_cons]; exact List.mem_append_left _ ha)
      · exact n3 a ha a q rfl
end
/-- the place l, at v, of what the slot owns (at vi, in fpi), and how the whole is had again from what stands there later -/
structure Foc (K : PySem.W.Frag) (ex : AS) (H : Hp) (k0 : Nat) (vi : V) (fpi : List Addr) (k : Nat) (l : Lens) (v : V) (g : List Addr) : Prop where
  ro : RO K ex H k l.1 v g
  sub : ∀ b ∈ g, b ∈ fpi
  nd : g.Nodup
  re : ∀ (H2 : Hp) (ex' : AS) (c' : D) (g' : List Addr), Keep ex H H2 → (∀ a, ex' a → ex a ∨ H a = none) → (∀ b ∈ fpi, b ∉ g → ∀ o, H b = some o → H2 b = some o) → RO K ex' H2 k c' v g' → g'.Nodup → (∀ b ∈ g', b ∈ g ∨ b ∉ fpi) →
    ∃ fqN, RO K ex' H2 k0 (l.2 c') vi fqN ∧ fqN.Nodup ∧ ∀ b ∈ fqN, (b ∈ fpi ∧ b ∉ g) ∨ b ∈ g'
section
variable {K : PySem.W.Frag} {ex : AS} {H : Hp} {k0 : Nat} {vi : V} {fpi : List Addr} {k : Nat} {l : Lens} {v : V} {g : List Addr}
theorem Foc.base {d : D} (r : RO K ex H k0 d vi fpi) (nd : fpi.Nodup) : Foc K ex H k0 vi fpi k0 (d, fun x => x) vi fpi :=
  ⟨r, fun _ h => h, nd, fun H2 ex' c' g' _ _ _ r' nd' _ => ⟨g', r', nd', fun b h => .inr h⟩⟩
theorem Foc.kid (F : Foc K ex H k0 vi fpi (k + 1) l v g) (c : isC l.1 = true) {n : Nat} {d : D} (hn : (kids l.1)[n]? = some d) :
    ∃ a xs o u g2, v = .ref a ∧ CnO K l.1 xs o ∧ H a = some o ∧ xs[n]? = some u ∧ (kids l.1).length = xs.length ∧ Foc K ex H k0 vi fpi k (d, fun c' => l.2 (setKid l.1 n c')) u g2 := by
  obtain ⟨a, xs, fps, o, e, ⟨h1, h2⟩, eg, h3⟩ := (RO.cn c).mp F.ro
  obtain ⟨u, g2, hu, hg2, ru⟩ := h3.at hn
  have mg2 : ∀ b ∈ g2, b ∈ fps.flatten := fun b hb => List.mem_flatten.mpr ⟨g2, List.mem_of_getElem? hg2, hb⟩
  have nd := F.nd
  rw [eg] at nd
  obtain ⟨na, nf⟩ := List.nodup_cons.mp nd
  have nd2 : g2.Nodup := by
    have : List.Sublist g2 fps.flatten := List.sublist_flatten_of_mem (List.mem_of_getElem? hg2)
    exact nf.sublist this
  refine ⟨a, xs, o, u, g2, e, h1, h2, hu, h3.length, ⟨ru, fun b hb => F.sub b (by rw [eg]; exact List.mem_cons_of_mem _ (mg2 b hb)), nd2, fun H2 ex' c' g' kp m oth r' nd' nw => ?_⟩⟩
  have oth2 : ∀ b ∈ g, b ∉ g2 → ∀ o, H b = some o → H2 b = some o := fun b hb hn o q => oth b (F.sub b hb) hn o q
  have ha2 : a ∉ g2 := fun z => na (mg2 a z)
  have new' : ∀ b ∈ g', b ∈ g2 ∨ b ∉ fps.flatten := fun b hb => by
    rcases nw b hb with q | q
    · exact .inl q
    · exact .inr fun z => q (F.sub b (by rw [eg]; exact List.mem_cons_of_mem _ z))
  have rc : RO K ex' H2 (k + 1) (setKid l.1 n c') v (a :: (fps.set n g').flatten) := by
    refine (RO.cn (isC_setKid c n c')).mpr ⟨a, xs, fps.set n g', o, e, ⟨h1.setKid n c', oth2 a (by rw [eg]; exact List.mem_cons_self) ha2 o h2⟩, rfl, ?_⟩
    rw [kids_setKid c]
    refine h3.setAt (fun m' x y z hm hz f => RO.keep kp m (fun b hb o q => ?_) f) hu r'
    exact oth2 b (by rw [eg]; exact List.mem_cons_of_mem _ (List.mem_flatten.mpr ⟨z, List.mem_of_getElem? hz, hb⟩)) (flat_disj nf hz hg2 hm hb) o q
  obtain ⟨fqN, r2, n2, s2⟩ := F.re H2 ex' _ _ kp m (fun b hb hn o q => oth b hb (fun z => hn (by rw [eg]; exact List.mem_cons_of_mem _ (mg2 b z))) o q) rc
    (List.nodup_cons.mpr ⟨fun z => by
      rcases flat_set z with z | z
      · rcases nw a z with q | q
        · exact ha2 q
        · exact q (F.sub a (by rw [eg]; exact List.mem_cons_self))
      · exact na z, nodup_set hg2 nf nd' new'⟩)
    (fun b hb => by
      rcases List.mem_cons.mp hb with q | q
      · exact .inl (by rw [eg, q]; exact List.mem_cons_self)
      · rcases flat_set q with q | q
        · rcases nw b q with z | z
          · exact .inl (by rw [eg]; exact List.mem_cons_of_mem _ (mg2 b z))
          · exact .inr z
        · exact .inl (by rw [eg]; exact List.mem_cons_of_mem _ q))
  refine ⟨fqN, r2, n2, fun b hb => ?_⟩
  rcases s2 b hb with q | q
  · exact .inl ⟨q.1, fun z => q.2 (by rw [eg]; exact List.mem_cons_of_mem _ (mg2 b z))⟩
  · rcases List.mem_cons.mp q with q | q
    · exact .inl ⟨F.sub b (by rw [eg, q]; exact List.mem_cons_self), by rw [q]; exact ha2⟩
    · rcases flat_set2 q with q | ⟨m', z, h4, h5, h6⟩
      · exact .inr q
      · exact .inl ⟨F.sub b (by rw [eg]; exact List.mem_cons_of_mem _ (List.mem_flatten.mpr ⟨z, List.mem_of_getElem? h5, h6⟩)), flat_disj nf h5 hg2 h4 h6⟩
end
/-- .. as it stands later -/
theorem Foc.later {K : PySem.W.Frag} {ex ex1 : AS} {H H1 : Hp} {k0 : Nat} {vi : V} {fpi : List Addr} {k : Nat} {l : Lens} {v : V} {g : List Addr} (F : Foc K ex H k0 vi fpi k l v g) (e : Same H H1) (m : ∀ a, ex1 a → ex a ∨ H a = none) : Foc K ex1 H1 k0 vi fpi k l v g :=
  ⟨RO.keep (Keep.same e) m (fun a _ o q => e a o q) F.ro, F.sub, F.nd, fun H2 ex' c' g' kp m2 oth r nd nw =>
    F.re H2 ex' c' g' ⟨fun a xs h => kp.tup a xs (e _ _ h), fun a o n h => kp.obj a o (fun z => (m a z).elim n fun q => by rw [h] at q; cases q) (e _ _ h), fun a h => kp.there a fun q => h (e.free q)⟩
      (fun a h => (m2 a h).elim (m a) fun q => .inr (e.free q)) (fun b hb hn o q => oth b hb hn o (e _ _ q)) r nd nw⟩
def tPl (X : Cx) (W : WX) (L : List Nat) (i k : Nat) (pf : PLF) : TE := fun σ H Q => ∃ ex ρ fp, SI X.K ex L ρ σ H fp ∧ Out X W σ H (pf ρ) fun l => ∀ vi v g H1, σ[i]? = some (some vi) → Same H H1 → Foc X.K ex H (L.getD i 0) vi (fp i) k l v g → Q v H1
abbrev EPl (X : Cx) (W : WX) (L : List Nat) (i k : Nat) (e : Expr) (pf : PLF) : Prop := PE X e (tPl X W L i k pf)
section
variable {X : Cx} {W : WX} {L : List Nat} {i k n : Nat} {e ei : Expr} {f : EF} {pf : PLF} {pos : Pos} {x : Str}
theorem epl_var (hN : X.N[i]? = some x) (hv : Vis X.env.scope x) (hd : (x == ("__debug__" : Str)) = false := by decide) (hcd : (x == ("__classdict__" : Str)) = false := by decide) :
    EPl X W L i (L.getD i 0) (.Name x pos) (plVar i) := PE.imp (pe_var hN hv hd hcd) fun σ H Q ⟨ex, ρ, fp, I, o⟩ => by
  unfold plVar at o
  cases e : ρ.getD i none with
  | none => rw [e] at o; exact o.elim
  | some d =>
    rw [e] at o
    obtain ⟨v, h1, h2⟩ := I.val i d (getD_some e)
    exact ⟨v, h1, o v v (fp i) H h1 (Same.refl H) (Foc.base h2 (I.nod i))⟩
theorem kid_get {K : PySem.W.Frag} {ex : AS} {H H1 : Hp} {k0 : Nat} {vi v : V} {fpi g : List Addr} {l : Lens} {j : D} {vj : V} {m : Nat} {d : D} (F : Foc K ex H k0 vi fpi (k + 1) l v g) (e : Same H H1) (rj : RB K ex H1 n j vj) (hk : kidIx l.1 j = .ok m) (hd : (kids l.1)[m]? = some d) :
    ∃ a u g2, v = .ref a ∧ Foc K ex H k0 vi fpi k (d, fun c' => l.2 (setKid l.1 m c')) u g2 ∧
      ((∃ xs z, SqL K H1 a xs ∧ vj = .int z ∧ L2.atI xs z = some u) ∨ DGet H1 a vj (some u)) := by
  obtain ⟨l1, l2⟩ := l
  cases l1 with
  | lst xs =>
    cases j with
    | int z =>
      obtain ⟨a, vs, o, u, g2, rfl, h1, h2, h3, h4, F2⟩ := F.kid rfl hd
      obtain ⟨rfl, hz⟩ := h1
      refine ⟨a, u, g2, rfl, F2, .inl ⟨vs, z, .inl (.inl (e _ _ h2)), rj.int, ?_⟩⟩
      unfold kidIx at hk
      simp only at hk
      cases hq : ixN xs.length z with
      | none => rw [hq] at hk; cases hk
      | some m' =>
        rw [hq] at hk
        cases hk
        unfold L2.atI
        rw [← (show xs.length = vs.length from h4), hq]
        exact h3
    | _ => cases hk
  | dic t ks vs =>
    obtain ⟨a, xs, o, u, g2, rfl, h1, h2, h3, h4, F2⟩ := F.kid rfl hd
    have hk : (match dFind t ks j with
      | .ok (some n) => Res.ok n
      | _ => .err) = .ok m := by
      unfold kidIx at hk
      exact hk
    refine ⟨a, u, g2, rfl, F2, .inr ?_⟩
    cases hq : dFind t ks j with
    | ok o' =>
      rw [hq] at hk
      cases o' with
      | none => cases hk
      | some m' =>
        cases hk
        have := (dFind_get (.inl ⟨o, h1, .inl (e _ _ h2)⟩ : CnR K H1 a (.dic t ks vs) xs) rj hq).1
        rw [show ((some m).bind (xs[·]?)) = some u from h3] at this
        exact this
    | exc c => rw [hq] at hk; cases hk
    | err => rw [hq] at hk; cases hk
  | _ => cases hk
theorem kidIx_nx {d j : D} {c : Str} : kidIx d j ≠ .exc c := fun h => by
  unfold kidIx at h
  split at h <;> first | cases h | (split at h <;> cases h)
theorem lensAt_nx {l : Lens} {n : Nat} {c : Str} : lensAt l n ≠ .exc c := fun h => by
  unfold lensAt at h
  split at h <;> cases h
theorem epl_ix (hu : X.A.units + 1 < cLine) (hp : EPl X W L i (k + 1) e pf) (hj : EB X W L n ei f) (hs : PlainIx ei := by intro _ _; rfl) : EPl X W L i k (.Subscript e ei pos) (plIx pf f) :=
  PE.imp (pe_ix (IxR.or ix_seq (ix_dic hu)) hp hj hs) fun σ H Q ⟨ex, ρ, fp, I, o⟩ => ⟨ex, ρ, fp, I, o.bind.mono fun l q vi v g H1 hvi e1 F => ⟨ex, ρ, fp, I.same e1, (q.bind.later e1).mono fun j q2 vj H2 e2 rj => by
    cases hk : kidIx l.1 j with
    | exc c => exact absurd hk kidIx_nx
    | err => rw [hk] at q2; exact q2.elim
    | ok m =>
      rw [hk, Res.bind_ok] at q2
      unfold lensAt at q2
      cases hd : (kids l.1)[m]? with
      | none => simp only [hd] at q2; exact q2.elim
      | some d =>
        simp only [hd] at q2
        obtain ⟨a, u, g2, rfl, F2, h⟩ := kid_get F (e1.trans e2) rj hk hd
        have fin := q2 vi u g2 H2 hvi (e1.trans e2) F2
        rcases h with ⟨xs, z, h1, h2, h3⟩ | h
        · exact .inl (.inl ⟨a, xs, z, u, rfl, h2, h1, h3, fin⟩)
        · exact .inr ⟨a, u, rfl, h, fin⟩⟩⟩
theorem nIdx_lookup {f : Str} : ∀ {ns : List Str} {xs : List V} {m : Nat} {u : V}, nIdx ns f = some m → xs[m]? = some u → (ns.zip xs).lookup f = some u
  | [], _, _, _, h, _ => by cases h
  | g :: r, [], _, _, _, h => by simp at h
  | g :: r, x :: xs, m, u, h, hu => by
    rw [nIdx] at h
    rw [List.zip_cons_cons, List.lookup]
    by_cases e : f = g
    · rw [if_pos e] at h
      cases h
      simp at hu
      rw [beq_iff_eq.mpr e]
      rw [hu]
    · rw [if_neg e] at h
      rw [beq_eq_false_iff_ne.mpr e]
      cases q : nIdx r f with
      | none => rw [q] at h; cases h
      | some j =>
        rw [q] at h
        cases h
        exact nIdx_lookup q (by simpa using hu)
theorem fldIx_ok {c f : Str} {d : D} {m : Nat} (h : fldIx c d f = .ok m) : ∃ ns vs, d = .ins c ns vs ∧ nIdx ns f = some m := by
  cases d with
  | ins c' ns vs =>
    unfold fldIx at h
    simp only at h
    split at h
    · rename_i e
      subst e
      split at h
      · rename_i n hn
        cases h
        exact ⟨ns, vs, rfl, hn⟩
      · cases h
    · cases h
  | _ => cases h
theorem fldIx_nx {c f : Str} {d : D} {x : Str} : fldIx c d f ≠ .exc x := fun h => by
  unfold fldIx at h
  split at h
  · split at h
    · split at h <;> cases h
    · cases h
  · cases h
theorem epl_fld {c : Str} (hc : Cls X.K (He.ga X.K c)) (hn : NoAttr X.K (He.ga X.K c) x) (hp : EPl X W L i (k + 1) e pf) (hb : attributeBase e x X.env (eval e X.env) = eval e X.env := by rfl) : EPl X W L i k (.Attribute e x pos) (plFld c pf x) :=
  PE.imp (pe_fld hp hb) fun σ H Q ⟨ex, ρ, fp, I, o⟩ => ⟨ex, ρ, fp, I, o.bind.mono fun l q vi v g H1 hvi e1 F => by
    cases hk : fldIx c l.1 x with
    | exc c => exact absurd hk fldIx_nx
    | err => rw [hk] at q; exact q.elim
    | ok m =>
      rw [hk, Res.bind_ok] at q
      obtain ⟨ns, vs, hl, hm⟩ := fldIx_ok hk
      unfold lensAt at q
      cases hd : (kids l.1)[m]? with
      | none => simp only [hd] at q; exact q.elim
      | some d =>
        simp only [hd] at q
        obtain ⟨a, xs, o, u, g2, rfl, h1, h2, h3, h4, F2⟩ := F.kid (by rw [hl]; rfl) hd
        rw [hl] at h1
        obtain ⟨dx, rfl, hlen⟩ := h1
        exact ⟨a, _, dx, _, u, rfl, e1 _ _ h2, hc, hn, nIdx_lookup hm h3, q vi u g2 H1 hvi e1 F2⟩⟩
/-- an attribute, read -/
def dFld (c f : Str) (d : D) : Res D := fldIx c d f >>= fun m => match (kids d)[m]? with
  | some x => .ok x
  | none => .err
theorem eb_fld {c : Str} (hc : Cls X.K (He.ga X.K c)) (hn : NoAttr X.K (He.ga X.K c) x) (he : EB X W L (n + 1) e f) (hb : attributeBase e x X.env (eval e X.env) = eval e X.env := by rfl) : EB X W L n (.Attribute e x pos) (eUn (dFld c x) f) :=
  PE.imp (pe_fld he hb) fun σ H Q ⟨ex, ρ, fp, I, o⟩ => ⟨ex, ρ, fp, I, o.bind.mono fun d q v H1 e1 r => by
    unfold dFld at q
    cases hk : fldIx c d x with
    | exc c => exact absurd hk fldIx_nx
    | err => rw [hk] at q; exact q.elim
    | ok m =>
      rw [hk, Res.bind_ok] at q
      obtain ⟨ns, vs, rfl, hm⟩ := fldIx_ok hk
      cases hd : (kids (.ins c ns vs))[m]? with
      | none => simp only [hd] at q; exact q.elim
      | some y =>
        simp only [hd] at q
        obtain ⟨a, xs, rfl, h1, h2⟩ := RB.cnr rfl r
        obtain ⟨u, hu, ru⟩ := Paired.get h2 hd
        rcases h1 with ⟨o, ⟨dx, rfl, hlen⟩, h1⟩ | ⟨⟨_, h⟩, _⟩
        · rcases h1 with h1 | h1
          · exact ⟨a, _, dx, _, u, rfl, h1, hc, hn, nIdx_lookup hm hu, q u H1 e1 ru⟩
          · exact h1.elim
        · cases h⟩
end
end Px

namespace L2
open PySem PySem.Spec PyProof.Rows
/-- t * 1: the tuple itself -/
theorem tuple_mul1 (l : Addr) (items : Array Value) (n : Nat) (dd : Option Addr) (sl : Array (Option Value)) (u : Tok) :
    Meets (Builtin.«tuple.__mul__» ⟨[.ref l, .int 1 u], []⟩) (fun _ R s => s.heap.get? l = some { cls := .type "tuple", dict := dd, data := .seq items n, slots := sl } ∧ R (.ok (.ret (Value.ref l))) s) :=
  .of_wp fun prog w A R s h => by
    obtain ⟨hp, g, d, tk, os⟩ := s
    obtain ⟨hl, h⟩ := h
    have f1 := AutoSeq1.idx_int
    wp_walk using wpAny_loadPart' hl
    repeat (first
      | (refine wpAny_ite_false (decide_eq_false (by decide)) ?_; wp_walk using wpAny_loadPart' hl)
      | (refine wpAny_ite_true (decide_eq_true (by simp)) ?_; wp_walk using wpAny_loadPart' hl))
    exact ⟨_, rfl, h⟩
section
variable {X : Cx}
theorem op_repT1 : OpR X (binaryOp .Mult) (fun x y H Q => ∃ l xs, x = .ref l ∧ y = .int 1 ∧ SqT X.K H l xs ∧ Q (.ref l) H) := by
  intro pins s σ H x y v u Q I rx ry h
  obtain ⟨l, xs, rfl, rfl, hT, q⟩ := h
  cases rx
  obtain ⟨t, rfl⟩ := ry
  obtain ⟨its, r, ⟨⟨cls, dd, data, sl⟩, ho, hc, n, hd⟩, hs⟩ := I.tuple hT
  simp only at hc hd
  subst hc hd
  refine wpAny_binaryOp_repeat_ref (T := "tuple") (U := "int") (by decide) ⟨_, ho, rfl⟩ (fun s' => typeIs_int s' 1 t) noFill_tuple_mul F.fills_int_mul F.slot_int_rmul repeat_tuple F.slot_int_index.lookup
    (call_meets F.slot_int_rmul (typeIs_int s 1 t) F.entry_int_rmul (F.args_int_rmul_2 _ _) (int_rmul_tuple 1 t l its.toArray n dd sl)
      ⟨ho, rfl, ⟨_, ho, rfl⟩, call_meets F.slot_tuple_mul ⟨_, ho, rfl⟩ F.entry_tuple_mul (F.args_tuple_mul_2 _ _) (tuple_mul1 l its.toArray n dd sl t) ⟨ho, ?_⟩⟩)
  exact ⟨.ref l, H, I, rfl, q⟩
end
end L2
namespace Px
open PySem PySem.Spec PyProof.Rows L2
theorem paired_rep {α β : Type} {F : α → β → Prop} {as : List α} {bs : List β} (h : Paired F as bs) : ∀ n : Nat, Paired F (List.replicate n as).flatten (List.replicate n bs).flatten
  | 0 => .nil
  | n + 1 => by
    rw [List.replicate_succ, List.replicate_succ, List.flatten_cons, List.flatten_cons]
    exact Paired.app h (paired_rep h n)
theorem rep_len {α : Type} (as : List α) : ∀ n : Nat, (List.replicate n as).flatten.length = n * as.length
  | 0 => by simp
  | n + 1 => by rw [List.replicate_succ, List.flatten_cons, List.length_append, rep_len as n, Nat.succ_mul, Nat.add_comm]
/-- times: of ints, of a tuple and an int -/
def dMulT : D → D → Res D
  | .tup xs, .int j => if 0 < xs.length ∧ xs.length ≤ 1000 ∧ 1 ≤ j ∧ j ≤ 1000 then .ok (.tup (List.replicate j.toNat xs).flatten) else .err
  | .int i, .int j => dMul (.int i) (.int j)
  | _, _ => .err
theorem dMulT_nx : NoX2 dMulT := fun a b c h => by
  unfold dMulT at h
  split at h
  · split at h <;> cases h
  · exact dMul_nx _ _ _ h
  · cases h
section
variable {X : Cx} {n m k : Nat}
theorem o_mulT : Op2 X n m k (binaryOp .Mult) dMulT := fun pins s σ H x y v u Q I rx ry h => by
  obtain ⟨ex, d1, d2, d, ext, r1, r2, e, q⟩ := h
  unfold dMulT at e
  split at e
  · split at e
    · rename_i xs j hc
      cases e
      obtain ⟨l, vs, rfl, hx1, z1, p1⟩ := r1.tupX
      have h1 : SqT X.K H l vs := .inl (.inl hx1)
      have hl : xs.length = vs.length := p1.length
      by_cases h2 : 2 ≤ j
      · refine L2.op_repT pins s σ H _ _ v u Q I rx ry ⟨l, j, vs, rfl, r2.int, h1, fun e => ?_, h2, hc.2.2.2, by omega, fun p hp => q.tup (paired_rep p1 _) hp ?_⟩
        · rw [e] at hl
          have := hc.1
          simp at hl
          rw [hl] at this
          simp at this
        · rw [rep_len, line_eq, ← hl]
          have : j.toNat * xs.length ≤ 1000 * 1000 := Nat.mul_le_mul (by omega) hc.2.1
          omega
      · have hj : j = 1 := by omega
        subst hj
        have ee : (List.replicate ((1 : Int)).toNat xs).flatten = xs := by
          show (List.replicate 1 xs).flatten = xs
          simp
        rw [ee] at q
        exact L2.op_repT1 pins s σ H _ _ v u Q I rx ry ⟨l, vs, rfl, r2.int, h1, q.flat (by rw [R]; exact ⟨l, vs, rfl, ⟨hx1, z1⟩, RL.of p1⟩) rfl⟩
    · cases e
  · exact o_mul (n := n) (m := m) pins s σ H x y v u Q I rx ry ⟨ex, _, _, d, ext, r1, r2, e, q⟩
  · cases e
end
end Px

namespace Px
open PySem PySem.Spec PyProof.Rows L2
/-! ### tuple(range(a, b)) -/
section
variable {X : Cx} {W : WX} {L : List Nat} {n m kk : Nat} {a b : Expr} {f g : EF} {p p2 p3 pos : Pos}
theorem eo_trg2 (hc : X.calm = true) (hg : Gl X "tuple") (hm : X.mg "tuple" = none) (hg2 : Gl X "range") (hm2 : X.mg "range" = none) (ha : EB X W L n a f) (hb : EB X W L m b g)
    (na : starEach [a, b] X.env = (false, eval a X.env) :: starEach [b] X.env := by rfl) (nb : starEach [b] X.env = (false, eval b X.env) :: starEach [] X.env := by rfl) (hp : (backTo p3 (starEach [b] X.env)).any (·.1) = false := by rfl)
    (nc : starEach [Expr.Call (.Name "range" p2) [a, b] [] p3] X.env = (false, eval (Expr.Call (.Name "range" p2) [a, b] [] p3) X.env) :: starEach [] X.env := by rfl) : EO X W L kk (.Call (.Name "tuple" p) [.Call (.Name "range" p2) [a, b] [] p3] [] pos) (eRg2 .tup f g) :=
  PE.imp (pe_tupRg hc hg hm (prg_2 hg2 hm2 ha hb na nb hp) nc) fun σ H Q ⟨ex, ρ, fp, I, o⟩ => ⟨ex, ρ, fp, I, o.bind.mono fun d q v H1 e1 r1 => ⟨ex, ρ, fp, I.same e1, (q.bind.later e1).mono fun d2 q2 v2 H2 e2 r2 => by
    cases d with
    | int i =>
      cases d2 with
      | int j =>
        have e9 : rgD .tup i (.int j) = if -(2 ^ 61) ≤ i ∧ i ≤ 2 ^ 61 ∧ -(2 ^ 61) ≤ j ∧ j ≤ 2 ^ 61 ∧ j - i ≤ 16777216 then .ok (.tup (rng i (j - i).toNat)) else .err := rfl
        dsimp only at q2
        rw [e9] at q2
        split at q2
        · rename_i hj
          refine ⟨i, j, r1.int, r2.int, ⟨by omega, by omega, by omega, by omega, by omega⟩, fun l hl => ?_⟩
          refine QO.tup (K := X.K) (ex := ex) (fun v H5 fq e5 ro nd nw => q2 v H5 fq ((e1.trans e2).trans e5) ro nd fun a ha => (e1.trans e2).free (nw a ha)) (rng_paired i j) hl ?_
          rw [rgV_length, sizeLine_eq]
          omega
        · exact q2.elim
      | _ => exact q2.elim
    | _ => exact q2.elim⟩⟩
end
end Px

namespace L2
open PySem PySem.Spec PyProof.Rows
/-- what the clauses wish, each with a name or without -/
def wManyA (K : PySem.W.Frag) (Wout : WX) (D : Ends) : List (Value × Option Nat × (Addr → Value → Option Addr → TS)) → WX
  | [] => Wout
  | (c, none, ts) :: r => fun cls d σ H => ∃ b, PySem.W.exmOne K cls c = some b ∧ (b = true → ∀ a, H a = none → ts a cls d D σ H) ∧ (b = false → wManyA K Wout D r cls d σ H)
  | (c, some i, ts) :: r => fun cls d σ H => ∃ b, PySem.W.exmOne K cls c = some b ∧ (b = true → ∀ a, H a = none → ts a cls d { nx := fun σ' H' => D.nx (σ'.set i none) H', rt := D.rt, bk := fun σ' H' => D.bk (σ'.set i none) H', ct := fun σ' H' => D.ct (σ'.set i none) H' } (σ.set i (some (.ref a))) H) ∧ (b = false → wManyA K Wout D r cls d σ H)
inductive HdsA (X : Cx) : List ExceptHandler → List (Value × Option Nat × (Addr → Value → Option Addr → TS)) → Prop
  | nil : HdsA X [] []
  | cons {x : Str} {c : Value} {ts : Addr → Value → Option Addr → TS} {b₀ : Stmt} {suite : List Stmt} {np pos' : Pos} {hds : List ExceptHandler} {l : List (Value × Option Nat × (Addr → Value → Option Addr → TS))} (hc : Names X x c)
      (hsu : ∀ (a : Addr) (oe : Obj) (cls : Value) (d : Option Addr) (pn : List (Addr × Obj)), Zc cls d oe → (∃ vs, oe.data = .fields vs) → PSs (X.suite a ((a, oe) :: pn)) (b₀ :: suite) (ts a cls d)) (r : HdsA X hds l) :
      HdsA X (.ExceptHandler (some (.Name x np)) none (b₀ :: suite) pos' :: hds) ((c, none, ts) :: l)
  | consA {x n : Str} {c : Value} {i : Nat} {ts : Addr → Value → Option Addr → TS} {b₀ : Stmt} {suite : List Stmt} {np pos' : Pos} {hds : List ExceptHandler} {l : List (Value × Option Nat × (Addr → Value → Option Addr → TS))} (hN : X.N.Nodup) (hi : X.N[i]? = some n) (hln : X.env.kindOf n = some .local) (hc : Names X x c)
      (hsu : ∀ (a : Addr) (oe : Obj) (cls : Value) (d : Option Addr) (pn : List (Addr × Obj)), Zc cls d oe → (∃ vs, oe.data = .fields vs) → PSs (X.suite a ((a, oe) :: pn)) (b₀ :: suite) (ts a cls d)) (r : HdsA X hds l) :
      HdsA X (.ExceptHandler (some (.Name x np)) (some n) (b₀ :: suite) pos' :: hds) ((c, some i, ts) :: l)
section
variable {X : Cx} {body : List Stmt} {h₀ : ExceptHandler} {hds : List ExceptHandler} {l : List (Value × Option Nat × (Addr → Value → Option Addr → TS))} {pos : Pos} {tb : WX → TS} {Wout : WX}
theorem ps_try_manyA (hs : X.stack = X.env :: X.outer) (hf : X.env.frame = some X.env.locals) (tk : Takes X Wout)
    (hb : ∀ (W : WX) (pn : List (Addr × Obj)) (xe : Value → Shared → Prop), Takes (X.tr pn xe) W → PassesOwn (model X.prog X.w) X.A X.env xe → PSs (X.tr pn xe) body (tb W))
    (hh : HdsA X (h₀ :: hds) l) : PS X (.Try body (h₀ :: hds) [] [] pos) (fun D σ H => tb (wManyA X.K Wout D l) D σ H) := by
  refine ⟨fun pins s σ H D I h => ?_⟩
  have ok := I.ok
  have hfr : X.A.frames = some (X.env :: X.outer) := by rw [ok.frames, hs]
  refine wpAny_Try_except ?_
  refine wpAny_mono ((hb (wManyA X.K Wout D l) (X.pn ++ pins) (fun e s₁ => wpAny (model X.prog X.w) X.A (noteFrame e X.env) (fun _ s₂ => wpAny (model X.prog X.w) X.A (setFlight e none) (fun _ s₃ =>
    wpAny (model X.prog X.w) X.A (handleBy e X.env (h₀ :: hds)) (SP X pins D) X.xe s₃) X.xe s₂) X.xe s₁) (fun u s' xx => ?_) PassesOwn.looking).run [] s σ H D (I.toTry _) h) (fun f s1 hsp => ?_) (fun e s1 he => he)
  · -- the catch
    obtain ⟨a, B, sI, pins', σ', H', cls, d, rfl, J', nb, up, sky, na, os, ag, w⟩ := xx
    have J : Inv X pins σ' H' sI := J'.ofTry ok
    have sky' : Sky B (X.env :: X.outer) a (Zc cls d) X.env.locals s'.heap := by rw [← hs]; exact sky
    show wpAny (model X.prog X.w) X.A (noteFrame (.ref a) X.env) _ _ _
    refine Sky.land Zc.steady hfr hf sky' fun h3 fl3 up3 => ?_
    have J3 : Inv X pins σ' H' { s' with heap := h3 } := J.landed nb fl3.1 (up.trans up3) os ag
    obtain ⟨oe3, vs3, he3, hz3, hd3⟩ := fl3.there
    have notFr : ∀ {h : Heap} {o : Obj} {vs : Array Value}, h.FunFrames B (X.env :: X.outer) → h.get? a = some o → o.data = .fields vs → a ∉ frs (X.env :: X.outer) := fun {h o vs} ff e dd hm => by
      obtain ⟨_, o', e', hnf⟩ := ff.mem hm
      rw [e] at e'; cases e'
      exact hnf _ dd
    have nfr := notFr fl3.2.2.1 he3 hd3
    have nL : a ≠ X.env.locals := fun z => nfr (List.mem_filterMap.mpr ⟨X.env, List.mem_cons_self, by rw [hf, z]⟩)
    have nF : a ∉ X.fs := fun hm => by
      obtain ⟨e, he, q⟩ := List.mem_filterMap.mp hm
      exact nfr (List.mem_filterMap.mpr ⟨e, List.mem_cons_of_mem _ he, q⟩)
    have S3 := J3.suite he3 hd3 na nL nF
    have go : ∀ {hds' : List ExceptHandler} {l' : List (Value × Option Nat × (Addr → Value → Option Addr → TS))}, HdsA X hds' l' → wManyA X.K Wout D l' cls d σ' H' →
        wpAny (model X.prog X.w) X.A (handleBy (.ref a) X.env hds') (SP X pins D) X.xe { s' with heap := h3 } := by
      intro hds' l' hk
      induction hk with
      | nil =>
        intro w
        refine wpAny_handleBy_nil ?_
        obtain ⟨k1, k2, k3, oe, vs, T, oT, ts', he, hz, hd, h1, hr⟩ := id fl3
        unfold PySem.passOn
        refine wpAny_bind (wpAny_field he hd h1 ?_)
        rw [if_neg (show ¬ ((Value.ref T == Value.none) = true) from by simp)]
        have fin : wpAny (model X.prog X.w) X.A (setFlight (.ref a) X.env.frame) (fun _ s4 => wpAny (model X.prog X.w) X.A (throw (.ref a) : Sem Flow) (SP X pins D) X.xe s4) X.xe { s' with heap := h3 } := by
          rw [hf]
          refine HandSPX.setFlight_upZ fl3 fun h4 hh4 up4 => wpAny_throw (tk _ _ ?_)
          exact ⟨a, B, sI, pins, σ', H', cls, d, rfl, J, nb, (up.trans up3).trans up4, .inr (.inr (by rw [hs]; exact hh4)), na, os, ag, w⟩
        first
          | exact wpAny_bind (wpAny_pure (wpAny_bind fin))
          | exact wpAny_bind fin
      | @cons x c ts b₀ suite np pos' hds2 l2 hc hsu r ih =>
        intro w
        obtain ⟨b, hb1, hyes, hno⟩ := w
        refine wpAny_handleBy_cons (codeAny_handlers_test ?_) (by intro q; cases q)
        have LT : PySem.W.Looks (model X.prog X.w) h3 (typeOf (.ref a)) cls := fun A Q E s k q => wpAny_typeOf_ref (k _ _ he3) (by rw [hz3.1]; exact q)
        have LM := PySem.W.exm_one (M := model X.prog X.w) (J3.kIn) LT hb1
        have test : ∀ {Q : Value → Shared → Prop} {E : Value → Shared → Prop}, Q c { s' with heap := h3 } → wpAny (model X.prog X.w) (X.A.mark (some (.ref a))) (eval (.Name x np) X.env) Q E { s' with heap := h3 } := fun {Q E} q => by
          obtain ⟨hg, hdbg, hm | ⟨hm, hv, hnn⟩⟩ := hc
          · exact ld_glob (X := X.suite a ((a, oe3) :: (X.pn ++ pins))) S3 hg hm q hdbg
          · exact ld_blt (X := X.suite a ((a, oe3) :: (X.pn ++ pins))) S3 hg hm hv q hnn hdbg
        refine test (LM.here ?_)
        cases b with
        | true =>
          refine codeAny_handlers_suite ?_
          refine HandSPX.lands_againZ fl3 fun h4 fl4 up4 => ?_
          have J4 : Inv X pins σ' H' { s' with heap := h4 } := J.landed nb fl4.1 ((up.trans up3).trans up4) os ag
          obtain ⟨oe4, vs4, he4, hz4, hd4⟩ := fl4.there
          have S4 := J4.suite he4 hd4 na nL nF
          refine wpAny_mono ((hsu a oe4 cls d (X.pn ++ pins) hz4 ⟨_, hd4⟩).run [] _ _ H' _ S4 (hyes rfl a na)) (fun f s6 hsp => ?_) (fun _ _ z => False.elim z)
          cases f with
          | next =>
            obtain ⟨σ6, H6, S6, q6⟩ := hsp
            exact ⟨_, _, S6.unsuite ok, q6⟩
          | brk =>
            obtain ⟨σ6, H6, S6, q6⟩ := hsp
            exact ⟨_, _, S6.unsuite ok, q6⟩
          | cont =>
            obtain ⟨σ6, H6, S6, q6⟩ := hsp
            exact ⟨_, _, S6.unsuite ok, q6⟩
          | ret u =>
            obtain ⟨v6, σ6, H6, S6, r6, q6⟩ := hsp
            exact ⟨_, _, _, S6.unsuite ok, r6, q6⟩
        | false =>
          show wpAny _ X.A (handleBy (.ref a) X.env hds2) _ _ _
          exact ih (hno rfl)
      | @consA x n c i2 ts b₀ suite np pos' hds2 l2 hN hi hln hc hsu r ih =>
        intro w
        obtain ⟨b, hb1, hyes, hno⟩ := w
        refine wpAny_handleBy_cons (codeAny_handlers_test ?_) (by intro q; cases q)
        have LT : PySem.W.Looks (model X.prog X.w) h3 (typeOf (.ref a)) cls := fun A Q E s k q => wpAny_typeOf_ref (k _ _ he3) (by rw [hz3.1]; exact q)
        have LM := PySem.W.exm_one (M := model X.prog X.w) (J3.kIn) LT hb1
        have test : ∀ {Q : Value → Shared → Prop} {E : Value → Shared → Prop}, Q c { s' with heap := h3 } → wpAny (model X.prog X.w) (X.A.mark (some (.ref a))) (eval (.Name x np) X.env) Q E { s' with heap := h3 } := fun {Q E} q => by
          obtain ⟨hg, hdbg, hm | ⟨hm, hv, hnn⟩⟩ := hc
          · exact ld_glob (X := X.suite a ((a, oe3) :: (X.pn ++ pins))) S3 hg hm q hdbg
          · exact ld_blt (X := X.suite a ((a, oe3) :: (X.pn ++ pins))) S3 hg hm hv q hnn hdbg
        refine test (LM.here ?_)
        cases b with
        | true =>
          refine codeAny_handlers_suite_as ?_
          refine HandSPX.lands_againZ fl3 fun h4 fl4 up4 => ?_
          have J4 : Inv X pins σ' H' { s' with heap := h4 } := J.landed nb fl4.1 ((up.trans up3).trans up4) os ag
          obtain ⟨oe4, vs4, he4, hz4, hd4⟩ := fl4.there
          have S4 := J4.suite he4 hd4 na nL nF
          refine store_ok (X := X.suite a ((a, oe4) :: (X.pn ++ pins))) (v := .ref a) S4 hN hi (.inl hln) rfl (fun s5 S5 => ?_) (.inr hln)
          refine wpAny_mono ((hsu a oe4 cls d (X.pn ++ pins) hz4 ⟨_, hd4⟩).run [] s5 _ H' _ S5 (hyes rfl a na)) (fun f s6 hsp => ?_) (fun _ _ z => False.elim z)
          have end_ : ∀ {σ6 : St} {H6 : Hp} {Q : Shared → Prop}, Inv (X.suite a ((a, oe4) :: (X.pn ++ pins))) [] σ6 H6 s6 → (∀ s7, Inv X pins (σ6.set i2 none) H6 s7 → Q s7) →
              wpAny (model X.prog X.w) X.A (do bindName X.env n .none; unbindBehindTheSuite X.env n pos') (fun _ s7 => Q s7) X.xe s6 := fun {σ6 H6 Q} S6 hq => gone_ok (S6.unsuite ok) hN hi hln hq
          cases f with
          | next =>
            obtain ⟨σ6, H6, S6, q6⟩ := hsp
            exact end_ S6 fun s7 J7 => ⟨_, _, J7, q6⟩
          | brk =>
            obtain ⟨σ6, H6, S6, q6⟩ := hsp
            exact end_ S6 fun s7 J7 => ⟨_, _, J7, q6⟩
          | cont =>
            obtain ⟨σ6, H6, S6, q6⟩ := hsp
            exact end_ S6 fun s7 J7 => ⟨_, _, J7, q6⟩
          | ret u =>
            obtain ⟨v6, σ6, H6, S6, r6, q6⟩ := hsp
            exact end_ S6 fun s7 J7 => ⟨_, _, _, J7, r6, q6⟩
        | false =>
          show wpAny _ X.A (handleBy (.ref a) X.env hds2) _ _ _
          exact ih (hno rfl)
    exact go hh w
  · cases f with
    | next =>
      obtain ⟨σ', H', J', q⟩ := hsp
      exact wpAny_execs_nil ⟨σ', H', J'.ofTry ok, q⟩
    | brk =>
      obtain ⟨σ', H', J', q⟩ := hsp
      exact ⟨σ', H', J'.ofTry ok, q⟩
    | cont =>
      obtain ⟨σ', H', J', q⟩ := hsp
      exact ⟨σ', H', J'.ofTry ok, q⟩
    | ret u =>
      obtain ⟨v, σ', H', J', r, q⟩ := hsp
      exact ⟨v, σ', H', J'.ofTry ok, r, q⟩
end
end L2

namespace Px
open PySem PySem.Spec PyProof.Rows L2
/-! ### a slot that the plain environment does not know -/
section
variable {K : PySem.W.Frag} {H0 H : Hp} {mb : Option Nat} {ex0 : CS mb} {G : List (D × V)} {L : List Nat} {ρ : Env} {σ : L2.St} {fp : Nat → List Addr}
theorem SS.free (S : SS K H0 ex0 G L ρ σ H fp) {i : Nat} (h : ∀ d, ρ[i]? ≠ some (some d)) (h0 : mb ≠ some i) (x : Option V) : SS K H0 ex0 G L ρ (σ.set i x) H fp :=
  ⟨⟨by rw [List.length_set]; exact S.si.len, fun j d hj => by
    obtain ⟨v, h1, h2⟩ := S.si.val j d hj
    have hne : i ≠ j := fun e => h d (by rw [e]; exact hj)
    exact ⟨v, by rw [List.getElem?_set_ne hne]; exact h1, h2⟩, S.si.nod, S.si.dis, S.si.sub, S.si.ext⟩, S.own, S.old, S.same, slf_set S h0, S.held⟩
theorem wiped1 (ρ : Env) (i : Nat) : ∀ d, (ρ.set i none)[i]? ≠ some (some d) := fun d h => by
  by_cases hl : i < ρ.length
  · rw [List.getElem?_set_self hl] at h
    cases h
  · rw [List.getElem?_eq_none (by rw [List.length_set]; omega)] at h
    cases h
/-- the slot's value is another, and not known -/
theorem SS.blur (S : SS K H0 ex0 G L ρ σ H fp) (i : Nat) (h0 : mb ≠ some i) (x : Option V) : SS K H0 ex0 G L (ρ.set i none) (σ.set i x) H fp :=
  SS.free (S.kill [i]) (wiped1 ρ i) h0 x
end
/-- what is left behind a clause with a name -/
def unE (i : Nat) : Flow → Flow
  | .next ρ => .next (ρ.set i none)
  | .brk ρ => .brk (ρ.set i none)
  | .cont ρ => .cont (ρ.set i none)
  | .ret d => .ret d
  | .exc _ _ => .err
  | .err => .err
theorem fout_un {X : Cx} {W W' : WX} {kr : RM} {Lb L' : List Nat} {ex0 : CS kr.b} {G : List (D × V)} {Dn : Ends} {i : Nat} {r : Flow} (h0 : kr.b ≠ some i) (h : FOut X W kr Lb L' ex0 G Dn (unE i r)) :
    FOut X W' kr Lb L' ex0 G { nx := fun σ' H' => Dn.nx (σ'.set i none) H', rt := Dn.rt, bk := fun σ' H' => Dn.bk (σ'.set i none) H', ct := fun σ' H' => Dn.ct (σ'.set i none) H' } r := by
  cases r with
  | next ρ => exact fun σ' H' fp' S => h _ _ _ (S.blur i (h0_of ex0 h0) none)
  | brk ρ => exact fun σ' H' fp' S => h _ _ _ (S.blur i (h0_of ex0 h0) none)
  | cont ρ => exact fun σ' H' fp' S => h _ _ _ (S.blur i (h0_of ex0 h0) none)
  | ret d => exact h
  | exc c ρ => exact h.elim
  | err => exact h.elim
/-! ### try: body; except x as n: .. -/
/-- a clause: its class, the classes it catches, its name's slot, what its suite does for each class -/
abbrev Cl := Value × List Str × Option Nat × (Str → SF)
def pickA : List Cl → Str → Px.Env → Px.Flow
  | [], c, ρ => .exc c ρ
  | (_, l, none, G) :: r, c, ρ => if c ∈ l then G c ρ else pickA r c ρ
  | (_, l, some i, G) :: r, c, ρ => if c ∈ l then (if i < ρ.length then unE i (G c (ρ.set i none)) else .err) else pickA r c ρ
def sTryA (us : List Str) (F : SF) (hs : List Cl) : SF := fun ρ => match F ρ with
  | .exc c ρ' => if c ∈ us then pickA hs c ρ' else .err
  | r => r
/-- what a clause's suite is given -/
def tsE (X : Cx) (W : WX) (kr : RM) (Lb L' : List Nat) (l : List Str) (o : Option Nat) (G : Str → SF) : Addr → Value → Option Addr → TS := fun a cls d D σ H =>
  d = none ∧ H a = none ∧ ∃ c C, cls = .ref C ∧ X.mg c = some (.ref C) ∧ c ∈ l ∧ (∀ i, o = some i → σ[i]? = some (some (.ref a))) ∧ ∃ ex0 G0 ρ fp, SS X.K X.H_0 ex0 G0 [] ρ σ H fp ∧ FOut X W kr Lb L' ex0 G0 D (G c ρ)
section
variable {X : Cx} {W : WX} {kr : RM} {Lb L L' : List Nat}
abbrev clT (X : Cx) (W : WX) (kr : RM) (Lb L' : List Nat) (h : Cl) : Value × Option Nat × (Addr → Value → Option Addr → TS) := (h.1, h.2.2.1, tsE X W kr Lb L' h.2.1 h.2.2.1 h.2.2.2)
theorem wManyA_ok {Dn : Ends} {c : Str} {ρ' : Px.Env} {ex0 : CS kr.b} {G : List (D × V)} : ∀ (hs : List Cl), (∀ h ∈ hs, ∀ i, h.2.2.1 = some i → kr.b ≠ some i) → (∀ h ∈ hs, ∀ C, X.mg c = some (.ref C) → PySem.W.exmOne X.K (.ref C) h.1 = some (decide (c ∈ h.2.1))) →
    FOut X W kr Lb L' ex0 G Dn (pickA hs c ρ') → ∀ C, X.mg c = some (.ref C) → ∀ σ' H' fp', SS X.K X.H_0 ex0 G [] ρ' σ' H' fp' →
    wManyA X.K W Dn (hs.map (clT X W kr Lb L')) (.ref C) none σ' H'
  | [], _, _, o, C, hC, σ', H', fp', S => o C hC σ' H' fp' S
  | (cv, l, none, F) :: r, h0, hm, o, C, hC, σ', H', fp', S => by
    refine ⟨_, hm _ List.mem_cons_self C hC, fun hb a ha => ?_, fun hb => ?_⟩
    · have hb : c ∈ l := of_decide_eq_true hb
      rw [pickA, if_pos hb] at o
      exact ⟨rfl, ha, c, C, rfl, hC, hb, fun i e => (nomatch e), ex0, G, ρ', fp', S, o⟩
    · have hb : ¬ c ∈ l := of_decide_eq_false hb
      rw [pickA, if_neg hb] at o
      exact wManyA_ok r (fun h' hh => h0 h' (List.mem_cons_of_mem _ hh)) (fun h' hh => hm h' (List.mem_cons_of_mem _ hh)) o C hC σ' H' fp' S
  | (cv, l, some i, F) :: r, h0, hm, o, C, hC, σ', H', fp', S => by
    refine ⟨_, hm _ List.mem_cons_self C hC, fun hb a ha => ?_, fun hb => ?_⟩
    · have hb : c ∈ l := of_decide_eq_true hb
      rw [pickA, if_pos hb] at o
      by_cases hl : i < ρ'.length
      · rw [if_pos hl] at o
        refine ⟨rfl, ha, c, C, rfl, hC, hb, fun j e => ?_, ex0, G, _, fp', S.blur i (h0_of ex0 (h0 _ List.mem_cons_self i rfl)) (some (.ref a)), fout_un (h0 _ List.mem_cons_self i rfl) o⟩
        cases e
        exact List.getElem?_set_self (by rw [← S.si.len]; exact hl)
      · rw [if_neg hl] at o
        exact o.elim
    · have hb : ¬ c ∈ l := of_decide_eq_false hb
      rw [pickA, if_neg hb] at o
      exact wManyA_ok r (fun h' hh => h0 h' (List.mem_cons_of_mem _ hh)) (fun h' hh => hm h' (List.mem_cons_of_mem _ hh)) o C hC σ' H' fp' S
theorem sj_tryA {body : List Stmt} {h₀ : ExceptHandler} {hds : List ExceptHandler} {pos : Pos} {F : SF} {us : List Str} (hs : List Cl) (hst : X.stack = X.env :: X.outer) (hf : X.env.frame = some X.env.locals) (tk : Takes X W)
    (hm : ∀ c ∈ us, ∀ h ∈ hs, ∀ C, X.mg c = some (.ref C) → PySem.W.exmOne X.K (.ref C) h.1 = some (decide (c ∈ h.2.1)))
    (hb : ∀ (W' : WX) (pn : List (Addr × Obj)) (xe : Value → Shared → Prop), Takes (X.tr pn xe) W' → PassesOwn (model X.prog X.w) X.A X.env xe → SJs (X.tr pn xe) W' kr Lb L L' body F)
    (hh : HdsA X (h₀ :: hds) (hs.map (clT X W kr Lb L'))) (h0 : ∀ h ∈ hs, ∀ i, h.2.2.1 = some i → kr.b ≠ some i := by first | exact fun _ _ _ _ => .inl rfl | (intro h hh i hi; right; revert hi; revert i; revert hh; revert h; decide)) : SJ X W kr Lb L L' (.Try body (h₀ :: hds) [] [] pos) (sTryA us F hs) :=
  PS.imp (ps_try_manyA (tb := fun W' => tS X W' kr Lb L L' F) hst hf tk hb hh) fun Dn σ H ⟨ex0, G, ρ, fp, S, o⟩ => by
    refine ⟨ex0, G, ρ, fp, S, ?_⟩
    unfold sTryA at o
    cases q : F ρ with
    | exc c ρ' =>
      rw [q] at o
      dsimp only at o
      split at o
      · rename_i hc
        exact wManyA_ok hs h0 (fun h hh C hC => hm c hc h hh C hC) o
      · exact o.elim
    | next ρ' => rw [q] at o; exact o
    | brk ρ' => rw [q] at o; exact o
    | cont ρ' => rw [q] at o; exact o
    | ret d => rw [q] at o; exact o
    | err => rw [q] at o; exact o
end
end Px

namespace Px
open PySem PySem.Spec PyProof.Rows L2
/-! ### isinstance(e, C) in a clause's suite, e its name -/
section
variable {X : Cx} {a D B : Addr} {oe : Obj} {pn : List (Addr × Obj)} {i : Nat} {n x : Str} {b : Bool} {p p1 p2 pos : Pos}
theorem pe_isE (C : ExcC X.K D) (hz : Zc (.ref D) none oe) (hf : ∃ vs, oe.data = .fields vs) (hg : Gl X "isinstance") (hm : X.mg "isinstance" = none) (hi : X.N[i]? = some n) (hv : Vis X.env.scope n) (hgx : Gl X x) (hx : X.mg x = some (.ref B))
    (hk : PySem.W.kitOne X.K (.ref D) (.ref B) = some b) (hd : (n == ("__debug__" : Str)) = false := by decide) (hcd : (n == ("__classdict__" : Str)) = false := by decide) (hdx : (x == ("__debug__" : Str)) = false := by decide)
    (hs1 : starEach [.Name n p1, .Name x p2] X.env = (false, eval (.Name n p1) X.env) :: starEach [.Name x p2] X.env := by rfl) (hs2 : starEach [.Name x p2] X.env = (false, eval (.Name x p2) X.env) :: starEach [] X.env := by rfl) (hpl : (backTo pos (starEach [.Name x p2] X.env)).any (·.1) = false := by rfl) :
    PE (X.suite a ((a, oe) :: pn)) (.Call (.Name "isinstance" p) [.Name n p1, .Name x p2] [] pos) (fun σ H Q => σ[i]? = some (some (.ref a)) ∧ Q (.bl b) H) :=
  PE.imp (pe_callB (X := X.suite a ((a, oe) :: pn)) (call_isE C hz hf) hg hm (by decide +kernel) (pa_cons (pe_var (X := X.suite a ((a, oe) :: pn)) hi hv hd hcd) (pa_cons (pe_glob (X := X.suite a ((a, oe) :: pn)) (v := .ref B) hgx hx rfl hdx) pa_nil hs2) hs1) (by decide) (by decide) hs1 hpl) fun σ H Q ⟨h1, q⟩ =>
    ⟨.ref a, h1, .ref B, .ref B, b, rfl, fun u r => r, hk, q⟩
theorem pt_isE (C : ExcC X.K D) (hz : Zc (.ref D) none oe) (hf : ∃ vs, oe.data = .fields vs) (hg : Gl X "isinstance") (hm : X.mg "isinstance" = none) (hi : X.N[i]? = some n) (hv : Vis X.env.scope n) (hgx : Gl X x) (hx : X.mg x = some (.ref B))
    (hk : PySem.W.kitOne X.K (.ref D) (.ref B) = some b) (hd : (n == ("__debug__" : Str)) = false := by decide) (hcd : (n == ("__classdict__" : Str)) = false := by decide) (hdx : (x == ("__debug__" : Str)) = false := by decide)
    (hs1 : starEach [.Name n p1, .Name x p2] X.env = (false, eval (.Name n p1) X.env) :: starEach [.Name x p2] X.env := by rfl) (hs2 : starEach [.Name x p2] X.env = (false, eval (.Name x p2) X.env) :: starEach [] X.env := by rfl) (hpl : (backTo pos (starEach [.Name x p2] X.env)).any (·.1) = false := by rfl) :
    PT (X.suite a ((a, oe) :: pn)) (.Call (.Name "isinstance" p) [.Name n p1, .Name x p2] [] pos) (fun σ H Q => σ[i]? = some (some (.ref a)) ∧ Q b H) :=
  PT.imp (pt_val (pe_isE C hz hf hg hm hi hv hgx hx hk hd hcd hdx hs1 hs2 hpl)) fun σ H Q ⟨h1, q⟩ => ⟨h1, b, rfl, q⟩
/-- return A if test else B, two texts -/
theorem pss_isE {Y : Cx} {t : Expr} {j1 j2 : Nat} {q1 q2 q3 q4 : Pos} {A Z : Str} (h : PT Y t (fun σ H Q => σ[i]? = some (some (.ref a)) ∧ Q b H)) :
    PSs Y [.Return (some (.IfExp t (.Constant (.str A) j1 q1) (.Constant (.str Z) j2 q2) q3)) q4] (fun Dn σ H => σ[i]? = some (some (.ref a)) ∧ Dn.rt (.str (if b = true then A else Z)) H) :=
  PSs.imp (pss_one (ps_ret (pe_ifExp h pe_str pe_str))) fun Dn σ H ⟨h1, q⟩ => ⟨h1, by
    cases b with
    | true => exact q
    | false => exact q⟩
/-- or, of two tests that leave the state alone -/
theorem pt_or2 {Y : Cx} {t1 t2 : Expr} {b1 b2 : Bool} {q1 : Pos} (h1 : PT Y t1 (fun σ H Q => σ[i]? = some (some (.ref a)) ∧ Q b1 H)) (h2 : PT Y t2 (fun σ H Q => σ[i]? = some (some (.ref a)) ∧ Q b2 H)) :
    PT Y (.BoolOp .Or [t1, t2] q1) (fun σ H Q => σ[i]? = some (some (.ref a)) ∧ Q (b1 || b2) H) :=
  PT.imp (PW.pt (pw_or h1 (pw_or1 h2))) fun σ H Q ⟨e, q⟩ => ⟨e, by
    cases b1 with
    | true => exact q
    | false => exact ⟨e, q⟩⟩
end
section
variable {X : Cx} {W : WX} {kr : RM} {k : Nat} {Lb L' : List Nat} {i : Nat} {l : List Str}
/-- a clause's suite that tells two texts apart by the error's class -/
theorem cl_isE {t : Expr} {j1 j2 : Nat} {q1 q2 q3 q4 : Pos} {A Z : Str} {Bc : Str → Bool}
    (h : ∀ c ∈ l, ∀ (C a : Addr) (oe : Obj) (pn : List (Addr × Obj)), X.mg c = some (.ref C) → Zc (.ref C) none oe → (∃ vs, oe.data = .fields vs) → PT (X.suite a ((a, oe) :: pn)) t (fun σ H Q => σ[i]? = some (some (.ref a)) ∧ Q (Bc c) H))
    (a : Addr) (oe : Obj) (cls : Value) (d : Option Addr) (pn : List (Addr × Obj)) (hz : Zc cls d oe) (hf : ∃ vs, oe.data = .fields vs) :
    PSs (X.suite a ((a, oe) :: pn)) [.Return (some (.IfExp t (.Constant (.str A) j1 q1) (.Constant (.str Z) j2 q2) q3)) q4] (tsE X W (.r k) Lb L' l (some i) (fun c => sRet (eC (.str (if Bc c = true then A else Z)))) a cls d) :=
  ⟨fun pins s σ H Dn I w => by
    obtain ⟨rfl, ha, c, C, rfl, hC, hl, hi, ex0, G0, ρ, fp, S, o⟩ := w
    refine (pss_isE (h c hl C a oe pn hC hz hf)).run pins s σ H Dn I ⟨hi i rfl, ?_⟩
    exact o _ H [] S.same (RO.flat (by rw [R]) rfl) List.nodup_nil fun b hb => nomatch hb⟩
/-- .. or whatever suite, with no look at the error -/
theorem cl_any {sts : List Stmt} {F : SF} (o : Option Nat) (n : Nat) (h : ∀ (a : Addr) (pn : List (Addr × Obj)), SJs (X.suite a pn) (fun _ _ _ _ => False) kr Lb (List.replicate n 0) L' sts F)
    (a : Addr) (oe : Obj) (cls : Value) (d : Option Addr) (pn : List (Addr × Obj)) : PSs (X.suite a ((a, oe) :: pn)) sts (tsE X W kr Lb L' l o (fun _ => sNx F) a cls d) :=
  PSs.imp (h a _) fun Dn σ H ⟨_, _, c, C, _, _, _, _, ex0, G, ρ, fp, S, o⟩ => by
    refine ⟨ex0, G, ρ, fp, S.zero (zeros n), ?_⟩
    have o : FOut X W kr Lb L' ex0 G Dn (sNx F ρ) := o
    unfold sNx at o
    cases q : F ρ with
    | exc c ρ' => rw [q] at o; exact o.elim
    | next ρ' => rw [q] at o; exact o
    | brk ρ' => rw [q] at o; exact o
    | cont ρ' => rw [q] at o; exact o
    | ret d => rw [q] at o; exact o
    | err => rw [q] at o; exact o
end
end Px

namespace Px
open PySem PySem.Spec PyProof.Rows L2
/-! ### what a slot owns is changed at a place -/
section
variable {K : PySem.W.Frag} {H0 H H1 H2 : Hp} {mb : Option Nat} {ex0 : CS mb} {G : List (D × V)} {L : List Nat} {ρ : Px.Env} {σ : L2.St} {fp : Nat → List Addr} {i k : Nat} {vi v : V} {l : Lens} {g : List Addr}
theorem SS.foc (S : SS K H0 ex0 G L ρ σ H fp) (e : Same H H1) (hvi : σ[i]? = some (some vi)) {fq : List Addr} (hfq : ∀ b ∈ fq, H b = none) (F : Foc K (fun b => b ∈ fq ∨ exOf fp ex0 b) H1 (L.getD i 0) vi (fp i) k l v g) (kp : Keep (fun b => b ∈ g) H1 H2)
    {exN : AS} (hN : ∀ a, exN a → a ∈ fq ∨ exOf fp ex0 a) (hN1 : ∀ a, exOf fp ex0 a → a ∉ g → exN a) {c' : D} {g' : List Addr} (hN2 : ∀ a ∈ g', exN a) (r : RO K exN H2 k c' v g') (nd : g'.Nodup) (nw : ∀ b ∈ g', b ∈ g ∨ b ∈ fq) :
    ∃ fp', SS K H0 ex0 G L (ρ.set i (some (l.2 c'))) σ H2 fp' ∧ ∀ a, exOf fp' ex0 a → exN a := by
  obtain ⟨fqN, r2, n2, s2⟩ := F.re H2 exN c' g' (kp.more fun b hb => .inr (.inl ⟨i, F.sub b hb⟩)) (fun a h => .inl (hN a h)) (fun b _ hn o q => kp.obj b o hn q) r nd
    (fun b hb => (nw b hb).elim .inl fun z => .inr fun q => S.si.ext b (.inl ⟨i, q⟩) (hfq b z))
  have lem : ∀ a, exOf (fun j => if j = i then fqN else fp j) ex0 a → exN a := fun a h => by
    rcases h with ⟨j, h⟩ | h
    · have h : a ∈ (if j = i then fqN else fp j) := h
      split at h
      · rcases s2 a h with q | q
        · exact hN1 a (.inl ⟨i, q.1⟩) q.2
        · exact hN2 a q
      · rename_i hj
        exact hN1 a (.inl ⟨j, h⟩) fun z => hj (S.si.dis j i a h (F.sub a z))
    · exact hN1 a (.inr h) fun z => S.ex_ne (F.sub a z) h
  refine ⟨_, S.mut (i := i) (g := fun b => b ∈ g) F.sub ⟨fun a xs h => kp.tup a xs (e _ _ h), fun a o n h => kp.obj a o n (e _ _ h), fun a h => kp.there a fun q => h (e.free q)⟩ hvi (dN := l.2 c') (fqN := fqN) (r2.less fun a h => .inl (lem a h)) n2 (fun b hb => ?_), lem⟩
  rcases s2 b hb with q | q
  · exact .inl q.1
  · rcases nw b q with z | z
    · exact .inl (F.sub b z)
    · exact .inr (hfq b z)
/-- what stands at a place, and what another object there gives -/
theorem SS.place (S : SS K H0 ex0 G L ρ σ H fp) (e : Same H H1) (hvi : σ[i]? = some (some vi)) (fq : List Addr) (hfq : ∀ b ∈ fq, H b = none) (F : Foc K (fun b => b ∈ fq ∨ exOf fp ex0 b) H1 (L.getD i 0) vi (fp i) (k + 1) l v g) (c : isC l.1 = true) :
    ∃ a xs fps o, v = .ref a ∧ CnO K l.1 xs o ∧ H1 a = some o ∧ P3 (RO K (fun b => b ∈ fq ∨ exOf fp ex0 b) H1 k) (kids l.1) xs fps ∧ fps.flatten.Nodup ∧ (∀ b ∈ fps.flatten, H b ≠ none) ∧
      (∀ o', P3 (RO K (fun b => b ∈ fq ∨ exOf fp ex0 b) (L2.upd H1 a o') k) (kids l.1) xs fps) ∧
      (∀ o' d u, RO K (fun b => b ∈ fq ∨ exOf fp ex0 b) H1 k d u fq → RO K (fun b => b ∈ fq ∨ exOf fp ex0 b) (L2.upd H1 a o') k d u fq) ∧
      (∀ o' c' xs' fps', CnO K c' xs' o' → isC c' = true → P3 (RO K (fun b => b ∈ fq ∨ exOf fp ex0 b) (L2.upd H1 a o') k) (kids c') xs' fps' → fps'.flatten.Nodup → (∀ b ∈ fps'.flatten, b ∈ fps.flatten ∨ b ∈ fq) →
        ∃ fp', SS K H0 ex0 G L (ρ.set i (some (l.2 c'))) σ (L2.upd H1 a o') fp' ∧ ∀ b, exOf fp' ex0 b → b ∈ fq ∨ exOf fp ex0 b) := by
  obtain ⟨a, xs, fps, o, ev, ⟨h1, h2⟩, eg, h3⟩ := (RO.cn c).mp F.ro
  have nd := F.nd
  rw [eg] at nd
  obtain ⟨na, nf⟩ := List.nodup_cons.mp nd
  have hai : a ∈ fp i := F.sub a (by rw [eg]; exact List.mem_cons_self)
  have hx : exOf fp ex0 a := .inl ⟨i, hai⟩
  have kpu : ∀ o', Keep (fun b => b ∈ fq ∨ exOf fp ex0 b) H1 (L2.upd H1 a o') := fun o' => Keep.upd (Same.refl H1) h2 h1.noTup (.inr hx)
  have hafq : a ∉ fq := fun z => S.si.ext a hx (hfq a z)
  refine ⟨a, xs, fps, o, ev, h1, h2, h3, nf, fun b hb => ?_, fun o' => ?_, fun o' d u r => ?_, fun o' c' xs' fps' hc hcc hp hnd hm => ?_⟩
  · exact S.si.ext b (.inl ⟨i, F.sub b (by rw [eg]; exact List.mem_cons_of_mem _ hb)⟩)
  · refine P3.keep (kpu o') (fun b h => .inl h) (fun b hb u q => ?_) h3
    rw [upd_ne (fun z => na (by rw [← z]; exact hb))]
    exact q
  · refine RO.keep (kpu o') (fun b h => .inl h) (fun b hb u q => ?_) r
    rw [upd_ne (fun z => hafq (by rw [← z]; exact hb))]
    exact q
  · refine S.foc e hvi hfq F (H2 := L2.upd H1 a o') (Keep.upd (Same.refl H1) h2 h1.noTup (by rw [eg]; exact List.mem_cons_self)) (exN := fun b => b ∈ fq ∨ exOf fp ex0 b) (fun b h => h) (fun b h _ => .inr h) (fun b hb => ?_) (c' := c') (g' := a :: fps'.flatten) ((RO.cn hcc).mpr ⟨a, xs', fps', o', ev, ⟨hc, upd_same⟩, rfl, hp⟩) (List.nodup_cons.mpr ⟨fun z => ?_, hnd⟩) (fun b hb => ?_)
    · rcases List.mem_cons.mp hb with q | q
      · rw [q]
        exact .inr hx
      · rcases hm b q with z | z
        · exact .inr (.inl ⟨i, F.sub b (by rw [eg]; exact List.mem_cons_of_mem _ z)⟩)
        · exact .inl z
    · rcases hm a z with q | q
      · exact na q
      · exact hafq q
    · rcases List.mem_cons.mp hb with q | q
      · exact .inl (by rw [eg, q]; exact List.mem_cons_self)
      · rcases hm b q with z | z
        · exact .inl (by rw [eg]; exact List.mem_cons_of_mem _ z)
        · exact .inr z
theorem exq {fq : List Addr} {ex : AS} (hfq : ∀ b ∈ fq, H b = none) : ∀ a, (a ∈ fq ∨ ex a) → ex a ∨ H a = none := fun a h => h.elim (fun z => .inr (hfq a z)) .inl
end
theorem flat_snoc {fps : List (List Addr)} {fq : List Addr} (b : Addr) : b ∈ (fps ++ [fq]).flatten ↔ b ∈ fps.flatten ∨ b ∈ fq := by
  rw [List.flatten_append, List.mem_append]
  simp
theorem nd_snoc2 {H : Hp} {fps : List (List Addr)} {fq : List Addr} (h1 : fps.flatten.Nodup) (h2 : fq.Nodup) (h3 : ∀ b ∈ fps.flatten, H b ≠ none) (h4 : ∀ b ∈ fq, H b = none) : (fps ++ [fq]).flatten.Nodup := by
  rw [List.flatten_append]
  refine List.nodup_append.mpr ⟨h1, by simpa using h2, fun a ha b hb e => ?_⟩
  subst e
  exact h3 a ha (h4 a (by simpa using hb))
theorem P3.len3 {α β γ : Type} {F : α → β → γ → Prop} : ∀ {as : List α} {bs : List β} {cs : List γ}, P3 F as bs cs → as.length = cs.length
  | _, _, _, .nil => rfl
  | _, _, _, .cons _ t => by rw [List.length_cons, List.length_cons, P3.len3 t]
theorem P3.put {α β γ : Type} {F : α → β → γ → Prop} {a : α} {b : β} {c : γ} : ∀ {as : List α} {bs : List β} {cs : List γ} (n : Nat), P3 F as bs cs → F a b c → P3 F (as.set n a) (bs.set n b) (cs.set n c)
  | _, _, _, _, .nil, _ => .nil
  | _, _, _, 0, .cons _ t, h => .cons h t
  | _, _, _, n + 1, .cons x t, h => .cons x (P3.put n t h)
theorem P3.erase {α β γ : Type} {F : α → β → γ → Prop} : ∀ {as : List α} {bs : List β} {cs : List γ} (n : Nat), P3 F as bs cs → P3 F (as.eraseIdx n) (bs.eraseIdx n) (cs.eraseIdx n)
  | _, _, _, _, .nil => .nil
  | _, _, _, 0, .cons _ t => t
  | _, _, _, n + 1, .cons x t => .cons x (P3.erase n t)
/-- a child is put at n, or behind the last one -/
theorem P3.kput {α β γ : Type} {F : α → β → γ → Prop} {a : α} {b : β} {c : γ} {as : List α} {bs : List β} {cs : List γ} (o : Option Nat) (h : P3 F as bs cs) (f : F a b c) : P3 F (kPut o as a) (kPut o bs b) (kPut o cs c) := by
  cases o with
  | some n => exact P3.put n h f
  | none => exact P3.app h (.cons f .nil)
theorem kput_mem {fps : List (List Addr)} {fq : List Addr} (o : Option Nat) : ∀ b ∈ (kPut o fps fq).flatten, b ∈ fps.flatten ∨ b ∈ fq := fun b hb => by
  cases o with
  | some n => exact (flat_set hb).elim .inr .inl
  | none => exact (flat_snoc b).mp hb
theorem kput_nd {H : Hp} {fps : List (List Addr)} {fq : List Addr} (o : Option Nat) (ho : ∀ n, o = some n → n < fps.length) (h1 : fps.flatten.Nodup) (h2 : fq.Nodup) (h3 : ∀ b ∈ fps.flatten, H b ≠ none) (h4 : ∀ b ∈ fq, H b = none) : (kPut o fps fq).flatten.Nodup := by
  cases o with
  | some n =>
    have hn := ho n rfl
    exact nodup_set (List.getElem?_eq_getElem hn) h1 h2 fun b hb => .inr fun z => h3 b z (h4 b hb)
  | none => exact nd_snoc2 h1 h2 h3 h4
section
variable {X : Cx} {W : WX} {kr : RM} {n k i : Nat} {Lb L : List Nat} {e e0 ei : Expr} {f fi : EF} {pf : PLF} {pos apos cpos npos : Pos} {x : Str}
/-- place.append(e) -/
def sAppP (i : Nat) (pf : PLF) (f : EF) : SF := fun ρ => (pf ρ).flow ρ fun l => match l.1 with
  | .lst xs => (f ρ).flow ρ fun d => if xs.length < sizeLine then .next (ρ.set i (some (l.2 (.lst (xs ++ [d]))))) else .err
  | _ => .err
theorem sj_appP (hp : EPl X W L i (k + 1) e0 pf) (he : EO X W L k e f)
    (hbase : attributeBase e0 "append" X.env (eval e0 X.env) = eval e0 X.env := by rfl)
    (hfew : ((backTo cpos (starEach [e] X.env)).all (fun x => !x.1) && (backToKw cpos (keywordEach [] X.env)).all (fun x => x.1.isSome)
      && decide ([e].length + ([] : List Keyword).length + (if ([] : List Keyword).isEmpty then 0 else 1) < 30)) = true := by rfl)
    (hline : (apos.endLine == cpos.line) = true := by rfl) (hs : starEach [e] X.env = (false, eval e X.env) :: starEach [] X.env := by rfl) (hplain : (backTo cpos (starEach [] X.env)).any (·.1) = false := by rfl)
    (hsw : swapsWith (.Call (.Attribute e0 "append" apos) [e] [] cpos) none pos.line X.env = pure false := by rfl) :
    SJ X W kr Lb L L (.Expr (.Call (.Attribute e0 "append" apos) [e] [] cpos) pos) (sAppP i pf f) :=
  PS.imp (ps_expr (pe_bm PySem.F.plainAttrs_list PySem.F.slot_list_append PySem.F.type_list_append mt_append hp (pa_cons he pa_nil hs) hbase hfew hline hs hplain) hsw) fun Dn σ H ⟨ex0, Gs, ρ, fp, S, o⟩ => by
    unfold sAppP at o
    refine ⟨_, ρ, fp, S.si, (flow_out S o).mono fun l q vi v g H1 hvi e1 F => ?_⟩
    obtain ⟨l1, l2⟩ := l
    cases l1 with
    | lst xs =>
      obtain ⟨a0, vs0, fps0, o0, rfl, ⟨⟨rfl, hz0⟩, h20⟩, _, _⟩ := (RO.cn rfl).mp F.ro
      refine ⟨.inl ⟨rfl, vs0, .inl (.inl (e1 _ _ h20))⟩, _, ρ, fp, S.si.same e1, ((flow_out S q).later e1).mono fun d q2 vn H2 fq e2 ro nd nw => ?_⟩
      have hfq : ∀ b ∈ fq, H b = none := fun b hb => e1.free (nw b hb)
      obtain ⟨a, vs, fps, o, ev, h1, h2, h3, n1, n2, old, new, fin⟩ := S.place (e1.trans e2) hvi fq hfq (F.later (e1.trans e2) (exq hfq)) rfl
      cases ev
      obtain ⟨rfl, hz⟩ := h1
      have hl : xs.length = vs.length := h3.length
      split at q2
      · rename_i hlt
        refine ⟨a0, vs, vn, rfl, rfl, h2, by omega, ?_⟩
        obtain ⟨fp', S'⟩ := fin (.lst (vs ++ [vn])) (.lst (xs ++ [d])) (vs ++ [vn]) (fps ++ [fq]) ⟨rfl, by rw [List.length_append]; simp; omega⟩ rfl (P3.app (old _) (.cons (new _ _ _ ro) .nil)) (nd_snoc2 n1 nd n2 hfq) (fun b hb => (flat_snoc b).mp hb)
        exact q2 _ _ _ S'.1
      · exact q2.elim
    | _ => exact q.elim
/-- place[j] = e -/
def putKid (d j : D) (x : D) : Res D := match d, j with
  | .lst xs, .int z => match ixN xs.length z with
    | some n => .ok (.lst (xs.set n x))
    | none => .err
  | .dic t ks vs, j => match dFind t ks j with
    | .ok o => if vs.length < sizeLine then .ok (.dic t (kAdd o ks j) (kPut o vs x)) else .err
    | _ => .err
  | _, _ => .err
def sPutP (i : Nat) (pf : PLF) (fj f : EF) : SF := fun ρ => (f ρ).flow ρ fun d => (pf ρ).flow ρ fun l => (fj ρ).flow ρ fun j => match putKid l.1 j d with
  | .ok c => .next (ρ.set i (some (l.2 c)))
  | _ => .err
theorem ixN_lt {n : Nat} {z : Int} {m : Nat} (h : ixN n z = some m) : m < n := by
  unfold ixN at h
  split at h
  · split at h
    · cases h
      omega
    · cases h
  · split at h
    · cases h
      omega
    · cases h
theorem PSet.or {t t' : TSet} (h : PSet X t) (h' : PSet X t') : PSet X (fun o i v H Q => t o i v H Q ∨ t' o i v H Q) := by
  intro pins s σ H o i v ov iv u Q I ro ri rv q
  rcases q with q | q
  · exact h pins s σ H o i v ov iv u Q I ro ri rv q
  · exact h' pins s σ H o i v ov iv u Q I ro ri rv q
theorem sj_putP (hu : X.A.units + 1 < cLine) (hp : EPl X W L i (k + 1) e0 pf) (hj : EB X W L n ei fi) (he : EO X W L k e f)
    (ha : ∀ v, assign (.Subscript e0 ei apos) X.env v = (do
      let ov ← holding [v] (eval e0 X.env)
      let iv ← holding [v, ov] (eval ei X.env)
      standAt apos
      holding [v, ov, iv] (setItem ov iv v)
      release [v, ov, iv] []) := by intro _; rfl)
    (hs : swapsWithSole [.Subscript e0 ei apos] e pos.line X.env = pure false := by rfl) (hw : swappedStores [.Subscript e0 ei apos] e X.env = pure none := by rfl)
    (h1 : (assignEach [.Subscript e0 ei apos] X.env).map (·.2) = [assign (.Subscript e0 ei apos) X.env] := by rfl) :
    SJ X W kr Lb L L (.Assign [.Subscript e0 ei apos] e pos) (sPutP i pf fi f) :=
  PS.imp (ps_asg he (pg_sub hp hj (PSet.or set_list (set_dict hu)) ha) hs hw h1) fun Dn σ H ⟨ex0, Gs, ρ, fp, S, o⟩ => by
    unfold sPutP at o
    refine ⟨_, ρ, fp, S.si, (flow_out S o).mono fun d q vn H1 fq e1 ro nd nw => ?_⟩
    have Ix : SI X.K (fun b => b ∈ fq ∨ exOf fp ex0 b) L ρ σ H1 fp := S.si.more e1 (fun c h => h.elim (fun z => .inr (nw c z)) .inl) (fun c h => .inr h) (fun c h => h.elim (fun z => ro.there c z) fun z q => S.si.ext c z (e1.free q))
    refine ⟨_, ρ, fp, Ix, ((flow_out S q).later e1).mono fun l q2 vi v g H2 hvi e2 F' => ⟨_, ρ, fp, Ix.same e2, ((flow_out S q2).later (e1.trans e2)).mono fun j q3 vj H3 e3 rj => ?_⟩⟩
    have e13 := e1.trans (e2.trans e3)
    have F3 := F'.later (e2.trans e3) (fun a h => .inl h)
    have ro3 : RO X.K (fun b => b ∈ fq ∨ exOf fp ex0 b) H3 k d vn fq := ro.same (e2.trans e3)
    obtain ⟨l1, l2⟩ := l
    cases hk : putKid l1 j d with
    | exc c => simp only [hk] at q3; exact q3.elim
    | err => simp only [hk] at q3; exact q3.elim
    | ok c' =>
      simp only [hk] at q3
      cases l1 with
      | lst xs =>
        obtain ⟨a, vs, fps, o, rfl, h1, h2, h3, n1, n2, old, new, fin⟩ := S.place e13 hvi fq nw F3 rfl
        obtain ⟨rfl, hz⟩ := h1
        have hl : xs.length = vs.length := h3.length
        cases j with
        | int z =>
          unfold putKid at hk
          simp only at hk
          cases hi : ixN xs.length z with
          | none => rw [hi] at hk; cases hk
          | some m =>
            rw [hi] at hk
            cases hk
            have hm : m < fps.length := by
              rw [← h3.len3]
              exact (ixN_lt hi)
            obtain ⟨fp', S'⟩ := fin (.lst (vs.set m vn)) (.lst (xs.set m d)) (vs.set m vn) (fps.set m fq) ⟨rfl, by rw [List.length_set]; exact hz⟩ rfl (P3.put m (old _) (new _ _ _ ro3)) (kput_nd (some m) (fun n hn => by cases hn; exact hm) n1 nd n2 nw) (kput_mem (some m))
            exact .inl ⟨a, vs, z, m, rfl, rj.int, h2, by rw [← hl]; exact hi, q3 _ _ _ S'.1⟩
        | _ => cases hk
      | dic t ks ws =>
        obtain ⟨a, vs, fps, o, rfl, h1, h2, h3, n1, n2, old, new, fin⟩ := S.place e13 hvi fq nw F3 rfl
        have hl : ws.length = vs.length := h3.length
        have hk2 : (match dFind t ks j with
          | .ok o => if ws.length < sizeLine then Res.ok (D.dic t (kAdd o ks j) (kPut o ws d)) else .err
          | _ => .err) = .ok c' := by
          unfold putKid at hk
          exact hk
        cases hq : dFind t ks j with
        | exc c => rw [hq] at hk2; cases hk2
        | err => rw [hq] at hk2; cases hk2
        | ok o' =>
          rw [hq] at hk2
          simp only at hk2
          split at hk2
          · rename_i hlt
            cases hk2
            obtain ⟨ho', p1, p2⟩ := dFind_put h1 h2 rj hq (by rw [← hl]; exact hlt) (v := vn) (kPut o' ws d)
            have hm : ∀ n, o' = some n → n < fps.length := fun n hn => by
              rw [← h3.len3, show (kids (D.dic t ks ws)).length = vs.length from hl]
              exact (dFind_get (.inl ⟨o, h1, .inl h2⟩ : CnR X.K H3 a (.dic t ks ws) vs) rj hq).2 n hn
            obtain ⟨fp', S'⟩ := fin ho' (.dic t (kAdd o' ks j) (kPut o' ws d)) (kPut o' vs vn) (kPut o' fps fq) p2 rfl (P3.kput o' (old _) (new _ _ _ ro3)) (kput_nd o' hm n1 nd n2 nw) (kput_mem o')
            exact .inr ⟨a, _, rfl, p1, q3 _ _ _ S'.1⟩
          · cases hk2
      | _ => cases hk
end
end Px

namespace Px
open PySem PySem.Spec PyProof.Rows L2
/-! ### attributes stored; op= at a place; extend; pop -/
theorem putF_zip {f : Str} {v : V} : ∀ {ns : List Str} {xs : List V}, ns.length = xs.length → L2.putF f v (ns.zip xs) = match nIdx ns f with
    | some m => ns.zip (xs.set m v)
    | none => (ns ++ [f]).zip (xs ++ [v])
  | [], [], _ => rfl
  | [], _ :: _, h => by simp at h
  | _ :: _, [], h => by simp at h
  | g :: r, x :: xs, h => by
    rw [List.zip_cons_cons, L2.putF, nIdx]
    by_cases e : g = f
    · rw [if_pos e, if_pos e.symm]
      rfl
    · rw [if_neg e, if_neg (fun q => e q.symm), putF_zip (by simpa using h)]
      cases nIdx r f with
      | none => rfl
      | some m => rfl
def putFld (c f : Str) (d x : D) : Res D := match d with
  | .ins c' ns vs => if c' = c ∧ ns.length < 1000 then .ok (.ins c (match nIdx ns f with
    | some _ => ns
    | none => ns ++ [f]) (kPut (nIdx ns f) vs x)) else .err
  | _ => .err
theorem CnO.putFld {K : PySem.W.Frag} {c f : Str} {ns : List Str} {vs vs' : List D} {xs : List V} {o : HO} {v : V} (h : CnO K (.ins c ns vs) xs o) : ∃ dx, o = .ins (He.ga K c) dx (ns.zip xs) ∧
    CnO K (.ins c (match nIdx ns f with
    | some _ => ns
    | none => ns ++ [f]) vs') (kPut (nIdx ns f) xs v) (.ins (He.ga K c) dx (L2.putF f v (ns.zip xs))) := by
  obtain ⟨dx, rfl, hl⟩ := h
  refine ⟨dx, rfl, dx, ?_⟩
  rw [putF_zip hl]
  cases nIdx ns f with
  | some m => exact ⟨rfl, by show ns.length = (xs.set m v).length; rw [List.length_set]; exact hl⟩
  | none => exact ⟨rfl, by show (ns ++ [f]).length = (xs ++ [v]).length; simp [hl]⟩
theorem nIdx_lt {f : Str} : ∀ {ns : List Str} {m : Nat}, nIdx ns f = some m → m < ns.length
  | [], _, h => by cases h
  | g :: r, m, h => by
    rw [nIdx] at h
    split at h
    · cases h
      simp
    · cases q : nIdx r f with
      | none => rw [q] at h; cases h
      | some j =>
        rw [q] at h
        cases h
        have := nIdx_lt q
        simp
        omega
def sFldP (c : Str) (i : Nat) (pf : PLF) (x : Str) (f : EF) : SF := fun ρ => (f ρ).flow ρ fun d => (pf ρ).flow ρ fun l => match putFld c x l.1 d with
  | .ok y => .next (ρ.set i (some (l.2 y)))
  | _ => .err
section
variable {X : Cx} {W : WX} {kr : RM} {n n2 k i : Nat} {Lb L : List Nat} {e e0 ei : Expr} {f fi : EF} {pf : PLF} {pos apos cpos npos tpos : Pos} {x c : Str}
theorem sj_fldP (hc : Cls X.K (He.ga X.K c)) (hn : NoAttr X.K (He.ga X.K c) x) (hp : EPl X W L i (k + 1) e0 pf) (he : EO X W L k e f) (hs : swapsWith e (some (.Attribute e0 x apos)) pos.line X.env = pure false := by rfl) :
    SJ X W kr Lb L L (.Assign [.Attribute e0 x apos] e pos) (sFldP c i pf x f) :=
  PS.imp (ps_fld hp he hs) fun Dn σ H ⟨ex0, Gs, ρ, fp, S, o⟩ => by
    unfold sFldP at o
    refine ⟨_, ρ, fp, S.si, (flow_out S o).mono fun d q vn H1 fq e1 ro nd nw => ?_⟩
    have Ix : SI X.K (fun b => b ∈ fq ∨ exOf fp ex0 b) L ρ σ H1 fp := S.si.more e1 (fun c h => h.elim (fun z => .inr (nw c z)) .inl) (fun c h => .inr h) (fun c h => h.elim (fun z => ro.there c z) fun z q => S.si.ext c z (e1.free q))
    refine ⟨_, ρ, fp, Ix, ((flow_out S q).later e1).mono fun l q2 vi v g H2 hvi e2 F' => ?_⟩
    obtain ⟨l1, l2⟩ := l
    cases hk : putFld c x l1 d with
    | exc c => simp only [hk] at q2; exact q2.elim
    | err => simp only [hk] at q2; exact q2.elim
    | ok c' =>
      simp only [hk] at q2
      cases l1 with
      | ins cc ns ws =>
        unfold putFld at hk
        simp only at hk
        split at hk
        · rename_i hcl
          obtain ⟨rfl, hlt⟩ := hcl
          cases hk
          obtain ⟨a, vs, fps, o, rfl, h1, h2, h3, n1, n2, old, new, fin⟩ := S.place (e1.trans e2) hvi fq nw (F'.later e2 fun a h => .inl h) rfl
          obtain ⟨dx, rfl, h4⟩ := h1.putFld (f := x) (v := vn) (vs' := kPut (nIdx ns x) ws d)
          obtain ⟨_, _, hl⟩ := h1
          have h3l : ws.length = vs.length := h3.length
          have h33 : ws.length = fps.length := h3.len3
          obtain ⟨fp', S'⟩ := fin _ _ _ (kPut (nIdx ns x) fps fq) h4 rfl (P3.kput (nIdx ns x) (old _) (new _ _ _ (ro.same e2))) (kput_nd _ (fun n hn => by have := nIdx_lt hn; omega) n1 nd n2 nw) (kput_mem _)
          exact ⟨a, _, dx, _, rfl, h2, hc, hn, by rw [List.length_zip]; omega, q2 _ _ _ S'.1⟩
        · cases hk
      | _ => cases hk
/-- place.x op= e, of flat things -/
def sFldAugP (c : Str) (o : D → D → Res D) (i : Nat) (pf : PLF) (x : Str) (f : EF) : SF := fun ρ => (pf ρ).flow ρ fun l => (dFld c x l.1).flow ρ fun a => (f ρ).flow ρ fun b => if notList a = true then (match o a b with
  | .ok d => if notList d = true then (match putFld c x l.1 d with
    | .ok y => .next (ρ.set i (some (l.2 y)))
    | _ => .err) else .err
  | _ => .err) else .err
theorem dFld_nx {c x : Str} {d : D} {z : Str} : dFld c x d ≠ .exc z := fun h => by
  unfold dFld at h
  cases hk : fldIx c d x with
  | exc c => exact absurd hk fldIx_nx
  | err => rw [hk] at h; cases h
  | ok m =>
    rw [hk, Res.bind_ok] at h
    split at h <;> cases h
theorem sj_fldAugP {op : Operator} {o : D → D → Res D} (hc : Cls X.K (He.ga X.K c)) (hn : NoAttr X.K (He.ga X.K c) x) (hp : EPl X W L i (k + 1) e0 pf) (ho : Op2 X 0 0 0 (inplaceOp op) o) (he : EB X W L 0 e f) :
    SJ X W kr Lb L L (.AugAssign (.Attribute e0 x tpos) op e pos) (sFldAugP c o i pf x f) :=
  PS.imp (ps_fldaug hp he ho) fun Dn σ H ⟨ex0, Gs, ρ, fp, S, q0⟩ => by
    unfold sFldAugP at q0
    refine ⟨_, ρ, fp, S.si, (flow_out S q0).mono fun l q vi v g H1 hvi e1 F => ?_⟩
    obtain ⟨l1, l2⟩ := l
    cases hd : dFld c x l1 with
    | exc z => exact absurd hd dFld_nx
    | err => rw [hd] at q; exact q.elim
    | ok a =>
      rw [hd, flow_ok] at q
      unfold dFld at hd
      cases hk : fldIx c l1 x with
      | exc z => exact absurd hk fldIx_nx
      | err => rw [hk] at hd; cases hd
      | ok m =>
        rw [hk, Res.bind_ok] at hd
        obtain ⟨ns, ws, rfl, hm⟩ := fldIx_ok hk
        cases hx : (kids (.ins c ns ws))[m]? with
        | none => simp only [hx] at hd; cases hd
        | some a' =>
          simp only [hx] at hd
          cases hd
          obtain ⟨p, xs, ob, u, g2, rfl, h1, h2, h3, h4, F2⟩ := F.kid (l := (D.ins c ns ws, l2)) rfl hx
          have h1' := h1
          obtain ⟨dx, rfl, hlen⟩ := h1'
          refine ⟨p, _, dx, _, u, rfl, e1 _ _ h2, hc, hn, nIdx_lookup hm h3, _, ρ, fp, S.si.same e1, ((flow_out S q).later e1).mono fun b q2 vb H2 e2 rb => ?_⟩
          split at q2
          · rename_i na
            cases hO : o a b with
            | exc z => rw [hO] at q2; exact q2.elim
            | err => rw [hO] at q2; exact q2.elim
            | ok d =>
              rw [hO] at q2
              simp only at q2
              split at q2
              · rename_i ndd
                cases hpf : putFld c x (D.ins c ns ws) d with
                | exc z => rw [hpf] at q2; exact q2.elim
                | err => rw [hpf] at q2; exact q2.elim
                | ok c' =>
                  rw [hpf] at q2
                  have e12 := e1.trans e2
                  have ra : R X.K (exOf fp ex0) H2 a u := R.same e12 ((RO.nc (isC_not na)).mp F2.ro).2
                  refine ⟨exOf fp ex0, a, b, d, fun z hz => fun q => S.si.ext z hz (e12.free q), ra, rb, hO, fun z H3 fq e3 ro nd nw => ?_⟩
                  have e13 := e12.trans e3
                  obtain ⟨efq, rz⟩ := ro
                  subst efq
                  have rz : RO X.K (fun b => b ∈ ([] : List Addr) ∨ exOf fp ex0 b) H3 k d z [] := RO.flat rz ndd
                  unfold putFld at hpf
                  simp only at hpf
                  split at hpf
                  · rename_i hcl
                    cases hpf
                    obtain ⟨a', vs, fps, o', ev, g1, g2', g3, n1, n2, old, new, fin⟩ := S.place e13 hvi [] (fun b hb => nomatch hb) (F.later e13 (exq fun b hb => nomatch hb)) rfl
                    cases ev
                    obtain ⟨dx', rfl, g4⟩ := g1.putFld (f := x) (v := z) (vs' := kPut (nIdx ns x) ws d)
                    obtain ⟨_, _, hl⟩ := g1
                    have h3l : ws.length = vs.length := g3.length
                    have h33 : ws.length = fps.length := g3.len3
                    obtain ⟨fp', S'⟩ := fin _ _ _ (kPut (nIdx ns x) fps []) g4 rfl (P3.kput (nIdx ns x) (old _) (new _ _ _ rz)) (kput_nd _ (fun n hn => by have := nIdx_lt hn; omega) n1 List.nodup_nil n2 (fun b hb => nomatch hb)) (kput_mem _)
                    exact ⟨dx', _, g2', by rw [List.length_zip]; omega, q2 _ _ _ S'.1⟩
                  · cases hpf
              · exact q2.elim
          · exact q2.elim
/-- place[j], read by values -/
theorem pget_seq (hu : X.A.units + 1 < cLine) : PGet X (fun o i H Q => (∃ p xs z u, o = .ref p ∧ i = .int z ∧ SqL X.K H p xs ∧ L2.atI xs z = some u ∧ Q u H) ∨ ∃ p u, o = .ref p ∧ DGet H p i (some u) ∧ Q u H) := by
  intro pins s σ H x y v u Q I rx ry h
  rcases h with ⟨p, xs, i, z, rfl, rfl, hq, he, q⟩ | ⟨p, w, rfl, g, q⟩
  · cases rx
    obtain ⟨t, rfl⟩ := ry
    obtain ⟨its, r, pl, hz⟩ := I.list hq
    obtain ⟨j, h1, h2, h3, h4, h5⟩ := atI_get he
    obtain ⟨w, ew, rw'⟩ := r.get h2
    have hl := r.length
    have hn := line63
    have fin : L2.EP X pins σ Q w s := ⟨z, H, I, rw', q⟩
    by_cases h0 : 0 ≤ i
    · have hj : i.toNat = j := by
        rw [seqIndex_of h0 h5] at h1
        exact Option.some.inj h1
      exact wpAny_getItem_list pl.isList h0 (by omega) (by rw [hj]; simpa using ew) fin
    · have hj : (i + (its.toArray.size : Int)).toNat = j := by
        rw [seqIndex_neg (by omega) h4] at h1
        rw [List.size_toArray, ← hl]
        exact Option.some.inj h1
      exact wpAny_getItem_list_neg pl.isList (by omega) (by rw [List.size_toArray] <;> omega) (by omega) (by rw [hj]; simpa using ew) fin
  · obtain rfl : v = Value.ref p := rx
    exact d_getItem hu I g ry fun w' s' I' r' => ⟨w, H, I', r', q⟩
/-- place[j] op= e, of flat things -/
def sAugP (o : D → D → Res D) (i : Nat) (pf : PLF) (fj f : EF) : SF := fun ρ => (pf ρ).flow ρ fun l => (fj ρ).flow ρ fun j => (kidIx l.1 j).flow ρ fun m => (match (kids l.1)[m]? with
  | some a => (f ρ).flow ρ fun b => if notList a = true then (match o a b with
    | .ok d => if notList d = true then (match putKid l.1 j d with
      | .ok y => .next (ρ.set i (some (l.2 y)))
      | _ => .err) else .err
    | _ => .err) else .err
  | none => .err)
theorem sj_augP {op : Operator} {o : D → D → Res D} (hu : X.A.units + 1 < cLine) (hp : EPl X W L i (k + 1) e0 pf) (hj : EB X W L n ei fi) (ho : Op2 X 0 0 0 (inplaceOp op) o) (he : EB X W L 0 e f)
    (ha : ∀ ov iv new, augStore ei ov iv new = (do holding [new, ov, iv] (setItem ov iv new); release [new, ov, iv] []; pure .next) := by intros; rfl) :
    SJ X W kr Lb L L (.AugAssign (.Subscript e0 ei tpos) op e pos) (sAugP o i pf fi f) :=
  PS.imp (ps_augS hp hj (pget_seq hu) he (show PIp X op _ from ho) (PSet.or set_list (set_dict hu)) ha) fun Dn σ H ⟨ex0, Gs, ρ, fp, S, q0⟩ => by
    unfold sAugP at q0
    refine ⟨_, ρ, fp, S.si, (flow_out S q0).mono fun l q vi v g H1 hvi e1 F => ⟨_, ρ, fp, S.si.same e1, ((flow_out S q).later e1).mono fun j q1 vj H2 e2 rj => ?_⟩⟩
    cases hk : kidIx l.1 j with
    | exc z => exact absurd hk kidIx_nx
    | err => rw [hk] at q1; exact q1.elim
    | ok m =>
      rw [hk, flow_ok] at q1
      cases hx : (kids l.1)[m]? with
      | none => rw [hx] at q1; exact q1.elim
      | some a =>
        rw [hx] at q1
        have e12 := e1.trans e2
        obtain ⟨p, u, g2, rfl, F2, hg⟩ := kid_get F e12 rj hk hx
        have fin : ∃ ex ρ fp, SI X.K ex L ρ σ H2 fp ∧ Out X W σ H2 (f ρ) fun b => ∀ vb H3, Same H2 H3 → RB X.K ex H3 0 b vb → (∃ ex d1 d2 d, (∀ a, ex a → H3 a ≠ none) ∧ RB X.K ex H3 0 d1 u ∧ RB X.K ex H3 0 d2 vb ∧ o d1 d2 = .ok d ∧ QO X.K ex H3 0 (fun z H4 => (∃ p' xs k' j', V.ref p = .ref p' ∧ vj = .int k' ∧ H4 p' = some (.lst xs) ∧ ixN xs.length k' = some j' ∧ Dn.nx σ (L2.upd H4 p' (.lst (xs.set j' z)))) ∨ ∃ a H', V.ref p = .ref a ∧ DPut H4 a vj z H' ∧ Dn.nx σ H') d) := by
          refine ⟨_, ρ, fp, S.si.same e12, ((flow_out S q1).later e12).mono fun b q2 vb H3 e3 rb => ?_⟩
          split at q2
          · rename_i na
            cases hO : o a b with
            | exc z => rw [hO] at q2; exact q2.elim
            | err => rw [hO] at q2; exact q2.elim
            | ok d =>
              rw [hO] at q2
              simp only at q2
              split at q2
              · rename_i ndd
                have e13 := e12.trans e3
                have ra : R X.K (exOf fp ex0) H3 a u := R.same e13 ((RO.nc (isC_not na)).mp F2.ro).2
                refine ⟨exOf fp ex0, a, b, d, fun z hz => fun q => S.si.ext z hz (e13.free q), ra, rb, hO, fun z H4 fq e4 ro nd nw => ?_⟩
                have e14 := e13.trans e4
                obtain ⟨efq, rz⟩ := ro
                subst efq
                have rz : RO X.K (fun b => b ∈ ([] : List Addr) ∨ exOf fp ex0 b) H4 k d z [] := RO.flat rz ndd
                obtain ⟨l1, l2⟩ := l
                cases hpk : putKid l1 j d with
                | exc c => simp only [hpk] at q2; exact q2.elim
                | err => simp only [hpk] at q2; exact q2.elim
                | ok c' =>
                  simp only [hpk] at q2
                  cases l1 with
                  | lst xs =>
                    obtain ⟨a', vs, fps, o', ev, h1, h2, h3, n1, n2, old, new, fin⟩ := S.place e14 hvi [] (fun b hb => nomatch hb) (F.later e14 (exq fun b hb => nomatch hb)) rfl
                    cases ev
                    obtain ⟨rfl, hz⟩ := h1
                    have hl : xs.length = vs.length := h3.length
                    cases j with
                    | int zz =>
                      unfold putKid at hpk
                      simp only at hpk
                      cases hi : ixN xs.length zz with
                      | none => rw [hi] at hpk; cases hpk
                      | some m' =>
                        rw [hi] at hpk
                        cases hpk
                        have hm : m' < fps.length := by
                          rw [← h3.len3]
                          exact (ixN_lt hi)
                        obtain ⟨fp', S'⟩ := fin (.lst (vs.set m' z)) (.lst (xs.set m' d)) (vs.set m' z) (fps.set m' []) ⟨rfl, by rw [List.length_set]; exact hz⟩ rfl (P3.put m' (old _) (new _ _ _ rz)) (kput_nd (some m') (fun n hn => by cases hn; exact hm) n1 List.nodup_nil n2 (fun b hb => nomatch hb)) (kput_mem (some m'))
                        exact .inl ⟨p, vs, zz, m', rfl, rj.int, h2, by rw [← hl]; exact hi, q2 _ _ _ S'.1⟩
                    | _ => cases hpk
                  | dic t ks ws =>
                    obtain ⟨a', vs, fps, o', ev, h1, h2, h3, n1, n2, old, new, fin⟩ := S.place e14 hvi [] (fun b hb => nomatch hb) (F.later e14 (exq fun b hb => nomatch hb)) rfl
                    cases ev
                    have hl : ws.length = vs.length := h3.length
                    have hk2 : (match dFind t ks j with
                      | .ok o => if ws.length < sizeLine then Res.ok (D.dic t (kAdd o ks j) (kPut o ws d)) else .err
                      | _ => .err) = .ok c' := by
                      unfold putKid at hpk
                      exact hpk
                    cases hq : dFind t ks j with
                    | exc c => rw [hq] at hk2; cases hk2
                    | err => rw [hq] at hk2; cases hk2
                    | ok oo =>
                      rw [hq] at hk2
                      simp only at hk2
                      split at hk2
                      · rename_i hlt
                        cases hk2
                        have rj4 : RB X.K (exOf fp ex0) H4 n j vj := rj.same (e3.trans e4)
                        obtain ⟨ho', p1, p2⟩ := dFind_put h1 h2 rj4 hq (by rw [← hl]; exact hlt) (v := z) (kPut oo ws d)
                        have hm : ∀ n, oo = some n → n < fps.length := fun n hn => by
                          rw [← h3.len3, show (kids (D.dic t ks ws)).length = vs.length from hl]
                          exact (dFind_get (.inl ⟨o', h1, .inl h2⟩ : CnR X.K H4 p (.dic t ks ws) vs) rj4 hq).2 n hn
                        obtain ⟨fp', S'⟩ := fin ho' (.dic t (kAdd oo ks j) (kPut oo ws d)) (kPut oo vs z) (kPut oo fps []) p2 rfl (P3.kput oo (old _) (new _ _ _ rz)) (kput_nd oo hm n1 List.nodup_nil n2 (fun b hb => nomatch hb)) (kput_mem oo)
                        exact .inr ⟨p, _, rfl, p1, q2 _ _ _ S'.1⟩
                      · cases hk2
                  | _ => cases hpk
              · exact q2.elim
          · exact q2.elim
        rcases hg with ⟨xs, z, h1, h2, h3⟩ | hg
        · exact .inl ⟨p, xs, z, u, rfl, h2, h1, h3, fin⟩
        · exact .inr ⟨p, u, rfl, hg, fin⟩
end
end Px

namespace Px
open PySem PySem.Spec PyProof.Rows L2
/-! ### extend, pop -/
theorem sub_flat {α : Type} {l1 l2 : List (List α)} (h : List.Sublist l1 l2) : List.Sublist l1.flatten l2.flatten := by
  induction h with
  | slnil => exact .slnil
  | cons a _ ih =>
    rw [List.flatten_cons]
    exact ih.trans (List.sublist_append_right _ _)
  | cons_cons a _ ih =>
    rw [List.flatten_cons, List.flatten_cons]
    exact List.Sublist.append (List.Sublist.refl _) ih
section
variable {X : Cx} {W : WX} {kr : RM} {n n2 k i : Nat} {Lb L : List Nat} {e e0 ei : Expr} {f fi : EF} {pf : PLF} {pos apos cpos npos tpos : Pos} {x c : Str}
def sExtP (i : Nat) (pf : PLF) (f : EF) : SF := fun ρ => (pf ρ).flow ρ fun l => match l.1 with
  | .lst xs => (f ρ).flow ρ fun d => (match d with
    | .lst ys => if xs.length + ys.length ≤ sizeLine then .next (ρ.set i (some (l.2 (.lst (xs ++ ys))))) else .err
    | _ => .err)
  | _ => .err
theorem sj_extP (hp : EPl X W L i (k + 1) e0 pf) (he : EO X W L (k + 1) e f)
    (hbase : attributeBase e0 "extend" X.env (eval e0 X.env) = eval e0 X.env := by rfl)
    (hfew : ((backTo cpos (starEach [e] X.env)).all (fun x => !x.1) && (backToKw cpos (keywordEach [] X.env)).all (fun x => x.1.isSome)
      && decide ([e].length + ([] : List Keyword).length + (if ([] : List Keyword).isEmpty then 0 else 1) < 30)) = true := by rfl)
    (hline : (apos.endLine == cpos.line) = true := by rfl) (hs : starEach [e] X.env = (false, eval e X.env) :: starEach [] X.env := by rfl) (hplain : (backTo cpos (starEach [] X.env)).any (·.1) = false := by rfl)
    (hsw : swapsWith (.Call (.Attribute e0 "extend" apos) [e] [] cpos) none pos.line X.env = pure false := by rfl) :
    SJ X W kr Lb L L (.Expr (.Call (.Attribute e0 "extend" apos) [e] [] cpos) pos) (sExtP i pf f) :=
  PS.imp (ps_expr (pe_bm PySem.F.plainAttrs_list PySem.F.slot_list_extend PySem.F.type_list_extend mt_extend hp (pa_cons he pa_nil hs) hbase hfew hline hs hplain) hsw) fun Dn σ H ⟨ex0, Gs, ρ, fp, S, o⟩ => by
    unfold sExtP at o
    refine ⟨_, ρ, fp, S.si, (flow_out S o).mono fun l q vi v g H1 hvi e1 F => ?_⟩
    obtain ⟨l1, l2⟩ := l
    cases l1 with
    | lst xs =>
      obtain ⟨a0, vs0, fps0, o0, rfl, ⟨⟨rfl, hz0⟩, h20⟩, _, _⟩ := (RO.cn rfl).mp F.ro
      refine ⟨.inl ⟨rfl, vs0, .inl (.inl (e1 _ _ h20))⟩, _, ρ, fp, S.si.same e1, ((flow_out S q).later e1).mono fun d q2 vn H2 fq e2 ro nd nw => ?_⟩
      cases d with
      | lst ys =>
        have hfq : ∀ b ∈ fq, H b = none := fun b hb => e1.free (nw b hb)
        obtain ⟨b, ws, gps, o2, rfl, ⟨⟨rfl, hzb⟩, hb⟩, efq, hg⟩ := (RO.cn rfl).mp ro
        have hfq2 : ∀ c ∈ gps.flatten, H c = none := fun c hc => hfq c (by rw [efq]; exact List.mem_cons_of_mem _ hc)
        obtain ⟨a, vs, fps, o, ev, h1, h2, h3, n1, n2, old, new, fin⟩ := S.place (e1.trans e2) hvi gps.flatten hfq2 (F.later (e1.trans e2) (exq hfq2)) rfl
        cases ev
        obtain ⟨rfl, hz⟩ := h1
        have hl : xs.length = vs.length := h3.length
        have hl2 : ys.length = ws.length := hg.length
        have q3 : FOut X W kr Lb L ex0 Gs Dn (if xs.length + ys.length ≤ sizeLine then .next (ρ.set i (some (l2 (.lst (xs ++ ys))))) else .err) := q2
        split at q3
        · rename_i hlt
          refine ⟨a0, b, vs, ws, rfl, rfl, h2, hb, by omega, ?_⟩
          rw [efq] at nd
          obtain ⟨nb, ndg⟩ := List.nodup_cons.mp nd
          have hba : b ≠ a0 := fun z => by
            have := hfq b (by rw [efq]; exact List.mem_cons_self)
            rw [z, h20] at this
            cases this
          have hg2 : P3 (RO X.K (fun c => c ∈ gps.flatten ∨ exOf fp ex0 c) (L2.upd H2 a0 (.lst (vs ++ ws))) k) ys ws gps := by
            refine P3.keep (ex := fun c => c ∈ fq ∨ exOf fp ex0 c) (Keep.upd (Same.refl H2) h2 (fun _ z => nomatch z) (.inr (.inl ⟨i, ?_⟩))) (fun c hc => ?_) (fun c hc u hu => ?_) hg
            · have := F.sub
              obtain ⟨a1, _, _, _, ev1, _, eg1, _⟩ := (RO.cn rfl).mp F.ro
              cases ev1
              exact F.sub _ (by rw [eg1]; exact List.mem_cons_self)
            · rcases hc with hc | hc
              · exact .inl (.inl (by rw [efq]; exact List.mem_cons_of_mem _ hc))
              · exact .inl (.inr hc)
            · rw [upd_ne (fun z => by
                have := hfq2 c hc
                rw [z, h20] at this
                cases this)]
              exact hu
          obtain ⟨fp', S', _⟩ := fin (.lst (vs ++ ws)) (.lst (xs ++ ys)) (vs ++ ws) (fps ++ gps) ⟨rfl, by rw [List.length_append]; omega⟩ rfl (P3.app (old _) hg2) (by
            rw [List.flatten_append]
            exact List.nodup_append.mpr ⟨n1, ndg, fun c hc c2 hc2 z => by
              subst z
              exact n2 c hc (hfq2 c hc2)⟩) (fun c hc => by
            rw [List.flatten_append] at hc
            exact List.mem_append.mp hc)
          exact q3 _ _ _ S'
        · exact q3.elim
      | _ => exact q2.elim
    | _ => exact q.elim
/-- an item of an owned list of shared things is taken out -/
theorem pop_core {H H1 : Hp} {kr : RM} {ex0 : CS kr.b} {Gs : List (D × V)} {ρ : Px.Env} {σ : L2.St} {fp : Nat → List Addr} {vi v : V} {g : List Addr} {xs : List D} {l2 : D → D} {m : Nat} {d : D} (S : SS X.K X.H_0 ex0 Gs L ρ σ H fp) (hvi : σ[i]? = some (some vi)) (e : Same H H1)
    (F : Foc X.K (exOf fp ex0) H (L.getD i 0) vi (fp i) 1 (.lst xs, l2) v g) (hd : xs[m]? = some d) :
    ∃ a vs u, v = .ref a ∧ H1 a = some (.lst vs) ∧ vs[m]? = some u ∧ xs.length = vs.length ∧
      ∃ fp', SS X.K X.H_0 ex0 Gs L (ρ.set i (some (l2 (.lst (xs.eraseIdx m))))) σ (L2.upd H1 a (.lst (vs.eraseIdx m))) fp' ∧ R X.K (exOf fp' ex0) (L2.upd H1 a (.lst (vs.eraseIdx m))) d u := by
  obtain ⟨a, vs, fps, o, ev, h1, h2, h3, n1, n2, old, new, fin⟩ := S.place e hvi [] (fun b hb => nomatch hb) (F.later e (exq fun b hb => nomatch hb)) rfl
  cases ev
  obtain ⟨rfl, hz⟩ := h1
  obtain ⟨u, g2, hu, hg2, hr⟩ := (old (.lst (vs.eraseIdx m))).at hd
  have hl := List.length_eraseIdx_le vs m
  obtain ⟨fp', S', le⟩ := fin (.lst (vs.eraseIdx m)) (.lst (xs.eraseIdx m)) (vs.eraseIdx m) (fps.eraseIdx m) ⟨rfl, by omega⟩ rfl (P3.erase m (old _)) (n1.sublist (sub_flat (List.eraseIdx_sublist fps m))) (fun b hb => .inl ((sub_flat (List.eraseIdx_sublist fps m)).subset hb))
  refine ⟨a, vs, u, rfl, h2, hu, h3.length, fp', S', ?_⟩
  exact R.less (fun b hb => .inl (le b hb)) hr.2
def sPopT (gf : Px.Env → D → Res Px.Env) (i : Nat) (pf : PLF) : SF := fun ρ => (pf ρ).flow ρ fun l => match l.1 with
  | .lst xs => (match xs[xs.length - 1]? with
    | some d => resF (gf (ρ.set i (some (l.2 (.lst xs.dropLast)))) d)
    | none => .err)
  | _ => .err
theorem dropLast_erase {α : Type} (xs : List α) : xs.dropLast = xs.eraseIdx (xs.length - 1) := (PyProof.Rows.Copied.eraseIdx_last xs).symm
theorem sj_popUnp {tg : Expr} {g : TG} {gf : Px.Env → D → Res Px.Env} {is : List Nat} (hp : EPl X W L i 1 e0 pf) (hg : PG X tg g) (gs : GSem X.K g gf is) (hL : ∀ j ∈ is, L.getD j 0 = 0)
    (hbase : attributeBase e0 "pop" X.env (eval e0 X.env) = eval e0 X.env := by rfl) (hline : (apos.endLine == cpos.line) = true := by rfl)
    (hs : swapsWithSole [tg] (.Call (.Attribute e0 "pop" apos) [] [] cpos) pos.line X.env = pure false := by rfl) (hw : swappedStores [tg] (.Call (.Attribute e0 "pop" apos) [] [] cpos) X.env = pure none := by rfl)
    (h1 : (assignEach [tg] X.env).map (·.2) = [assign tg X.env] := by rfl) (h0 : ∀ i ∈ is, kr.b ≠ some i := by first | exact nofun | exact fun _ _ => nofun | decide) :
    SJ X W kr Lb L L (.Assign [tg] (.Call (.Attribute e0 "pop" apos) [] [] cpos) pos) (sPopT gf i pf) :=
  PS.imp (ps_asg (pe_bm0 PySem.F.plainAttrs_list PySem.F.slot_list_pop PySem.F.type_list_pop mt_pop hp hbase hline) hg hs hw h1) fun Dn σ H ⟨ex0, Gs, ρ, fp, S, o⟩ => by
    unfold sPopT at o
    refine ⟨_, ρ, fp, S.si, (flow_out S o).mono fun l q vi v gg H1 hvi e1 F => ?_⟩
    obtain ⟨l1, l2⟩ := l
    cases l1 with
    | lst xs =>
      cases hd : xs[xs.length - 1]? with
      | none => simp only [hd] at q; exact q.elim
      | some d =>
        simp only [hd] at q
        obtain ⟨a, vs, u, rfl, h2, hu, hl, fp', S', r⟩ := pop_core S hvi e1 F hd
        refine ⟨.inl ⟨rfl, vs, .inl (.inl h2)⟩, a, vs, u, rfl, rfl, h2, by rw [← hl]; exact hu, ?_⟩
        rw [dropLast_erase, ← hl]
        rw [dropLast_erase] at q
        cases hgf : gf (ρ.set i (some (l2 (.lst (xs.eraseIdx (xs.length - 1)))))) d with
        | exc c => rw [hgf] at q; exact q.elim
        | err => rw [hgf] at q; exact q.elim
        | ok ρ' =>
          rw [hgf] at q
          refine gs _ u σ _ _ d _ ρ' r hgf fun l hl e2 => ?_
          obtain ⟨fp2, S2⟩ := S'.sets l (fun t ht => ⟨(hl t ht).1, hL _ (hl t ht).2⟩) fun t ht => h0_all ex0 h0 _ (hl t ht).2
          rw [← e2] at S2
          exact q _ _ _ S2
    | _ => exact q.elim
theorem sj_popSet {j : Nat} {y : Str} {pos' : Pos} (hp : EPl X W L i 1 e0 pf) (hN : X.N.Nodup) (hy' : X.N[j]? = some y) (hy : Loc X.env.scope y) (hj : j < L.length) (hij : i ≠ j)
    (hbase : attributeBase e0 "pop" X.env (eval e0 X.env) = eval e0 X.env := by rfl) (hline : (apos.endLine == cpos.line) = true := by rfl)
    (hs : swapsWith (.Call (.Attribute e0 "pop" apos) [] [] cpos) (some (.Name y pos')) pos.line X.env = pure false := by rfl)
    (hf : X.fn y = true ∨ X.env.scope.names.lookup y = some .local := by first | exact .inl rfl | exact .inr rfl | assumption) (h0 : kr.b ≠ some j := by first | exact nofun | exact fun _ _ => nofun | decide) :
    SJ X W kr Lb L (L.set j 0) (.Assign [.Name y pos'] (.Call (.Attribute e0 "pop" apos) [] [] cpos) pos) (sPopT (gfName j) i pf) :=
  PS.imp (ps_set hN hy' hy (pe_bm0 PySem.F.plainAttrs_list PySem.F.slot_list_pop PySem.F.type_list_pop mt_pop hp hbase hline) hs hf) fun Dn σ H ⟨ex0, Gs, ρ, fp, S, o⟩ => by
    unfold sPopT at o
    refine ⟨_, ρ, fp, S.si, (flow_out S o).mono fun l q vi v gg H1 hvi e1 F => ?_⟩
    obtain ⟨l1, l2⟩ := l
    cases l1 with
    | lst xs =>
      cases hd : xs[xs.length - 1]? with
      | none => simp only [hd] at q; exact q.elim
      | some d =>
        simp only [hd] at q
        obtain ⟨a, vs, u, rfl, h2, hu, hl, fp', S', r⟩ := pop_core S hvi e1 F hd
        refine ⟨.inl ⟨rfl, vs, .inl (.inl h2)⟩, a, vs, u, rfl, rfl, h2, by rw [← hl]; exact hu, ?_⟩
        rw [dropLast_erase, ← hl]
        rw [dropLast_erase] at q
        obtain ⟨fp2, S2⟩ := S'.put (Same.refl _) (i := j) (k := 0) (d := d) (v := u) (fq := []) ⟨rfl, R.less (fun a h => .inl (h.elim (fun z => nomatch z) fun z => z)) r⟩ List.nodup_nil (fun b hb => nomatch hb) hj (h0_of ex0 h0)
        exact q _ _ _ S2
    | _ => exact q.elim
/-- x op= place.pop(j) -/
def sPopAug (o : D → D → Res D) (j i : Nat) (pf : PLF) (f : EF) : SF := fun ρ => (eVar j ρ).flow ρ fun a => (pf ρ).flow ρ fun l => match l.1 with
  | .lst xs => (f ρ).flow ρ fun z => (match z with
    | .int z => (match ixN xs.length z with
      | some m => (match xs[m]? with
        | some d => (match o a d with
          | .ok y => .next ((ρ.set i (some (l.2 (.lst (xs.eraseIdx m))))).set j (some y))
          | _ => .err)
        | none => .err)
      | none => .err)
    | _ => .err)
  | _ => .err
theorem sj_popAug {op : Operator} {o : D → D → Res D} {j : Nat} {y : Str} {pos' : Pos} (hN : X.N.Nodup) (hy' : X.N[j]? = some y) (hy : Loc X.env.scope y) (ho : Op2 X 0 0 0 (inplaceOp op) o) (hp : EPl X W L i 1 e0 pf) (he : EB X W L n e f) (hj : j < L.length) (hLj : L.getD j 0 = 0) (hij : i ≠ j)
    (hbase : attributeBase e0 "pop" X.env (eval e0 X.env) = eval e0 X.env := by rfl)
    (hfew : ((backTo cpos (starEach [e] X.env)).all (fun x => !x.1) && (backToKw cpos (keywordEach [] X.env)).all (fun x => x.1.isSome)
      && decide ([e].length + ([] : List Keyword).length + (if ([] : List Keyword).isEmpty then 0 else 1) < 30)) = true := by rfl)
    (hline : (apos.endLine == cpos.line) = true := by rfl) (hs : starEach [e] X.env = (false, eval e X.env) :: starEach [] X.env := by rfl) (hplain : (backTo cpos (starEach [] X.env)).any (·.1) = false := by rfl)
    (hf : X.fn y = true ∨ X.env.scope.names.lookup y = some .local := by first | exact .inl rfl | exact .inr rfl | assumption) (h0 : kr.b ≠ some j := by first | exact nofun | exact fun _ _ => nofun | decide) :
    SJ X W kr Lb L (L.set j 0) (.AugAssign (.Name y pos') op (.Call (.Attribute e0 "pop" apos) [e] [] cpos) pos) (sPopAug o j i pf f) :=
  PS.imp (ps_aug hN hy' hy (pe_bm PySem.F.plainAttrs_list PySem.F.slot_list_pop PySem.F.type_list_pop mt_popAt hp (pa_cons he pa_nil hs) hbase hfew hline hs hplain) ho hf) fun Dn σ H ⟨ex0, Gs, ρ, fp, S, q⟩ => by
    unfold sPopAug at q
    cases ev : eVar j ρ with
    | exc c =>
      unfold eVar at ev
      split at ev <;> cases ev
    | err => rw [ev] at q; exact q.elim
    | ok d0 =>
      rw [ev, flow_ok] at q
      have hρ : ρ.getD j none = some d0 := by
        unfold eVar at ev
        split at ev
        · rename_i d hd
          cases ev
          exact hd
        · cases ev
      obtain ⟨v0, h1, h2⟩ := S.si.val j d0 (getD_some hρ)
      rw [hLj] at h2
      refine ⟨v0, h1, _, ρ, fp, S.si, (flow_out S q).mono fun l q vi v gg H1 hvi e1 F => ?_⟩
      obtain ⟨l1, l2⟩ := l
      cases l1 with
      | lst xs =>
        obtain ⟨a0, vs0, fps0, o0, rfl, ⟨⟨rfl, hz0⟩, h20⟩, _, hp3⟩ := (RO.cn rfl).mp F.ro
        refine ⟨.inl ⟨rfl, vs0, .inl (.inl (e1 _ _ h20))⟩, _, ρ, fp, S.si.same e1, ((flow_out S q).later e1).mono fun z q2 vz H2 e2 rz => ?_⟩
        cases z with
        | int z =>
          cases hm : ixN xs.length z with
          | none => simp only [hm] at q2; exact q2.elim
          | some m =>
            simp only [hm] at q2
            cases hd : xs[m]? with
            | none => simp only [hd] at q2; exact q2.elim
            | some d =>
              simp only [hd] at q2
              cases hO : o d0 d with
              | exc c => simp only [hO] at q2; exact q2.elim
              | err => simp only [hO] at q2; exact q2.elim
              | ok y =>
                simp only [hO] at q2
                obtain ⟨a, vs, u, ev, g2, hu, hl, fp', S', r⟩ := pop_core S hvi (e1.trans e2) F hd
                cases ev
                have hq := ixN_seq hm
                have hll : vs0.length = vs.length := by
                  have := (e1.trans e2) _ _ h20
                  rw [g2] at this
                  cases this
                  rfl
                have hzl := sizeLine_eq
                refine ⟨a0, vs, z, m, u, rfl, by rw [rz.int], g2, by omega, by omega, by rw [← hl]; exact hq.1, hu, ?_⟩
                have kp : Keep (exOf fp ex0) H (L2.upd H2 a0 (.lst (vs.eraseIdx m))) := Keep.upd (e1.trans e2) h20 (fun _ z => nomatch z) (.inl ⟨i, by
                  obtain ⟨a1, _, _, _, ev1, _, eg1, _⟩ := (RO.cn rfl).mp F.ro
                  cases ev1
                  exact F.sub _ (by rw [eg1]; exact List.mem_cons_self)⟩)
                have hv0 := S'.si.val j d0 (by
                  rw [List.getElem?_set_ne hij]
                  exact getD_some hρ)
                obtain ⟨w0, hw0, rw0⟩ := hv0
                rw [h1] at hw0
                cases hw0
                rw [hLj] at rw0
                refine ⟨exOf fp' ex0, d0, d, y, S'.si.ext, rw0.2, r, hO, fun z H3 fq e3 ro nd nw => ?_⟩
                obtain ⟨fp2, S2⟩ := S'.put e3 ro nd nw hj (h0_of ex0 h0)
                exact q2 _ _ _ S2
        | _ => exact q2.elim
      | _ => exact q.elim
end
end Px

namespace L2
open PySem PySem.Spec PyProof.Rows
/-! ### a method's call, a new instance: what is raised is wished for at the caller's slots -/
section
variable {X : Cx} {CX : CXT} {k : Nat} {f C : Addr} {fd : FuncData} {ps : List Str} {sp : Sp} {E : St → XK} {x m : Str} {p pos apos : Pos} {e o : Expr} {es : List Expr} {ta : TE} {t : TA}
def tMethA (C : Addr) (m : Str) (sp : Sp) (E : St → XK) (ta : TE) (t : TA) : TE := fun σ H Q => ta σ H fun x H1 => ∃ a dx fs, x = .ref a ∧ H1 a = some (.ins C dx fs) ∧ fs.lookup m = none ∧ t σ H1 fun vs H2 => sp (x :: vs) H2 Q (E σ)
theorem pe_methA {pl : Sem Bool} (he : PE X o ta) (c : Cls X.K C) (hm : Meth X.K C m f) (F : FnOk X.prog X.w X.K X.mg X.base CX k f fd ps sp) (hr : Room k X.A) (hb : Binds X.K fd ps []) (hx : ∀ σ, PassesAt CX X σ (E σ)) (ha : PA X (e :: es) t)
    (hst : starEach (e :: es) X.env = (false, eval e X.env) :: starEach es X.env := by rfl) (hpl : (backTo pos (starEach es X.env)).any (·.1) = false := by rfl)
    (ht : eval (.Call (.Attribute o m apos) (e :: es) [] pos) X.env = (do
      let ov ← eval o X.env
      standAt apos.atName
      let (f, first) ← holding [ov] (getMethod ov m pl)
      callWith pos f first (backTo pos (starEach (e :: es) X.env)) (backToKw pos (keywordEach [] X.env))) := by rfl) :
    PE X (.Call (.Attribute o m apos) (e :: es) [] pos) (tMethA C m sp E ta t) := by
  refine ⟨fun pins s σ H Q I h => ?_⟩
  refine PySem.W.methodCall_KW (pl := pl) (thn (he.run pins s σ H _ I h) fun u s1 ⟨x, H1, I1, rx, a, dx, fs, ex, ea, l, q⟩ => ?_) ht
  subst ex
  obtain rfl : u = Value.ref a := rx
  refine getmeth_ok I1 ea c hm l ?_
  refine PySem.W.callWith_K (first := [.ref a]) (h₀ := X.base) I.ok.mod.kin hm.kp (thn (ha.run pos pins s1 σ H1 _ I1 q) fun us s2 ⟨vs, H2, I2, r, q2⟩ => ⟨I2.kIn, ?_⟩) hst hpl
  exact run_fnS (us := .ref a :: us) (vs := .ref a :: vs) F hr hb (hx σ) I2 (.cons rfl r) q2
theorem pe_methA0 {pl : Sem Bool} (he : PE X o ta) (c : Cls X.K C) (hm : Meth X.K C m f) (F : FnOk X.prog X.w X.K X.mg X.base CX k f fd ps sp) (hr : Room k X.A) (hb : Binds X.K fd ps []) (hx : ∀ σ, PassesAt CX X σ (E σ))
    (ht : eval (.Call (.Attribute o m apos) [] [] pos) X.env = (do
      let ov ← eval o X.env
      standAt apos.atName
      let (f, first) ← holding [ov] (getMethod ov m pl)
      callWith pos f first (backTo pos (starEach [] X.env)) (backToKw pos (keywordEach [] X.env))) := by rfl) :
    PE X (.Call (.Attribute o m apos) [] [] pos) (tMethA C m sp E ta tNil) := by
  refine ⟨fun pins s σ H Q I h => ?_⟩
  refine PySem.W.methodCall_KW (pl := pl) (thn (he.run pins s σ H _ I h) fun u s1 ⟨x, H1, I1, rx, a, dx, fs, ex, ea, l, q⟩ => ?_) ht
  subst ex
  obtain rfl : u = Value.ref a := rx
  refine getmeth_ok I1 ea c hm l ?_
  exact PySem.W.callWith_K0 (first := [.ref a]) I1.kIn hm.kp (run_fnS (us := [.ref a]) (vs := [.ref a]) F hr hb (hx σ) I1 (.cons rfl .nil) q)
def tMakeA (C : Addr) (sp : Sp) (E : St → XK) (t : TA) : TE := fun σ H Q => t σ H fun vs H1 => ∀ x dx, H1 x = none → H1 dx = none → dx ≠ x → sp (.ref x :: vs) (upd (upd H1 dx (.own x)) x (.ins C dx [])) (fun v H2 => v = .non ∧ Q (.ref x) H2) (E σ)
theorem run_makeA {pins : List (Addr × Obj)} {σ : St} {H : Hp} {s : Shared} {Q : VK} {us : List Value} {vs : List V} (M : Mk X.K C f) (F : FnOk X.prog X.w X.K X.mg X.base CX k f fd ps sp) (hr : Room (k + 1) X.A) (hb : Binds X.K fd ps [])
    (hx : PassesAt CX X σ (E σ)) (I : Inv X pins σ H s) (r : Vals vs us)
    (h : ∀ x dx, H x = none → H dx = none → dx ≠ x → sp (.ref x :: vs) (upd (upd H dx (.own x)) x (.ins C dx [])) (fun v H2 => v = .non ∧ Q (.ref x) H2) (E σ)) :
    wpAny (model X.prog X.w) X.A (call (.ref C) us) (EP X pins σ Q) X.xe s := by
  have hq := h (s.heap.objs.size + 1) s.heap.objs.size (I.hok.fresh (Nat.le_succ _)) (I.hok.fresh (Nat.le_refl _)) (Nat.ne_of_lt (Nat.lt_succ_self _))
  have I2 := Inv.made (C := C) I
  have r2 : Vals (V.ref (s.heap.objs.size + 1) :: vs) (Value.ref (s.heap.objs.size + 1) :: us) := .cons rfl r
  have hl : (Value.ref (s.heap.objs.size + 1) :: us).length = ps.length := by
    have e := r2.length
    rw [F.len _ _ _ _ hq] at e
    exact e.symm
  have b := hb _ (Value.ref (s.heap.objs.size + 1) :: us) I2.kIn (by rw [List.append_nil]; exact hl)
  rw [List.append_nil] at b
  refine wpAny_call (make_map (f := f) I.kIn M.makes M.init (beq_iff_eq.mp M.fn) (codeAny_mono (F.run _ X.stack _ _ ⟨Value.ref (s.heap.objs.size + 1) :: us, []⟩ (Value.ref (s.heap.objs.size + 1) :: us) _ _ (E σ) (hr.make C us [])
    (I2.env0.make C us []) b r2 hq) fun r s' hq' => ?_))
  cases r with
  | error e => exact hx pins _ _ e s' I2 hq'
  | ok fl =>
    cases fl with
    | ret u =>
      obtain ⟨v, H', I3, rv, ev, q3⟩ := I2.after hq'
      subst ev
      exact ⟨rv, ⟨V.ref (s.heap.objs.size + 1), H', I3, rfl, q3⟩⟩
    | next => exact False.elim hq'
    | brk => exact False.elim hq'
    | cont => exact False.elim hq'
theorem pe_makeA (M : Mk X.K C f) (F : FnOk X.prog X.w X.K X.mg X.base CX k f fd ps sp) (hr : Room (k + 1) X.A) (hg : Gl X x) (hm : X.mg x = some (.ref C)) (hb : Binds X.K fd ps []) (hx : ∀ σ, PassesAt CX X σ (E σ))
    (ha : PA X (e :: es) t) (hdb : (x == ("__debug__" : Str)) = false := by decide) (he : starEach (e :: es) X.env = (false, eval e X.env) :: starEach es X.env := by rfl) (hpl : (backTo pos (starEach es X.env)).any (·.1) = false := by rfl) :
    PE X (.Call (.Name x p) (e :: es) [] pos) (tMakeA C sp E t) := by
  refine ⟨fun pins s σ H Q I h => ?_⟩
  refine wpAny_Call_Name_kw (ld_glob I hg hm ?_ hdb)
  refine PySem.W.callWith_K (h₀ := X.base) I.ok.mod.kin M.kp (thn (ha.run pos pins s σ H _ I h) fun us s1 ⟨vs, H1, I1, r, q⟩ => ⟨I1.kIn, ?_⟩) he hpl
  exact run_makeA M F hr hb (hx σ) I1 r q
theorem pe_makeA0 (M : Mk X.K C f) (F : FnOk X.prog X.w X.K X.mg X.base CX k f fd ps sp) (hr : Room (k + 1) X.A) (hg : Gl X x) (hm : X.mg x = some (.ref C)) (hb : Binds X.K fd ps []) (hx : ∀ σ, PassesAt CX X σ (E σ))
    (hdb : (x == ("__debug__" : Str)) = false := by decide) : PE X (.Call (.Name x p) [] [] pos) (tMakeA C sp E tNil) := by
  refine ⟨fun pins s σ H Q I h => ?_⟩
  refine wpAny_Call_Name_kw (ld_glob I hg hm ?_ hdb)
  exact PySem.W.callWith_K0 I.kIn M.kp (run_makeA (us := []) M F hr hb (hx σ) I .nil h)
end
end L2
namespace Px
open PySem PySem.Spec PyProof.Rows L2
/-! ### methods that only read -/
/-- an instance of c, the name m none of its attributes -/
def mOk (c m : Str) : D → Bool
  | .ins c' ns _ => decide (c' = c) && (nIdx ns m).isNone
  | _ => false
theorem nIdx_none {f : Str} : ∀ {ns : List Str} {xs : List V}, nIdx ns f = none → (ns.zip xs).lookup f = none
  | [], _, _ => rfl
  | g :: r, [], _ => rfl
  | g :: r, x :: xs, h => by
    rw [nIdx] at h
    rw [List.zip_cons_cons, List.lookup]
    by_cases e : f = g
    · rw [if_pos e] at h
      cases h
    · rw [if_neg e] at h
      rw [beq_eq_false_iff_ne.mpr e]
      cases q : nIdx r f with
      | none => exact nIdx_none q
      | some j => rw [q] at h; cases h
theorem mOk_ins {c m : Str} {d : D} (h : mOk c m d = true) : ∃ ns vs, d = .ins c ns vs ∧ nIdx ns m = none := by
  cases d with
  | ins c' ns vs =>
    simp only [mOk, Bool.and_eq_true, decide_eq_true_eq, Option.isNone_iff_eq_none] at h
    obtain ⟨rfl, h⟩ := h
    exact ⟨ns, vs, rfl, h⟩
  | _ => cases h
def eMeth (c m : Str) (C : List D → Res D) (f : EF) (fs : Px.Env → Res (List D)) : EF := fun ρ => f ρ >>= fun d => if mOk c m d = true then fs ρ >>= fun ds => C (d :: ds) else .err
def eMethP (c m : Str) (kr : Nat) (C : List D → Res D) (f : EF) (fs : Px.Env → Res (List D)) : EF := fun ρ => f ρ >>= fun d => if mOk c m d = true then fs ρ >>= fun ds => C (d :: ds) >>= fun d => if okP kr d = true then .ok d else .err else .err
section
variable {X : Cx} {W : WX} {L : List Nat} {n n2 m k kr : Nat} {pos p apos : Pos} {e o : Expr} {es : List Expr} {g : Addr} {fd : FuncData} {ps : List Str} {x c mm : Str} {C : List D → Res D} {f : EF} {fs : Px.Env → Res (List D)}
theorem ins_get {K : PySem.W.Frag} {ex : AS} {H : Hp} {ns : List Str} {vs : List D} {v : V} (h : RB K ex H n (.ins c ns vs) v) : ∃ a dx xs, v = .ref a ∧ H a = some (.ins (He.ga K c) dx (ns.zip xs)) := by
  obtain ⟨a, xs, rfl, h1, h2⟩ := RB.cnr rfl h
  rcases h1 with ⟨o, ⟨dx, rfl, hlen⟩, h1⟩ | ⟨⟨_, h⟩, _⟩
  · rcases h1 with h1 | h1
    · exact ⟨a, dx, xs, rfl, h1⟩
    · exact h1.elim
  · cases h
theorem eo_meth (hc : Cls X.K (He.ga X.K c)) (hm : Meth X.K (He.ga X.K c) mm g) (F : FnOk X.prog X.w X.K X.mg X.base (L2.CX X.prog X.w) k g fd ps (Spec X.K X.mg (m + 1) kr C)) (hr : Room k X.A) (hb : Binds X.K fd ps []) (tk : Takes X W)
    (ho : EB X W L 0 o f) (ha : EA X W L 0 m (e :: es) fs) {pl : Sem Bool} (hst : starEach (e :: es) X.env = (false, eval e X.env) :: starEach es X.env := by rfl) (hpl : (backTo pos (starEach es X.env)).any (·.1) = false := by rfl)
    (ht : eval (.Call (.Attribute o mm apos) (e :: es) [] pos) X.env = (do
      let ov ← eval o X.env
      standAt apos.atName
      let (f, first) ← holding [ov] (getMethod ov mm pl)
      callWith pos f first (backTo pos (starEach (e :: es) X.env)) (backToKw pos (keywordEach [] X.env))) := by rfl) :
    EO X W L kr (.Call (.Attribute o mm apos) (e :: es) [] pos) (eMeth c mm C f fs) :=
  PE.imp (pe_methA (pl := pl) ho hc hm F hr hb (fun σ => passAt tk σ) ha hst hpl ht) fun σ H Q ⟨ex, ρ, fp, I, q⟩ => ⟨ex, ρ, fp, I, q.bind.mono fun d q1 v1 H1 e1 r1 => by
    split at q1
    · rename_i hk
      obtain ⟨ns, vs, rfl, hn⟩ := mOk_ins hk
      obtain ⟨a, dx, xs, rfl, h1⟩ := ins_get r1
      refine ⟨a, dx, _, rfl, h1, nIdx_none hn, ex, ρ, fp, I.same e1, (q1.bind.later e1).mono fun ds q2 us H2 e2 r2 hl => ?_⟩
      refine ⟨by rw [List.length_cons, hl], ex, .ins c ns vs :: ds, ((I.same e1).same e2).ext, .cons (r1.same e2) r2, ?_⟩
      cases hC : C (.ins c ns vs :: ds) with
      | ok d =>
        rw [hC] at q2
        exact fun v H3 fq e3 ro nd nw => q2 v H3 fq ((e1.trans e2).trans e3) ro nd fun a ha => (e1.trans e2).free (nw a ha)
      | exc c =>
        rw [hC] at q2
        exact fun Cl hCl H' e3 => q2 Cl hCl H' ((e1.trans e2).trans e3)
      | err =>
        rw [hC] at q2
        exact q2.elim
    · exact q1.elim⟩
theorem eo_meth0 (hc : Cls X.K (He.ga X.K c)) (hm : Meth X.K (He.ga X.K c) mm g) (F : FnOk X.prog X.w X.K X.mg X.base (L2.CX X.prog X.w) k g fd ps (Spec X.K X.mg 1 kr C)) (hr : Room k X.A) (hb : Binds X.K fd ps []) (tk : Takes X W)
    (ho : EB X W L 0 o f) {pl : Sem Bool}
    (ht : eval (.Call (.Attribute o mm apos) [] [] pos) X.env = (do
      let ov ← eval o X.env
      standAt apos.atName
      let (f, first) ← holding [ov] (getMethod ov mm pl)
      callWith pos f first (backTo pos (starEach [] X.env)) (backToKw pos (keywordEach [] X.env))) := by rfl) :
    EO X W L kr (.Call (.Attribute o mm apos) [] [] pos) (eMeth c mm C f aNil) :=
  PE.imp (pe_methA0 (pl := pl) ho hc hm F hr hb (fun σ => passAt tk σ) ht) fun σ H Q ⟨ex, ρ, fp, I, q⟩ => ⟨ex, ρ, fp, I, q.bind.mono fun d q1 v1 H1 e1 r1 => by
    split at q1
    · rename_i hk
      obtain ⟨ns, vs, rfl, hn⟩ := mOk_ins hk
      obtain ⟨a, dx, xs, rfl, h1⟩ := ins_get r1
      refine ⟨a, dx, _, rfl, h1, nIdx_none hn, rfl, ex, [.ins c ns vs], (I.same e1).ext, .cons r1 .nil, ?_⟩
      have q2 : Out X W σ H (C [.ins c ns vs]) _ := q1
      cases hC : C [.ins c ns vs] with
      | ok d =>
        rw [hC] at q2
        exact fun v H3 fq e3 ro nd nw => q2 v H3 fq (e1.trans e3) ro nd fun a ha => e1.free (nw a ha)
      | exc c =>
        rw [hC] at q2
        exact fun Cl hCl H' e3 => q2 Cl hCl H' (e1.trans e3)
      | err =>
        rw [hC] at q2
        exact q2.elim
    · exact q1.elim⟩
theorem eo_methP (hc : Cls X.K (He.ga X.K c)) (hm : Meth X.K (He.ga X.K c) mm g) (F : FnOk X.prog X.w X.K X.mg X.base (L2.CX X.prog X.w) k g fd ps (Spec X.K X.mg (m + 1) kr C)) (hr : Room k X.A) (hb : Binds X.K fd ps []) (tk : Takes X W)
    (ho : EB X W L n o f) (ha : EA X W L n2 m (e :: es) fs) {pl : Sem Bool} (hst : starEach (e :: es) X.env = (false, eval e X.env) :: starEach es X.env := by rfl) (hpl : (backTo pos (starEach es X.env)).any (·.1) = false := by rfl)
    (ht : eval (.Call (.Attribute o mm apos) (e :: es) [] pos) X.env = (do
      let ov ← eval o X.env
      standAt apos.atName
      let (f, first) ← holding [ov] (getMethod ov mm pl)
      callWith pos f first (backTo pos (starEach (e :: es) X.env)) (backToKw pos (keywordEach [] X.env))) := by rfl) :
    EO X W L kr (.Call (.Attribute o mm apos) (e :: es) [] pos) (eMethP c mm kr C f fs) :=
  PE.imp (pe_methA (pl := pl) ho hc hm F hr hb (fun σ => passAt tk σ) ha hst hpl ht) fun σ H Q ⟨ex, ρ, fp, I, q⟩ => ⟨ex, ρ, fp, I, q.bind.mono fun d q1 v1 H1 e1 r1 => by
    split at q1
    · rename_i hk
      obtain ⟨ns, vs, rfl, hn⟩ := mOk_ins hk
      obtain ⟨a, dx, xs, rfl, h1⟩ := ins_get r1
      refine ⟨a, dx, _, rfl, h1, nIdx_none hn, ex, ρ, fp, I.same e1, (q1.bind.later e1).mono fun ds q2 us H2 e2 r2 hl => ?_⟩
      exact ⟨by rw [List.length_cons, hl], fun _ => False, .ins c ns vs :: ds, fun a z => z.elim, .cons (RB.look (r1.same e2)) (r2.mono fun _ _ z => RB.look z), look_out (e1.trans e2) q2⟩
    · exact q1.elim⟩
theorem eo_methP0 (hc : Cls X.K (He.ga X.K c)) (hm : Meth X.K (He.ga X.K c) mm g) (F : FnOk X.prog X.w X.K X.mg X.base (L2.CX X.prog X.w) k g fd ps (Spec X.K X.mg 1 kr C)) (hr : Room k X.A) (hb : Binds X.K fd ps []) (tk : Takes X W)
    (ho : EB X W L n o f) {pl : Sem Bool}
    (ht : eval (.Call (.Attribute o mm apos) [] [] pos) X.env = (do
      let ov ← eval o X.env
      standAt apos.atName
      let (f, first) ← holding [ov] (getMethod ov mm pl)
      callWith pos f first (backTo pos (starEach [] X.env)) (backToKw pos (keywordEach [] X.env))) := by rfl) :
    EO X W L kr (.Call (.Attribute o mm apos) [] [] pos) (eMethP c mm kr C f aNil) :=
  PE.imp (pe_methA0 (pl := pl) ho hc hm F hr hb (fun σ => passAt tk σ) ht) fun σ H Q ⟨ex, ρ, fp, I, q⟩ => ⟨ex, ρ, fp, I, q.bind.mono fun d q1 v1 H1 e1 r1 => by
    split at q1
    · rename_i hk
      obtain ⟨ns, vs, rfl, hn⟩ := mOk_ins hk
      obtain ⟨a, dx, xs, rfl, h1⟩ := ins_get r1
      exact ⟨a, dx, _, rfl, h1, nIdx_none hn, rfl, fun _ => False, [.ins c ns vs], fun a z => z.elim, .cons (RB.look r1) .nil, look_out e1 (show Out X W σ H (C [.ins c ns vs] >>= fun d => if okP kr d = true then .ok d else .err) _ from q1)⟩
    · exact q1.elim⟩
end
/-! ### methods that change their object -/
/-- the promise of a method that is lent its object (owned to the depth km, at addresses of its own) and gives it back -/
def SpecM (K : PySem.W.Frag) (mg : Str → Option Value) (ar kr km : Nat) (C : List D → Res D) : Sp := fun vs H Q E => vs.length = ar ∧ ∃ (ex : AS) (d0 : D) (ds : List D) (v0 : V) (us : List V) (g : List Addr), vs = v0 :: us ∧ (∀ a, ex a → H a ≠ none) ∧ (∀ a ∈ g, ¬ ex a) ∧ g.Nodup ∧
  RO K (fun a => a ∈ g ∨ ex a) H km d0 v0 g ∧ Paired (R K (fun a => a ∈ g ∨ ex a) H) ds us ∧ match C (d0 :: ds) with
  | .ok (.tup [r, s]) => ∀ v H' fq fs, Keep (fun a => a ∈ g) H H' → RO K (fun a => a ∈ fq ∨ a ∈ fs ∨ ex a) H' kr r v fq → RO K (fun a => a ∈ fq ∨ a ∈ fs ∨ ex a) H' km s v0 fs → fq.Nodup → fs.Nodup → (∀ a ∈ fq, H a = none ∧ a ∉ fs) → (∀ a ∈ fs, H a = none ∨ a ∈ g) → Q v H'
  | .ok _ => False
  | .exc c => ∀ Cl, mg c = some (.ref Cl) → ∀ H', Keep (fun a => a ∈ g) H H' → E (.ref Cl) none H'
  | .err => False
/-- a method's body as a function of its arguments: what it hands back, and the object -/
def fnM (n : Nat) (F : SF) (ds : List D) : Res D := match F (startE n ds) with
  | .ret d => .ok d
  | .next ρ => (match ρ.getD 0 none with
    | some s => .ok (.tup [.non, s])
    | none => .err)
  | .exc c _ => .exc c
  | _ => .err
theorem getD_rep1 {n km : Nat} (i : Nat) (hn : 0 < n) : ((List.replicate n 0).set 0 km).getD i 0 = if i = 0 then km else 0 := by
  by_cases h : i = 0
  · subst h
    rw [if_pos rfl]
    exact getD_set_eq (by rw [List.length_replicate]; exact hn)
  · rw [if_neg h, getD_set_ne (fun q => h q.symm), getD_rep0]
section
variable {P : Program} {w : World} {K : PySem.W.Frag} {mg : Str → Option Value} {base : Heap}
theorem meth_ok {x qual : Str} {st : Stmt} {f : Addr} {fd : FuncData} {N ps : List Str} {k kr km ar nN : Nat} {L L' : List Nat} {FF : SF} {C : List D → Res D} (F : Fun K x qual st f fd) (S : FnScope N ps (defScope st)) (hn : nN = N.length) (har : ar = ps.length) (hL0 : L = (List.replicate nN 0).set 0 km) (hC : C = fnM nN FF) (hpos : 0 < nN) (hL' : L'.getD 0 0 = km)
    (h : ∀ (cdv : Value) (A : Around) (outer : List PySem.Env) (s : Shared) (H : Hp) (E : XK), Room k (A.deeper (envOfC qual (defScope st) s.heap.objs.size f cdv)) →
      SJs (cxOf (L2.CX P w) P w K mg base N qual (defScope st) f cdv A outer s H E) (fun cls d _ H => E cls d H) (.m kr km 0) [] L L' (defBody st) FF) :
    FnOk P w K mg base (L2.CX P w) (k + 1) f fd ps (SpecM K mg ar kr km C) := by
  subst hn har hL0 hC
  refine F.okX S (fun vs H Q E h => h.1) (fun cdv A outer s H vs Q E hr hsp => ⟨_, h cdv A outer s H E hr, ?_⟩)
  obtain ⟨hl, ex, d0, ds, v0, us, g, rfl, ext, gex, gnd, r0, r, q⟩ := hsp
  let c0 : CS (RM.m kr km 0).b := ⟨ex, fun a => a ∈ g, some v0, fun q => (nomatch q), fun _ q => nomatch q⟩
  let fp0 : Nat → List Addr := fun i => if i = 0 then g else []
  have mem0 : ∀ i a, a ∈ fp0 i → a ∈ g := fun i a z => by
    have z : a ∈ (if i = 0 then g else []) := z
    split at z
    · exact z
    · cases z
  have e0 : ∀ a, exOf fp0 c0 a → a ∈ g ∨ ex a := fun a z => by
    rcases z with ⟨i, z⟩ | z
    · exact .inl (mem0 i a z)
    · exact .inr z
  have hlen := r.length
  have there : ∀ a ∈ g, H a ≠ none := r0.there
  have SSi : SS K H c0 [] ((List.replicate N.length 0).set 0 km) (startE N.length (d0 :: ds)) (L2.start N (v0 :: us)) H fp0 := by
    have h1 : (startE N.length (d0 :: ds)).length = (L2.start N (v0 :: us)).length := by
      unfold startE L2.start
      simp [hlen]
    refine ⟨⟨h1, fun i d e => ?_, fun i => ?_, fun i j a z1 z2 => ?_, fun i a z => .inl ⟨i, z⟩, fun a z => ?_⟩, fun i a z => .inr (mem0 i a z), fun a z => ⟨ext a z, fun q => gex a q z⟩, Keep.same (Same.refl H), fun j v ej z => ?_, fun g z => (nomatch z)⟩
    · rw [getD_rep1 i hpos]
      by_cases hi : i = 0
      · subst hi
        have e : some (some d0) = some (some d) := e
        cases e
        refine ⟨v0, rfl, ?_⟩
        rw [if_pos rfl]
        show RO K _ H km d0 v0 (if 0 = 0 then g else [])
        rw [if_pos rfl]
        exact r0.less fun a z => .inl (e0 a z)
      · rw [if_neg hi]
        show ∃ v, _ ∧ RO K _ H 0 d v (if i = 0 then g else [])
        rw [if_neg hi]
        obtain ⟨j, rfl⟩ : ∃ j, i = j + 1 := ⟨i - 1, by omega⟩
        have key : ∃ v : V, (L2.start N (v0 :: us))[j + 1]? = some (some v) ∧ R K (fun a => a ∈ g ∨ ex a) H d v := by
          unfold startE at e
          unfold L2.start
          by_cases hj : j < ds.length
          · have e1 : ((d0 :: ds).map some ++ List.replicate (N.length - (d0 :: ds).length) none)[j + 1]? = some (some d) := e
            rw [List.getElem?_append_left (by rw [List.length_map, List.length_cons]; omega), List.getElem?_map, List.getElem?_cons_succ] at e1
            cases q : ds[j]? with
            | none => rw [q] at e1; cases e1
            | some d' =>
              rw [q] at e1
              cases e1
              obtain ⟨v, h1, h2⟩ := Paired.get r q
              refine ⟨v, ?_, h2⟩
              rw [List.getElem?_append_left (by rw [List.length_map, List.length_cons, ← hlen]; omega), List.getElem?_map, List.getElem?_cons_succ, h1]
              rfl
          · have e1 : ((d0 :: ds).map some ++ List.replicate (N.length - (d0 :: ds).length) none)[j + 1]? = some (some d) := e
            rw [List.getElem?_append_right (by rw [List.length_map, List.length_cons]; omega), List.getElem?_replicate] at e1
            split at e1 <;> cases e1
        obtain ⟨v, h1, h2⟩ := key
        exact ⟨v, h1, rfl, h2.less fun a z => .inl (e0 a z)⟩
    · show (if i = 0 then g else []).Nodup
      split
      · exact gnd
      · exact List.nodup_nil
    · have z1 : a ∈ (if i = 0 then g else []) := z1
      have z2 : a ∈ (if j = 0 then g else []) := z2
      split at z1
      · split at z2
        · rename_i a1 a2
          rw [a1, a2]
        · cases z2
      · cases z1
    · rcases e0 a z with z | z
      · exact there a z
      · exact ext a z
    · cases ej
      cases z
      rfl
  refine ⟨c0, [], startE N.length (d0 :: ds), fp0, SSi, ?_⟩
  unfold fnM at q
  unfold FOut
  cases hF : FF (startE N.length (d0 :: ds)) with
  | next ρ' =>
    rw [hF] at q
    dsimp only at q ⊢
    intro σ' H' fp' S'
    cases hρ : ρ'.getD 0 none with
    | none => rw [hρ] at q; exact q.elim
    | some sd =>
      rw [hρ] at q
      obtain ⟨u, h1, h2⟩ := S'.si.val 0 sd (getD_some hρ)
      rw [hL'] at h2
      have := S'.slf 0 v0 rfl rfl
      rw [h1] at this
      cases this
      refine q .non H' [] (fp' 0) S'.same (RO.flat (by rw [R]) rfl) (h2.less fun a z => .inl ?_) List.nodup_nil (S'.si.nod 0) (fun a z => nomatch z) (fun a ha => S'.own 0 a ha)
      rcases z with z | z | z
      · cases z
      · exact .inl ⟨0, z⟩
      · exact .inr z
  | ret d =>
    rw [hF] at q
    dsimp only at q ⊢
    have key : ∃ d1 s1, d = .tup [d1, s1] := by
      cases d with
      | tup xs =>
        match xs, q with
        | [d1, s1], _ => exact ⟨d1, s1, rfl⟩
        | [], q => exact q.elim
        | [_], q => exact q.elim
        | _ :: _ :: _ :: _, q => exact q.elim
      | _ => exact q.elim
    obtain ⟨d1, s1, rfl⟩ := key
    refine ⟨d1, s1, rfl, fun v u H' fq fs hu kp r1 r2 n1 n2 m1 m2 => ?_⟩
    cases hu
    exact q v H' fq fs kp r1 r2 n1 n2 m1 m2
  | exc c ρ' =>
    rw [hF] at q
    exact fun C hC σ' H' fp' S' => q C hC H' S'.same
  | brk ρ' =>
    rw [hF] at q
    exact q.elim
  | cont ρ' =>
    rw [hF] at q
    exact q.elim
  | err =>
    rw [hF] at q
    exact q.elim
end
end Px

namespace Px
open PySem PySem.Spec PyProof.Rows L2
/-! ### calls of methods that change their object; new instances; defs that call themselves -/
section
variable {K : PySem.W.Frag} {H0 H H2 : Hp} {mb : Option Nat} {ex0 : CS mb} {G : List (D × V)} {L : List Nat} {ρ : Px.Env} {σ : L2.St} {fp : Nat → List Addr}
/-- what the slot i owns is lost -/
theorem SS.lost (S : SS K H0 ex0 G L ρ σ H fp) (i : Nat) {g : AS} (hg : ∀ b, g b → b ∈ fp i) (kp : Keep g H H2) : SS K H0 ex0 G L (ρ.set i none) σ H2 fun j => if j = i then [] else fp j := by
  have le : ∀ b, exOf (fun j => if j = i then [] else fp j) ex0 b → exOf fp ex0 b := fun b h => by
    rcases h with ⟨l, h⟩ | h
    · have h : b ∈ (if l = i then [] else fp l) := h
      split at h
      · cases h
      · exact .inl ⟨l, h⟩
    · exact .inr h
  have kp1 : Keep (exOf fp ex0) H H2 := kp.more fun b h => .inl ⟨i, hg b h⟩
  refine ⟨⟨by rw [List.length_set]; exact S.si.len, fun j d' h => ?_, fun j => ?_, fun j l b h1 h2 => ?_, fun j b h => .inl ⟨j, h⟩, fun b h q => ?_⟩, fun j b h => ?_, S.old, ?_, S.slf, fun g hg => R.keep kp1 (fun b h => .inl (le b h)) _ (S.held g hg)⟩
  · by_cases ej : i = j
    · subst ej
      exact absurd h (wiped1 ρ i d')
    · rw [List.getElem?_set_ne ej] at h
      obtain ⟨u, h1, h2⟩ := S.si.val j d' h
      refine ⟨u, h1, ?_⟩
      show RO K _ _ _ d' u (if j = i then [] else fp j)
      rw [if_neg (fun q => ej q.symm)]
      exact RO.keep kp1 (fun b h => .inl (le b h)) (fun b hb o q => kp.obj b o (fun z => ej (S.si.dis i j b (hg b z) hb)) q) h2
  · show (if j = i then [] else fp j).Nodup
    split
    · exact List.nodup_nil
    · exact S.si.nod j
  · have h1 : b ∈ (if j = i then [] else fp j) := h1
    have h2 : b ∈ (if l = i then [] else fp l) := h2
    split at h1
    · cases h1
    · split at h2
      · cases h2
      · exact S.si.dis j l b h1 h2
  · exact S.si.ext b (le b h) (kp.free q)
  · have h : b ∈ (if j = i then [] else fp j) := h
    split at h
    · cases h
    · exact S.own j b h
  · refine ⟨fun a xs h => kp.tup a xs (S.same.tup a xs h), fun a o n h => kp.obj a o (fun z => ?_) (S.same.obj a o n h), fun a h => kp.there a (S.same.there a h)⟩
    rcases S.own i a (hg a z) with q | q
    · rw [q] at h
      cases h
    · exact n q
end
def methK (i : Nat) (l2 : D → D) (ρ : Px.Env) (k : Px.Env → D → Flow) (r : Res D) : Flow := match r with
  | .ok (.tup [r, s]) => k (ρ.set i (some (l2 s))) r
  | .exc x => .exc x (ρ.set i none)
  | _ => .err
def sMeth (c m : Str) (i : Nat) (pf : PLF) (C : List D → Res D) (fs : Px.Env → Res (List D)) (k : Px.Env → D → Flow) : SF := fun ρ => (pf ρ).flow ρ fun l => if mOk c m l.1 = true then (fs ρ).flow ρ fun ds => methK i l.2 ρ k (C (l.1 :: ds)) else .err
section
variable {X : Cx} {W : WX} {kr : RM} {n k km i na : Nat} {Lb L L1 : List Nat} {e e0 o : Expr} {es : List Expr} {f : EF} {pf : PLF} {pos apos : Pos} {c mm : Str} {g : Addr} {fd : FuncData} {ps : List Str} {C : List D → Res D} {fs : Px.Env → Res (List D)}
abbrev EMI (X : Cx) (W : WX) (L : List Nat) (i km : Nat) (c mm : Str) (pf : PLF) (C : List D → Res D) (na : Nat) (fs : Px.Env → Res (List D)) (e : Expr) : Prop :=
  PE X e (tMethA (He.ga X.K c) mm (SpecM X.K X.mg (na + 1) 0 km C) (WE W) (tPl X W L i km pf) (tAB X W L 0 na fs))
theorem emi (hc : Cls X.K (He.ga X.K c)) (hm : Meth X.K (He.ga X.K c) mm g) (F : FnOk X.prog X.w X.K X.mg X.base (L2.CX X.prog X.w) k g fd ps (SpecM X.K X.mg (na + 1) 0 km C)) (hr : Room k X.A) (hb : Binds X.K fd ps []) (tk : Takes X W)
    (ho : EPl X W L i km o pf) (ha : EA X W L 0 na (e :: es) fs) {pl : Sem Bool} (hst : starEach (e :: es) X.env = (false, eval e X.env) :: starEach es X.env := by rfl) (hpl : (backTo pos (starEach es X.env)).any (·.1) = false := by rfl)
    (ht : eval (.Call (.Attribute o mm apos) (e :: es) [] pos) X.env = (do
      let ov ← eval o X.env
      standAt apos.atName
      let (f, first) ← holding [ov] (getMethod ov mm pl)
      callWith pos f first (backTo pos (starEach (e :: es) X.env)) (backToKw pos (keywordEach [] X.env))) := by rfl) :
    EMI X W L i km c mm pf C na fs (.Call (.Attribute o mm apos) (e :: es) [] pos) := pe_methA (pl := pl) ho hc hm F hr hb (fun σ => passAt tk σ) ha hst hpl ht
theorem emi0 (hc : Cls X.K (He.ga X.K c)) (hm : Meth X.K (He.ga X.K c) mm g) (F : FnOk X.prog X.w X.K X.mg X.base (L2.CX X.prog X.w) k g fd ps (SpecM X.K X.mg 1 0 km C)) (hr : Room k X.A) (hb : Binds X.K fd ps []) (tk : Takes X W)
    (ho : EPl X W L i km o pf) {pl : Sem Bool}
    (ht : eval (.Call (.Attribute o mm apos) [] [] pos) X.env = (do
      let ov ← eval o X.env
      standAt apos.atName
      let (f, first) ← holding [ov] (getMethod ov mm pl)
      callWith pos f first (backTo pos (starEach [] X.env)) (backToKw pos (keywordEach [] X.env))) := by rfl) :
    EMI X W L i km c mm pf C 0 aNil (.Call (.Attribute o mm apos) [] [] pos) :=
  PE.imp (pe_methA0 (pl := pl) ho hc hm F hr hb (fun σ => passAt tk σ) ht) fun σ H Q ⟨ex, ρ, fp, I, q⟩ => ⟨ex, ρ, fp, I, q.mono fun l q1 vi v g H1 h1 h2 h3 => by
    obtain ⟨a, dx, fs, ev, ha, hl, ex', ρ', fp', I', q2⟩ := q1 vi v g H1 h1 h2 h3
    exact ⟨a, dx, fs, ev, ha, hl, q2 [] H1 (Same.refl H1) .nil rfl⟩⟩
theorem mi_core {kk : Px.Env → D → Flow} {ex0 : CS kr.b} {Gs : List (D × V)} {ρ : Px.Env} {σ : L2.St} {H : Hp} {fp : Nat → List Addr} {Dn : Ends} {Q : VK} (S : SS X.K X.H_0 ex0 Gs L ρ σ H fp) (q : FOut X W kr Lb L1 ex0 Gs Dn (sMeth c mm i pf C fs kk ρ))
    (hQ : ∀ (r s : D) (v : V) (H' : Hp) (fp' : Nat → List Addr) (l2 : D → D), SS X.K X.H_0 ex0 Gs L (ρ.set i (some (l2 s))) σ H' fp' → R X.K (exOf fp' ex0) H' r v → FOut X W kr Lb L1 ex0 Gs Dn (kk (ρ.set i (some (l2 s))) r) → Q v H') :
    tMethA (He.ga X.K c) mm (SpecM X.K X.mg (na + 1) 0 km C) (WE W) (tPl X W L i km pf) (tAB X W L 0 na fs) σ H Q := by
  unfold sMeth at q
  refine ⟨_, ρ, fp, S.si, (flow_out S q).mono fun l q1 vi v g H1 hvi e1 F => ?_⟩
  obtain ⟨l1, l2⟩ := l
  split at q1
  · rename_i hk
    obtain ⟨ns, vs, rfl, hn⟩ := mOk_ins hk
    obtain ⟨a, dx, xs, rfl, h1⟩ := ins_get (F.ro.borrow.same e1)
    refine ⟨a, dx, _, rfl, h1, nIdx_none hn, _, ρ, fp, S.si.same e1, ((flow_out S q1).later e1).mono fun ds q2 us H2 e2 r2 hl => ?_⟩
    have e12 := e1.trans e2
    refine ⟨by rw [List.length_cons, hl], fun b => exOf fp ex0 b ∧ b ∉ g, .ins c ns vs, ds, .ref a, us, g, rfl, fun b hb q => S.si.ext b hb.1 (e12.free q), fun b hb q => q.2 hb, F.nd, (F.ro.same e12).less (fun b hb => .inl ?_), r2.mono fun _ _ z => R.less (fun b hb => .inl ?_) z, ?_⟩
    · rcases hb with hb | hb
      · exact .inl ⟨i, F.sub b hb⟩
      · exact hb.1
    · rcases hb with hb | hb
      · exact .inl ⟨i, F.sub b hb⟩
      · exact hb.1
    · cases hC : C (.ins c ns vs :: ds) with
      | err => rw [hC] at q2; exact q2.elim
      | exc x =>
        rw [hC] at q2
        intro Cl hCl H' kp
        have S1 := S.lost i F.sub (H2 := H') ⟨fun a xs h => kp.tup a xs (e12 _ _ h), fun a o n h => kp.obj a o n (e12 _ _ h), fun a h => kp.there a fun q => h (e12.free q)⟩
        exact q2 Cl hCl σ H' _ S1.dropAll
      | ok d =>
        rw [hC] at q2
        have key : ∃ d1 s1, d = .tup [d1, s1] := by
          cases d with
          | tup xs =>
            match xs, q2 with
            | [d1, s1], _ => exact ⟨d1, s1, rfl⟩
            | [], q2 => exact q2.elim
            | [_], q2 => exact q2.elim
            | _ :: _ :: _ :: _, q2 => exact q2.elim
          | _ => exact q2.elim
        obtain ⟨r, s, rfl⟩ := key
        intro v H' fq fsl kp rr rs nq nf m1 m2
        obtain ⟨efq, rr⟩ := rr
        subst efq
        have hfq : ∀ b ∈ fsl.filter (fun b => decide (b ∉ g)), H b = none := fun b hb => by
          obtain ⟨hb1, hb2⟩ := List.mem_filter.mp hb
          rcases m2 b hb1 with z | z
          · exact e12.free z
          · exact absurd z (of_decide_eq_true hb2)
        obtain ⟨fp', S', le⟩ := S.foc e12 hvi hfq (F.later e12 (exq hfq)) kp (exN := fun b => b ∈ fsl ∨ (exOf fp ex0 b ∧ b ∉ g)) (fun b hb => by
          rcases hb with hb | hb
          · by_cases hg : b ∈ g
            · exact .inr (.inl ⟨i, F.sub b hg⟩)
            · exact .inl (List.mem_filter.mpr ⟨hb, decide_eq_true hg⟩)
          · exact .inr hb.1) (fun b h1 h2 => .inr ⟨h1, h2⟩) (c' := s) (g' := fsl) (fun b hb => .inl hb) (rs.less fun b hb => .inl (by
          rcases hb with hb | hb
          · exact .inr (.inl hb)
          · exact .inr (.inr hb))) nf (fun b hb => by
          by_cases hg : b ∈ g
          · exact .inl hg
          · exact .inr (List.mem_filter.mpr ⟨hb, decide_eq_true hg⟩))
        exact hQ r s v H' fp' l2 S' (R.less (fun b hb => .inl (by
          rcases le b hb with z | z
          · exact .inr (.inl z)
          · exact .inr (.inr z))) rr) q2
  · exact q1.elim
def kDrop : Px.Env → D → Flow := fun ρ _ => .next ρ
def kSet (j : Nat) : Px.Env → D → Flow := fun ρ d => .next (ρ.set j (some d))
def kUnp (gf : Px.Env → D → Res Px.Env) : Px.Env → D → Flow := fun ρ d => resF (gf ρ d)
def kRet : Px.Env → D → Flow := fun _ d => .ret d
theorem sj_methE (h : EMI X W L i km c mm pf C na fs e) (hs : swapsWith e none pos.line X.env = pure false := by rfl) : SJ X W kr Lb L L (.Expr e pos) (sMeth c mm i pf C fs kDrop) :=
  PS.imp (ps_expr h hs) fun Dn σ H ⟨ex0, Gs, ρ, fp, S, o⟩ => mi_core S o fun r s v H' fp' l2 S' rr q => q _ _ _ S'
theorem sj_methS {j : Nat} {y : Str} {pos' : Pos} (hN : X.N.Nodup) (hy' : X.N[j]? = some y) (hy : Loc X.env.scope y) (h : EMI X W L i km c mm pf C na fs e) (hj : j < L.length) (hs : swapsWith e (some (.Name y pos')) pos.line X.env = pure false := by rfl)
    (hf : X.fn y = true ∨ X.env.scope.names.lookup y = some .local := by first | exact .inl rfl | exact .inr rfl | assumption) (h0 : kr.b ≠ some j := by first | exact nofun | exact fun _ _ => nofun | decide) :
    SJ X W kr Lb L (L.set j 0) (.Assign [.Name y pos'] e pos) (sMeth c mm i pf C fs (kSet j)) :=
  PS.imp (ps_set hN hy' hy h hs hf) fun Dn σ H ⟨ex0, Gs, ρ, fp, S, o⟩ => mi_core S o fun r s v H' fp' l2 S' rr q => by
    obtain ⟨fp2, S2⟩ := S'.put (Same.refl _) (i := j) (k := 0) (d := r) (v := v) (fq := []) ⟨rfl, R.less (fun a h => .inl (h.elim (fun z => nomatch z) fun z => z)) rr⟩ List.nodup_nil (fun b hb => nomatch hb) hj (h0_of ex0 h0)
    exact q _ _ _ S2
theorem sj_methU {tg : Expr} {gg : TG} {gf : Px.Env → D → Res Px.Env} {is : List Nat} (hg : PG X tg gg) (gs : GSem X.K gg gf is) (h : EMI X W L i km c mm pf C na fs e) (hL : ∀ i ∈ is, L.getD i 0 = 0) (hs : swapsWithSole [tg] e pos.line X.env = pure false := by rfl) (hw : swappedStores [tg] e X.env = pure none := by rfl)
    (h1 : (assignEach [tg] X.env).map (·.2) = [assign tg X.env] := by rfl) (h0 : ∀ i ∈ is, kr.b ≠ some i := by first | exact nofun | exact fun _ _ => nofun | decide) : SJ X W kr Lb L L (.Assign [tg] e pos) (sMeth c mm i pf C fs (kUnp gf)) :=
  PS.imp (ps_asg h hg hs hw h1) fun Dn σ H ⟨ex0, Gs, ρ, fp, S, o⟩ => mi_core S o fun r s v H' fp' l2 S' rr q => by
    unfold kUnp at q
    cases hgf : gf (ρ.set i (some (l2 s))) r with
    | exc c => rw [hgf] at q; exact q.elim
    | err => rw [hgf] at q; exact q.elim
    | ok ρ' =>
      rw [hgf] at q
      refine gs _ v σ H' _ r _ ρ' rr hgf fun l hl e2 => ?_
      obtain ⟨fp2, S2⟩ := S'.sets l (fun t ht => ⟨(hl t ht).1, hL _ (hl t ht).2⟩) fun t ht => h0_all ex0 h0 _ (hl t ht).2
      rw [← e2] at S2
      exact q _ _ _ S2
theorem sj_methR (h : EMI X W L i km c mm pf C na fs e) : SJ X W (.r 0) Lb L L1 (.Return (some e) pos) (sMeth c mm i pf C fs kRet) :=
  PS.imp (ps_ret h) fun Dn σ H ⟨ex0, Gs, ρ, fp, S, o⟩ => mi_core S o fun r s v H' fp' l2 S' rr q => q v H' [] S'.same ⟨rfl, R.less (fun a h => .inl (h.elim (fun z => nomatch z) .inr)) rr⟩ List.nodup_nil (fun a h => nomatch h)
theorem sj_methRM {km' : Nat} (h : EMI X W L i km c mm pf C na fs e) (hL : L.getD 0 0 = km' := by rfl) : SJ X W (.m 0 km' 0) Lb L L1 (.Return (some e) pos) (sMeth c mm i pf C fs retM) :=
  PS.imp (ps_ret h) fun Dn σ H ⟨ex0, Gs, ρ, fp, S, o⟩ => mi_core S o fun r s v H' fp' l2 S' rr q => retA_out (L1 := L1) S' hL q (Same.refl H') (fq := []) ⟨rfl, R.less (fun a h => .inl (h.elim (fun z => nomatch z) fun z => z)) rr⟩ List.nodup_nil (fun a h => nomatch h)
/-! ### a new instance -/
def madeOf (d : D) : Res D := match d with
  | .tup [.non, s] => .ok s
  | _ => .err
def eMake (c : Str) (C : List D → Res D) (fs : Px.Env → Res (List D)) : EF := fun ρ => fs ρ >>= fun ds => C (.ins c [] [] :: ds) >>= madeOf
theorem make_core {σ : L2.St} {H H1 : Hp} {ex : AS} {ρ : Px.Env} {fp : Nat → List Addr} {Q : VK} {ds : List D} {us : List V} (I : SI X.K ex L ρ σ H fp) (e : Same H H1) (r : Paired (R X.K ex H1) ds us) (hl : us.length = na)
    (q : Out X W σ H (C (.ins c [] [] :: ds) >>= madeOf) fun d => ∀ v H' fq, Same H H' → RO X.K (fun a => a ∈ fq ∨ ex a) H' (k + 1) d v fq → fq.Nodup → (∀ a ∈ fq, H a = none) → Q v H') :
    ∀ x dx, H1 x = none → H1 dx = none → dx ≠ x → SpecM X.K X.mg (na + 1) 0 (k + 1) C (.ref x :: us) (L2.upd (L2.upd H1 dx (.own x)) x (.ins (He.ga X.K c) dx [])) (fun v H2 => v = .non ∧ Q (.ref x) H2) (WE W σ) := by
  intro x dx hx hdx hne
  have s1 : Same H1 (L2.upd (L2.upd H1 dx (.own x)) x (.ins (He.ga X.K c) dx [])) := (same_upd hdx).trans (same_upd (by rw [upd_ne (fun z => hne z.symm)]; exact hx))
  have s2 := e.trans s1
  have nx : ¬ ex x := fun z => I.ext x z (e.free hx)
  refine ⟨by rw [List.length_cons, hl], ex, .ins c [] [], ds, .ref x, us, [x], rfl, fun a h q => I.ext a h (s2.free q), fun a h q => nx (by rw [← List.mem_singleton.mp h]; exact q), List.nodup_cons.mpr ⟨List.not_mem_nil, List.nodup_nil⟩,
    (RO.cn rfl).mpr ⟨x, [], [], _, rfl, ⟨⟨dx, rfl, rfl⟩, upd_same⟩, rfl, .nil⟩, r.mono fun _ _ z => R.keep (Keep.same s1) (fun a h => h.elim (fun z => .inr (by rw [List.mem_singleton.mp z]; exact hx)) .inl) _ z, ?_⟩
  have same' : ∀ {H' : Hp}, Keep (fun a => a ∈ [x]) (L2.upd (L2.upd H1 dx (.own x)) x (.ins (He.ga X.K c) dx [])) H' → Same H H' := fun {H'} kp b o h => kp.obj b o (fun z => by
    rw [List.mem_singleton.mp z, e.free hx] at h
    cases h) (s2 b o h)
  cases hC : C (.ins c [] [] :: ds) with
  | err => rw [hC] at q; exact q.elim
  | exc y =>
    rw [hC] at q
    exact fun Cl hCl H' kp => q Cl hCl H' (same' kp)
  | ok d =>
    rw [hC, Res.bind_ok] at q
    unfold madeOf at q
    split at q
    · rename_i s
      intro v H' fq fs kp r1 r2 n1 n2 m1 m2
      have ev : v = .non := by
        have := r1.2
        rw [R] at this
        exact this
      obtain ⟨efq, _⟩ := r1
      subst efq
      refine ⟨ev, q (.ref x) H' fs (same' kp) (r2.less fun a h => .inl (.inr h)) n2 fun a ha => ?_⟩
      rcases m2 a ha with z | z
      · exact s2.free z
      · rw [List.mem_singleton.mp z]
        exact e.free hx
    · exact q.elim
variable {x : Str} {p : Pos}
theorem eo_make (M : Mk X.K (He.ga X.K c) g) (F : FnOk X.prog X.w X.K X.mg X.base (L2.CX X.prog X.w) n g fd ps (SpecM X.K X.mg (na + 1) 0 (k + 1) C)) (hr : Room (n + 1) X.A) (hg : Gl X c) (hm : X.mg c = some (.ref (He.ga X.K c))) (hb : Binds X.K fd ps []) (tk : Takes X W)
    (ha : EA X W L 0 na (e :: es) fs) (hdb : (c == ("__debug__" : Str)) = false := by decide) (he : starEach (e :: es) X.env = (false, eval e X.env) :: starEach es X.env := by rfl) (hpl : (backTo pos (starEach es X.env)).any (·.1) = false := by rfl) :
    EO X W L (k + 1) (.Call (.Name c p) (e :: es) [] pos) (eMake c C fs) :=
  PE.imp (pe_makeA M F hr hg hm hb (fun σ => passAt tk σ) ha hdb he hpl) fun σ H Q ⟨ex, ρ, fp, I, q⟩ => ⟨ex, ρ, fp, I, q.bind.mono fun ds q1 us H1 e1 r hl => make_core I e1 r hl q1⟩
theorem eo_make0 (M : Mk X.K (He.ga X.K c) g) (F : FnOk X.prog X.w X.K X.mg X.base (L2.CX X.prog X.w) n g fd ps (SpecM X.K X.mg 1 0 (k + 1) C)) (hr : Room (n + 1) X.A) (hg : Gl X c) (hm : X.mg c = some (.ref (He.ga X.K c))) (hb : Binds X.K fd ps []) (tk : Takes X W)
    (hdb : (c == ("__debug__" : Str)) = false := by decide) : EO X W L (k + 1) (.Call (.Name c p) [] [] pos) (eMake c C aNil) :=
  PE.imp (pe_makeA0 M F hr hg hm hb (fun σ => passAt tk σ) hdb) fun σ H Q ⟨ex, ρ, fp, I, q⟩ => make_core (ds := []) I (Same.refl H) .nil rfl (show Out X W σ H (C [.ins c [] []] >>= madeOf) _ from q)
end
/-! ### a def that calls itself -/
section
variable {P : Program} {w : World} {K : PySem.W.Frag} {mg : Str → Option Value} {base : Heap}
/-- by fuel: C 0 says nothing, C (n + 1) calls C n -/
theorem fn_rec {x qual : Str} {st : Stmt} {f : Addr} {fd : FuncData} {N ps : List Str} {k kr ar nN : Nat} {L L' : List Nat} {FF : (List D → Res D) → SF} {C : Nat → List D → Res D} (F : Fun K x qual st f fd) (S : FnScope N ps (defScope st)) (hn : nN = N.length) (har : ar = ps.length) (hL0 : L = List.replicate nN 0)
    (h0 : C 0 = fun _ => .err) (hC : ∀ n, C (n + 1) = fnE nN (FF (C n)))
    (h : ∀ n, FnOk P w K mg base (L2.CX P w) (k + 1 + n) f fd ps (Spec K mg ar kr (C n)) → ∀ (cdv : Value) (A : Around) (outer : List PySem.Env) (s : Shared) (H : Hp) (E : XK), Room (k + 1 + n) (A.deeper (envOfC qual (defScope st) s.heap.objs.size f cdv)) →
      SJs (cxOf (L2.CX P w) P w K mg base N qual (defScope st) f cdv A outer s H E) (fun cls d _ H => E cls d H) (.r kr) [] L L' (defBody st) (FF (C n))) :
    ∀ n, FnOk P w K mg base (L2.CX P w) (k + 1 + n) f fd ps (Spec K mg ar kr (C n))
  | 0 => fn_ok (L := L) (L' := L') (nN := nN) (k := k) F S hn har hL0 (FF := sErr) (by rw [h0]; rfl) fun cdv A outer s H E hr => sjs_err
  | n + 1 => fn_ok (L := L) (L' := L') (nN := nN) (k := k + 1 + n) F S hn har hL0 (FF := FF (C n)) (hC n) fun cdv A outer s H E hr => h n (fn_rec F S hn har hL0 h0 hC h n) cdv A outer s H E hr
end
end Px

namespace Px
open PySem PySem.Spec PyProof.Rows L2
/-! ### the defs in a class's body -/
def clsBody : Stmt → List Stmt
  | .ClassDef _ _ _ b _ _ _ _ _ _ _ => b
  | _ => []
theorem txt_meth {K : PySem.W.Frag} {fa : List He.Fa} {fn : List He.FnD} (c : He.SaysE fa fn K) (i j : Nat) {x m q : Str} {ps : List Str} {st : Stmt} (h : fn[i]? = some ⟨(x, some m), m, q, defArgs st, defBody st, defScope st⟩) (hk : fa[j]? = some (.meth x m))
    (hb : ∀ (kV doc pm : Value) (an : Option Addr) (cdv ct : Value) (us : List Value), us.length = ps.length → bindArgs (PySem.W.fnOf m q (defArgs st) (defBody st) (defScope st) .none kV doc pm an cdv ct) ⟨us, []⟩ = pure (ps.zip us)) :
    ∃ fd, Fun K m q st (He.ma K (He.ga K x) m) fd ∧ BA fd ps := by
  obtain ⟨oc, od, osl, kV, doc, pm, an, cdv, ct, l, z⟩ := c.def_ i h
  have F := fun_mk (K := K) (st := st) (x := m) (qual := q) l z (He.meth_ok (c.fact j hk)).kp
  exact ⟨_, F, fun s us hl => .of_eq (hb kV doc pm an cdv ct us hl)⟩
end Px

namespace Px
open PySem PySem.Spec PyProof.Rows L2
/-! ### flat values; dicts that are made; d.update(d2) -/
def dFlat (d : D) : Res D := if notList d = true then .ok d else .err
section
variable {X : Cx} {W : WX} {kr : RM} {L Lb : List Nat} {n n2 m k i : Nat} {pos apos cpos : Pos} {e e0 ei : Expr} {es : List Expr} {f g fi : EF} {fs : Px.Env → Res (List D)} {pf : PLF}
theorem eb_flat (h : EB X W L n e f) : EB X W L 0 e (eUn dFlat f) := PE.imp h fun σ H Q ⟨ex, ρ, fp, I, o⟩ => ⟨ex, ρ, fp, I, o.bind.mono fun d q v H' e r => by
  unfold dFlat at q
  split at q
  · rename_i hf
    exact q v H' e (RB.flat r hf)
  · exact q.elim⟩
theorem eo_flat (h : EB X W L n e f) : EO X W L k e (eUn dFlat f) := PE.imp h fun σ H Q ⟨ex, ρ, fp, I, o⟩ => ⟨ex, ρ, fp, I, o.bind.mono fun d q v H' e r => by
  unfold dFlat at q
  split at q
  · rename_i hf
    exact q v H' [] e (ex_nil (RB.flat r hf) hf) List.nodup_nil fun a z => nomatch z
  · exact q.elim⟩
theorem eo_dnewK : EO X W L (k + 1) (.Dict [] [] pos) (eC (.dic false [] [])) := PE.imp pe_dnewK fun σ H Q ⟨ex, ρ, fp, I, o⟩ p hp =>
  o (.ref p) _ [p] (same_upd hp) ((RO.cn rfl).mpr ⟨p, [], [], _, rfl, ⟨⟨[], rfl, rfl, List.nodup_nil, rfl⟩, upd_same⟩, rfl, .nil⟩) (List.nodup_cons.mpr ⟨List.not_mem_nil, List.nodup_nil⟩) fun a z => by
    rw [List.mem_singleton.mp z]
    exact hp
theorem eo_dnewT : EO X W L (k + 1) (.Dict [] [] pos) (eC (.dic true [] [])) := PE.imp pe_dnewT fun σ H Q ⟨ex, ρ, fp, I, o⟩ p hp =>
  o (.ref p) _ [p] (same_upd hp) ((RO.cn rfl).mpr ⟨p, [], [], _, rfl, ⟨⟨[], rfl, rfl, List.nodup_nil, rfl⟩, upd_same⟩, rfl, .nil⟩) (List.nodup_cons.mpr ⟨List.not_mem_nil, List.nodup_nil⟩) fun a z => by
    rw [List.mem_singleton.mp z]
    exact hp

/-! a display's pairs, one by one -/
def mPut (p : List D × List D) (k d : D) : List D × List D :=
  (kAdd (p.1.findIdx? fun j => decide (kOf j = kOf k)) p.1 k, kPut (p.1.findIdx? fun j => decide (kOf j = kOf k)) p.2 d)
def mergeD : List D × List D → List D → List D → List D × List D
  | p, k :: ks, d :: ds => mergeD (mPut p k d) ks ds
  | p, _, _ => p
theorem merge_zip {F : D → V → Prop} : ∀ (more : List (Key × V)) (ds : List D) (kk : List Key) (vs : List D) (xs : List V), Paired F ds (more.map (·.2)) → Paired F vs xs → kk.length = xs.length → kk.Nodup →
    ∃ (kk' : List Key) (xs' : List V), mergeK (kk.zip xs) more = kk'.zip xs' ∧ kk'.length = xs'.length ∧ kk'.Nodup ∧ (mergeD (kk.map dKey, vs) (more.map fun q => dKey q.1) ds).1 = kk'.map dKey ∧ Paired F (mergeD (kk.map dKey, vs) (more.map fun q => dKey q.1) ds).2 xs'
  | [], _, kk, vs, xs, h, hv, hl, nd => ⟨kk, xs, rfl, hl, nd, by cases h; rfl, by cases h; exact hv⟩
  | q :: more, d :: ds, kk, vs, xs, .cons hd ht, hv, hl, nd => by
    have e : mergeK (kk.zip xs) (q :: more) = mergeK (putK (kk.zip xs) q.1 q.2) more := rfl
    rw [e, putK_zip kk xs q.1 q.2 hl nd]
    show ∃ (kk' : List Key) (xs' : List V), _ ∧ _ ∧ _ ∧ (mergeD (mPut (kk.map dKey, vs) (dKey q.1) d) (more.map fun q => dKey q.1) ds).1 = _ ∧ Paired F (mergeD (mPut (kk.map dKey, vs) (dKey q.1) d) (more.map fun q => dKey q.1) ds).2 _
    unfold mPut
    simp only
    rw [kOf_key, kIdx_map dKey (fun j => decide (kOf j = some q.1)) q.1 fun j => by rw [kOf_key]; simp]
    cases hq : kIdx kk q.1 with
    | some n => exact merge_zip more ds kk (vs.set n d) (xs.set n q.2) ht (paired_set n hv hd) (by rw [List.length_set]; exact hl) nd
    | none =>
      have := merge_zip more ds (kk ++ [q.1]) (vs ++ [d]) (xs ++ [q.2]) ht (Paired.app hv (.cons hd .nil)) (by simp [hl]) (nd_add nd (kIdx_none hq))
      rw [List.map_append] at this
      exact this
  | _ :: _, [], _, _, _, h, _, _, _ => by cases h
def eDisp (ps : List (EF × EF)) : EF := fun ρ => evPairs ps ρ >>= fun l => .ok (.dic false (mergeD ([], []) (l.map fun q => dKey q.1) (l.map (·.2))).1 (mergeD ([], []) (l.map fun q => dKey q.1) (l.map (·.2))).2)
theorem kr_parts {K : PySem.W.Frag} {ex : AS} {H : Hp} : ∀ {l : List (Key × D)} {kvs : List (Key × V)}, KR K ex H l kvs → (kvs.map fun q => dKey q.1) = (l.map fun q => dKey q.1) ∧ Paired (R K ex H) (l.map (·.2)) (kvs.map (·.2))
  | _, _, .nil => ⟨rfl, .nil⟩
  | _, _, .cons r t => by
    obtain ⟨h1, h2⟩ := kr_parts t
    refine ⟨?_, .cons r.2 h2⟩
    rw [List.map_cons, List.map_cons, h1, r.1]
theorem eo_disp {keys : List (Option Expr)} {values : List Expr} {ps : List (EF × EF)} (h : EPs X W L pos keys values ps) (hall : keys.all (·.isSome) = true := by rfl) (hl : keys.length = values.length := by rfl) (h0 : keys ≠ [] := by exact fun h => nomatch h) (h15 : keys.length ≤ 15 := by decide) (p15 : ps.length ≤ 15 := by decide) :
    EO X W L 1 (.Dict keys values pos) (eDisp ps) :=
  PE.imp (pe_disp h hall hl h0 h15) fun σ H Q ⟨ex, ρ, fp, I, o⟩ => fun pp hp => by
    have e0 : Same H (upd H pp (.dK [])) := same_upd hp
    have I0 : SI X.K (fun a => a = pp ∨ ex a) L ρ σ (upd H pp (.dK [])) fp := I.more e0 (fun a h => h.elim (fun z => .inr (by rw [z]; exact hp)) .inl) (fun a h => .inr h) (fun a h => h.elim (fun z => by rw [z, upd_same]; exact fun q => nomatch q) fun z q => I.ext a z (e0.free q))
    refine pairs_imp ps I0 ((Out.later o.bind e0).mono fun l q kvs H2 e2 kr hkl => ?_)
    have hp2 : H2 pp = some (.dK []) := e2 _ _ upd_same
    refine ⟨hp2, kvs, rfl, by omega, ?_⟩
    have e3 : Same H (upd H2 pp (.dK (mergeK [] kvs))) := fun b o hb => by
      have hne : b ≠ pp := fun z => by
        rw [z, hp] at hb
        cases hb
      rw [upd_ne hne]
      exact e2 _ _ (by rw [upd_ne hne]; exact hb)
    have kp : Keep (fun a => a = pp ∨ ex a) H2 (upd H2 pp (.dK (mergeK [] kvs))) := Keep.upd (Same.refl _) hp2 (fun _ q => nomatch q) (.inl rfl)
    obtain ⟨h1, h2⟩ := kr_parts kr
    obtain ⟨kk', xs', m1, m2, m3, m4, m5⟩ := merge_zip kvs (l.map (·.2)) [] [] [] h2 .nil rfl List.nodup_nil
    rw [h1] at m4 m5
    refine q (.ref pp) _ [pp] e3 ?_ (List.nodup_cons.mpr ⟨List.not_mem_nil, List.nodup_nil⟩) fun a z => by
      rw [List.mem_singleton.mp z]
      exact hp
    obtain ⟨fps, p3, pf⟩ := of_pair (m5.mono fun a b r => R.keep (ex' := fun a => a ∈ [pp] ∨ ex a) kp (fun b hb => .inl (hb.elim (fun z => .inl (List.mem_singleton.mp z)) .inr)) a r)
    exact (RO.cn rfl).mpr ⟨pp, xs', fps, _, rfl, ⟨⟨kk', m4, m2, m3, rfl⟩, by rw [upd_same]; exact congrArg (fun z => some (HO.dK z)) m1⟩, by rw [pf], p3⟩
end

/-! d.update(d2) -/
section
variable {X : Cx}
def rUpd : V → List V → Hp → VK → Prop := fun x vs H Q => ∃ (d o : Addr) (kvs more : List (Key × V)), x = .ref d ∧ vs = [.ref o] ∧ d ≠ o ∧ H d = some (.dK kvs) ∧ Rd H o (.dK more) ∧ kvs.length + more.length ≤ sizeLine ∧ Q .non (upd H d (.dK (mergeK kvs more)))
theorem mt_updD : MtM X "dict.update" rUpd := by
  intro pins s σ H x vs v us Q I rx rv h
  obtain ⟨d, o, kvs, more, rfl, rfl, hne, hd, ho, hz, q⟩ := h
  cases rx
  obtain ⟨u, rfl, ru⟩ := rv.one
  cases ru
  obtain ⟨z1, s1, vs1, r1, d1⟩ := dk_of I.hok hd
  obtain ⟨z2, s2, vs2, r2, d2⟩ := dk_rd I.hok ho
  refine call_meetsIn PySem.F.slot_dict_update d1.typeIs PySem.F.entry_dict_update (PySem.F.args_dict_update_2 _ _) (meets_dict_update (mixKind X.prog X.w) d o hne s2) ⟨vs1, vs2, d1, d2, by rw [← r1.length, ← r2.length]; exact hz, fun h' d1' d2' sb => ?_⟩
  have he : ∃ q, h'.get? d = some q := let ⟨q, _, _, hq, _⟩ := d1'; ⟨q, hq⟩
  have := length_mergeK more kvs
  exact ⟨.non, _, d_write (t' := s.toks) I (by rw [hd]; exact True.intro) sb he (dk_new (by omega) s1 (r2.merge r1) d1'), rfl, q⟩
end
section
variable {X : Cx} {W : WX} {kr : RM} {L Lb : List Nat} {n n2 m k i : Nat} {pos apos cpos : Pos} {e e0 ei : Expr} {es : List Expr} {f g fi : EF} {fs : Px.Env → Res (List D)} {pf : PLF}
def sUpdP (i : Nat) (pf : PLF) (f : EF) : SF := fun ρ => (pf ρ).flow ρ fun l => match l.1 with
  | .dic false ks vs => (f ρ).flow ρ fun d => (match d with
    | .dic false ks2 vs2 => if vs.length + vs2.length ≤ sizeLine then .next (ρ.set i (some (l.2 (.dic false (mergeD (ks, vs) ks2 vs2).1 (mergeD (ks, vs) ks2 vs2).2)))) else .err
    | _ => .err)
  | _ => .err
theorem dic_key {K : PySem.W.Frag} {xs : List V} {ks vs : List D} {o : HO} (h : CnO K (.dic false ks vs) xs o) : ∃ kk : List Key, ks = kk.map dKey ∧ kk.length = xs.length ∧ kk.Nodup ∧ o = .dK (kk.zip xs) := h
theorem zip_map1 {α β : Type} : ∀ {as : List α} {bs : List β}, as.length = bs.length → (as.zip bs).map (·.1) = as
  | [], [], _ => rfl
  | a :: as, b :: bs, h => by rw [List.zip_cons_cons, List.map_cons, zip_map1 (by simpa using h)]
  | [], _ :: _, h => by simp at h
  | _ :: _, [], h => by simp at h
theorem zip_map2 {α β : Type} : ∀ {as : List α} {bs : List β}, as.length = bs.length → (as.zip bs).map (·.2) = bs
  | [], [], _ => rfl
  | a :: as, b :: bs, h => by rw [List.zip_cons_cons, List.map_cons, zip_map2 (by simpa using h)]
  | [], _ :: _, h => by simp at h
  | _ :: _, [], h => by simp at h
theorem sj_updP (hp : EPl X W L i 1 e0 pf) (he : EB X W L 0 e f)
    (hbase : attributeBase e0 "update" X.env (eval e0 X.env) = eval e0 X.env := by rfl)
    (hfew : ((backTo cpos (starEach [e] X.env)).all (fun x => !x.1) && (backToKw cpos (keywordEach [] X.env)).all (fun x => x.1.isSome)
      && decide ([e].length + ([] : List Keyword).length + (if ([] : List Keyword).isEmpty then 0 else 1) < 30)) = true := by rfl)
    (hline : (apos.endLine == cpos.line) = true := by rfl) (hs : starEach [e] X.env = (false, eval e X.env) :: starEach [] X.env := by rfl) (hplain : (backTo cpos (starEach [] X.env)).any (·.1) = false := by rfl)
    (hsw : swapsWith (.Call (.Attribute e0 "update" apos) [e] [] cpos) none pos.line X.env = pure false := by rfl) :
    SJ X W kr Lb L L (.Expr (.Call (.Attribute e0 "update" apos) [e] [] cpos) pos) (sUpdP i pf f) :=
  PS.imp (ps_expr (pe_bm PySem.F.plainAttrs_dict PySem.F.slot_dict_update PySem.F.type_dict_update mt_updD hp (pa_cons he pa_nil hs) hbase hfew hline hs hplain) hsw) fun Dn σ H ⟨ex0, Gs, ρ, fp, S, o⟩ => by
    unfold sUpdP at o
    refine ⟨_, ρ, fp, S.si, (flow_out S o).mono fun l q vi v g H1 hvi e1 F => ?_⟩
    obtain ⟨l1, l2⟩ := l
    cases l1 with
    | dic t ks vs0 =>
      cases t with
      | true => exact q.elim
      | false =>
        obtain ⟨a0, ws0, fps0, o0, rfl, ⟨c0, h20⟩, _, _⟩ := (RO.cn rfl).mp F.ro
        obtain ⟨kk0, _, _, _, rfl⟩ := dic_key c0
        refine ⟨.inr (.inr (.inl ⟨rfl, .inl ⟨_, e1 _ _ h20⟩⟩)), _, ρ, fp, S.si.same e1, ((flow_out S q).later e1).mono fun d q2 vn H2 e2 r2 => ?_⟩
        cases d with
        | dic t2 ks2 vs2 =>
          cases t2 with
          | true => exact q2.elim
          | false =>
            have q3 : FOut X W kr Lb L ex0 Gs Dn (if vs0.length + vs2.length ≤ sizeLine then .next (ρ.set i (some (l2 (.dic false (mergeD (ks, vs0) ks2 vs2).1 (mergeD (ks, vs0) ks2 vs2).2)))) else .err) := q2
            split at q3
            · rename_i hlt
              obtain ⟨a, ws, fps, o, ev, h1, h2, h3, n1, n2, old, new, fin⟩ := S.place (e1.trans e2) hvi [] (fun b hb => nomatch hb) (F.later (e1.trans e2) (exq fun b hb => nomatch hb)) rfl
              cases ev
              obtain ⟨kk, rfl, hl, nd, rfl⟩ := dic_key h1
              obtain ⟨b, us, rfl, cx, ru⟩ := (R.cn rfl).mp (show R X.K (exOf fp ex0) H2 (.dic false ks2 vs2) vn from r2)
              have hai : exOf fp ex0 a0 := by
                obtain ⟨a1, _, _, _, ev1, _, eg1, _⟩ := (RO.cn rfl).mp F.ro
                cases ev1
                exact .inl ⟨i, F.sub _ (by rw [eg1]; exact List.mem_cons_self)⟩
              rcases cx with ⟨o2, c2, rd2, nx2⟩ | ⟨⟨_, z⟩, _⟩
              · obtain ⟨kk2, rfl, hl2, nd2, rfl⟩ := dic_key c2
                have hv0 : vs0.length = ws.length := h3.length
                have hv2 : vs2.length = us.length := RL.length ru
                obtain ⟨kk', xs', m1, m2, m3, m4, m5⟩ := merge_zip (F := R X.K (exOf fp ex0) H2) (kk2.zip us) vs2 kk vs0 ws (by rw [zip_map2 hl2]; exact RL.pair ru) ((p3_zero (P3.mono (fun d u c r => (by
                  rw [RO] at r ⊢
                  exact ⟨r.1, R.less (fun b hb => .inl (.inr hb)) r.2⟩ : RO X.K (exOf fp ex0) H2 0 d u c)) h3)).2) hl nd
                rw [show ((kk2.zip us).map fun q => dKey q.1) = kk2.map dKey from by
                  have := congrArg (List.map dKey) (zip_map1 hl2)
                  rw [List.map_map] at this
                  exact this] at m4 m5
                have kp : Keep (exOf fp ex0) H2 (L2.upd H2 a0 (.dK (mergeK (kk.zip ws) (kk2.zip us)))) := Keep.upd (Same.refl _) h2 (fun _ q => nomatch q) hai
                obtain ⟨fps', p3, pf⟩ := of_pair (m5.mono fun a b r => R.keep (ex' := fun b => b ∈ ([] : List Addr) ∨ exOf fp ex0 b) kp (fun b hb => .inl (hb.elim (fun z => nomatch z) fun z => z)) a r)
                obtain ⟨fp', S', _⟩ := fin (.dK (mergeK (kk.zip ws) (kk2.zip us))) (.dic false _ _) xs' fps' ⟨kk', m4, m2, m3, by rw [m1]⟩ rfl p3 (by rw [pf]; exact List.nodup_nil) (fun b hb => by rw [pf] at hb; cases hb)
                refine ⟨a0, b, _, _, rfl, rfl, fun z => nx2 (by rw [← z]; exact hai), h2, rd2.rd, ?_, q3 _ _ _ S'⟩
                rw [List.length_zip, List.length_zip]
                omega
              · cases z
            · exact q3.elim
        | _ => exact q2.elim
    | _ => exact q.elim
end
end Px

namespace Px
open PySem PySem.Spec PyProof.Rows L2
/-! ### sorted(set(x)), len(set(x)) of a list or tuple of ints -/
section
variable {P : Program} {w : World} {A : Around} {E : Value → Shared → Prop} {s : Shared}
def newSet (w : World) : Obj := { cls := .type "set", dict := none, data := .set #[] 0 (.fresh 0 0 (!w.params.followText "set-order")) }
abbrev SetDone (w : World) (s : Shared) (ns : List Int) (r : Value) (z : Shared) : Prop := r = .none ∧ ∃ (g : Heap) (tk c : Nat), z = { s with heap := g, toks := tk } ∧ SetR w g s.heap.objs.size (fun j => decide (j ∈ ns)) c ∧ c ≤ ns.length ∧ ∀ b o, s.heap.get? b = some o → g.get? b = some o
theorem set_lst {l : Addr} {its : Array Value} {ns : List Int} {Q : Value → Shared → Prop} (hd : A.handled = none) (hi : IntsAre its.toList ns) (room : ns.length + 1 < scanBound) (hl : s.heap.IsList l its)
    (fin : ∀ (g : Heap) (tk c : Nat), SetR w g s.heap.objs.size (fun j => decide (j ∈ ns)) c → c ≤ ns.length → (∀ b o, s.heap.get? b = some o → g.get? b = some o) → Q (.ref s.heap.objs.size) { s with heap := g, toks := tk }) :
    wpAny (model P w) A (call (.type "set") [.ref l]) Q E s := by
  have lens : its.size = ns.length := Array.length_toList.symm.trans (IntsAre.length hi)
  have f1 := F.called_set.notType; have f2 := F.called_set.canCreate; have f3 := F.typeCall_set_1 (.ref l)
  have f4 := F.called_set.made; have f5 := F.called_set.sub
  obtain ⟨_, _, f6⟩ := F.called_set.mro
  refine wpAny_call (codeAny_of_tree (show wpAny _ _ (callAny (.type "set") _) _ _ _ from wpAny_pure ⟨Code.quiet_builtin _ (by decide +kernel), codeAny_builtin F.entry_type_call ?_⟩))
  rw [Around.under_plain (weight_type_call_type "set" [.ref l] []) rfl]
  repeat (any_goals (first | assumption | wp_step))
  have hN : (s.heap.push (newSet w)).get? s.heap.objs.size = some (newSet w) := Heap.get?_push_size _ rfl
  refine codeAny_mono (code_set_led1 (.ref l) (E := E) (Q₁ := fun r z => r = .ref s.heap.objs.size ∧ z = { s with heap := s.heap.push (newSet w) }) ⟨rfl, rfl⟩) fun r z hr => ?_
  rcases r with e | r
  · exact hr
  cases r <;> try exact hr.elim
  obtain ⟨rfl, rfl⟩ := hr
  have ty : Shared.TypeIs { s with heap := s.heap.push (newSet w) } (.ref s.heap.objs.size) "set" := ⟨_, hN, rfl⟩
  have g1 := F.called_set.init.lookup; have g2 := F.called_set.init.bind (.ref s.heap.objs.size)
  repeat (any_goals (first | assumption | wp_step))
  refine codeAny_mono (codeAny_call_builtin (R := wants (SetDone w s ns) E) F.called_set.init.plain F.entry_set_init (check_set_init_1 ty ?_)) fun r2 z2 h2 => ?_
  · obtain ⟨⟨oc, od, odat, osl⟩, hol, hcl, nl, hdl⟩ := hl
    simp only at hcl hdl
    subst hcl hdl
    have hol' : (s.heap.push (newSet w)).get? l = some { cls := .type "list", dict := od, data := .seq its nl, slots := osl } := Heap.get?_push_of_some _ hol
    have k1 := F.sub_list_set; have k2 := F.sub_list_frozenset
    have k3 : (Value.type "list" == Value.type "dict") = false := by decide
    have hl1 : (s.heap.push (newSet w)).IsList l its := ⟨_, hol', rfl, nl, rfl⟩
    unfold Builtin.«set.__init__» noKeywords Builtin.Frozenset.updateFrom
    generalize hPI : pyIter = PI
    wp_walk
    subst hPI
    refine wpAny_pyIter_list hl1 (wpAny_bind (wpAny_runValue ?_))
    have lt : l < s.heap.objs.size := Heap.lt_size hol
    have sz : (s.heap.push (newSet w)).objs.size = s.heap.objs.size + 1 := Heap.size_push ..
    have neI : l ≠ (s.heap.push (newSet w)).objs.size := by rw [sz]; exact Nat.ne_of_lt (Nat.lt_succ_of_lt lt)
    have nin : s.heap.objs.size ∉ [(s.heap.push (newSet w)).objs.size, l] := by
      rw [sz]; simp only [List.mem_cons, List.not_mem_nil, or_false, not_or]; exact ⟨Nat.ne_of_lt (Nat.lt_succ_self _), Nat.ne_of_gt lt⟩
    have val : ∀ (i : Nat) (v : Value), its[i]? = some v → ∃ k t, ns[i]? = some k ∧ v = .int k t := fun i v hv => by
      have lti : i < ns.length := by rw [← lens]; exact (Array.getElem?_eq_some_iff.mp hv).1
      obtain ⟨t, et⟩ := PyProof.Rows.IntsAre.int_at hi i v (by rw [Array.getElem?_toList]; exact hv)
      exact ⟨ns[i], t, List.getElem?_eq_getElem lti, by rw [et, List.getD_eq_getElem?_getD, List.getElem?_eq_getElem lti]; rfl⟩
    refine set_update_ints ((Walks.list (show A.in1.in1.in1.handled = none by simp [hd]) _ l neI its).toS) s.heap.objs.size nin ns lens room val (its.size - 0) 0 _ (by omega) (Nat.zero_le _) ⟨⟨_, Heap.get?_push_size _ rfl, rfl, rfl⟩, hl1.push _⟩ ⟨0, Nat.le_refl 0, setR_new_at (Heap.get?_push_of_some _ hN)⟩ ?_
    rintro ⟨g, gg, dd, tk, os⟩ c mv lc R
    obtain rfl : gg = s.gens := mv.gens
    obtain rfl : dd = s.drawn := mv.drawn
    obtain rfl : os = s.os := mv.os
    refine wpAny_pure (wpAny_pure ⟨rfl, g, tk, c, rfl, R, by rw [← lens]; exact lc, fun b o e => mv.heap b o ?_ (Heap.get?_push_of_some _ (Heap.get?_push_of_some _ e))⟩)
    have lb : b < s.heap.objs.size := Heap.lt_size e
    simp only [List.mem_cons, List.not_mem_nil, or_false, not_or, sz]; exact ⟨Nat.ne_of_lt lb, Nat.ne_of_lt (Nat.lt_succ_of_lt lb)⟩
  · rcases r2 with e | r2
    · exact h2
    cases r2 <;> try exact h2.elim
    obtain ⟨rfl, g, tk, c, rfl, R, lc, kp⟩ := h2
    repeat (any_goals (first | assumption | wp_step))
    exact fin _ _ _ R lc kp
end
end Px

namespace Px
open PySem PySem.Spec PyProof.Rows L2
/-! the members, once each, in order -/
def insU (k : Int) : List Int → List Int
  | [] => [k]
  | j :: r => if k < j then k :: j :: r else if k = j then j :: r else j :: insU k r
def srtU (ns : List Int) : List Int := ns.foldr insU []
theorem mem_insU {k x : Int} : ∀ {l : List Int}, x ∈ insU k l ↔ x = k ∨ x ∈ l
  | [] => by simp [insU]
  | j :: r => by
    unfold insU
    split
    · simp
    · split
      · rename_i h
        subst h
        simp
      · simp only [List.mem_cons, mem_insU (l := r)]
        constructor
        · rintro (h | h | h) <;> simp [h]
        · rintro (h | h | h) <;> simp [h]
theorem pw_insU {k : Int} : ∀ {l : List Int}, l.Pairwise (· < ·) → (insU k l).Pairwise (· < ·)
  | [], _ => by simp [insU]
  | j :: r, h => by
    obtain ⟨h1, h2⟩ := List.pairwise_cons.mp h
    unfold insU
    split
    · rename_i q
      refine List.pairwise_cons.mpr ⟨fun x hx => ?_, h⟩
      rcases List.mem_cons.mp hx with e | e
      · omega
      · have := h1 x e
        omega
    · split
      · exact h
      · refine List.pairwise_cons.mpr ⟨fun x hx => ?_, pw_insU h2⟩
        rcases mem_insU.mp hx with e | e
        · omega
        · exact h1 x e
theorem mem_srtU {x : Int} : ∀ {ns : List Int}, x ∈ srtU ns ↔ x ∈ ns
  | [] => by simp [srtU]
  | n :: ns => by
    show x ∈ insU n (srtU ns) ↔ _
    rw [mem_insU, mem_srtU, List.mem_cons]
theorem pw_srtU : ∀ ns : List Int, (srtU ns).Pairwise (· < ·)
  | [] => List.Pairwise.nil
  | n :: ns => pw_insU (pw_srtU ns)
theorem len_insU {k : Int} : ∀ {l : List Int}, (insU k l).length ≤ l.length + 1
  | [] => by simp [insU]
  | j :: r => by
    unfold insU
    split
    · simp
    · split
      · simp
      · have := len_insU (k := k) (l := r)
        simp only [List.length_cons]
        omega
theorem len_srtU : ∀ ns : List Int, (srtU ns).length ≤ ns.length
  | [] => Nat.le_refl _
  | n :: ns => by
    have := len_insU (k := n) (l := srtU ns)
    have := len_srtU ns
    show (insU n (srtU ns)).length ≤ _
    rw [List.length_cons]
    omega
theorem pw_ext : ∀ {l1 l2 : List Int}, l1.Pairwise (· < ·) → l2.Pairwise (· < ·) → (∀ k, k ∈ l1 ↔ k ∈ l2) → l1 = l2
  | [], [], _, _, _ => rfl
  | [], b :: _, _, _, h => by have := (h b).mpr List.mem_cons_self; cases this
  | a :: _, [], _, _, h => by have := (h a).mp List.mem_cons_self; cases this
  | a :: r, b :: t, h1, h2, h => by
    obtain ⟨a1, a2⟩ := List.pairwise_cons.mp h1
    obtain ⟨b1, b2⟩ := List.pairwise_cons.mp h2
    have e : a = b := by
      rcases List.mem_cons.mp ((h a).mp List.mem_cons_self) with q | q
      · exact q
      · rcases List.mem_cons.mp ((h b).mpr List.mem_cons_self) with z | z
        · exact z.symm
        · have := a1 b z
          have := b1 a q
          omega
    subst e
    rw [pw_ext a2 b2 fun k => ?_]
    constructor
    · intro hk
      rcases List.mem_cons.mp ((h k).mp (List.mem_cons_of_mem _ hk)) with q | q
      · have := a1 k hk
        omega
      · exact q
    · intro hk
      rcases List.mem_cons.mp ((h k).mpr (List.mem_cons_of_mem _ hk)) with q | q
      · have := b1 k hk
        omega
      · exact q
def iOf : D → Option Int
  | .int i => some i
  | _ => none
def iOfs : List D → Option (List Int)
  | [] => some []
  | d :: ds => match iOf d, iOfs ds with
    | some k, some ks => some (k :: ks)
    | _, _ => none
theorem iOfs_eq : ∀ {ds : List D} {ns : List Int}, iOfs ds = some ns → ds = ns.map .int
  | [], _, h => by cases h; rfl
  | d :: ds, ns, h => by
    rw [iOfs] at h
    split at h
    · rename_i a r h1 h2
      cases h
      cases d <;> cases h1
      rw [iOfs_eq h2]
      rfl
    · cases h
theorem iOfs_map : ∀ ns : List Int, iOfs (ns.map .int) = some ns
  | [] => rfl
  | n :: ns => by rw [List.map_cons, iOfs, iOfs_map ns]; rfl
def setOf (g : List Int → D) : D → Res D
  | .lst xs => match iOfs xs with
    | some ns => if ns.length < 64 then .ok (g (srtU ns)) else .err
    | none => .err
  | .tup xs => match iOfs xs with
    | some ns => if ns.length < 64 then .ok (g (srtU ns)) else .err
    | none => .err
  | _ => .err
def dSortedSet : D → Res D := setOf fun l => .lst (l.map .int)
def dLenSet : D → Res D := setOf fun l => .int l.length
theorem int_vals {K : PySem.W.Frag} {ex : AS} {H : Hp} {n : Nat} : ∀ {ns : List Int} {xs : List V}, Paired (RB K ex H n) (ns.map D.int) xs → xs = ns.map V.int
  | [], _, h => by cases h; rfl
  | k :: r, _, h => by
    rw [List.map_cons] at h
    cases h with
    | cons x t => rw [List.map_cons, ← int_vals t, RB.int x]
section
variable {X : Cx} {W : WX} {L : List Nat} {n k : Nat} {p p2 q pos : Pos} {a : Expr} {f : EF} {σ : L2.St} {s : Shared} {pins : List (Addr × Obj)} {H : Hp} {E : Value → Shared → Prop}
/-- set(x): a set of the ints, that stands somewhere new -/
theorem set_of {ns : List Int} {v : V} {u : Value} {d : D} {ex : AS} {Q : Value → Shared → Prop} (hc : X.calm = true) (I : Inv X pins σ H s) (r : RB X.K ex H 1 d v) (rv : RelV v u) (hd : d = .lst (ns.map .int) ∨ d = .tup (ns.map .int)) (hl : ns.length < 64)
    (fin : ∀ (g : Heap) (tk c : Nat), SetR X.w g s.heap.objs.size (fun j => decide (j ∈ ns)) c → c ≤ ns.length → (∀ b o, s.heap.get? b = some o → g.get? b = some o) → Q (.ref s.heap.objs.size) { s with heap := g, toks := tk }) :
    wpAny (model X.prog X.w) X.A (call (.type "set") [u]) Q E s := by
  have room : ns.length + 1 < scanBound := by unfold scanBound; omega
  rcases hd with rfl | rfl
  · obtain ⟨b, xs, rfl, sq, _, hp⟩ := RB.lst r
    rw [int_vals hp] at sq
    cases rv
    obtain ⟨its, rr, pl, _⟩ := I.list sq
    exact set_lst (I.ok.hd hc) (by simpa using RZ.intsAre_vals rr) room pl.isList fin
  · obtain ⟨b, xs, rfl, sq, _, hp⟩ := RB.tup r
    rw [int_vals (n := 0) hp] at sq
    cases rv
    obtain ⟨its, rr, pl, _⟩ := I.tuple sq
    exact call_set_tupI ns (I.ok.hd hc) pl (by simpa using RZ.intsAre_vals rr) room fin
theorem setOf_ok {g : List Int → D} {d r : D} (h : setOf g d = .ok r) : ∃ ns, (d = .lst (ns.map .int) ∨ d = .tup (ns.map .int)) ∧ ns.length < 64 ∧ r = g (srtU ns) := by
  unfold setOf at h
  split at h
  · split at h
    · rename_i ns e
      split at h
      · rename_i hl
        cases h
        exact ⟨ns, .inl (by rw [iOfs_eq e]), hl, rfl⟩
      · cases h
    · cases h
  · split at h
    · rename_i ns e
      split at h
      · rename_i hl
        cases h
        exact ⟨ns, .inr (by rw [iOfs_eq e]), hl, rfl⟩
      · cases h
    · cases h
  · cases h
theorem setOf_nx {g : List Int → D} : NoX1 (setOf g) := fun a c h => by
  unfold setOf at h
  split at h
  · split at h
    · split at h <;> cases h
    · cases h
  · split at h
    · split at h <;> cases h
    · cases h
  · cases h
def rSetI (K : PySem.W.Frag) (w : World) : List V → Hp → VK → Prop := fun xs H Q => ∃ (ex : AS) (d : D) (v : V) (ns : List Int), xs = [v] ∧ RB K ex H 1 d v ∧ (d = .lst (ns.map .int) ∨ d = .tup (ns.map .int)) ∧ ns.length < 64 ∧
  ∀ p c, H p = none → c ≤ ns.length → Q (.ref p) (upd H p (SetO w p (fun j => decide (j ∈ ns)) c))
theorem cr_setI (hc : X.calm = true) : CallR X (.type "set") (rSetI X.K X.w) := by
  intro pins s σ H xs us Q I r h
  obtain ⟨ex, d, v, ns, rfl, rb, hd, hl, q⟩ := h
  obtain ⟨u, rfl, ru⟩ := Vals.one r
  exact set_of hc I rb ru hd hl fun g tk c R lc kp => ⟨.ref s.heap.objs.size, _, I.laid (a := s.heap.objs.size) (o := SetO X.w s.heap.objs.size (fun j => decide (j ∈ ns)) c) (t' := tk) kp (Nat.le_refl _) (setO_new R), rfl, q _ c (I.hok.fresh (Nat.le_refl _)) lc⟩
def rLenSet (w : World) : List V → Hp → VK → Prop := fun vs H Q => ∃ (a : Addr) (S : Int → Bool) (n : Nat), vs = [V.ref a] ∧ H a = some (SetO w a S n) ∧ n < 64 ∧ ∀ ks : List Int, ks.Nodup → (∀ k : Int, k ∈ ks ↔ S k = true) → ks.length = n → Q (.int n) H
theorem cr_lenSet : CallR X (.builtin "len") (rLenSet X.w) := by
  intro pins s σ H xs us Q I r h
  obtain ⟨a, S, n, rfl, ha, hl, q⟩ := h
  rw [Vals.ref1 r]
  obtain ⟨o, es, ep, t, ho, hex, hd, g, nd, hm, hb, hf, hn, hr, hle⟩ := setO_get I ha
  exact call_len_set ho hex hd hf (by rw [hn]; omega) ⟨.int n, H, I.tok _, ⟨_, by rw [hn]⟩, q _ nd (fun k => (hm k).symm) (by rw [List.length_map, Array.length_toList]; exact hn)⟩
theorem nodup_len {l1 l2 : List Int} (h1 : l1.Nodup) (h2 : l2.Nodup) (h : ∀ k, k ∈ l1 ↔ k ∈ l2) : l1.length = l2.length := by
  have : l1.Perm l2 := (List.perm_ext_iff_of_nodup h1 h2).mpr h
  exact this.length_eq
theorem pw_nodup {l : List Int} (h : l.Pairwise (· < ·)) : l.Nodup := h.imp fun {a b} q e => by omega
theorem eo_sortedSet (hc : X.calm = true) (hg : Gl X "sorted") (hm : X.mg "sorted" = none) (hg2 : Gl X "set") (hm2 : X.mg "set" = none) (ha : EB X W L 1 a f)
    (na : starEach [a] X.env = (false, eval a X.env) :: starEach [] X.env := by rfl) : EO X W L 1 (.Call (.Name "sorted" p) [.Call (.Name "set" p2) [a] [] q] [] pos) (eUn dSortedSet f) :=
  PE.imp (pe_callB (cr_sortedSet hc) hg hm (by decide +kernel) (pa_cons (pe_callTy (cr_setI hc) hg2 hm2 (by decide +kernel) (pa_cons ha pa_nil na) (by decide) (by decide) na rfl) pa_nil rfl) (by decide) (by decide) rfl rfl) fun σ H Q ⟨ex, ρ, fp, I, o⟩ => by
    refine ⟨ex, ρ, fp, I, o.bind.mono fun d q v H1 e1 r1 => ?_⟩
    obtain ⟨z, ez, qz⟩ := no_exc q (setOf_nx d)
    obtain ⟨ns, hd, hl, rfl⟩ := setOf_ok ez
    refine ⟨ex, d, v, ns, rfl, r1, hd, hl, fun p c hp lc => ⟨p, _, c, rfl, upd_same, by omega, fun ks p2 pw hk hn hp2 => ?_⟩⟩
    have e : ks = srtU ns := pw_ext pw (pw_srtU ns) fun k => by rw [hk k, mem_srtU]; simp
    subst e
    have e2 : Same H1 (upd H1 p (SetO X.w p (fun j => decide (j ∈ ns)) c)) := same_upd hp
    have := len_srtU ns
    refine QO.lst (K := X.K) (ex := ex) (fun v H3 fq e3 ro nd nw => qz v H3 fq (e1.trans (e2.trans e3)) ro nd fun a ha => e1.free (e2.free (nw a ha))) ?_ hp2 (by rw [List.length_map, sizeLine_eq]; omega)
    exact RL.pair (rl_ints _)
theorem eo_lenSet (hc : X.calm = true) (hg : Gl X "len") (hm : X.mg "len" = none) (hg2 : Gl X "set") (hm2 : X.mg "set" = none) (ha : EB X W L 1 a f)
    (na : starEach [a] X.env = (false, eval a X.env) :: starEach [] X.env := by rfl) : EO X W L k (.Call (.Name "len" p) [.Call (.Name "set" p2) [a] [] q] [] pos) (eUn dLenSet f) :=
  PE.imp (pe_callB cr_lenSet hg hm (by decide +kernel) (pa_cons (pe_callTy (cr_setI hc) hg2 hm2 (by decide +kernel) (pa_cons ha pa_nil na) (by decide) (by decide) na rfl) pa_nil rfl) (by decide) (by decide) rfl rfl) fun σ H Q ⟨ex, ρ, fp, I, o⟩ => by
    refine ⟨ex, ρ, fp, I, o.bind.mono fun d q v H1 e1 r1 => ?_⟩
    obtain ⟨z, ez, qz⟩ := no_exc q (setOf_nx d)
    obtain ⟨ns, hd, hl, rfl⟩ := setOf_ok ez
    refine ⟨ex, d, v, ns, rfl, r1, hd, hl, fun p c hp lc => ⟨p, _, c, rfl, upd_same, by omega, fun ks nd hk hn => ?_⟩⟩
    have e : ks.length = (srtU ns).length := nodup_len nd (pw_nodup (pw_srtU ns)) fun k => by rw [hk k, mem_srtU]; simp
    have e2 : Same H1 (upd H1 p (SetO X.w p (fun j => decide (j ∈ ns)) c)) := same_upd hp
    have hz : (V.int (c : Int)) = .int ((srtU ns).length : Int) := by rw [← hn, e]
    rw [hz]
    exact QO.int (K := X.K) (ex := ex) (k := k) (fun v H3 fq e3 ro nd nw => qz v H3 fq (e1.trans (e2.trans e3)) ro nd fun a ha => e1.free (e2.free (nw a ha)))
end
end Px

namespace Px
open PySem PySem.Spec PyProof.Rows L2
/-! ### clauses as plain data; facts of one's own at the end -/
abbrev ClB := List Str × Option Nat × (Str → SF)
def pickB : List ClB → Str → Px.Env → Px.Flow
  | [], c, ρ => .exc c ρ
  | (l, none, G) :: r, c, ρ => if c ∈ l then G c ρ else pickB r c ρ
  | (l, some i, G) :: r, c, ρ => if c ∈ l then (if i < ρ.length then unE i (G c (ρ.set i none)) else .err) else pickB r c ρ
def sTryB (us : List Str) (F : SF) (hs : List ClB) : SF := fun ρ => match F ρ with
  | .exc c ρ' => if c ∈ us then pickB hs c ρ' else .err
  | r => r
theorem pickA_B : ∀ (hs : List Cl) (c : Str) (ρ : Px.Env), pickA hs c ρ = pickB (hs.map (·.2)) c ρ
  | [], _, _ => rfl
  | (_, l, none, G) :: r, c, ρ => by
    show (if c ∈ l then _ else _) = (if c ∈ l then _ else _)
    rw [pickA_B r]
  | (_, l, some i, G) :: r, c, ρ => by
    show (if c ∈ l then _ else _) = (if c ∈ l then _ else _)
    rw [pickA_B r]
section
variable {X : Cx} {W : WX} {kr : RM} {Lb L L' : List Nat}
theorem sj_tryB {body : List Stmt} {h₀ : ExceptHandler} {hds : List ExceptHandler} {pos : Pos} {F : SF} {us : List Str} (hs : List Cl) (hst : X.stack = X.env :: X.outer) (hf : X.env.frame = some X.env.locals) (tk : Takes X W)
    (hm : ∀ c ∈ us, ∀ h ∈ hs, ∀ C, X.mg c = some (.ref C) → PySem.W.exmOne X.K (.ref C) h.1 = some (decide (c ∈ h.2.1)))
    (hb : ∀ (W' : WX) (pn : List (Addr × Obj)) (xe : Value → Shared → Prop), Takes (X.tr pn xe) W' → PassesOwn (model X.prog X.w) X.A X.env xe → SJs (X.tr pn xe) W' kr Lb L L' body F)
    (hh : HdsA X (h₀ :: hds) (hs.map (clT X W kr Lb L'))) {hs' : List ClB} (e : hs.map (·.2) = hs' := by rfl) (h0 : ∀ h ∈ hs, ∀ i, h.2.2.1 = some i → kr.b ≠ some i := by first | exact fun _ _ _ _ => .inl rfl | (intro h hh i hi; right; revert hi; revert i; revert hh; revert h; decide)) : SJ X W kr Lb L L' (.Try body (h₀ :: hds) [] [] pos) (sTryB us F hs') := by
  have : sTryB us F hs' = sTryA us F hs := by
    funext ρ
    unfold sTryB sTryA
    cases F ρ with
    | exc c ρ' => simp only [pickA_B, e]
    | _ => rfl
  rw [this]
  exact sj_tryA hs hst hf tk hm hb hh h0
theorem hc_nA {c : Str} : ∀ h ∈ ([] : List Cl), ∀ C, X.mg c = some (.ref C) → PySem.W.exmOne X.K (.ref C) h.1 = some (decide (c ∈ h.2.1)) := fun h hh => nomatch hh
theorem hc_cA {c : Str} {C V : Addr} {l : List Str} {o : Option Nat} {G : Str → SF} {b : Bool} {hs : List Cl} (hC : X.mg c = some (.ref C)) (m : PySem.W.exmOne X.K (.ref C) (.ref V) = some b) (hb : b = decide (c ∈ l))
    (t : ∀ h ∈ hs, ∀ C, X.mg c = some (.ref C) → PySem.W.exmOne X.K (.ref C) h.1 = some (decide (c ∈ h.2.1))) : ∀ h ∈ ((.ref V, l, o, G) : Cl) :: hs, ∀ C, X.mg c = some (.ref C) → PySem.W.exmOne X.K (.ref C) h.1 = some (decide (c ∈ h.2.1)) := fun h hh C' hC' => by
  rcases List.mem_cons.mp hh with e | e
  · subst e
    cases hC.symm.trans hC'
    rw [← hb]
    exact m
  · exact t h e C' hC'
theorem hm_nA {hs : List Cl} : ∀ c ∈ ([] : List Str), ∀ h ∈ hs, ∀ C, X.mg c = some (.ref C) → PySem.W.exmOne X.K (.ref C) h.1 = some (decide (c ∈ h.2.1)) := fun c hc => nomatch hc
theorem hm_cA {c : Str} {us : List Str} {hs : List Cl} (h1 : ∀ h ∈ hs, ∀ C, X.mg c = some (.ref C) → PySem.W.exmOne X.K (.ref C) h.1 = some (decide (c ∈ h.2.1)))
    (t : ∀ c ∈ us, ∀ h ∈ hs, ∀ C, X.mg c = some (.ref C) → PySem.W.exmOne X.K (.ref C) h.1 = some (decide (c ∈ h.2.1))) : ∀ d ∈ c :: us, ∀ h ∈ hs, ∀ C, X.mg d = some (.ref C) → PySem.W.exmOne X.K (.ref C) h.1 = some (decide (d ∈ h.2.1)) := fun d hd => by
  rcases List.mem_cons.mp hd with e | e
  · subst e
    exact h1
  · exact t d e
/-- a clause's suite that tells whether the error is of a class -/
theorem cl_isB {k i : Nat} {l : List Str} {t : Expr} {q : Pos} {Bc : Str → Bool}
    (h : ∀ c ∈ l, ∀ (C a : Addr) (oe : Obj) (pn : List (Addr × Obj)), X.mg c = some (.ref C) → Zc (.ref C) none oe → (∃ vs, oe.data = .fields vs) → PE (X.suite a ((a, oe) :: pn)) t (fun σ H Q => σ[i]? = some (some (.ref a)) ∧ Q (.bl (Bc c)) H))
    (a : Addr) (oe : Obj) (cls : Value) (d : Option Addr) (pn : List (Addr × Obj)) (hz : Zc cls d oe) (hf : ∃ vs, oe.data = .fields vs) :
    PSs (X.suite a ((a, oe) :: pn)) [.Return (some t) q] (tsE X W (.r k) Lb L' l (some i) (fun c => sRet (eC (.bl (Bc c)))) a cls d) :=
  ⟨fun pins s σ H Dn I w => by
    obtain ⟨rfl, ha, c, C, rfl, hC, hl, hi, ex0, G0, ρ, fp, S, o⟩ := w
    refine (PSs.imp (pss_one (ps_ret (h c hl C a oe pn hC hz hf))) (t' := fun Dn σ H => σ[i]? = some (some (.ref a)) ∧ Dn.rt (.bl (Bc c)) H) fun Dn σ H h => h).run pins s σ H Dn I ⟨hi i rfl, ?_⟩
    exact o _ H [] S.same (RO.flat (by rw [R]) rfl) List.nodup_nil fun b hb => nomatch hb⟩
end
/-! facts that are looked at when the module has run -/
abbrev AlX : Type := He.Al × Bool
def obsX (fa : List He.Fa) (fn : List He.FnD) (xs : List (PySem.W.Frag → Bool)) (K : PySem.W.Frag) : AlX := (He.obsE fa fn K, xs.all fun f => f K)
def SaysX (fa : List He.Fa) (fn : List He.FnD) (xs : List (PySem.W.Frag → Bool)) (K : PySem.W.Frag) : Prop := obsX fa fn xs K = (He.valE fn, true)
def obsXG (n : Nat) (fa : List He.Fa) (fn : List He.FnD) (xs : List (PySem.W.Frag → Bool)) (g : Addr → Option Obj) : AlX := obsX fa fn xs (He.frG g (He.asG g n))
def hookX (n : Nat) (fa : List He.Fa) (fn : List He.FnD) (xs : List (PySem.W.Frag → Bool)) : PySem.W.Hook where
  α := AlX
  obs := fun s => obsXG n fa fn xs s.heap.get?
  val := fun _ => (He.valE fn, true)
  says := fun _ h => ∃ K : PySem.W.Frag, K.In h ∧ SaysX fa fn xs K
  of := fun _ _ e => ⟨_, He.frG_in, e⟩
  keeps := fun _ _ _ ⟨K, hK, c⟩ k => ⟨K, PySem.W.Frag.In.keeps hK k, c⟩
theorem obsXG_eq {n : Nat} {fa : List He.Fa} {fn : List He.FnD} {xs : List (PySem.W.Frag → Bool)} {g : Addr → Option Obj} {s : Shared} (h : ∀ a, g a = s.heap.get? a) : obsXG n fa fn xs g = (hookX n fa fn xs).obs s := by
  have e : g = s.heap.get? := funext h
  rw [e] <;> rfl
section
variable {fa : List He.Fa} {fn : List He.FnD} {xs : List (PySem.W.Frag → Bool)} {K : PySem.W.Frag}
theorem SaysX.e (c : SaysX fa fn xs K) : He.SaysE fa fn K := congrArg (fun z : AlX => z.1) c
theorem SaysX.x (c : SaysX fa fn xs K) (i : Nat) {f : PySem.W.Frag → Bool} (h : xs[i]? = some f := by rfl) : f K = true := List.all_eq_true.mp (congrArg (fun z : AlX => z.2) c) f (List.mem_of_getElem? h)
/-- what isinstance needs of an error's class -/
def excB (x : Str) (K : PySem.W.Frag) : Bool :=
  He.eqO (PySem.W.findIn K (.ref (He.ga K x)) "__getattribute__") (some (some (.builtin "BaseException.__getattribute__"))) && (He.eqO (PySem.W.findIn K (.ref (He.ga K x)) "__getattr__") (some none) && (decide (PySem.W.subIn K (.ref (He.ga K x)) (.type "BaseException") = some true) &&
  (PySem.W.hasDictIn K (He.ga K x) && (He.eqO (PySem.W.findIn K (.ref (He.ga K x)) "__class__") (some (some (.builtin "object.__class__"))) && (He.eqO (PySem.W.specialIn K (.builtin "object.__class__") "__get__") (some (some (.builtin "getset_descriptor.__get__"))) &&
  (decide (PySem.W.takesIn K (.builtin "object.__class__") = some true) && decide (PySem.W.mroIn K (He.ga K x) (.type "object") = some true)))))))
theorem excB_ok {x : Str} (h : excB x K = true) : ExcC K (He.ga K x) := by
  unfold excB at h
  simp only [Bool.and_eq_true, decide_eq_true_eq] at h
  obtain ⟨h1, h2, h3, h4, h5, h6, h7, h8⟩ := h
  exact ⟨He.eqO_ok h1, He.eqO_ok h2, h3, h4, He.eqO_ok h5, He.eqO_ok h6, h7, h8⟩
def kitF (y x : Str) (b : Bool) (K : PySem.W.Frag) : Bool := decide (PySem.W.kitOne K (.ref (He.ga K y)) (.ref (He.ga K x)) = some b)
theorem kitF_ok {y x : Str} {b : Bool} (h : kitF y x b K = true) : PySem.W.kitOne K (.ref (He.ga K y)) (.ref (He.ga K x)) = some b := of_decide_eq_true h
end
end Px

namespace Px
open PySem PySem.Spec PyProof.Rows L2
/-! ### sorted(d), list(d), dict(d): the keys of a dict -/
def sLt (x y : Str) : Bool := ltCps x.cps.toList y.cps.toList
theorem sLt_iff {x y : Str} : sLt x y = true ↔ x.cps.toList < y.cps.toList := by
  unfold sLt
  rw [ltCps_eq, decide_eq_true_eq]
theorem str_ext {x y : Str} (h : x.cps.toList = y.cps.toList) : x = y := by
  cases x
  cases y
  simp at h
  rw [h]
theorem sLt_irr (x : Str) : sLt x x = false := by
  cases h : sLt x x with
  | false => rfl
  | true => exact absurd (sLt_iff.mp h) (List.lt_irrefl _)
theorem sLt_trans {x y z : Str} (h1 : sLt x y = true) (h2 : sLt y z = true) : sLt x z = true := sLt_iff.mpr (List.lt_trans (sLt_iff.mp h1) (sLt_iff.mp h2))
theorem sLt_tri (x y : Str) : sLt x y = true ∨ x = y ∨ sLt y x = true := by
  by_cases h : x.cps.toList < y.cps.toList
  · exact .inl (sLt_iff.mpr h)
  · by_cases h2 : y.cps.toList < x.cps.toList
    · exact .inr (.inr (sLt_iff.mpr h2))
    · exact .inr (.inl (str_ext (List.le_antisymm (List.not_lt.mp h2) (List.not_lt.mp h))))
theorem sLt_asy {x y : Str} (h : sLt x y = true) : sLt y x = false := by
  cases q : sLt y x with
  | false => rfl
  | true => exact absurd (sLt_trans h q) (by rw [sLt_irr]; exact Bool.false_ne_true)
def insS (k : Str) : List Str → List Str
  | [] => [k]
  | j :: r => if sLt k j = true then k :: j :: r else if k = j then j :: r else j :: insS k r
def srtS (ss : List Str) : List Str := ss.foldr insS []
theorem mem_insS {k x : Str} : ∀ {l : List Str}, x ∈ insS k l ↔ x = k ∨ x ∈ l
  | [] => by simp [insS]
  | j :: r => by
    unfold insS
    split
    · simp
    · split
      · rename_i h
        subst h
        simp
      · simp only [List.mem_cons, mem_insS (l := r)]
        constructor
        · rintro (h | h | h) <;> simp [h]
        · rintro (h | h | h) <;> simp [h]
abbrev SrtS (l : List Str) : Prop := l.Pairwise fun a b => sLt a b = true
theorem pw_insS {k : Str} : ∀ {l : List Str}, SrtS l → SrtS (insS k l)
  | [], _ => by simp [insS, SrtS]
  | j :: r, h => by
    obtain ⟨h1, h2⟩ := List.pairwise_cons.mp h
    unfold insS
    split
    · rename_i q
      refine List.pairwise_cons.mpr ⟨fun x hx => ?_, h⟩
      rcases List.mem_cons.mp hx with e | e
      · rw [e]
        exact q
      · exact sLt_trans q (h1 x e)
    · rename_i q
      split
      · exact h
      · rename_i q2
        refine List.pairwise_cons.mpr ⟨fun x hx => ?_, pw_insS h2⟩
        rcases mem_insS.mp hx with e | e
        · rw [e]
          rcases sLt_tri k j with z | z | z
          · exact absurd z q
          · exact absurd z q2
          · exact z
        · exact h1 x e
theorem mem_srtS {x : Str} : ∀ {ns : List Str}, x ∈ srtS ns ↔ x ∈ ns
  | [] => by simp [srtS]
  | n :: ns => by
    show x ∈ insS n (srtS ns) ↔ _
    rw [mem_insS, mem_srtS, List.mem_cons]
theorem pw_srtS : ∀ ns : List Str, SrtS (srtS ns)
  | [] => List.Pairwise.nil
  | n :: ns => pw_insS (pw_srtS ns)
theorem len_insS {k : Str} : ∀ {l : List Str}, (insS k l).length ≤ l.length + 1
  | [] => by simp [insS]
  | j :: r => by
    unfold insS
    split
    · simp
    · split
      · simp
      · have := len_insS (k := k) (l := r)
        simp only [List.length_cons]
        omega
theorem len_srtS : ∀ ns : List Str, (srtS ns).length ≤ ns.length
  | [] => Nat.le_refl _
  | n :: ns => by
    have := len_insS (k := n) (l := srtS ns)
    have := len_srtS ns
    show (insS n (srtS ns)).length ≤ _
    rw [List.length_cons]
    omega
theorem pw_extS : ∀ {l1 l2 : List Str}, SrtS l1 → SrtS l2 → (∀ k, k ∈ l1 ↔ k ∈ l2) → l1 = l2
  | [], [], _, _, _ => rfl
  | [], b :: _, _, _, h => by have := (h b).mpr List.mem_cons_self; cases this
  | a :: _, [], _, _, h => by have := (h a).mp List.mem_cons_self; cases this
  | a :: r, b :: t, h1, h2, h => by
    obtain ⟨a1, a2⟩ := List.pairwise_cons.mp h1
    obtain ⟨b1, b2⟩ := List.pairwise_cons.mp h2
    have e : a = b := by
      rcases List.mem_cons.mp ((h a).mp List.mem_cons_self) with q | q
      · exact q
      · rcases List.mem_cons.mp ((h b).mpr List.mem_cons_self) with z | z
        · exact z.symm
        · exact absurd (b1 a q) (by rw [sLt_asy (a1 b z)]; exact Bool.false_ne_true)
    subst e
    rw [pw_extS a2 b2 fun k => ?_]
    constructor
    · intro hk
      rcases List.mem_cons.mp ((h k).mp (List.mem_cons_of_mem _ hk)) with q | q
      · rw [q] at hk
        exact absurd (a1 a hk) (by rw [sLt_irr]; exact Bool.false_ne_true)
      · exact q
    · intro hk
      rcases List.mem_cons.mp ((h k).mpr (List.mem_cons_of_mem _ hk)) with q | q
      · rw [q] at hk
        exact absurd (b1 a hk) (by rw [sLt_irr]; exact Bool.false_ne_true)
      · exact q
theorem rising_pw : ∀ (p : Str) (l : List Str), risingS p l = true → (p :: l).Pairwise fun a b => sLt b a = false
  | p, [], _ => by simp
  | p, x :: r, h => by
    unfold risingS at h
    rw [Bool.and_eq_true] at h
    have hx : sLt x p = false := by
      have := h.1
      unfold sLt
      cases q : ltCps x.cps.toList p.cps.toList
      · rfl
      · rw [q] at this
        cases this
    have ih := rising_pw x r h.2
    refine List.pairwise_cons.mpr ⟨fun y hy => ?_, ih⟩
    rcases List.mem_cons.mp hy with e | e
    · rw [e]
      exact hx
    · have h2 := (List.pairwise_cons.mp ih).1 y e
      cases q : sLt y p with
      | false => rfl
      | true =>
        rcases sLt_tri x p with z | z | z
        · rw [z] at hx
          cases hx
        · rw [← z, h2] at q
          cases q
        · rw [sLt_trans q z] at h2
          cases h2
theorem sorted_pw {l : List Str} (h : sortedS l = true) (nd : l.Nodup) : SrtS l := by
  have hp : l.Pairwise fun a b => sLt b a = false := by
    cases l with
    | nil => exact List.Pairwise.nil
    | cons x r => exact rising_pw x r h
  refine (hp.and nd).imp fun {a b} ⟨q, ne⟩ => ?_
  rcases sLt_tri a b with z | z | z
  · exact z
  · exact absurd z ne
  · rw [z] at q
    cases q
def sgOf : D → Option Str
  | .str s => some s
  | _ => none
def sgOfs : List D → Option (List Str)
  | [] => some []
  | d :: ds => match sgOf d, sgOfs ds with
    | some k, some ks => some (k :: ks)
    | _, _ => none
theorem sgOfs_eq : ∀ {ds : List D} {ns : List Str}, sgOfs ds = some ns → ds = ns.map .str
  | [], _, h => by cases h; rfl
  | d :: ds, ns, h => by
    rw [sgOfs] at h
    split at h
    · rename_i a r h1 h2
      cases h
      cases d <;> cases h1
      rw [sgOfs_eq h2]
      rfl
    · cases h
theorem sgOfs_map : ∀ ns : List Str, sgOfs (ns.map .str) = some ns
  | [] => rfl
  | n :: ns => by rw [List.map_cons, sgOfs, sgOfs_map ns]; rfl
def fSortedD : List D → Res D
  | [.dic false ks _] => (match iOfs ks with
    | some ns => if ns.length < 64 then .ok (.lst ((srtU ns).map .int)) else .err
    | none => (match sgOfs ks with
      | some ss => if ss.length < 64 then .ok (.lst ((srtS ss).map .str)) else .err
      | none => .err))
  | _ => .err
theorem fSortedD_nx : NoXL fSortedD := fun ds c h => by
  unfold fSortedD at h
  split at h
  · split at h
    · split at h <;> cases h
    · split at h
      · split at h <;> cases h
      · cases h
  · cases h
def fListD : List D → Res D
  | [.dic false ks _] => .ok (.lst ks)
  | _ => .err
theorem fListD_nx : NoXL fListD := fun ds c h => by
  unfold fListD at h
  split at h <;> cases h
def fDictD : List D → Res D
  | [.dic false ks vs] => .ok (.dic false ks vs)
  | _ => .err
theorem fDictD_nx : NoXL fDictD := fun ds c h => by
  unfold fDictD at h
  split at h <;> cases h
theorem rl_strs {K : PySem.W.Frag} {ex : AS} {H : Hp} : ∀ ns : List Str, RL K ex H (ns.map .str) (ns.map V.str)
  | [] => by rw [List.map_nil, List.map_nil, RL]
  | n :: ns => by
    rw [List.map_cons, List.map_cons, RL]
    exact ⟨_, _, rfl, by rw [R], rl_strs ns⟩
theorem keysI : ∀ {kk : List Key} {ns : List Int}, kk.map dKey = ns.map D.int → kk = ns.map Sum.inl
  | [], [], _ => rfl
  | [], _ :: _, h => by cases h
  | _ :: _, [], h => by cases h
  | k :: kk, n :: ns, h => by
    rw [List.map_cons, List.map_cons] at h
    obtain ⟨h1, h2⟩ := List.cons.inj h
    cases k with
    | inl i =>
      cases h1
      rw [List.map_cons, keysI h2]
    | inr s => cases h1
theorem keysS : ∀ {kk : List Key} {ns : List Str}, kk.map dKey = ns.map D.str → kk = ns.map Sum.inr
  | [], [], _ => rfl
  | [], _ :: _, h => by cases h
  | _ :: _, [], h => by cases h
  | k :: kk, n :: ns, h => by
    rw [List.map_cons, List.map_cons] at h
    obtain ⟨h1, h2⟩ := List.cons.inj h
    cases k with
    | inr i =>
      cases h1
      rw [List.map_cons, keysS h2]
    | inl s => cases h1
theorem nd_map {α β : Type} {f : α → β} {l : List α} (h : (l.map f).Nodup) : l.Nodup := List.Pairwise.of_map f (fun _ _ hne e => hne (congrArg f e)) h
theorem rb_dic {K : PySem.W.Frag} {ex : AS} {H : Hp} {n : Nat} {ks vs : List D} {v : V} (r : RB K ex H n (.dic false ks vs) v) : ∃ (a : Addr) (kk : List Key) (xs : List V), v = .ref a ∧ Rd H a (.dK (kk.zip xs)) ∧ ks = kk.map dKey ∧ kk.length = xs.length ∧ kk.Nodup ∧ Paired (RB K ex H (n - 1)) vs xs := by
  obtain ⟨a, xs, rfl, h1, h2⟩ := RB.cnr rfl r
  rcases h1 with ⟨o, c, rd⟩ | ⟨⟨_, z⟩, _⟩
  · obtain ⟨kk, rfl, hl, nd, rfl⟩ := dic_key c
    exact ⟨a, kk, xs, rfl, rd.rd, rfl, hl, nd, h2⟩
  · cases z
section
variable {X : Cx}
theorem c_sortedD (hc : X.calm = true) : CallD X 1 1 (.builtin "sorted") fSortedD := fun pins s σ H xs us Q I r h => by
  obtain ⟨ex, ds, d, ext, rs, e, q⟩ := h
  unfold fSortedD at e
  split at e
  · cases rs with
    | cons r1 t =>
      cases t
      obtain ⟨a, kk, zs, rfl, rd, ek, hl, nd, _⟩ := rb_dic r1
      split at e
      · rename_i ns hn
        split at e
        · rename_i h64
          cases e
          have hk := keysI (ek.symm.trans (iOfs_eq hn))
          rw [hk] at nd
          refine call_sortedDI hc pins s σ H _ us Q I r ⟨a, _, ns, rfl, rd, by rw [zip_map1 hl, hk], h64, fun ys p pm pw hp => ?_⟩
          have ndy : ys.Nodup := pm.nodup_iff.mpr (nd_map nd)
          have pw2 : ys.Pairwise (· < ·) := (pw.and ndy).imp fun {a b} ⟨h1, h2⟩ => by
            have h2 : a ≠ b := h2
            omega
          have e2 : ys = srtU ns := pw_ext pw2 (pw_srtU ns) fun k => by rw [mem_srtU]; exact pm.mem_iff
          subst e2
          have := len_srtU ns
          exact q.lst (RL.pair (rl_ints _)) hp (by rw [List.length_map, sizeLine_eq]; omega)
        · cases e
      · split at e
        · rename_i ss hn
          split at e
          · rename_i h64
            cases e
            have hk := keysS (ek.symm.trans (sgOfs_eq hn))
            rw [hk] at nd
            refine call_sortedD hc pins s σ H _ us Q I r ⟨a, _, ss, rfl, rd, by rw [zip_map1 hl, hk], h64, fun ys p pm pw hp => ?_⟩
            have ndy : ys.Nodup := pm.nodup_iff.mpr (nd_map nd)
            have e2 : ys = srtS ss := pw_extS (sorted_pw pw ndy) (pw_srtS ss) fun k => by rw [mem_srtS]; exact pm.mem_iff
            subst e2
            have := len_srtS ss
            exact q.lst (RL.pair (rl_strs _)) hp (by rw [List.length_map, sizeLine_eq]; omega)
          · cases e
        · cases e
  · cases e
theorem keys_rl {K : PySem.W.Frag} {ex : AS} {H : Hp} : ∀ kk : List Key, Paired (R K ex H) (kk.map dKey) (kk.map kV)
  | [] => .nil
  | .inl i :: r => .cons (by show R K ex H (.int i) (.int i); rw [R]) (keys_rl r)
  | .inr i :: r => .cons (by show R K ex H (.str i) (.str i); rw [R]) (keys_rl r)
theorem c_listD (hc : X.calm = true) : CallD X 1 1 (.type "list") fListD := fun pins s σ H xs us Q I r h => by
  obtain ⟨ex, ds, d, ext, rs, e, q⟩ := h
  unfold fListD at e
  split at e
  · cases rs with
    | cons r1 t =>
      cases t
      cases e
      obtain ⟨a, kk, zs, rfl, rd, rfl, hl, nd, _⟩ := rb_dic r1
      refine call_listD hc pins s σ H _ us Q I r ⟨a, _, rfl, rd, fun p hp => ?_⟩
      have e2 : ((kk.zip zs).map fun kv => kV kv.1) = kk.map kV := by
        have := congrArg (List.map kV) (zip_map1 hl)
        rw [List.map_map] at this
        exact this
      rw [e2]
      have hz : (kk.zip zs).length ≤ sizeLine := (dk_rd I.hok rd).1
      refine q.lst (keys_rl kk) hp ?_
      rw [List.length_zip] at hz
      rw [List.length_map]
      omega
  · cases e
/-- dict(d): a new dict, the same values -/
theorem c_dictD : CallD X 1 1 (.type "dict") fDictD := fun pins s σ H xs us Q I r h => by
  obtain ⟨ex, ds, d, ext, rs, e, q⟩ := h
  unfold fDictD at e
  split at e
  · rename_i ks vs
    cases rs with
    | cons r1 t =>
      cases t
      cases e
      obtain ⟨a, kk, zs, rfl, rd, rfl, hl, nd, hp⟩ := rb_dic r1
      refine call_dictD pins s σ H _ us Q I r ⟨a, _, rfl, rd, fun p hpn => ?_⟩
      obtain ⟨fps, p3, pf⟩ := of_pair (K := X.K) (ex := fun b => b ∈ [p] ∨ ex b) (H := upd H p (.dK (kk.zip zs))) ((show Paired (R X.K ex H) vs zs from hp).mono fun a b r => R.keep (Keep.same (same_upd hpn)) (new_less hpn) a r)
      exact q (.ref p) _ [p] (same_upd hpn) ((RO.cn rfl).mpr ⟨p, zs, fps, _, rfl, ⟨⟨kk, rfl, hl, nd, rfl⟩, upd_same⟩, by rw [pf], p3⟩) (List.nodup_cons.mpr ⟨List.not_mem_nil, List.nodup_nil⟩) fun b hb => by
        rw [List.mem_singleton.mp hb]
        exact hpn
  · cases e
end
end Px

namespace Px
open PySem PySem.Spec PyProof.Rows L2
/-! ### plain tools: loops by a measure, sorted ints, dicts with whole numbers as keys, instances -/
/-- a loop that goes down a measure: each turn goes on, or ends it -/
theorem while_inv {t : Px.Env → Res Bool} {F : SF} {P : Px.Env → Prop} {Q : Px.Flow → Prop} (μ : Px.Env → Nat)
    (st : ∀ ρ, P ρ → (t ρ = .ok false ∧ Q (.next ρ)) ∨ (t ρ = .ok true ∧ ((∃ ρ', (F ρ = .next ρ' ∨ F ρ = .cont ρ') ∧ P ρ' ∧ μ ρ' < μ ρ) ∨ (∃ d, F ρ = .ret d ∧ Q (.ret d))))) :
    ∀ (n : Nat) (ρ : Px.Env), P ρ → μ ρ < n → Q (whileE t F n ρ)
  | 0, _, _, h => by omega
  | n + 1, ρ, h, hm => by
    rw [whileE_succ]
    rcases st ρ h with ⟨e, q⟩ | ⟨e, q⟩
    · rw [e]
      exact q
    · rw [e]
      show Q (loopK (F ρ) (whileE t F n))
      rcases q with ⟨ρ', e2, p, hl⟩ | ⟨d, e2, q⟩
      · have ih := while_inv μ st n ρ' p (by omega)
        rcases e2 with e2 | e2 <;> (rw [e2]; exact ih)
      · rw [e2]
        exact q
theorem toP_N (n : Nat) : toP (dN n) = .int (n : Int) := by
  rw [dN_def, toP]
theorem dLe_N (a b : Nat) : dLe (dN a) (dN b) = decide (a ≤ b) := by
  have e : dLe (dN a) (dN b) = !PySem.W.dataLt (toP (dN b)) (toP (dN a)) := rfl
  rw [e, toP_N, toP_N, PySem.W.dataLt_int]
  by_cases h : a ≤ b
  · rw [decide_eq_true h, decide_eq_false (by omega)]
    rfl
  · rw [decide_eq_false h, decide_eq_true (by omega)]
    rfl
theorem pwN_ext {l1 l2 : List Nat} (h1 : l1.Pairwise (· < ·)) (h2 : l2.Pairwise (· < ·)) (h : ∀ k, k ∈ l1 ↔ k ∈ l2) : l1 = l2 := by
  have e : l1.map Int.ofNat = l2.map Int.ofNat := pw_ext (List.pairwise_map.mpr (h1.imp fun {a b} q => by simpa using q)) (List.pairwise_map.mpr (h2.imp fun {a b} q => by simpa using q)) fun k => by
    simp only [List.mem_map, h]
  exact List.map_inj_right (fun a b q => Int.ofNat.inj q) |>.mp e
theorem allN {xs : List D} {l : List Nat} (h : xs.Perm (l.map dN)) : ∃ m : List Nat, xs = m.map dN ∧ m.Perm l := by
  have : ∀ {xs : List D}, (∀ x ∈ xs, ∃ n, x = dN n) → ∃ m : List Nat, xs = m.map dN := by
    intro xs
    induction xs with
    | nil => exact fun _ => ⟨[], rfl⟩
    | cons x xs ih =>
      intro hx
      obtain ⟨n, rfl⟩ := hx x List.mem_cons_self
      obtain ⟨m, rfl⟩ := ih fun y hy => hx y (List.mem_cons_of_mem _ hy)
      exact ⟨n :: m, rfl⟩
  obtain ⟨m, rfl⟩ := this (xs := xs) fun x hx => by
    obtain ⟨n, _, e⟩ := List.mem_map.mp (h.mem_iff.mp hx)
    exact ⟨n, e.symm⟩
  have inj : ∀ a b : Nat, dN a = dN b → a = b := fun a b e => by
    rw [dN_def, dN_def] at e
    exact Int.ofNat.inj (D.int.inj e)
  refine ⟨m, rfl, ?_⟩
  have := h.map iOf
  rw [List.map_map, List.map_map] at this
  have e : ∀ l : List Nat, l.map (iOf ∘ dN) = (l.map Int.ofNat).map some := fun l => by rw [List.map_map]; rfl
  rw [e, e] at this
  have := (this.map (Option.getD · 0)).map Int.toNat
  simp only [List.map_map] at this
  have e2 : ∀ l : List Nat, l.map (Int.toNat ∘ (fun x : Option Int => x.getD 0) ∘ some ∘ Int.ofNat) = l := fun l => by
    conv => rhs; rw [← List.map_id l]
    exact List.map_congr_left fun a _ => by simp
  have e3 : ∀ l : List Nat, List.map (Int.toNat ∘ (fun x => x.getD 0) ∘ some ∘ Int.ofNat) l = l := e2
  rw [e3, e3] at this
  exact this
theorem sortN {xs l l' : List Nat} (hp : xs.Perm l') (h : l'.Pairwise (· < ·)) : fSorted [.lst (xs.map dN)] = .ok (.lst (l'.map dN)) := by
  have ok : srtOk (xs.map dN) = true := by
    unfold srtOk
    rw [Bool.and_eq_true, Bool.and_eq_true, okL_all]
    refine ⟨⟨List.all_eq_true.mpr fun x hx => ?_, List.all_eq_true.mpr fun x hx => List.all_eq_true.mpr fun y hy => ?_⟩, Bool.or_eq_true _ _ |>.mpr (.inr (List.all_eq_true.mpr fun x hx => ?_))⟩
    · obtain ⟨n, _, rfl⟩ := List.mem_map.mp hx
      rw [dN_def]
      exact ok_int _ _
    · obtain ⟨n, _, rfl⟩ := List.mem_map.mp hx
      obtain ⟨m, _, rfl⟩ := List.mem_map.mp hy
      rw [toP_N, toP_N, PySem.W.alike]
    · obtain ⟨n, _, rfl⟩ := List.mem_map.mp hx
      rfl
  have pm : ((xs.map dN).mergeSort dLe).Perm (xs.map dN) := List.mergeSort_perm _ dLe
  obtain ⟨m, em, hm⟩ := allN pm
  have pw : ((xs.map dN).mergeSort dLe).Pairwise (fun a b => dLe a b = true) := PySem.W.sort_pairwise (PySem.W.sortLe_total (listOrd itemOrd) false fun b => PySem.W.keyToks (toP b)) _
  rw [em] at pw
  have pw2 : m.Pairwise (· ≤ ·) := (List.pairwise_map.mp pw).imp fun {a b} q => by
    rw [dLe_N, decide_eq_true_eq] at q
    exact q
  have nd : m.Nodup := (hm.trans hp).nodup_iff.mpr (h.imp fun {a b} q e => by omega)
  have e : m = l' := pwN_ext ((pw2.and nd).imp fun {a b} ⟨q, ne⟩ => by
    have ne : a ≠ b := ne
    omega) h fun k => (hm.trans hp).mem_iff
  show (if srtOk (xs.map dN) = true then _ else _) = _
  rw [if_pos ok, em, e]
/-! dicts of whole numbers, all their values True: sets -/
def dT (ks : List Nat) : D := .dic false (ks.map dN) (List.replicate ks.length (.bl true))
theorem kOf_N (n : Nat) : kOf (dN n) = some (.inl (n : Int)) := rfl
theorem find_N (a : Nat) : ∀ ks : List Nat, ((ks.map dN).findIdx? fun j => decide (kOf j = kOf (dN a))) = ks.findIdx? fun j => decide (j = a)
  | [] => rfl
  | k :: ks => by
    rw [List.map_cons, List.findIdx?_cons, List.findIdx?_cons, find_N a ks, kOf_N, kOf_N]
    have : decide ((some (Sum.inl (k : Int)) : Option Key) = some (.inl (a : Int))) = decide (k = a) := by
      simp only [Option.some.injEq, Sum.inl.injEq]
      exact decide_eq_decide.mpr Int.ofNat_inj
    rw [this]
theorem dFind_N (a : Nat) (ks : List Nat) : dFind false (ks.map dN) (dN a) = .ok (ks.findIdx? fun j => decide (j = a)) := by
  show Res.ok _ = _
  rw [← find_N, kOf_N]
theorem isSome_N (a : Nat) (ks : List Nat) : (ks.findIdx? fun j => decide (j = a)).isSome = decide (a ∈ ks) := by
  rw [List.findIdx?_isSome]
  cases h : decide (a ∈ ks) with
  | true => exact List.any_eq_true.mpr ⟨a, of_decide_eq_true h, by simp⟩
  | false =>
    exact List.any_eq_false.mpr fun x hx q => of_decide_eq_false h (of_decide_eq_true q ▸ hx)
theorem dIn_T (a : Nat) (ks : List Nat) : dIn (dN a) (dT ks) = .ok (.bl (decide (a ∈ ks))) := by
  show (match dFind false (ks.map dN) (dN a) with
    | .ok o => Res.ok (D.bl o.isSome)
    | _ => .err) = _
  rw [dFind_N]
  show Res.ok _ = _
  rw [isSome_N]
def addN (ks : List Nat) (k : Nat) : List Nat := if k ∈ ks then ks else ks ++ [k]
theorem mem_addN {ks : List Nat} {k x : Nat} : x ∈ addN ks k ↔ x ∈ ks ∨ x = k := by
  unfold addN
  split
  · rename_i h
    constructor
    · exact .inl
    · rintro (q | q)
      · exact q
      · rw [q]
        exact h
  · simp
theorem nd_addN {ks : List Nat} {k : Nat} (h : ks.Nodup) : (addN ks k).Nodup := by
  unfold addN
  split
  · exact h
  · rename_i q
    exact nd_add h q
theorem len_addN {ks : List Nat} {k : Nat} : (addN ks k).length ≤ ks.length + 1 := by
  unfold addN
  split
  · omega
  · simp
theorem set_rep {α : Type} (a : α) : ∀ (n m : Nat), (List.replicate n a).set m a = List.replicate n a
  | 0, _ => rfl
  | n + 1, 0 => rfl
  | n + 1, m + 1 => by rw [List.replicate_succ, List.set_cons_succ, set_rep a n m]
theorem mPut_T (ks : List Nat) (k : Nat) : mPut (ks.map dN, List.replicate ks.length (.bl true)) (dN k) (.bl true) = ((addN ks k).map dN, List.replicate (addN ks k).length (.bl true)) := by
  unfold mPut
  simp only
  rw [find_N]
  cases h : ks.findIdx? fun j => decide (j = k) with
  | some n =>
    have hk : k ∈ ks := by
      have := isSome_N k ks
      rw [h] at this
      exact of_decide_eq_true this.symm
    unfold addN
    rw [if_pos hk]
    show (ks.map dN, (List.replicate ks.length (D.bl true)).set n (.bl true)) = _
    rw [set_rep]
  | none =>
    have hk : k ∉ ks := by
      have := isSome_N k ks
      rw [h] at this
      exact of_decide_eq_false this.symm
    unfold addN
    rw [if_neg hk]
    show (ks.map dN ++ [dN k], List.replicate ks.length (D.bl true) ++ [.bl true]) = _
    rw [List.map_append, List.length_append, List.length_singleton, List.replicate_succ']
    rfl
theorem merge_T : ∀ (more ks : List Nat), mergeD (ks.map dN, List.replicate ks.length (.bl true)) (more.map dN) (List.replicate more.length (.bl true)) = ((more.foldl addN ks).map dN, List.replicate (more.foldl addN ks).length (.bl true))
  | [], ks => rfl
  | k :: more, ks => by
    show mergeD (mPut _ _ _) (more.map dN) (List.replicate more.length (.bl true)) = _
    rw [mPut_T, merge_T more (addN ks k)]
    rfl
theorem mem_foldN {x : Nat} : ∀ (more ks : List Nat), x ∈ more.foldl addN ks ↔ x ∈ ks ∨ x ∈ more
  | [], ks => by simp
  | k :: more, ks => by
    rw [List.foldl_cons, mem_foldN more, mem_addN, List.mem_cons]
    constructor
    · rintro ((h | h) | h) <;> simp [h]
    · rintro (h | h | h) <;> simp [h]
theorem nd_foldN : ∀ (more ks : List Nat), ks.Nodup → (more.foldl addN ks).Nodup
  | [], ks, h => h
  | k :: more, ks, h => nd_foldN more _ (nd_addN h)
theorem len_foldN : ∀ (more ks : List Nat), (more.foldl addN ks).length ≤ ks.length + more.length
  | [], ks => Nat.le_refl _
  | k :: more, ks => by
    have := len_foldN more (addN ks k)
    have := len_addN (ks := ks) (k := k)
    rw [List.foldl_cons, List.length_cons]
    omega
theorem upd_T {i : Nat} {f : EF} {ρ : Px.Env} {ks more : List Nat} (h : ρ.getD i none = some (dT ks)) (hf : f ρ = .ok (dT more)) (hl : ks.length + more.length ≤ 16777216) : sUpdP i (plVar i) f ρ = .next (ρ.set i (some (dT (more.foldl addN ks)))) := by
  unfold sUpdP plVar
  rw [h]
  show Res.flow (f ρ) ρ _ = _
  rw [hf]
  show (if (List.replicate ks.length (D.bl true)).length + (List.replicate more.length (D.bl true)).length ≤ sizeLine then _ else _) = _
  rw [if_pos (by rw [List.length_replicate, List.length_replicate, sizeLine_eq]; exact hl), merge_T]
  rfl
theorem put_L {i n : Nat} {f fj : EF} {ρ : Px.Env} {xs : List D} {d : D} (h : ρ.getD i none = some (.lst xs)) (hf : f ρ = .ok d) (hj : fj ρ = .ok (.int (n : Nat))) (hn : n < xs.length) : sPutP i (plVar i) fj f ρ = .next (ρ.set i (some (.lst (xs.set n d)))) := by
  unfold sPutP plVar
  rw [hf]
  show Res.flow (match ρ.getD i none with
    | some d => .ok (d, fun x => x)
    | none => .err) ρ _ = _
  rw [h]
  show Res.flow (fj ρ) ρ _ = _
  rw [hj]
  show (match (match ixN xs.length (n : Int) with
    | some m => Res.ok (D.lst (xs.set m d))
    | none => .err) with
    | .ok c => Px.Flow.next (ρ.set i (some c))
    | _ => .err) = _
  have e : ixN xs.length (n : Int) = some n := by
    unfold ixN
    rw [if_pos (by omega), if_pos (by omega)]
    simp
  rw [e]
theorem x_eMeth (c m : Str) (C : List D → Res D) (f : EF) (fs : Px.Env → Res (List D)) (ρ : Px.Env) : eMeth c m C f fs ρ = f ρ >>= fun d => if mOk c m d = true then fs ρ >>= fun ds => C (d :: ds) else .err := id rfl
theorem x_eMake (c : Str) (C : List D → Res D) (fs : Px.Env → Res (List D)) (ρ : Px.Env) : eMake c C fs ρ = fs ρ >>= fun ds => C (.ins c [] [] :: ds) >>= madeOf := id rfl
theorem disp_one {f : EF} {ρ : Px.Env} {n : Nat} (hf : f ρ = .ok (dN n)) : eDisp [(f, eC (.bl true))] ρ = .ok (dT [n]) := by
  unfold eDisp evPairs
  simp only [hf, x_eC, Res.bind_ok, keyD, dN_def, evPairs]
  rfl
theorem lc_filter {α : Type} {gf : Px.Env → D → Res Px.Env} {tt : Px.Env → Res Bool} {f : EF} {ρ : Px.Env} {e : α → D} {p : α → Bool} {g : α → D} : ∀ {xs : List α}, (∀ x ∈ xs, ∃ ρ1, gf ρ (e x) = .ok ρ1 ∧ tt ρ1 = .ok (p x) ∧ f ρ1 = .ok (g x)) → lcE gf tt f ρ (xs.map e) = .ok ((xs.filter p).map g)
  | [], _ => rfl
  | x :: xs, h => by
    obtain ⟨ρ1, h1, h2, h3⟩ := h x List.mem_cons_self
    have ih := lc_filter (xs := xs) fun y hy => h y (List.mem_cons_of_mem _ hy)
    rw [List.map_cons]
    cases q : p x with
    | true => simp [lcE, h1, h2, h3, q, ih]
    | false => simp [lcE, h1, h2, q, ih]
theorem x_sTry (us : List Str) (F : SF) (hs : List (List Str × SF)) (ρ : Px.Env) : sTry us F hs ρ = sTry us F hs ρ := rfl
theorem ok_intsL (k : Nat) (l : List Nat) : okN (k + 1) (.lst (l.map dN)) = true := okN_lst fun x h => by
  obtain ⟨n, _, rfl⟩ := List.mem_map.mp h
  rw [dN_def]
  exact ok_int _ _
theorem any_N (a : Nat) : ∀ ks : List Nat, ((ks.map dN).any fun z => eqD z (dN a)) = decide (a ∈ ks)
  | [] => by simp
  | k :: ks => by
    rw [List.map_cons, List.any_cons, any_N a ks, eqD_N]
    by_cases h : k = a
    · simp [h]
    · simp [h, Ne.symm h]
theorem dIn_L (a : Nat) (ks : List Nat) : dIn (dN a) (.lst (ks.map dN)) = .ok (.bl (decide (a ∈ ks))) := by
  show (if okN 60 (dN a) && okN 60 (.lst (ks.map dN)) then Res.ok (D.bl ((ks.map dN).any fun z => eqD z (dN a))) else .err) = _
  rw [ok_intsL, dN_def, ok_int, any_N]
  rfl
theorem dIn_Tp (a : Nat) (ks : List Nat) : dIn (dN a) (.tup (ks.map dN)) = .ok (.bl (decide (a ∈ ks))) := by
  show (if okN 60 (dN a) && okN 60 (.tup (ks.map dN)) then Res.ok (D.bl ((ks.map dN).any fun z => eqD z (dN a))) else .err) = _
  rw [ok_ints, dN_def, ok_int, any_N]
  rfl
theorem dNotIn_of {a b : D} {x : Bool} (h : dIn a b = .ok (.bl x)) : dNotIn a b = .ok (.bl (!x)) := by
  unfold dNotIn
  rw [h]
theorem putF_new {c f : Str} {ns : List Str} {vs : List D} {x : D} (h : nIdx ns f = none) (hl : ns.length < 1000) : putFld c f (.ins c ns vs) x = .ok (.ins c (ns ++ [f]) (vs ++ [x])) := by
  show (if c = c ∧ ns.length < 1000 then Res.ok (D.ins c (match nIdx ns f with
    | some _ => ns
    | none => ns ++ [f]) (kPut (nIdx ns f) vs x)) else .err) = _
  rw [if_pos ⟨rfl, hl⟩, h]
  rfl
theorem putF_old {c f : Str} {ns : List Str} {vs : List D} {x : D} {m : Nat} (h : nIdx ns f = some m) (hl : ns.length < 1000) : putFld c f (.ins c ns vs) x = .ok (.ins c ns (vs.set m x)) := by
  show (if c = c ∧ ns.length < 1000 then Res.ok (D.ins c (match nIdx ns f with
    | some _ => ns
    | none => ns ++ [f]) (kPut (nIdx ns f) vs x)) else .err) = _
  rw [if_pos ⟨rfl, hl⟩, h]
  rfl
theorem fld_at {c f : Str} {ns : List Str} {vs : List D} {x : D} {m : Nat} (h : nIdx ns f = some m) (hx : vs[m]? = some x) : dFld c f (.ins c ns vs) = .ok x := by
  show ((if c = c then (match nIdx ns f with
    | some n => Res.ok n
    | none => .err) else .err) >>= fun m => match vs[m]? with
    | some x => Res.ok x
    | none => .err) = _
  rw [if_pos rfl, h]
  show (match vs[m]? with
    | some x => Res.ok x
    | none => .err) = _
  rw [hx]
theorem meth_of {c m : Str} {ns : List Str} {vs : List D} (h : nIdx ns m = none) : mOk c m (.ins c ns vs) = true := by
  show (decide (c = c) && (nIdx ns m).isNone) = true
  rw [h]
  simp
theorem x_fldP (c : Str) (i : Nat) (x : Str) (f : EF) (ρ : Px.Env) (d s y : D) (hf : f ρ = .ok d) (hs : ρ.getD i none = some s) (hy : putFld c x s d = .ok y) : sFldP c i (plVar i) x f ρ = .next (ρ.set i (some y)) := by
  unfold sFldP plVar
  rw [hf]
  show Res.flow (match ρ.getD i none with
    | some d => .ok (d, fun x => x)
    | none => .err) ρ _ = _
  rw [hs]
  show (match putFld c x s d with
    | .ok y => Px.Flow.next (ρ.set i (some y))
    | _ => .err) = _
  rw [hy]
theorem dRng2_nat (a b : Nat) (h : b ≤ 16777216) (h2 : a ≤ 16777216) : dRng2 [.int a, .int b] = .ok ((List.range (b - a)).map fun i => .int ((a : Int) + (i : Nat))) := by
  show (if _ then Res.ok (rng (a : Int) ((b : Int) - a).toNat) else .err) = _
  rw [if_pos ⟨by omega, by omega, by omega, by omega, by omega⟩, show ((b : Int) - a).toNat = b - a by omega]
  rfl
end Px

namespace Px
open PySem PySem.Spec PyProof.Rows L2
/-! ### place[j], place2[j2] = e, e2 (shared values) -/
def putAt (i : Nat) (pf : PLF) (fj : EF) (d : D) (ρ : Px.Env) (k : Px.Env → Flow) : Flow := (pf ρ).flow ρ fun l => (fj ρ).flow ρ fun j => match putKid l.1 j d with
  | .ok c => k (ρ.set i (some (l.2 c)))
  | _ => .err
def sPut2P (i1 : Nat) (p1 : PLF) (j1 : EF) (i2 : Nat) (p2 : PLF) (j2 : EF) (fs : Px.Env → Res (List D)) : SF := fun ρ => (fs ρ).flow ρ fun ds => match ds with
  | [d1, d2] => putAt i1 p1 j1 d1 ρ fun ρ1 => putAt i2 p2 j2 d2 ρ1 .next
  | _ => .err
section
variable {X : Cx} {W : WX} {kr : RM} {n n1 n2 k i i1 i2 : Nat} {Lb L : List Nat} {e e0 e1 ei ei1 a b : Expr} {f fi fi1 : EF} {pf p1 p2 : PLF} {pos apos apos1 cpos npos tpos vpos : Pos} {fs : Px.Env → Res (List D)}
theorem put_flow {ex0 : CS kr.b} {Gs : List (D × V)} {Dn : Ends} {ρ : Px.Env} {σ : L2.St} {H : Hp} {fp : Nat → List Addr} {d : D} {vn : V} {kk : Px.Env → Flow} {Q : L2.St → Hp → Prop} (S : SS X.K X.H_0 ex0 Gs L ρ σ H fp) (r : R X.K (exOf fp ex0) H d vn)
    (o : FOut X W kr Lb L ex0 Gs Dn (putAt i pf fi d ρ kk))
    (fin : ∀ ρ' H' fp', SS X.K X.H_0 ex0 Gs L ρ' σ H' fp' → FOut X W kr Lb L ex0 Gs Dn (kk ρ') → (∀ d2 v2, R X.K (exOf fp ex0) H d2 v2 → R X.K (exOf fp' ex0) H' d2 v2) → Q σ H') :
    gSub (tPl X W L i 1 pf) (tB X W L n fi) (fun o i v H Q => rSetL o i v H Q ∨ rSetD o i v H Q) vn σ H Q := by
  unfold putAt at o
  refine ⟨_, ρ, fp, S.si, (flow_out S o).mono fun l q2 vi v g H2 hvi e2 F' => ⟨_, ρ, fp, S.si.same e2, ((flow_out S q2).later e2).mono fun j q3 vj H3 e3 rj => ?_⟩⟩
  have e13 := e2.trans e3
  have F3 := F'.later e13 (exq (fq := []) fun b hb => nomatch hb)
  have r3 : RO X.K (fun b => b ∈ ([] : List Addr) ∨ exOf fp ex0 b) H3 0 d vn [] := ⟨rfl, R.keep (Keep.same e13) (fun b hb => .inl (hb.elim (fun z => nomatch z) fun z => z)) d r⟩
  obtain ⟨l1, l2⟩ := l
  have hai : ∀ {c : D} {a : Addr}, isC c = true → Foc X.K (exOf fp ex0) H (L.getD i 0) vi (fp i) 1 (c, l2) (.ref a) g → exOf fp ex0 a := fun {c a} hc F => by
    obtain ⟨a1, _, _, _, ev1, _, eg1, _⟩ := (RO.cn hc).mp F.ro
    cases ev1
    exact .inl ⟨i, F.sub _ (by rw [eg1]; exact List.mem_cons_self)⟩
  cases hk : putKid l1 j d with
  | exc c => simp only [hk] at q3; exact q3.elim
  | err => simp only [hk] at q3; exact q3.elim
  | ok c' =>
    simp only [hk] at q3
    cases l1 with
    | lst xs =>
      obtain ⟨a, vs, fps, o, rfl, h1, h2, h3, n1, n2, old, new, fn⟩ := S.place e13 hvi [] (fun b hb => nomatch hb) F3 rfl
      obtain ⟨rfl, hz⟩ := h1
      have hl : xs.length = vs.length := h3.length
      cases j with
      | int z =>
        unfold putKid at hk
        simp only at hk
        cases hi : ixN xs.length z with
        | none => rw [hi] at hk; cases hk
        | some m =>
          rw [hi] at hk
          cases hk
          have hm : m < fps.length := by
            rw [← h3.len3]
            exact (ixN_lt hi)
          obtain ⟨fp', S', le⟩ := fn (.lst (vs.set m vn)) (.lst (xs.set m d)) (vs.set m vn) (fps.set m []) ⟨rfl, by rw [List.length_set]; exact hz⟩ rfl (P3.put m (old _) (new _ _ _ r3)) (kput_nd (H := H) (some m) (fun n hn => by cases hn; exact hm) n1 List.nodup_nil n2 (fun b hb => nomatch hb)) (kput_mem (some m))
          exact .inl ⟨a, vs, z, m, rfl, rj.int, h2, by rw [← hl]; exact hi, fin _ _ _ S' q3 fun d2 v2 r2 => R.keep ((Keep.same e13).trans (Keep.upd (Same.refl H3) h2 (fun _ q => nomatch q) (hai rfl F'))) (fun b hb => .inl ((le b hb).elim (fun z => nomatch z) fun z => z)) d2 r2⟩
      | _ => cases hk
    | dic t ks ws =>
      obtain ⟨a, vs, fps, o, rfl, h1, h2, h3, n1, n2, old, new, fn⟩ := S.place e13 hvi [] (fun b hb => nomatch hb) F3 rfl
      have hl : ws.length = vs.length := h3.length
      have hk2 : (match dFind t ks j with
        | .ok o => if ws.length < sizeLine then Res.ok (D.dic t (kAdd o ks j) (kPut o ws d)) else .err
        | _ => .err) = .ok c' := by
        unfold putKid at hk
        exact hk
      cases hq : dFind t ks j with
      | exc c => rw [hq] at hk2; cases hk2
      | err => rw [hq] at hk2; cases hk2
      | ok o' =>
        rw [hq] at hk2
        simp only at hk2
        split at hk2
        · rename_i hlt
          cases hk2
          obtain ⟨ho', p1, p2⟩ := dFind_put h1 h2 rj hq (by rw [← hl]; exact hlt) (v := vn) (kPut o' ws d)
          have hm : ∀ n, o' = some n → n < fps.length := fun n hn => by
            rw [← h3.len3, show (kids (D.dic t ks ws)).length = vs.length from hl]
            exact (dFind_get (.inl ⟨o, h1, .inl h2⟩ : CnR X.K H3 a (.dic t ks ws) vs) rj hq).2 n hn
          obtain ⟨fp', S', le⟩ := fn ho' (.dic t (kAdd o' ks j) (kPut o' ws d)) (kPut o' vs vn) (kPut o' fps []) p2 rfl (P3.kput o' (old _) (new _ _ _ r3)) (kput_nd (H := H) o' hm n1 List.nodup_nil n2 (fun b hb => nomatch hb)) (kput_mem o')
          exact .inr ⟨a, _, rfl, p1, fin _ _ _ S' q3 fun d2 v2 r2 => R.keep ((Keep.same e13).trans (Keep.upd (Same.refl H3) h2 h1.noTup (hai rfl F'))) (fun b hb => .inl ((le b hb).elim (fun z => nomatch z) fun z => z)) d2 r2⟩
        · cases hk2
    | _ => cases hk
theorem sj_put2P {kk1 kk2 : Nat} (hu : X.A.units + 1 < cLine) (hc : X.calm = true) (hp1 : EPl X W L i1 1 e0 p1) (hj1 : EB X W L n1 ei fi) (hp2 : EPl X W L i2 1 e1 p2) (hj2 : EB X W L n2 ei1 fi1) (he : EA X W L 0 2 [a, b] fs)
    (ha1 : ∀ v, assign (.Subscript e0 ei apos) X.env v = (do
      let ov ← holding [v] (eval e0 X.env)
      let iv ← holding [v, ov] (eval ei X.env)
      standAt apos
      holding [v, ov, iv] (setItem ov iv v)
      release [v, ov, iv] []) := by intro _; rfl)
    (ha2 : ∀ v, assign (.Subscript e1 ei1 apos1) X.env v = (do
      let ov ← holding [v] (eval e1 X.env)
      let iv ← holding [v, ov] (eval ei1 X.env)
      standAt apos1
      holding [v, ov, iv] (setItem ov iv v)
      release [v, ov, iv] []) := by intro _; rfl)
    (hs1 : (assignEach [.Subscript e0 ei apos, .Subscript e1 ei1 apos1] X.env).map (·.2) = assign (.Subscript e0 ei apos) X.env :: (assignEach [.Subscript e1 ei1 apos1] X.env).map (·.2) := by rfl)
    (hs2 : (assignEach [.Subscript e1 ei1 apos1] X.env).map (·.2) = assign (.Subscript e1 ei1 apos1) X.env :: (assignEach [] X.env).map (·.2) := by rfl)
    (hn : (assignEach [.Subscript e0 ei apos, .Subscript e1 ei1 apos1] X.env).length = 2 := by rfl) (hst : (assignEach [.Subscript e0 ei apos, .Subscript e1 ei1 apos1] X.env).findIdx? (·.1) = none := by rfl)
    (hs : swapsWithSole [.Tuple [.Subscript e0 ei apos, .Subscript e1 ei1 apos1] kk1 tpos] (.Tuple [a, b] kk2 vpos) pos.line X.env = pure false := by rfl)
    (hw : swappedStores [.Tuple [.Subscript e0 ei apos, .Subscript e1 ei1 apos1] kk1 tpos] (.Tuple [a, b] kk2 vpos) X.env = pure none := by rfl)
    (h1 : (assignEach [.Tuple [.Subscript e0 ei apos, .Subscript e1 ei1 apos1] kk1 tpos] X.env).map (·.2) = [assign (.Tuple [.Subscript e0 ei apos, .Subscript e1 ei1 apos1] kk1 tpos) X.env] := by rfl) :
    SJ X W kr Lb L L (.Assign [.Tuple [.Subscript e0 ei apos, .Subscript e1 ei1 apos1] kk1 tpos] (.Tuple [a, b] kk2 vpos) pos) (sPut2P i1 p1 fi i2 p2 fi1 fs) :=
  PS.imp (ps_asg (pe_tup he) (pg_tup hc (pgs_cons (pg_sub hp1 hj1 (PSet.or set_list (set_dict hu)) ha1) (pgs_cons (pg_sub hp2 hj2 (PSet.or set_list (set_dict hu)) ha2) pgs_nil hs2) hs1) hn hst) hs hw h1) fun Dn σ H ⟨ex0, Gs, ρ, fp, S, o⟩ => by
    unfold sPut2P at o
    refine ⟨_, ρ, fp, S.si, (flow_out S o).mono fun ds q vs H1 e1' rs hl => ⟨by rw [hl]; decide, fun p hp => ?_⟩⟩
    cases rs with
    | nil => cases hl
    | @cons d1 v1 ds1 us1 r1 rs =>
      cases rs with
      | nil => cases hl
      | @cons d2 v2 ds2 us2 r2 rs =>
        cases rs with
        | cons _ _ => simp at hl
        | nil =>
          have s2 : Same H1 (L2.upd H1 p (.tup [v1, v2])) := same_upd hp
          have S2 := S.up (e1'.trans s2)
          refine ⟨p, [v1, v2], rfl, .inl (.inl upd_same), rfl, v1, [v2], rfl, ?_⟩
          refine put_flow S2 (R.same s2 r1) q fun ρ1 H2 fp1 S3 q3 kp => ⟨v2, [], rfl, ?_⟩
          exact put_flow S3 (kp _ _ (R.same s2 r2)) q3 fun ρ2 H3 fp2 S4 q4 _ => ⟨rfl, q4 _ _ _ S4⟩
end
end Px

namespace Px
open PySem PySem.Spec PyProof.Rows L2
/-! ### {k: v for .. in .. if ..}, keys ints and texts, shared values -/
def dcE (gf : Px.Env → D → Res Px.Env) (tt : Px.Env → Res Bool) (fk fv : EF) (ρ : Px.Env) : List D × List D → List D → Res (List D × List D)
  | p, [] => .ok p
  | p, d :: ds => noX (gf ρ d) >>= fun ρ1 => noX (tt ρ1) >>= fun b => if b = true then noX (fk ρ1) >>= fun k => noX (fv ρ1) >>= fun v => (match kOf k with
    | some _ => dcE gf tt fk fv ρ (mPut p k v) ds
    | none => .err) else dcE gf tt fk fv ρ p ds
def eDc (fI : Px.Env → Res (List D)) (own : List Nat) (gf : Px.Env → D → Res Px.Env) (tt : Px.Env → Res Bool) (fk fv : EF) : EF := fun ρ => fI ρ >>= fun ds => dcE gf tt fk fv (wipeE ρ own) ([], []) ds >>= fun p => .ok (.dic false p.1 p.2)
theorem dcE_nx {gf : Px.Env → D → Res Px.Env} {tt : Px.Env → Res Bool} {fk fv : EF} {ρ : Px.Env} : ∀ (ds : List D) (p : List D × List D) (c : Str), dcE gf tt fk fv ρ p ds ≠ .exc c
  | [], _, _, h => by cases h
  | d :: ds, p, c, h => by
    rw [dcE] at h
    cases h1 : noX (gf ρ d) with
    | exc c2 => cases q : gf ρ d <;> rw [q] at h1 <;> cases h1
    | err => rw [h1] at h; cases h
    | ok ρ1 =>
      rw [h1, Res.bind_ok] at h
      cases h2 : noX (tt ρ1) with
      | exc c2 => cases q : tt ρ1 <;> rw [q] at h2 <;> cases h2
      | err => rw [h2] at h; cases h
      | ok b =>
        rw [h2, Res.bind_ok] at h
        split at h
        · cases h3 : noX (fk ρ1) with
          | exc c2 => cases q : fk ρ1 <;> rw [q] at h3 <;> cases h3
          | err => rw [h3] at h; cases h
          | ok k =>
            rw [h3, Res.bind_ok] at h
            cases h4 : noX (fv ρ1) with
            | exc c2 => cases q : fv ρ1 <;> rw [q] at h4 <;> cases h4
            | err => rw [h4] at h; cases h
            | ok v =>
              rw [h4, Res.bind_ok] at h
              split at h
              · exact dcE_nx ds _ c h
              · cases h
        · exact dcE_nx ds _ c h
theorem mPut_zip {F : D → V → Prop} {kk : List Key} {vs : List D} {xs : List V} {k : Key} {d : D} {v : V} (hv : Paired F vs xs) (hd : F d v) (hl : kk.length = xs.length) (nd : kk.Nodup) :
    ∃ (kk' : List Key) (xs' : List V), putK (kk.zip xs) k v = kk'.zip xs' ∧ kk'.length = xs'.length ∧ kk'.Nodup ∧ kk'.length ≤ kk.length + 1 ∧ (mPut (kk.map dKey, vs) (dKey k) d).1 = kk'.map dKey ∧ Paired F (mPut (kk.map dKey, vs) (dKey k) d).2 xs' := by
  rw [putK_zip kk xs k v hl nd]
  unfold mPut
  simp only
  rw [kOf_key, kIdx_map dKey (fun j => decide (kOf j = some k)) k fun j => by rw [kOf_key]; simp]
  cases hq : kIdx kk k with
  | some n => exact ⟨kk, xs.set n v, rfl, by rw [List.length_set]; exact hl, nd, by omega, rfl, paired_set n hv hd⟩
  | none => exact ⟨kk ++ [k], xs ++ [v], rfl, by simp [hl], nd_add nd (kIdx_none hq), by simp, by show kk.map dKey ++ [dKey k] = _; rw [List.map_append]; rfl, Paired.app hv (.cons hd .nil)⟩
section
variable {X : Cx} {W : WX} {L : List Nat} {fI : Px.Env → Res (List D)} {own : List Nat} {gf : Px.Env → D → Res Px.Env} {ft : Px.Env → Res Bool} {fk fv : EF} {g : TG} {is : List Nat}
theorem dc_imp (gs : GSem X.K g gf is) (hs : ∀ i ∈ is, i ∈ own) (hL : ∀ i ∈ is, L.getD i 0 = 0) {σ : L2.St} {H : Hp} {Q : VK} (h : tO X W L 1 (eDc fI own gf ft fk fv) σ H Q) : tDc (tI X W L 1 fI) g (tT X W0 L ft) (tB X W0 L 0 fk) (tB X W0 L 0 fv) own σ H Q := by
  obtain ⟨ex, ρ, fp, I, o⟩ := h
  refine ⟨ex, ρ, fp, I, o.bind.mono fun ds q J H1 gh e1 rg itn D hD => ?_⟩
  obtain ⟨res, hres, q⟩ := no_exc q.bind (dcE_nx ds _)
  have hDH : H D = none := e1.free hD
  refine ⟨fun i m Hi => i + m = ds.length ∧ Same H1 Hi ∧ ∃ (kk : List Key) (xs : List V) (vs : List Px.D), Hi D = some (.dK (kk.zip xs)) ∧ kk.length = xs.length ∧ kk.Nodup ∧ kk.length ≤ i ∧ Paired (R X.K (fun a => a = D ∨ ex a) Hi) vs xs ∧ dcE gf ft fk fv (wipeE ρ own) (kk.map dKey, vs) (ds.drop i) = .ok res,
    ⟨ds.length, by omega, same_upd hD, [], [], [], upd_same, rfl, List.nodup_nil, Nat.zero_le _, .nil, hres⟩, fun i m Hi hW => ?_⟩
  obtain ⟨em, e2, kk, xs, vs, hDi, hl, nd, hlen, hP, erest⟩ := hW
  by_cases hi : i < ds.length
  · refine .inr ⟨itn.go ex Hi i ⟨rg.1.same e2, rg.2.same e2⟩ hi, fun H' => ∃ m', m' < m ∧ (i + 1 + m' = ds.length ∧ Same H1 H' ∧ ∃ (kk : List Key) (xs : List V) (vs : List Px.D), H' D = some (.dK (kk.zip xs)) ∧ kk.length = xs.length ∧ kk.Nodup ∧ kk.length ≤ i + 1 ∧ Paired (R X.K (fun a => a = D ∨ ex a) H') vs xs ∧ dcE gf ft fk fv (wipeE ρ own) (kk.map dKey, vs) (ds.drop (i + 1)) = .ok res), fun H' h => h, fun x H' hy => ?_⟩
    obtain ⟨d, hd⟩ : ∃ d, ds[i]? = some d := ⟨_, List.getElem?_eq_getElem hi⟩
    obtain ⟨e3, rx⟩ := itn.item (fun a => a = D ∨ ex a) Hi i d x H' (HR.more e2 (fun a h => by
      rcases h with h | h
      · rw [h]
        exact .inr hD
      · exact .inl h) rg) hd hy
    have ed : ds.drop i = d :: ds.drop (i + 1) := by
      rw [List.drop_eq_getElem_cons hi]
      congr 1
      rw [List.getElem?_eq_getElem hi] at hd
      exact Option.some.inj hd
    rw [ed, dcE] at erest
    cases hg : noX (gf (wipeE ρ own) d) with
    | exc c => rw [hg] at erest; cases erest
    | err => rw [hg] at erest; cases erest
    | ok ρ1 =>
      rw [hg, Res.bind_ok] at erest
      have esame : Same H H' := (e1.trans e2).trans e3
      have hDex : ∀ a, (a = D ∨ ex a) → ex a ∨ H a = none := fun a h => by
        rcases h with h | h
        · rw [h]
          exact .inr hDH
        · exact .inl h
      have hthere : ∀ a, (a = D ∨ ex a) → H' a ≠ none := fun a h q => by
        rcases h with h | h
        · rw [h] at q
          have := e3 D _ hDi
          rw [q] at this
          cases this
        · exact I.ext a h (esame.free q)
      have I' : SI X.K (fun a => a = D ∨ ex a) L (wipeE ρ own) (wipe σ own) H' fp := (I.wipe own).more esame hDex (fun a h => .inr h) hthere
      refine gs (fun a => a = D ∨ ex a) x (wipe σ own) H' _ d (wipeE ρ own) ρ1 rx (noX_ok hg) fun l hl2 e4 => ?_
      obtain ⟨fp1, I1, _⟩ := SI.sets l I' fun t ht => ⟨(hl2 t ht).1, hL _ (hl2 t ht).2⟩
      rw [← e4] at I1
      refine ⟨by rw [wipe_sets l fun t ht => hs _ (hl2 t ht).2, wipe_idem], ?_⟩
      cases ht : noX (ft ρ1) with
      | exc c => rw [ht] at erest; cases erest
      | err => rw [ht] at erest; cases erest
      | ok b =>
        rw [ht, Res.bind_ok] at erest
        refine ⟨_, ρ1, fp1, I1, ?_⟩
        rw [noX_ok ht]
        intro H3 e5
        cases b with
        | false =>
          rw [if_neg Bool.false_ne_true] at erest ⊢
          exact ⟨m - 1, by omega, by omega, (e2.trans e3).trans e5, kk, xs, vs, e5 _ _ (e3 _ _ hDi), hl, nd, by omega, hP.mono fun a b r => R.same (e3.trans e5) r, erest⟩
        | true =>
          rw [if_pos rfl] at erest ⊢
          cases hf : noX (fk ρ1) with
          | exc c => rw [hf] at erest; cases erest
          | err => rw [hf] at erest; cases erest
          | ok y =>
            rw [hf, Res.bind_ok] at erest
            refine ⟨_, ρ1, fp1, I1.same e5, ?_⟩
            rw [noX_ok hf]
            intro vk H4 e6 rk
            cases hfv : noX (fv ρ1) with
            | exc c => rw [hfv] at erest; cases erest
            | err => rw [hfv] at erest; cases erest
            | ok z =>
              rw [hfv, Res.bind_ok] at erest
              refine ⟨_, ρ1, fp1, (I1.same e5).same e6, ?_⟩
              rw [noX_ok hfv]
              intro vz H5 e7 rz
              cases hk : kOf y with
              | none => rw [hk] at erest; cases erest
              | some kq =>
                rw [hk] at erest
                have hD5 : H5 D = some (.dK (kk.zip xs)) := e7 _ _ (e6 _ _ (e5 _ _ (e3 _ _ hDi)))
                have e37 : Same Hi H5 := ((e3.trans e5).trans e6).trans e7
                obtain ⟨kk', xs', p1, p2, p3, p4, p5, p6⟩ := mPut_zip (k := kq) (F := R X.K (fun a => a = D ∨ ex a) H5) (hP.mono fun a b r => R.same e37 r) (show R X.K (fun a => a = D ∨ ex a) H5 z vz from rz) hl nd
                have ky : y = dKey kq := kOf_eq hk
                have hln := itn.len
                refine ⟨kk.zip xs, kq, RB.key (n := 0) rk hk, hD5, by rw [List.length_zip]; omega, m - 1, by omega, by omega, fun b o h => ?_, kk', xs', (mPut (kk.map dKey, vs) (dKey kq) z).2, by rw [upd_same, p1], p2, p3, by omega, ?_, ?_⟩
                · have hb : b ≠ D := fun q => by
                    rw [q, hD] at h
                    cases h
                  rw [upd_ne hb]
                  exact e37 _ _ (e2 _ _ h)
                · have kp : Keep (fun a => a = D ∨ ex a) H5 (upd H5 D (.dK (putK (kk.zip xs) kq vz))) := Keep.upd (Same.refl _) hD5 (fun _ q => nomatch q) (.inl rfl)
                  exact p6.mono fun a b r => R.keep kp (fun _ z => .inl z) a r
                · rw [ky] at erest
                  rw [← p5]
                  exact erest
  · have ei : i = ds.length := by omega
    rw [ei, List.drop_length, dcE] at erest
    cases erest
    have hln := itn.len
    refine .inl ⟨by rw [ei]; exact itn.stop ex Hi ⟨rg.1.same e2, rg.2.same e2⟩, ?_⟩
    refine q (.ref D) Hi [D] (e1.trans e2) ?_ (List.nodup_cons.mpr ⟨List.not_mem_nil, List.nodup_nil⟩) fun a ha => by
      rw [List.mem_singleton.mp ha]
      exact hDH
    obtain ⟨fps, p3, pf⟩ := of_pair (hP.mono fun a b r => R.less (ex' := fun a => a ∈ [D] ∨ ex a) (fun a h => .inl (h.elim (fun z => .inl (List.mem_singleton.mp z)) .inr)) r)
    exact (RO.cn rfl).mpr ⟨D, xs, fps, _, rfl, ⟨⟨kk, rfl, hl, nd, rfl⟩, hDi⟩, by rw [pf], p3⟩
theorem eo_dc {kx vx tg iter : Expr} {ifs : List Expr} {scope : Scope} {pos : Pos} {own : List (Str × Nat)} (hc : X.calm = true) (hN : X.N.Nodup) (hi : EI X W L 1 tg iter fI) (ok : BlkOk X.N X.env.scope scope own)
    (hg : ∀ (s : Shared) (H : Hp) (C : Addr) (cl : List (Str × Addr)) (fp : List Addr), PG (X.blk s H scope (compEnvC scope cl C X.env) fp) tg g)
    (ht : ∀ (s : Shared) (H : Hp) (C : Addr) (cl : List (Str × Addr)) (fp : List Addr), ETs (X.blk s H scope (compEnvC scope cl C X.env) fp) W0 L ifs ft)
    (hk : ∀ (s : Shared) (H : Hp) (C : Addr) (cl : List (Str × Addr)) (fp : List Addr), EB (X.blk s H scope (compEnvC scope cl C X.env) fp) W0 L 0 kx fk)
    (hv : ∀ (s : Shared) (H : Hp) (C : Addr) (cl : List (Str × Addr)) (fp : List Addr), EB (X.blk s H scope (compEnvC scope cl C X.env) fp) W0 L 0 vx fv)
    (gs : GSem X.K g gf is) (hs : ∀ i ∈ is, i ∈ own.map (·.2)) (hL : ∀ i ∈ is, L.getD i 0 = 0) (hfs : ∀ x, foldedSetIterable iter X.env x = pure x := by intro _; rfl) :
    EO X W L 1 (.DictComp kx vx [⟨tg, iter, ifs, 0⟩] scope pos) (eDc fI (own.map (·.2)) gf ft fk fv) :=
  PE.imp (pe_dc hc hN hi ok hg ht hk hv hfs) fun σ H Q h => dc_imp gs hs hL h
end
end Px

namespace Px
open PySem PySem.Spec PyProof.Rows L2
/-! ### is True, d.get(k), d.get(k, x), text * n -/
def dIsB : D → D → Res D
  | .bl a, .bl b => .ok (.bl (decide (a = b)))
  | _, _ => .err
def dIsNotB : D → D → Res D
  | .bl a, .bl b => .ok (.bl (!decide (a = b)))
  | _, _ => .err
theorem dIsB_nx : NoX2 dIsB := fun a b c h => by
  unfold dIsB at h
  split at h <;> cases h
theorem dIsNotB_nx : NoX2 dIsNotB := fun a b c h => by
  unfold dIsNotB at h
  split at h <;> cases h
def rpS (x : Str) (n : Int) : Str := if n < 1 then Str.empty else if (n == 1 || x.length == 0) = true then x else ⟨(List.replicate n.toNat x.cps).foldl (· ++ ·) #[]⟩
theorem fold_size {α : Type} (a : Array α) : ∀ (m : Nat) (b : Array α), ((List.replicate m a).foldl (· ++ ·) b).size = b.size + m * a.size
  | 0, b => by simp
  | m + 1, b => by
    rw [List.replicate_succ, List.foldl_cons, fold_size a m (b ++ a), Array.size_append, Nat.succ_mul]
    omega
def dMulS : D → D → Res D
  | .str x, .int n => if x.length ≤ 4096 ∧ -4096 ≤ n ∧ n ≤ 4096 then .ok (.str (rpS x n)) else .err
  | _, _ => .err
theorem dMulS_nx : NoX2 dMulS := fun a b c h => by
  unfold dMulS at h
  split at h
  · split at h <;> cases h
  · cases h
def dGet2 (d k z : D) : Res D := match d with
  | .dic t ks vs => (match dFind t ks k with
    | .ok (some n) => (match vs[n]? with
      | some x => .ok x
      | none => .err)
    | .ok none => .ok z
    | _ => .err)
  | _ => .err
def isDic : D → Bool
  | .dic _ _ _ => true
  | _ => false
def eGet1 (f g : EF) : EF := fun ρ => f ρ >>= fun d => if isDic d = true then g ρ >>= fun k => dGet2 d k .non else .err
def eGet2 (f g h : EF) : EF := fun ρ => f ρ >>= fun d => if isDic d = true then g ρ >>= fun k => h ρ >>= fun z => dGet2 d k z else .err
theorem dGet2_nx {d k z : D} {c : Str} : dGet2 d k z ≠ .exc c := fun h => by
  unfold dGet2 at h
  split at h
  · split at h
    · split at h <;> cases h
    · cases h
    · cases h
  · cases h
section
variable {X : Cx} {W : WX} {L : List Nat} {n m k n2 : Nat} {a b e o : Expr} {f g h : EF} {apos cpos : Pos}
theorem o_isB : Op2 X n m k (compareOp .Is) dIsB := fun pins s σ H x y v u Q I rx ry h => by
  obtain ⟨ex, d1, d2, d, ext, r1, r2, e, q⟩ := h
  unfold dIsB at e
  split at e
  · cases e
    exact op_isBl pins s σ H x y v u Q I rx ry ⟨_, _, r1.bl, r2.bl, q.bl⟩
  · cases e
theorem o_isNotB : Op2 X n m k (compareOp .IsNot) dIsNotB := fun pins s σ H x y v u Q I rx ry h => by
  obtain ⟨ex, d1, d2, d, ext, r1, r2, e, q⟩ := h
  unfold dIsNotB at e
  split at e
  · cases e
    exact op_notBl pins s σ H x y v u Q I rx ry ⟨_, _, r1.bl, r2.bl, q.bl⟩
  · cases e
/-- what a look at a dict gives, or z -/
theorem get_core {K : PySem.W.Frag} {ex : AS} {H : Hp} {t : Bool} {ks vs : List D} {k z r : D} {p : Addr} {xs : List V} {vk vz : V} (h1 : CnR K H p (.dic t ks vs) xs) (h2 : Paired (R K ex H) vs xs) (rk : RB K ex H n2 k vk) (rz : R K ex H z vz) (e : dGet2 (.dic t ks vs) k z = .ok r) :
    ∃ o, DGet H p vk o ∧ R K ex H r (o.getD vz) := by
  have e2 : (match dFind t ks k with
    | .ok (some n) => (match vs[n]? with
      | some x => Res.ok x
      | none => .err)
    | .ok none => .ok z
    | _ => .err) = .ok r := e
  cases hq : dFind t ks k with
  | exc c => rw [hq] at e2; cases e2
  | err => rw [hq] at e2; cases e2
  | ok o =>
    rw [hq] at e2
    obtain ⟨dg, _⟩ := dFind_get h1 rk hq
    refine ⟨_, dg, ?_⟩
    cases o with
    | none =>
      cases e2
      exact rz
    | some n =>
      cases hx : vs[n]? with
      | none => simp only [hx] at e2; cases e2
      | some x =>
        simp only [hx] at e2
        cases e2
        obtain ⟨y, hy, ry⟩ := Paired.get h2 hx
        show R K ex H _ ((xs[n]?).getD vz)
        rw [hy]
        exact ry
theorem isD_of {K : PySem.W.Frag} {H : Hp} {p : Addr} {t : Bool} {ks vs : List D} {xs : List V} (h : CnR K H p (.dic t ks vs) xs) : IsD H p := by
  rcases h with ⟨o, c, rd⟩ | ⟨⟨_, z⟩, _⟩
  · cases t with
    | false =>
      obtain ⟨kk, _, _, _, rfl⟩ := c
      exact .inl ⟨_, rd.rd⟩
    | true =>
      obtain ⟨kk, _, _, _, rfl⟩ := c
      exact .inr ⟨_, rd.rd⟩
  · cases z
theorem eb_get2 (hu : X.A.units + 1 < cLine) (ho : EB X W L 1 o f) (ha : EB X W L n2 a g) (hb : EB X W L 0 b h) (m : M2 X o "get" apos a b cpos := by exact ⟨rfl, rfl, rfl, rfl⟩) : EB X W L 0 (.Call (.Attribute o "get" apos) [a, b] [] cpos) (eGet2 f g h) :=
  PE.imp (pe_dget2 hu ho ha hb m) fun σ H Q ⟨ex, ρ, fp, I, q⟩ => by
    refine ⟨ex, ρ, fp, I, q.bind.mono fun d q1 v1 H1 e1 r1 => ?_⟩
    cases d with
    | dic t ks vs =>
      obtain ⟨p, xs, rfl, c1, c2⟩ := RB.cnr rfl r1
      refine ⟨p, rfl, isD_of c1, ex, ρ, fp, I.same e1, (q1.bind.later e1).mono fun k q2 v2 H2 e2 r2 => ⟨ex, ρ, fp, (I.same e1).same e2, ((Out.bind q2).later (e1.trans e2)).mono fun z q3 v3 H3 e3 r3 => ?_⟩⟩
      obtain ⟨r, er, q4⟩ := no_exc q3 (fun c => dGet2_nx)
      obtain ⟨o, dg, rr⟩ := get_core (H := H3) (ex := ex) (Same.cnR (e2.trans e3) c1) ((show Paired (R X.K ex H1) vs xs from c2).mono fun _ _ r => R.same (e2.trans e3) r) (r2.same e3) (show R X.K ex H3 z v3 from r3) er
      exact ⟨o, dg, q4 _ H3 ((e1.trans e2).trans e3) rr⟩
    | _ => exact q1.elim
theorem eb_get1 (hu : X.A.units + 1 < cLine) (ho : EB X W L 1 o f) (ha : EB X W L n2 a g) (m : M1 X o "get" apos a cpos := by exact ⟨rfl, rfl, rfl, rfl⟩) : EB X W L 0 (.Call (.Attribute o "get" apos) [a] [] cpos) (eGet1 f g) :=
  PE.imp (pe_dget1 hu ho ha m) fun σ H Q ⟨ex, ρ, fp, I, q⟩ => by
    refine ⟨ex, ρ, fp, I, q.bind.mono fun d q1 v1 H1 e1 r1 => ?_⟩
    cases d with
    | dic t ks vs =>
      obtain ⟨p, xs, rfl, c1, c2⟩ := RB.cnr rfl r1
      refine ⟨p, rfl, isD_of c1, ex, ρ, fp, I.same e1, ((Out.bind q1).later e1).mono fun k q2 v2 H2 e2 r2 => ?_⟩
      obtain ⟨r, er, q4⟩ := no_exc q2 (fun c => dGet2_nx)
      obtain ⟨o, dg, rr⟩ := get_core (H := H2) (ex := ex) (z := .non) (vz := .non) (Same.cnR e2 c1) ((show Paired (R X.K ex H1) vs xs from c2).mono fun _ _ r => R.same e2 r) r2 (by rw [R]) er
      exact ⟨o, dg, q4 _ H2 (e1.trans e2) rr⟩
    | _ => exact q1.elim
theorem o_mulS : Op2 X n m k (binaryOp .Mult) dMulS := fun pins s σ H x y v u Q I rx ry h => by
  obtain ⟨ex, d1, d2, d, ext, r1, r2, e, q⟩ := h
  unfold dMulS at e
  split at e
  · rename_i z j
    split at e
    · rename_i hb
      cases e
      have h1 := r1.str
      have h2 := r2.int
      subst h1 h2
      obtain ⟨t, rfl⟩ := rx
      obtain ⟨t2, rfl⟩ := ry
      have hq := q.str
      unfold rpS at hq
      refine PySem.P.mul_str (by simp; omega) (fun h3 h4 => ?_) (fun h3 h4 => ?_) ?_
      · have h5 : (2 ^ 63 - 1 : Int) / 4096 ≤ (2 ^ 63 - 1) / j := by
          refine Int.le_ediv_of_mul_le (by omega) ?_
          have : (2 ^ 63 - 1 : Int) / 4096 * j ≤ (2 ^ 63 - 1 : Int) / 4096 * 4096 := Int.mul_le_mul_of_nonneg_left (by omega) (by decide)
          have : (2 ^ 63 - 1 : Int) / 4096 * 4096 ≤ 2 ^ 63 - 1 := by decide
          omega
        have : (4096 : Int) ≤ (2 ^ 63 - 1) / 4096 := by decide
        omega
      · unfold Builtin.Str.tooLong
        refine decide_eq_false ?_
        have : z.length * j.toNat ≤ 4096 * 4096 := Nat.mul_le_mul hb.1 (by omega)
        rw [sizeLine_eq]
        omega
      · by_cases h3 : j < 1
        · rw [if_pos h3] at hq ⊢
          exact ⟨by decide, .str Str.empty, H, I.tok _, ⟨_, rfl⟩, hq⟩
        · rw [if_neg h3] at hq ⊢
          cases h4 : (j == 1 || z.length == 0) with
          | true =>
            rw [h4] at hq
            simp only [if_true] at hq ⊢
            exact ⟨.str z, H, I, ⟨_, rfl⟩, hq⟩
          | false =>
            rw [h4] at hq
            simp only [Bool.false_eq_true, if_false] at hq ⊢
            refine ⟨?_, .str _, H, I.tok _, ⟨_, rfl⟩, hq⟩
            show ((List.replicate j.toNat z.cps).foldl (· ++ ·) #[]).size ≤ sizeLine
            rw [fold_size]
            have : j.toNat * z.cps.size ≤ 4096 * 4096 := Nat.mul_le_mul (by omega) hb.1
            rw [sizeLine_eq]
            simp
            omega
    · cases e
  · cases e
end
end Px

namespace Px
open PySem PySem.Spec PyProof.Rows L2
/-! ### functions that are lent one argument, to be changed -/
def insA {α : Type} : Nat → α → List α → List α
  | 0, x, xs => x :: xs
  | p + 1, x, y :: ys => y :: insA p x ys
  | _ + 1, x, [] => [x]
theorem insA_len {α : Type} : ∀ (p : Nat) (x : α) (xs : List α), (insA p x xs).length = xs.length + 1
  | 0, _, _ => rfl
  | p + 1, x, [] => rfl
  | p + 1, x, y :: ys => by rw [insA, List.length_cons, insA_len p x ys, List.length_cons]
theorem insA_at {α : Type} : ∀ (p : Nat) (x : α) (xs : List α), p ≤ xs.length → (insA p x xs)[p]? = some x
  | 0, _, _, _ => rfl
  | p + 1, x, [], h => by simp at h
  | p + 1, x, y :: ys, h => by
    rw [insA, List.getElem?_cons_succ]
    exact insA_at p x ys (by simpa using h)
theorem insA_ne {α : Type} : ∀ (p i : Nat) (x y : α) (xs : List α), i ≠ p → p ≤ xs.length → (insA p x xs)[i]? = (insA p y xs)[i]?
  | 0, 0, _, _, _, h, _ => absurd rfl h
  | 0, i + 1, _, _, _, _, _ => rfl
  | p + 1, _, x, y, [], _, h => by simp at h
  | p + 1, 0, x, y, z :: zs, _, _ => rfl
  | p + 1, i + 1, x, y, z :: zs, h, hl => by
    rw [insA, insA, List.getElem?_cons_succ, List.getElem?_cons_succ]
    exact insA_ne p i x y zs (fun q => h (by rw [q])) (by simpa using hl)
theorem Paired.insA {P : D → V → Prop} {d : D} {v : V} (hp : P d v) : ∀ (p : Nat) {ds : List D} {us : List V}, Paired P ds us → Paired P (insA p d ds) (insA p v us)
  | 0, _, _, h => .cons hp h
  | p + 1, [], [], h => .cons hp .nil
  | p + 1, _ :: _, _ :: _, .cons a b => .cons a (Paired.insA hp p b)
theorem startE_eq {n i : Nat} {l l' : List D} (h : l[i]? = l'[i]?) (hl : l.length = l'.length) : (startE n l)[i]? = (startE n l')[i]? := by
  unfold startE
  rw [List.getElem?_append, List.getElem?_append, List.length_map, List.length_map, hl, List.getElem?_map, List.getElem?_map, h]
theorem start_eq {N : List Str} {i : Nat} {l l' : List V} (h : l[i]? = l'[i]?) (hl : l.length = l'.length) : (L2.start N l)[i]? = (L2.start N l')[i]? := by
  unfold L2.start
  rw [List.getElem?_append, List.getElem?_append, List.length_map, List.length_map, hl, List.getElem?_map, List.getElem?_map, h]
/-- the promise of a function that is lent its argument sl (owned to the depth km) and leaves it changed -/
def SpecI (K : PySem.W.Frag) (mg : Str → Option Value) (ar kr km sl : Nat) (C : List D → Res D) : Sp := fun vs H Q E => vs.length = ar ∧ ∃ (ex : AS) (d0 : D) (ds : List D) (v0 : V) (us : List V) (g : List Addr), vs = insA sl v0 us ∧ sl ≤ us.length ∧ (∀ a, ex a → H a ≠ none) ∧ (∀ a ∈ g, ¬ ex a) ∧ g.Nodup ∧
  RO K (fun a => a ∈ g ∨ ex a) H km d0 v0 g ∧ Paired (R K (fun a => a ∈ g ∨ ex a) H) ds us ∧ match C (insA sl d0 ds) with
  | .ok (.tup [r, s]) => ∀ v H' fq fs, Keep (fun a => a ∈ g) H H' → RO K (fun a => a ∈ fq ∨ a ∈ fs ∨ ex a) H' kr r v fq → RO K (fun a => a ∈ fq ∨ a ∈ fs ∨ ex a) H' km s v0 fs → fq.Nodup → fs.Nodup → (∀ a ∈ fq, H a = none ∧ a ∉ fs) → (∀ a ∈ fs, H a = none ∨ a ∈ g) → Q v H'
  | .ok _ => False
  | .exc c => ∀ Cl, mg c = some (.ref Cl) → ∀ H', Keep (fun a => a ∈ g) H H' → E (.ref Cl) none H'
  | .err => False
def fnI (sl n : Nat) (F : SF) (ds : List D) : Res D := match F (startE n ds) with
  | .ret d => .ok d
  | .next ρ => (match ρ.getD sl none with
    | some s => .ok (.tup [.non, s])
    | none => .err)
  | .exc c _ => .exc c
  | _ => .err
theorem getD_repI {n km sl : Nat} (i : Nat) (hn : sl < n) : ((List.replicate n 0).set sl km).getD i 0 = if i = sl then km else 0 := by
  by_cases h : i = sl
  · subst h
    rw [if_pos rfl]
    exact getD_set_eq (by rw [List.length_replicate]; exact hn)
  · rw [if_neg h, getD_set_ne (fun q => h q.symm), getD_rep0]
section
variable {P : Program} {w : World} {K : PySem.W.Frag} {mg : Str → Option Value} {base : Heap}
theorem fni_ok {x qual : Str} {st : Stmt} {f : Addr} {fd : FuncData} {N ps : List Str} {k kr km ar nN sl : Nat} {L L' : List Nat} {FF : SF} {C : List D → Res D} (F : Fun K x qual st f fd) (S : FnScope N ps (defScope st)) (hn : nN = N.length) (har : ar = ps.length) (hL0 : L = (List.replicate nN 0).set sl km) (hC : C = fnI sl nN FF) (hpos : sl < nN) (hL' : L'.getD sl 0 = km)
    (h : ∀ (cdv : Value) (A : Around) (outer : List PySem.Env) (s : Shared) (H : Hp) (E : XK), Room k (A.deeper (envOfC qual (defScope st) s.heap.objs.size f cdv)) →
      SJs (cxOf (L2.CX P w) P w K mg base N qual (defScope st) f cdv A outer s H E) (fun cls d _ H => E cls d H) (.m kr km sl) [] L L' (defBody st) FF) :
    FnOk P w K mg base (L2.CX P w) (k + 1) f fd ps (SpecI K mg ar kr km sl C) := by
  subst hn har hL0 hC
  refine F.okX S (fun vs H Q E h => h.1) (fun cdv A outer s H vs Q E hr hsp => ⟨_, h cdv A outer s H E hr, ?_⟩)
  obtain ⟨hl, ex, d0, ds, v0, us, g, rfl, hsl, ext, gex, gnd, r0, r, q⟩ := hsp
  let c0 : CS (RM.m kr km sl).b := ⟨ex, fun a => a ∈ g, some v0, fun q => (nomatch q), fun _ q => nomatch q⟩
  let fp0 : Nat → List Addr := fun i => if i = sl then g else []
  have mem0 : ∀ i a, a ∈ fp0 i → a ∈ g := fun i a z => by
    have z : a ∈ (if i = sl then g else []) := z
    split at z
    · exact z
    · cases z
  have e0 : ∀ a, exOf fp0 c0 a → a ∈ g ∨ ex a := fun a z => by
    rcases z with ⟨i, z⟩ | z
    · exact .inl (mem0 i a z)
    · exact .inr z
  have hlen := r.length
  have hsd : sl ≤ ds.length := by rw [hlen]; exact hsl
  have there : ∀ a ∈ g, H a ≠ none := r0.there
  have st0 : (L2.start N (insA sl v0 us))[sl]? = some (some v0) := by
    unfold L2.start
    rw [List.getElem?_append_left (by rw [List.length_map, insA_len]; omega), List.getElem?_map, insA_at sl v0 us hsl]
    rfl
  have st1 : (startE N.length (insA sl d0 ds))[sl]? = some (some d0) := by
    unfold startE
    rw [List.getElem?_append_left (by rw [List.length_map, insA_len]; omega), List.getElem?_map, insA_at sl d0 ds hsd]
    rfl
  have SSi : SS K H c0 [] ((List.replicate N.length 0).set sl km) (startE N.length (insA sl d0 ds)) (L2.start N (insA sl v0 us)) H fp0 := by
    have h1 : (startE N.length (insA sl d0 ds)).length = (L2.start N (insA sl v0 us)).length := by
      unfold startE L2.start
      simp [hlen, insA_len]
    refine ⟨⟨h1, fun i d e => ?_, fun i => ?_, fun i j a z1 z2 => ?_, fun i a z => .inl ⟨i, z⟩, fun a z => ?_⟩, fun i a z => .inr (mem0 i a z), fun a z => ⟨ext a z, fun q => gex a q z⟩, Keep.same (Same.refl H), fun j v ej z => ?_, fun g z => (nomatch z)⟩
    · rw [getD_repI i hpos]
      by_cases hi : i = sl
      · subst hi
        rw [st1] at e
        cases e
        refine ⟨v0, st0, ?_⟩
        rw [if_pos rfl]
        show RO K _ H km d0 v0 (if i = i then g else [])
        rw [if_pos rfl]
        exact r0.less fun a z => .inl (e0 a z)
      · rw [if_neg hi]
        show ∃ v, _ ∧ RO K _ H 0 d v (if i = sl then g else [])
        rw [if_neg hi]
        rw [startE_eq (l' := insA sl .non ds) (insA_ne sl i d0 .non ds hi hsd) (by rw [insA_len, insA_len])] at e
        obtain ⟨v, h1, h2⟩ := start_val (N := N) (Paired.insA (v := .non) (by rw [R]) sl r) i d e
        rw [start_eq (l' := insA sl v0 us) (insA_ne sl i .non v0 us hi hsl) (by rw [insA_len, insA_len])] at h1
        exact ⟨v, h1, rfl, h2.less fun a z => .inl (e0 a z)⟩
    · show (if i = sl then g else []).Nodup
      split
      · exact gnd
      · exact List.nodup_nil
    · have z1 : a ∈ (if i = sl then g else []) := z1
      have z2 : a ∈ (if j = sl then g else []) := z2
      split at z1
      · split at z2
        · rename_i a1 a2
          rw [a1, a2]
        · cases z2
      · cases z1
    · rcases e0 a z with z | z
      · exact there a z
      · exact ext a z
    · cases ej
      cases z
      exact st0
  refine ⟨c0, [], startE N.length (insA sl d0 ds), fp0, SSi, ?_⟩
  unfold fnI at q
  unfold FOut
  cases hF : FF (startE N.length (insA sl d0 ds)) with
  | next ρ' =>
    rw [hF] at q
    dsimp only at q ⊢
    intro σ' H' fp' S'
    cases hρ : ρ'.getD sl none with
    | none => rw [hρ] at q; exact q.elim
    | some sd =>
      rw [hρ] at q
      obtain ⟨u, h1, h2⟩ := S'.si.val sl sd (getD_some hρ)
      rw [hL'] at h2
      have := S'.slf sl v0 rfl rfl
      rw [h1] at this
      cases this
      refine q .non H' [] (fp' sl) S'.same (RO.flat (by rw [R]) rfl) (h2.less fun a z => .inl ?_) List.nodup_nil (S'.si.nod sl) (fun a z => nomatch z) (fun a ha => S'.own sl a ha)
      rcases z with z | z | z
      · cases z
      · exact .inl ⟨sl, z⟩
      · exact .inr z
  | ret d =>
    rw [hF] at q
    dsimp only at q ⊢
    have key : ∃ d1 s1, d = .tup [d1, s1] := by
      cases d with
      | tup xs =>
        match xs, q with
        | [d1, s1], _ => exact ⟨d1, s1, rfl⟩
        | [], q => exact q.elim
        | [_], q => exact q.elim
        | _ :: _ :: _ :: _, q => exact q.elim
      | _ => exact q.elim
    obtain ⟨d1, s1, rfl⟩ := key
    refine ⟨d1, s1, rfl, fun v u H' fq fs hu kp r1 r2 n1 n2 m1 m2 => ?_⟩
    cases hu
    exact q v H' fq fs kp r1 r2 n1 n2 m1 m2
  | exc c ρ' =>
    rw [hF] at q
    exact fun C hC σ' H' fp' S' => q C hC H' S'.same
  | brk ρ' =>
    rw [hF] at q
    exact q.elim
  | cont ρ' =>
    rw [hF] at q
    exact q.elim
  | err =>
    rw [hF] at q
    exact q.elim
/-- .. that calls itself: by fuel -/
theorem fni_rec {x qual : Str} {st : Stmt} {f : Addr} {fd : FuncData} {N ps : List Str} {k kr km ar nN sl : Nat} {L L' : List Nat} {FF : (List D → Res D) → SF} {C : Nat → List D → Res D} (F : Fun K x qual st f fd) (S : FnScope N ps (defScope st)) (hn : nN = N.length) (har : ar = ps.length) (hL0 : L = (List.replicate nN 0).set sl km) (hpos : sl < nN) (hL' : L'.getD sl 0 = km)
    (h0 : C 0 = fun _ => .err) (hC : ∀ n, C (n + 1) = fnI sl nN (FF (C n))) (hE : ∀ Xx : Cx, ∀ W, SJs Xx W (.m kr km sl) [] L L' (defBody st) sErr := by exact fun _ _ => sjs_err)
    (h : ∀ n, FnOk P w K mg base (L2.CX P w) (k + 1 + n) f fd ps (SpecI K mg ar kr km sl (C n)) → ∀ (cdv : Value) (A : Around) (outer : List PySem.Env) (s : Shared) (H : Hp) (E : XK), Room (k + 1 + n) (A.deeper (envOfC qual (defScope st) s.heap.objs.size f cdv)) →
      SJs (cxOf (L2.CX P w) P w K mg base N qual (defScope st) f cdv A outer s H E) (fun cls d _ H => E cls d H) (.m kr km sl) [] L L' (defBody st) (FF (C n))) :
    ∀ n, FnOk P w K mg base (L2.CX P w) (k + 1 + n) f fd ps (SpecI K mg ar kr km sl (C n))
  | 0 => fni_ok (L := L) (L' := L') (nN := nN) (k := k) F S hn har hL0 (FF := sErr) (by rw [h0]; rfl) hpos hL' fun cdv A outer s H E hr => hE _ _
  | n + 1 => fni_ok (L := L) (L' := L') (nN := nN) (k := k + 1 + n) F S hn har hL0 (FF := FF (C n)) (hC n) hpos hL' fun cdv A outer s H E hr => h n (fni_rec F S hn har hL0 hpos hL' h0 hC hE h n) cdv A outer s H E hr
end
end Px

namespace Px
open PySem PySem.Spec PyProof.Rows L2
/-! ### calls of functions that are lent one argument -/
def sLent (p i : Nat) (pf : PLF) (C : List D → Res D) (fs : Px.Env → Res (List D)) (k : Px.Env → D → Flow) : SF := fun ρ => match pf ρ with
  | .ok l => (fs ρ).flow ρ fun ds => methK i l.2 ρ k (C (insA p l.1 ds))
  | _ => .err
section
variable {X : Cx} {W : WX} {kr : RM} {n k km i na p sl : Nat} {Lb L L1 : List Nat} {e e0 o : Expr} {es : List Expr} {f : EF} {pf : PLF} {pos apos : Pos} {c mm : Str} {g : Addr} {fd : FuncData} {ps : List Str} {C : List D → Res D} {fs : Px.Env → Res (List D)}
/-- arguments, each borrowed, but that the one at p is lent: a place of what the slot i owns -/
def tAI (X : Cx) (W : WX) (L : List Nat) (i km : Nat) (pf : PLF) (p n : Nat) (fs : Px.Env → Res (List D)) : TA := fun σ H Q => ∃ ex ρ fp, SI X.K ex L ρ σ H fp ∧ ∃ l, pf ρ = .ok l ∧ Out X W σ H (fs ρ) fun ds => ∀ vi v g us H1, σ[i]? = some (some vi) → Same H H1 → Foc X.K ex H1 (L.getD i 0) vi (fp i) km l v g → Paired (R X.K ex H1) ds us → us.length = n → Q (insA p v us) H1
abbrev EAI (X : Cx) (W : WX) (L : List Nat) (i km : Nat) (pf : PLF) (p n : Nat) (es : List Expr) (fs : Px.Env → Res (List D)) : Prop := PA X es (tAI X W L i km pf p n fs)
theorem eai_here (ho : EPl X W L i km o pf) (ha : EA X W L 0 n es fs) (hs : starEach (o :: es) X.env = (false, eval o X.env) :: starEach es X.env := by rfl) : EAI X W L i km pf 0 n (o :: es) fs :=
  PA.imp (pa_cons ho ha hs) fun σ H Q ⟨ex, ρ, fp, I, l, hl, q⟩ => ⟨ex, ρ, fp, I, by
    rw [hl]
    exact fun vi v g H1 h1 e1 F => ⟨ex, ρ, fp, I.same e1, (q.later e1).mono fun ds q1 us H2 e2 r hn => q1 vi v g us H2 h1 (e1.trans e2) (F.later (e1.trans e2) fun a h => .inl h) r hn⟩⟩
theorem eai_cons (he : EB X W L 0 e f) (ha : EAI X W L i km pf p n es fs) (hs : starEach (e :: es) X.env = (false, eval e X.env) :: starEach es X.env := by rfl) : EAI X W L i km pf (p + 1) (n + 1) (e :: es) (aCons f fs) :=
  PA.imp (pa_cons he ha hs) fun σ H Q ⟨ex, ρ, fp, I, l, hl, q⟩ => ⟨ex, ρ, fp, I, (show Out X W σ H (f ρ >>= fun d => fs ρ >>= fun ds => .ok (d :: ds)) _ from q).bind.mono fun d q1 v H1 e1 r => ⟨ex, ρ, fp, I.same e1, l, hl, (q1.bind.later e1).mono fun ds q2 vi v2 g us H2 h1 e2 F r2 hn =>
    q2 vi v2 g (v :: us) H2 h1 (e1.trans e2) F (.cons (R.keep (Keep.same e2) (fun _ h => .inl h) _ r) r2) (by rw [List.length_cons, hn])⟩⟩
theorem lent_core {kk : Px.Env → D → Flow} {ex0 : CS kr.b} {Gs : List (D × V)} {ρ : Px.Env} {σ : L2.St} {H : Hp} {fp : Nat → List Addr} {Dn : Ends} {Q : VK} (hp : p ≤ na) (S : SS X.K X.H_0 ex0 Gs L ρ σ H fp) (q : FOut X W kr Lb L1 ex0 Gs Dn (sLent p i pf C fs kk ρ))
    (hQ : ∀ (r s : D) (v : V) (H' : Hp) (fp' : Nat → List Addr) (l2 : D → D), SS X.K X.H_0 ex0 Gs L (ρ.set i (some (l2 s))) σ H' fp' → R X.K (exOf fp' ex0) H' r v → FOut X W kr Lb L1 ex0 Gs Dn (kk (ρ.set i (some (l2 s))) r) → Q v H') :
    tCallS (SpecI X.K X.mg (na + 1) 0 km p C) (WE W) (tAI X W L i km pf p na fs) σ H Q := by
  unfold sLent at q
  cases hl : pf ρ with
  | exc x => rw [hl] at q; exact q.elim
  | err => rw [hl] at q; exact q.elim
  | ok l =>
    rw [hl] at q
    obtain ⟨l1, l2⟩ := l
    refine ⟨_, ρ, fp, S.si, (l1, l2), hl, (flow_out S q).mono fun ds q2 vi v g us H2 hvi e12 F r2 hn => ?_⟩
    refine ⟨by rw [insA_len, hn], fun b => exOf fp ex0 b ∧ b ∉ g, l1, ds, v, us, g, rfl, by rw [hn]; exact hp, fun b hb q => S.si.ext b hb.1 (e12.free q), fun b hb q => q.2 hb, F.nd, F.ro.less (fun b hb => .inl ?_), r2.mono fun _ _ z => R.less (fun b hb => .inl ?_) z, ?_⟩
    · rcases hb with hb | hb
      · exact .inl ⟨i, F.sub b hb⟩
      · exact hb.1
    · rcases hb with hb | hb
      · exact .inl ⟨i, F.sub b hb⟩
      · exact hb.1
    · cases hC : C (insA p l1 ds) with
      | err => rw [hC] at q2; exact q2.elim
      | exc x =>
        rw [hC] at q2
        intro Cl hCl H' kp
        have S1 := S.lost i F.sub (H2 := H') ⟨fun a xs h => kp.tup a xs (e12 _ _ h), fun a o n h => kp.obj a o n (e12 _ _ h), fun a h => kp.there a fun q => h (e12.free q)⟩
        exact q2 Cl hCl σ H' _ S1.dropAll
      | ok d =>
        rw [hC] at q2
        have key : ∃ d1 s1, d = .tup [d1, s1] := by
          cases d with
          | tup xs =>
            match xs, q2 with
            | [d1, s1], _ => exact ⟨d1, s1, rfl⟩
            | [], q2 => exact q2.elim
            | [_], q2 => exact q2.elim
            | _ :: _ :: _ :: _, q2 => exact q2.elim
          | _ => exact q2.elim
        obtain ⟨r, s, rfl⟩ := key
        intro v' H' fq fsl kp rr rs nq nf m1 m2
        obtain ⟨efq, rr⟩ := rr
        subst efq
        have hfq : ∀ b ∈ fsl.filter (fun b => decide (b ∉ g)), H b = none := fun b hb => by
          obtain ⟨hb1, hb2⟩ := List.mem_filter.mp hb
          rcases m2 b hb1 with z | z
          · exact e12.free z
          · exact absurd z (of_decide_eq_true hb2)
        obtain ⟨fp', S', le⟩ := S.foc e12 hvi hfq (F.later (Same.refl H2) fun a h => h.elim (fun z => .inr (by
          obtain ⟨hb1, hb2⟩ := List.mem_filter.mp z
          rcases m2 a hb1 with z | z
          · exact z
          · exact absurd z (of_decide_eq_true hb2))) .inl) kp (exN := fun b => b ∈ fsl ∨ (exOf fp ex0 b ∧ b ∉ g)) (fun b hb => by
          rcases hb with hb | hb
          · by_cases hg : b ∈ g
            · exact .inr (.inl ⟨i, F.sub b hg⟩)
            · exact .inl (List.mem_filter.mpr ⟨hb, decide_eq_true hg⟩)
          · exact .inr hb.1) (fun b h1 h2 => .inr ⟨h1, h2⟩) (c' := s) (g' := fsl) (fun b hb => .inl hb) (rs.less fun b hb => .inl (by
          rcases hb with hb | hb
          · exact .inr (.inl hb)
          · exact .inr (.inr hb))) nf (fun b hb => by
          by_cases hg : b ∈ g
          · exact .inl hg
          · exact .inr (List.mem_filter.mpr ⟨hb, decide_eq_true hg⟩))
        exact hQ r s v' H' fp' l2 S' (R.less (fun b hb => .inl (by
          rcases le b hb with z | z
          · exact .inr (.inl z)
          · exact .inr (.inr z))) rr) q2
abbrev EFI (X : Cx) (W : WX) (L : List Nat) (i km p na : Nat) (pf : PLF) (C : List D → Res D) (fs : Px.Env → Res (List D)) (e : Expr) : Prop := p ≤ na ∧ PE X e (tCallS (SpecI X.K X.mg (na + 1) 0 km p C) (WE W) (tAI X W L i km pf p na fs))
theorem efi {f : Addr} {x : Str} {pp : Pos} (F : FnOk X.prog X.w X.K X.mg X.base (L2.CX X.prog X.w) k f fd ps (SpecI X.K X.mg (na + 1) 0 km p C)) (hr : Room k X.A) (hg : Gl X x) (hm : X.mg x = some (.ref f)) (hk : PySem.W.keepIn X.K (.ref f) = true) (hb : Binds X.K fd ps []) (tk : Takes X W)
    (ha : EAI X W L i km pf p na (e :: es) fs) (hdb : (x == ("__debug__" : Str)) = false := by decide) (he : starEach (e :: es) X.env = (false, eval e X.env) :: starEach es X.env := by rfl) (hpl : (backTo pos (starEach es X.env)).any (·.1) = false := by rfl) (hp : p ≤ na := by decide) :
    EFI X W L i km p na pf C fs (.Call (.Name x pp) (e :: es) [] pos) := ⟨hp, pe_callS F hr hg hm hk hb (fun σ => passAt tk σ) ha hdb he hpl⟩
theorem sj_lentE (h : EFI X W L i km p na pf C fs e) (hs : swapsWith e none pos.line X.env = pure false := by rfl) : SJ X W kr Lb L L (.Expr e pos) (sLent p i pf C fs kDrop) :=
  PS.imp (ps_expr h.2 hs) fun Dn σ H ⟨ex0, Gs, ρ, fp, S, o⟩ => lent_core h.1 S o fun r s v H' fp' l2 S' rr q => q _ _ _ S'
theorem sj_lentS {j : Nat} {y : Str} {pos' : Pos} (hN : X.N.Nodup) (hy' : X.N[j]? = some y) (hy : Loc X.env.scope y) (h : EFI X W L i km p na pf C fs e) (hj : j < L.length) (hs : swapsWith e (some (.Name y pos')) pos.line X.env = pure false := by rfl)
    (hf : X.fn y = true ∨ X.env.scope.names.lookup y = some .local := by first | exact .inl rfl | exact .inr rfl | assumption) (h0 : kr.b ≠ some j := by first | exact nofun | exact fun _ _ => nofun | decide) :
    SJ X W kr Lb L (L.set j 0) (.Assign [.Name y pos'] e pos) (sLent p i pf C fs (kSet j)) :=
  PS.imp (ps_set hN hy' hy h.2 hs hf) fun Dn σ H ⟨ex0, Gs, ρ, fp, S, o⟩ => lent_core h.1 S o fun r s v H' fp' l2 S' rr q => by
    obtain ⟨fp2, S2⟩ := S'.put (Same.refl _) (i := j) (k := 0) (d := r) (v := v) (fq := []) ⟨rfl, R.less (fun a h => .inl (h.elim (fun z => nomatch z) fun z => z)) rr⟩ List.nodup_nil (fun b hb => nomatch hb) hj (h0_of ex0 h0)
    exact q _ _ _ S2
theorem sj_lentU {tg : Expr} {gg : TG} {gf : Px.Env → D → Res Px.Env} {is : List Nat} (hg : PG X tg gg) (gs : GSem X.K gg gf is) (h : EFI X W L i km p na pf C fs e) (hL : ∀ i ∈ is, L.getD i 0 = 0) (hs : swapsWithSole [tg] e pos.line X.env = pure false := by rfl) (hw : swappedStores [tg] e X.env = pure none := by rfl)
    (h1 : (assignEach [tg] X.env).map (·.2) = [assign tg X.env] := by rfl) (h0 : ∀ i ∈ is, kr.b ≠ some i := by first | exact nofun | exact fun _ _ => nofun | decide) : SJ X W kr Lb L L (.Assign [tg] e pos) (sLent p i pf C fs (kUnp gf)) :=
  PS.imp (ps_asg h.2 hg hs hw h1) fun Dn σ H ⟨ex0, Gs, ρ, fp, S, o⟩ => lent_core h.1 S o fun r s v H' fp' l2 S' rr q => by
    unfold kUnp at q
    cases hgf : gf (ρ.set i (some (l2 s))) r with
    | exc c => rw [hgf] at q; exact q.elim
    | err => rw [hgf] at q; exact q.elim
    | ok ρ' =>
      rw [hgf] at q
      refine gs _ v σ H' _ r _ ρ' rr hgf fun l hl e2 => ?_
      obtain ⟨fp2, S2⟩ := S'.sets l (fun t ht => ⟨(hl t ht).1, hL _ (hl t ht).2⟩) fun t ht => h0_all ex0 h0 _ (hl t ht).2
      rw [← e2] at S2
      exact q _ _ _ S2
theorem sj_lentR (h : EFI X W L i km p na pf C fs e) : SJ X W (.r 0) Lb L L1 (.Return (some e) pos) (sLent p i pf C fs kRet) :=
  PS.imp (ps_ret h.2) fun Dn σ H ⟨ex0, Gs, ρ, fp, S, o⟩ => lent_core h.1 S o fun r s v H' fp' l2 S' rr q => q v H' [] S'.same ⟨rfl, R.less (fun a h => .inl (h.elim (fun z => nomatch z) .inr)) rr⟩ List.nodup_nil (fun a h => nomatch h)
/-- return f(..) where this function, too, is lent an argument -/
theorem sj_lentRA {km' : Nat} (h : EFI X W L i km p na pf C fs e) (hL : L.getD sl 0 = km' := by rfl) : SJ X W (.m 0 km' sl) Lb L L1 (.Return (some e) pos) (sLent p i pf C fs (retA sl)) :=
  PS.imp (ps_ret h.2) fun Dn σ H ⟨ex0, Gs, ρ, fp, S, o⟩ => lent_core h.1 S o fun r s v H' fp' l2 S' rr q => retA_out (L1 := L1) S' hL q (Same.refl H') (fq := []) ⟨rfl, R.less (fun a h => .inl (h.elim (fun z => nomatch z) fun z => z)) rr⟩ List.nodup_nil (fun a h => nomatch h)
/-- .. and where a method calls it -/
theorem sj_methRA {km' : Nat} (h : EMI X W L i km c mm pf C na fs e) (hL : L.getD sl 0 = km' := by rfl) : SJ X W (.m 0 km' sl) Lb L L1 (.Return (some e) pos) (sMeth c mm i pf C fs (retA sl)) :=
  PS.imp (ps_ret h) fun Dn σ H ⟨ex0, Gs, ρ, fp, S, o⟩ => mi_core S o fun r s v H' fp' l2 S' rr q => retA_out (L1 := L1) S' hL q (Same.refl H') (fq := []) ⟨rfl, R.less (fun a h => .inl (h.elim (fun z => nomatch z) fun z => z)) rr⟩ List.nodup_nil (fun a h => nomatch h)
end
end Px

namespace Px
open PySem PySem.Spec PyProof.Rows L2
/-! ### d.setdefault(j, []).append(e), d a variable with texts and ints as keys -/
def sdMid (i : Nat) (ρ : Px.Env) (ks ws : List D) (o : Option Nat) (j : D) : Px.Env := match o with
  | some _ => ρ
  | none => ρ.set i (some (.dic false (ks ++ [j]) (ws ++ [.lst []])))
def sdAt (ws : List D) (o : Option Nat) : Option D := match o with
  | some n => ws[n]?
  | none => some (.lst [])
def sdPut (i : Nat) (ρ : Px.Env) (ks ws : List D) (o : Option Nat) (j x : D) : Px.Env := (sdMid i ρ ks ws o j).set i (some (.dic false (kAdd o ks j) (kPut o ws x)))
def sdEnd (i : Nat) (f : EF) (ρ : Px.Env) (ks ws : List D) (j : D) : Flow := match dFind false ks j with
  | .ok o => if ws.length < sizeLine then (match sdAt ws o with
    | some (.lst xs) => (f (sdMid i ρ ks ws o j)).flow (sdMid i ρ ks ws o j) fun d => if xs.length < sizeLine then .next (sdPut i ρ ks ws o j (.lst (xs ++ [d]))) else .err
    | _ => .err) else .err
  | _ => .err
def sSetdefApp (i : Nat) (pf : PLF) (fj f : EF) : SF := fun ρ => (pf ρ).flow ρ fun l => match l.1 with
  | .dic false ks ws => (fj ρ).flow ρ fun j => sdEnd i f ρ ks ws j
  | _ => .err
theorem dKey_inj {a b : Key} (h : dKey a = dKey b) : a = b := by
  have := congrArg kOf h
  rw [kOf_key, kOf_key] at this
  exact Option.some.inj this
theorem map_dKey_inj : ∀ {a b : List Key}, a.map dKey = b.map dKey → a = b
  | [], [], _ => rfl
  | [], _ :: _, h => by cases h
  | _ :: _, [], h => by cases h
  | x :: a, y :: b, h => by
    rw [List.map_cons, List.map_cons] at h
    injection h with h1 h2
    rw [dKey_inj h1, map_dKey_inj h2]
theorem zip_snd {α β : Type} {a : List α} {b c : List β} (h1 : a.length = b.length) (h2 : a.length = c.length) (h : a.zip b = a.zip c) : b = c := by
  have := congrArg (List.map (·.2)) h
  rwa [List.map_snd_zip (by omega), List.map_snd_zip (by omega)] at this
section
variable {X : Cx} {W : WX} {kr : RM} {n n1 k i : Nat} {Lb L : List Nat} {e ej : Expr} {f fj : EF} {pos apos cpos apos1 cpos1 lpos npos : Pos} {x : Str}
/-- the end: v, at a place, is a list, and e is put behind it -/
theorem app_end {ex0 : CS kr.b} {Gs : List (D × V)} {Dn : Ends} {ρ : Px.Env} {σ : L2.St} {H : Hp} {fp : Nat → List Addr} {vi v : V} {l : Lens} {g : List Addr} (S : SS X.K X.H_0 ex0 Gs L ρ σ H fp) (hvi : σ[i]? = some (some vi)) (F : Foc X.K (exOf fp ex0) H (L.getD i 0) vi (fp i) (k + 1) l v g) {xs : List D} (hl : l.1 = .lst xs)
    {Q : L2.St → Hp → Prop} {kk : D → Flow}
    (hQ : ∀ d H2 fp2, xs.length < sizeLine → SS X.K X.H_0 ex0 Gs L (ρ.set i (some (l.2 (.lst (xs ++ [d]))))) σ H2 fp2 → FOut X W kr Lb L ex0 Gs Dn (kk d) → Q σ H2)
    (o : FOut X W kr Lb L ex0 Gs Dn ((f ρ).flow ρ fun d => if xs.length < sizeLine then kk d else .err)) :
    tyV X.K "list" v H ∧ ∃ ex ρ' fp', SI X.K ex L ρ' σ H fp' ∧ Out X W σ H (f ρ') fun d => ∀ vn H2 fq, Same H H2 → RO X.K (fun b => b ∈ fq ∨ ex b) H2 k d vn fq → fq.Nodup → (∀ b ∈ fq, H b = none) → rAppend v [vn] H2 fun _ H3 => Q σ H3 := by
  obtain ⟨l1, l2⟩ := l
  simp only at hl
  subst hl
  obtain ⟨a0, vs0, fps0, o0, rfl, ⟨⟨rfl, hz0⟩, h20⟩, _, _⟩ := (RO.cn rfl).mp F.ro
  refine ⟨.inl ⟨rfl, vs0, .inl (.inl h20)⟩, _, ρ, fp, S.si, (flow_out S o).mono fun d q2 vn H2 fq e2 ro nd nw => ?_⟩
  obtain ⟨a, vs, fps, o, ev, h1, h2, h3, n1, n2, old, new, fin⟩ := S.place e2 hvi fq nw (F.later e2 (exq nw)) rfl
  cases ev
  obtain ⟨rfl, hz⟩ := h1
  have hl : xs.length = vs.length := h3.length
  split at q2
  · rename_i hlt
    refine ⟨a0, vs, vn, rfl, rfl, h2, by omega, ?_⟩
    obtain ⟨fp', S'⟩ := fin (.lst (vs ++ [vn])) (.lst (xs ++ [d])) (vs ++ [vn]) (fps ++ [fq]) ⟨rfl, by rw [List.length_append]; simp; omega⟩ rfl (P3.app (old _) (.cons (new _ _ _ ro) .nil)) (nd_snoc2 n1 nd n2 nw) (fun b hb => (flat_snoc b).mp hb)
    exact hQ d _ _ hlt S'.1 q2
  · exact q2.elim
theorem sj_setdefApp (hu : X.A.units + 1 < cLine) (hN : X.N[i]? = some x) (hvx : Vis X.env.scope x) (hj : EB X W L n1 ej fj) (he : EO X W L k e f)
    (hd : (x == ("__debug__" : Str)) = false := by decide) (hcd : (x == ("__classdict__" : Str)) = false := by decide)
    (m : M2 X (.Name x npos) "setdefault" apos1 ej (.List [] lpos) cpos1 := by exact ⟨rfl, rfl, rfl, rfl⟩)
    (hbase : attributeBase (.Call (.Attribute (.Name x npos) "setdefault" apos1) [ej, .List [] lpos] [] cpos1) "append" X.env (eval (.Call (.Attribute (.Name x npos) "setdefault" apos1) [ej, .List [] lpos] [] cpos1) X.env) = eval (.Call (.Attribute (.Name x npos) "setdefault" apos1) [ej, .List [] lpos] [] cpos1) X.env := by rfl)
    (hfew : ((backTo cpos (starEach [e] X.env)).all (fun x => !x.1) && (backToKw cpos (keywordEach [] X.env)).all (fun x => x.1.isSome)
      && decide ([e].length + ([] : List Keyword).length + (if ([] : List Keyword).isEmpty then 0 else 1) < 30)) = true := by rfl)
    (hline : (apos.endLine == cpos.line) = true := by rfl) (hs : starEach [e] X.env = (false, eval e X.env) :: starEach [] X.env := by rfl) (hplain : (backTo cpos (starEach [] X.env)).any (·.1) = false := by rfl)
    (hsw : swapsWith (.Call (.Attribute (.Call (.Attribute (.Name x npos) "setdefault" apos1) [ej, .List [] lpos] [] cpos1) "append" apos) [e] [] cpos) none pos.line X.env = pure false := by rfl) (hLi : L.getD i 0 = k + 2 := by rfl) :
    SJ X W kr Lb L L (.Expr (.Call (.Attribute (.Call (.Attribute (.Name x npos) "setdefault" apos1) [ej, .List [] lpos] [] cpos1) "append" apos) [e] [] cpos) pos) (sSetdefApp i (plVar i) fj f) :=
  PS.imp (ps_expr (pe_bm PySem.F.plainAttrs_list PySem.F.slot_list_append PySem.F.type_list_append mt_append (pe_dsetd (pe_var hN hvx hd hcd) hj (pe_lst pa_nil) m) (pa_cons he pa_nil hs) hbase hfew hline hs hplain) hsw) fun Dn σ H ⟨ex0, Gs, ρ, fp, S, o⟩ => by
    unfold sSetdefApp at o
    cases hv : ρ.getD i none with
    | none =>
      have hpl : plVar i ρ = .err := by unfold plVar; rw [hv]
      rw [hpl] at o
      exact o.elim
    | some d0 =>
    have hpl : plVar i ρ = .ok (d0, fun x => x) := by unfold plVar; rw [hv]
    rw [hpl] at o
    have hd0 : ∃ ks ws, d0 = .dic false ks ws ∧ FOut X W kr Lb L ex0 Gs Dn ((fj ρ).flow ρ fun j => sdEnd i f ρ ks ws j) := by
      cases d0 with
      | dic t ks ws =>
        cases t with
        | false => exact ⟨ks, ws, rfl, o⟩
        | true => exact o.elim
      | _ => exact o.elim
    clear o
    obtain ⟨ks, ws, rfl, o⟩ := hd0
    obtain ⟨vi, hvi, hrv⟩ := S.si.val i _ (getD_some hv)
    have e1 : Same H H := Same.refl H
    refine ⟨vi, hvi, ?_⟩
    have F : ∀ n, L.getD i 0 = n → Foc X.K (exOf fp ex0) H (L.getD i 0) vi (fp i) n (.dic false ks ws, fun x => x) vi (fp i) := fun n h => by
      subst h
      exact Foc.base hrv (S.si.nod i)
    have F := F (k + 2) hLi
    have F1 := F.later e1 (ex1 := exOf fp ex0) (fun a h => .inl h)
    obtain ⟨a0, vs0, fps0, o0, rfl, ⟨hc0, h20⟩, _, _⟩ := (RO.cn (d := D.dic false ks ws) rfl).mp F1.ro
    obtain ⟨kk0, hk0, hl0, nd0, ho0⟩ := hc0
    subst ho0
    refine ⟨a0, rfl, .inl ⟨_, .inl h20⟩, _, ρ, fp, S.si.same e1, ((flow_out S o).later e1).mono fun j q vj H2 e2 rj => ?_⟩
    refine ⟨Nat.zero_le _, fun p hp => ?_⟩
    have hp0 : H p = none := e1.free (e2.free hp)
    have e3 : Same H2 (L2.upd H2 p (.lst [])) := same_upd hp
    have e13 := e1.trans (e2.trans e3)
    have hfq : ∀ b ∈ [p], H b = none := fun b hb => by rw [List.mem_singleton.mp hb]; exact hp0
    obtain ⟨a, vs, fps, o1, ev, h1, h2, h3, n1, n2, old, new, fin⟩ := S.place e13 hvi [p] hfq (F.later e13 (exq hfq)) rfl
    cases ev
    obtain ⟨kk, hkk, hl, nd, ho⟩ := (h1 : CnO X.K (.dic false ks ws) vs o1)
    have hwl : ws.length = vs.length := h3.length
    unfold sdEnd at q
    cases hq : dFind false ks j with
    | exc c => rw [hq] at q; exact q.elim
    | err => rw [hq] at q; exact q.elim
    | ok oo =>
    rw [hq] at q
    simp only at q
    split at q
    case isFalse => exact q.elim
    rename_i hlt
    have hkj : ∃ key, kOf j = some key ∧ oo = kIdx kk key := by
      unfold dFind at hq
      cases hk : kOf j with
      | none => simp only [hk] at hq; cases hq
      | some key =>
        simp only [hk] at hq
        rw [hkk, kIdx_map dKey _ key (fun j => by rw [kOf_key]; simp)] at hq
        cases hq
        exact ⟨key, rfl, rfl⟩
    obtain ⟨key, hkey, hoo⟩ := hkj
    refine ⟨kk.zip vs, key, by rw [h2, ho], rj.key hkey, by rw [List.length_zip]; omega, fun u hu => ?_, fun hn => ?_⟩
    · rw [valV_zip key kk vs hl, ← hoo] at hu
      cases oo with
      | none => cases hu
      | some m' =>
      have hu : vs[m']? = some u := hu
      have S3 := S.up e13
      have F3 := F.later e13 (ex1 := exOf fp ex0) (fun a h => .inl h)
      cases hw : ws[m']? with
      | none =>
        rw [show sdAt ws (some m') = ws[m']? from rfl, hw] at q
        exact q.elim
      | some c =>
      rw [show sdAt ws (some m') = ws[m']? from rfl, hw] at q
      cases c with
      | lst xs =>
        obtain ⟨a1, xs1, o3, u1, g2, ev1, hc1, hH1, hu1, _, F4⟩ := F3.kid (n := m') rfl hw
        cases ev1
        rw [h2] at hH1
        cases hH1
        obtain ⟨kk2, hkk2, hl2, nd2, ho2⟩ := (hc1 : CnO X.K (.dic false ks ws) xs1 o1)
        have e2k : kk2 = kk := map_dKey_inj (by rw [← hkk2, ← hkk])
        subst e2k
        have ex1 : xs1 = vs := zip_snd hl2 hl (by rw [ho] at ho2; injection ho2 with ho2; exact ho2.symm)
        subst ex1
        rw [hu] at hu1
        cases hu1
        exact app_end S3 hvi F4 rfl (kk := fun d => .next (sdPut i ρ ks ws (some m') j (.lst (xs ++ [d])))) (fun d H4 fp4 hz S4 q4 => q4 _ _ _ S4) q
      | _ => exact q.elim
    · rw [valV_zip key kk vs hl, ← hoo] at hn
      cases oo with
      | some m' =>
        have := (kIdx_lt hoo.symm).1
        exact absurd hn (by show vs[m']? ≠ none; rw [List.getElem?_eq_getElem (by omega)]; exact fun z => nomatch z)
      | none =>
      have hnk : key ∉ kk := kIdx_none hoo.symm
      have hput : putK (kk.zip vs) key (.ref p) = (kk ++ [key]).zip (vs ++ [.ref p]) := by rw [putK_zip kk vs key _ hl nd, ← hoo]
      rw [hput]
      have roN : RO X.K (fun b => b ∈ [p] ∨ exOf fp ex0 b) (L2.upd H2 p (.lst [])) (k + 1) (.lst []) (.ref p) [p] :=
        (RO.cn rfl).mpr ⟨p, [], [], _, rfl, ⟨⟨rfl, Nat.zero_le _⟩, upd_same⟩, rfl, .nil⟩
      obtain ⟨fp', S', _⟩ := fin (.dK ((kk ++ [key]).zip (vs ++ [.ref p]))) (.dic false (ks ++ [j]) (ws ++ [.lst []])) (vs ++ [.ref p]) (fps ++ [[p]])
        ⟨kk ++ [key], by rw [hkk, List.map_append, kOf_eq hkey]; rfl, by simp [hl], nd_add nd hnk, rfl⟩ rfl (P3.app (old _) (.cons (new _ _ _ roN) .nil)) (nd_snoc2 n1 (List.nodup_cons.mpr ⟨List.not_mem_nil, List.nodup_nil⟩) n2 hfq) (fun b hb => (flat_snoc b).mp hb)
      have S' : SS X.K X.H_0 ex0 Gs L (ρ.set i (some (.dic false (ks ++ [j]) (ws ++ [.lst []])))) σ _ fp' := S'
      have hi : i < ρ.length := (List.getElem?_eq_some_iff.mp (getD_some hv)).1
      obtain ⟨v1, hv1, hr1⟩ := S'.si.val i (.dic false (ks ++ [j]) (ws ++ [.lst []])) (by rw [List.getElem?_set_self hi])
      have ev1 : v1 = .ref a0 := by rw [hvi] at hv1; cases hv1; rfl
      subst ev1
      have Fb : ∀ n, L.getD i 0 = n → Foc X.K (exOf fp' ex0) _ (L.getD i 0) (.ref a0) (fp' i) n (.dic false (ks ++ [j]) (ws ++ [.lst []]), fun x => x) (.ref a0) (fp' i) := fun n h => by
        subst h
        exact Foc.base hr1 (S'.si.nod i)
      have Fb := Fb (k + 2) hLi
      obtain ⟨a1, xs1, o3, u1, g2, ev1, hc1, hH1, hu1, _, F4⟩ := Fb.kid (n := ws.length) (d := .lst []) rfl (by show (ws ++ [D.lst []])[ws.length]? = _; simp)
      cases ev1
      rw [upd_same] at hH1
      cases hH1
      obtain ⟨kk2, hkk2, hl2, nd2, ho2⟩ := (hc1 : CnO X.K (.dic false (ks ++ [j]) (ws ++ [.lst []])) xs1 _)
      have e2k : kk2 = kk ++ [key] := map_dKey_inj (by rw [← hkk2, hkk, List.map_append, kOf_eq hkey]; rfl)
      subst e2k
      have ex1 : xs1 = vs ++ [.ref p] := zip_snd hl2 (by simp [hl]) (by injection ho2 with ho2; exact ho2.symm)
      subst ex1
      rw [hwl, List.getElem?_append_right (by omega), Nat.sub_self] at hu1
      cases hu1
      refine app_end S' hvi F4 rfl (kk := fun d => .next (sdPut i ρ ks ws none j (.lst ([] ++ [d])))) (fun d H4 fp4 hz S4 q4 => q4 _ _ fp4 ?_) q
      have : sdPut i ρ ks ws none j (.lst ([] ++ [d])) = (ρ.set i (some (.dic false (ks ++ [j]) (ws ++ [.lst []])))).set i (some (setKid (.dic false (ks ++ [j]) (ws ++ [.lst []])) ws.length (.lst ([] ++ [d])))) := by
        show (ρ.set i _).set i (some (.dic false (ks ++ [j]) (ws ++ [_]))) = (ρ.set i _).set i (some (.dic false (ks ++ [j]) ((ws ++ [_]).set ws.length _)))
        rw [List.set_append_right _ _ (Nat.le_refl _), Nat.sub_self]
        rfl
      rw [this]
      exact S4
end
end Px

namespace Px
open PySem PySem.Spec PyProof.Rows L2
/-! ### sorted(d) of a dict with texts as keys, of any size -/
def fSortedS : List D → Res D
  | [.dic false ks _] => match sgOfs ks with
    | some ss => .ok (.lst ((srtS ss).map .str))
    | none => .err
  | _ => .err
theorem fSortedS_nx : NoXL fSortedS := fun ds c h => by
  unfold fSortedS at h
  split at h
  · split at h <;> cases h
  · cases h
theorem each_at {α β : Type} {R : α → β → Prop} : ∀ {as : List α} {bs : List β}, as.length = bs.length → (∀ (j : Nat) (a : α) (b : β), as[j]? = some a → bs[j]? = some b → R a b) → PySem.W.EachIs R as bs
  | [], [], _, _ => .nil
  | [], _ :: _, h, _ => by cases h
  | _ :: _, [], h, _ => by cases h
  | a :: as, b :: bs, h, r => .cons (r 0 a b rfl rfl) (each_at (Nat.succ.inj h) fun j x y e1 e2 => r (j + 1) x y e1 e2)
def isS (v : Value) (y : Str) : Prop := ∃ t, v = .str y t
theorem each_strs : ∀ {us : List Value} {ys : List Str}, PySem.W.EachIs isS us ys → Vals (ys.map V.str) us
  | _, _, .nil => .nil
  | _, _, .cons ⟨t, e⟩ r => .cons ⟨t, e⟩ (each_strs r)
theorem leS (a b : Str) : PySem.W.dataLe false PyData.str a b = !sLt b a := by
  have e := congrFun (congrFun (PySem.W.dataLe_str (k := fun s : Str => s)) a) b
  show PySem.W.dataLe false (fun s : Str => .str s) a b = _
  rw [e]
  cases q : sLt b a with
  | true =>
    rw [sLt_iff] at q
    exact decide_eq_false fun z => List.not_lt.mpr z q
  | false =>
    refine decide_eq_true (List.not_lt.mp fun z => ?_)
    rw [sLt_iff.mpr z] at q
    cases q
theorem srt_merge {ss : List Str} (nd : ss.Nodup) : ss.mergeSort (PySem.W.dataLe false PyData.str) = srtS ss := by
  have hp := List.mergeSort_perm ss (PySem.W.dataLe false PyData.str)
  have tot : ∀ a b : Str, (PySem.W.dataLe false PyData.str a b || PySem.W.dataLe false PyData.str b a) = true := fun a b => by
    rw [leS, leS]
    cases q : sLt b a with
    | false => rfl
    | true => rw [sLt_asy q]; rfl
  have tr : ∀ a b c : Str, PySem.W.dataLe false PyData.str a b = true → PySem.W.dataLe false PyData.str b c = true → PySem.W.dataLe false PyData.str a c = true := fun a b c h1 h2 => by
    rw [leS] at h1 h2 ⊢
    cases q : sLt c a with
    | false => rfl
    | true =>
      rcases sLt_tri c b with z | z | z
      · rw [z] at h2; cases h2
      · rw [z] at q; rw [q] at h1; cases h1
      · rw [sLt_trans z q] at h1; cases h1
  have pw := List.pairwise_mergeSort (le := PySem.W.dataLe false PyData.str) tr tot ss
  have ndm : (ss.mergeSort (PySem.W.dataLe false PyData.str)).Nodup := hp.nodup_iff.mpr nd
  refine pw_extS ((pw.and ndm).imp fun {a b} ⟨h1, ne⟩ => ?_) (pw_srtS ss) fun k => by rw [mem_srtS]; exact hp.mem_iff
  rw [leS] at h1
  rcases sLt_tri a b with z | z | z
  · exact z
  · exact absurd z ne
  · rw [z] at h1; cases h1
section
variable {X : Cx}
theorem c_sortedS (hc : X.calm = true) (hun : X.A.units + 64 < cLine) : CallD X 1 1 (.builtin "sorted") fSortedS := fun pins s σ H xs us Q I r h => by
  obtain ⟨ex, ds, d, ext, rs, e, q⟩ := h
  unfold fSortedS at e
  split at e
  · cases rs with
    | cons r1 t =>
      cases t
      obtain ⟨a, kk, zs, rfl, rd, ek, hlz, ndk, _⟩ := rb_dic r1
      split at e
      · rename_i ss hn
        cases e
        have hk := keysS (ek.symm.trans (sgOfs_eq hn))
        rw [hk] at ndk
        have nd : ss.Nodup := nd_map ndk
        obtain ⟨u, eu, rx⟩ := vals1 r
        subst eu
        cases rx
        obtain ⟨z, lo, vs, rel, dd⟩ := dk_rd I.hok rd
        obtain ⟨ep, hat⟩ := dd.dictAt
        have hkeys : vs.map (·.1) = ss.map Sum.inr := by
          rw [← rel.keys, zip_map1 hlz, hk]
        have hl : vs.length = ss.length := by
          have := congrArg List.length hkeys
          rwa [List.length_map, List.length_map] at this
        have hz : ss.length ≤ sizeLine := by
          rw [← hl]
          have := congrArg List.length rel.keys
          rw [List.length_map, List.length_map] at this
          omega
        refine Calls.call_function_entry PyProof.Rows.kind_sorted PyProof.Rows.plain_sorted PyProof.Rows.entry_sorted (PyProof.Rows.args_sorted1 _) ?_
        unfold Builtin.«sorted»
        refine wpAny_bind (m := checkCount "sorted" 1 1 _) (wpAny_pure ?_)
        refine wpAny_bind (PySem.W.kdu_collect (A := X.A.in1) (PySem.W.kdl_dict (knd := mixKind X.prog X.w) (kvs := vs) (ep := ep) lo) (I.ok.hd hc) hat (by rw [hl]; exact hz) fun h' tk acc hkp hacc => ?_)
        have hal : acc.toList.length = ss.length := by rw [Array.length_toList, hacc.1, hl]
        have hS : PySem.W.EachIs isS acc.toList ss := each_at hal fun j v y e1 e4 => by
          obtain ⟨k, x, e5, e2⟩ := hacc.2 j v (by rw [← Array.getElem?_toList]; exact e1)
          have e3 : (vs.map (·.1))[j]? = some k := by rw [List.getElem?_map, e5]; first | rfl | done
          rw [hkeys, List.getElem?_map, e4] at e3
          have e6 : Sum.inr y = k := Option.some.inj e3
          subst e6
          obtain ⟨t, ev⟩ := Value.isStrOf_shape (x := y) (v := v) e2
          exact ⟨t, ev⟩
        have I1 : Inv X pins σ H { s with heap := h', toks := tk } := I.kept hkp
        refine wpAny_bind (wpAny_newList ?_ (by rw [hal]; exact hz))
        have hoL : (h'.push (seqObj "list" acc.toList.toArray 0)).get? h'.objs.size = some (seqObj "list" acc.toList.toArray 0) := Heap.get?_push_size _ rfl
        show wpAny _ _ _ _ _ { s with heap := h'.push (seqObj "list" acc.toList.toArray 0), toks := tk }
        have er : ∀ hh : Heap, PySem.W.EachIs (fun v (b : Str) => ∃ as, Reads hh v (PyData.str b) as) acc.toList ss := fun hh => hS.mono fun v b ⟨t, ev⟩ => ⟨[], by rw [ev]; exact .str b t⟩
        have al : PySem.W.AllAlike (ss.map PyData.str) := fun d hd d' hd' => by
          obtain ⟨a1, _, rfl⟩ := List.mem_map.mp hd
          obtain ⟨b1, _, rfl⟩ := List.mem_map.mp hd'
          rfl
        have so : PySem.W.Sortable (ss.map PyData.str) := .inr fun d hd => by
          obtain ⟨a1, _, rfl⟩ := List.mem_map.mp hd
          exact ⟨PyData.noConfusion, fun ys h => by cases h⟩
        refine wpAny_bind (wpAny_holding (wpAny_call_entry_kw PyProof.Rows.slot_list_sort ⟨_, hoL, rfl⟩ PyProof.Rows.entry_list_sort
          (PySem.W.list_sort_vals (s := { s with heap := h'.push (seqObj "list" acc.toList.toArray 0), toks := tk }) hoL (PySem.W.SortsAt.data (s := { s with heap := PySem.W.sortingHeap (h'.push (seqObj "list" acc.toList.toArray 0)) h'.objs.size acc.toList, toks := tk }) (PySem.W.each_map (R := fun v d => ∃ as, Reads (PySem.W.sortingHeap (h'.push (seqObj "list" acc.toList.toArray 0)) h'.objs.size acc.toList) v d as) PyData.str (er _)) al so fun d hd => by
            obtain ⟨a1, _, rfl⟩ := List.mem_map.mp hd
            show X.A.units + 2 + 0 < cLine
            omega) (by rw [hal]; exact hz) ⟨_, rfl, ?_⟩) (PyProof.Rows.args_list_sort _)))
        have hK : PySem.W.EachIs isS (PySem.W.sortVals (PySem.W.dataKind (PySem.W.sortingHeap (h'.push (seqObj "list" acc.toList.toArray 0)) h'.objs.size acc.toList) (ss.map PyData.str)) false acc.toList acc.toList) (srtS ss) := by
          rw [← srt_merge nd]
          exact PySem.W.sortVals_data false hS (er _) al
        generalize PySem.W.sortVals _ false acc.toList acc.toList = out at hK ⊢
        obtain ⟨e', he'⟩ := PyProof.Rows.sortedHeap_at (vs := acc.toList) (out := out.toArray) hoL
        have hlen : ((srtS ss).map V.str).length ≤ sizeLine := by
          have := len_srtS ss
          rw [List.length_map]
          omega
        refine wpAny_pure ⟨_, rfl, .ref h'.objs.size, upd H h'.objs.size (.lst ((srtS ss).map V.str)), I1.laid (t' := tk) (fun b u e => ?_) (Nat.le_refl _)
          (show ObjOk X.prog X.w _ _ _ (.lst ((srtS ss).map V.str)) from ⟨hlen, out, e', each_strs hK, he'⟩), rfl, q.lst (RL.pair (rl_strs _)) (I1.hok.fresh (Nat.le_refl _)) hlen⟩
        have hb : b < h'.objs.size := Heap.lt_size e
        rw [PyProof.Rows.sortedHeap_old (Nat.ne_of_lt hb) (by rw [size_push']; exact Nat.lt_succ_of_lt hb)]
        exact Heap.get?_push_of_some _ e
      · cases e
  · cases e
end
/-! ### < > <= >= of plain data -/
def ltOk (a b : D) : Bool := okN 60 a && okN 60 b && PySem.W.alike (toP a) (toP b) && (match a with | .non => false | _ => true)
def dCmpD (p : PyData → PyData → Bool) (a b : D) : Res D := if ltOk a b = true then .ok (.bl (p (toP a) (toP b))) else .err
def dLt : D → D → Res D := dCmpD fun x y => PySem.W.dataLt x y
def dGt : D → D → Res D := dCmpD fun x y => PySem.W.dataLt y x
def dLeD : D → D → Res D := dCmpD fun x y => !PySem.W.dataLt y x
def dGeD : D → D → Res D := dCmpD fun x y => !PySem.W.dataLt x y
theorem dCmpD_nx (p : PyData → PyData → Bool) : NoX2 (dCmpD p) := fun a b c h => by
  unfold dCmpD at h
  split at h <;> cases h
theorem dLt_nx : NoX2 dLt := dCmpD_nx _
theorem dGt_nx : NoX2 dGt := dCmpD_nx _
theorem dLeD_nx : NoX2 dLeD := dCmpD_nx _
theorem dGeD_nx : NoX2 dGeD := dCmpD_nx _
section
variable {X : Cx} {n m k : Nat}
theorem o_cmpD {f : Value → Value → Sem Value} {p : PyData → PyData → Bool} (hu : X.A.units + 64 < cLine)
    (hr : ∀ {a b : Value} {da db : PyData} {as bs : List Addr} {Q : Value → Shared → Prop} {s : Shared}, Reads s.heap a da as → Reads s.heap b db bs → PySem.W.alike da db = true → da ≠ .none → X.A.units + min da.depth db.depth < cLine → Q (.bool (p da db)) s → wpAny (model X.prog X.w) X.A (f a b) Q X.xe s) :
    Op2 X n m k f (dCmpD p) := fun pins s σ H x y v u Q I rx ry h => by
  obtain ⟨ex, d1, d2, d, ext, r1, r2, e, q⟩ := h
  unfold dCmpD at e
  split at e
  · rename_i ok
    cases e
    unfold ltOk at ok
    rw [Bool.and_eq_true, Bool.and_eq_true, Bool.and_eq_true] at ok
    obtain ⟨⟨⟨o1, o2⟩, al⟩, nn⟩ := ok
    obtain ⟨as, ra⟩ := Dp.reads I (toP d1) x v (r1.dp 60 o1) rx
    obtain ⟨bs, rb⟩ := Dp.reads I (toP d2) y u (r2.dp 60 o2) ry
    have h1 := (ok_lay 60 d1 o1).2
    refine hr ra rb al (fun z => ?_) (by have : min (toP d1).depth (toP d2).depth ≤ (toP d1).depth := Nat.min_le_left _ _; omega) ⟨.bl _, H, I, rfl, q.bl⟩
    cases d1 with
    | non => cases nn
    | bl b => rw [toP] at z; exact PyData.noConfusion z
    | int b => rw [toP] at z; exact PyData.noConfusion z
    | str b => rw [toP] at z; exact PyData.noConfusion z
    | tup b => rw [toP] at z; exact PyData.noConfusion z
    | lst b => rw [toP] at z; exact PyData.noConfusion z
    | _ => exact absurd o1 (by simp [okN])
  · cases e
theorem o_ltD (hu : X.A.units + 64 < cLine) : Op2 X n m k (compareOp .Lt) dLt := o_cmpD hu fun ra rb al hn hu q => PySem.W.lt_data ra rb al hn hu q
theorem o_gtD (hu : X.A.units + 64 < cLine) : Op2 X n m k (compareOp .Gt) dGt := o_cmpD hu fun ra rb al hn hu q => PySem.W.gt_data ra rb al hn hu q
theorem o_leD (hu : X.A.units + 64 < cLine) : Op2 X n m k (compareOp .LtE) dLeD := o_cmpD hu fun ra rb al hn hu q => PySem.W.le_data ra rb al hn hu q
theorem o_geD (hu : X.A.units + 64 < cLine) : Op2 X n m k (compareOp .GtE) dGeD := o_cmpD hu fun ra rb al hn hu q => PySem.W.ge_data ra rb al hn hu q
end
theorem dLt_s (a b : List Nat) (h : PyData.strOk (sOf a) = true) (h2 : PyData.strOk (sOf b) = true) : dLt (.str (sOf a)) (.str (sOf b)) = .ok (.bl (decide (a < b))) := by
  have ok : ltOk (.str (sOf a)) (.str (sOf b)) = true := by
    unfold ltOk
    rw [ok_str, ok_str, h, h2, toP, toP]
    rfl
  unfold dLt dCmpD
  rw [if_pos ok, toP, toP]
  show Res.ok (D.bl (PySem.W.dataLt (PyData.str (sOf a)) (PyData.str (sOf b)))) = _
  rw [PySem.W.dataLt_str]
  rfl
/-! ### tuples of the module, known when it has run -/
def litV : D → Value → Bool
  | .str s, .str z _ => decide (s = z)
  | .int i, .int j _ => decide (i = j)
  | .non, .none => true
  | _, _ => false
def litsV : List D → List Value → Bool
  | [], [] => true
  | d :: ds, v :: vs => litV d v && litsV ds vs
  | _, _ => false
/-- the fact: the module's name x is a tuple of the literals ds -/
def tupF (x : Str) (ds : List D) (K : PySem.W.Frag) : Bool := match K.lookup (He.ga K x) with
  | some o => decide (o.cls = .type "tuple") && (match o.data with
    | .seq its _ => decide (its.size ≤ sizeLine) && litsV ds its.toList
    | _ => false)
  | none => false
def KTup (K : PySem.W.Frag) (a : Addr) (ds : List D) : Prop := ∃ xs, (∃ (o : Obj) (its : Array Value) (n : Nat), K.lookup a = some o ∧ o.cls = .type "tuple" ∧ o.data = .seq its n ∧ its.size ≤ sizeLine ∧ Vals xs its.toList) ∧ ∀ ex H, Paired (R K ex H) ds xs
theorem litV_ok {K : PySem.W.Frag} {d : D} {v : Value} (h : litV d v = true) : ∃ x, RelV x v ∧ ∀ ex H, R K ex H d x := by
  unfold litV at h
  split at h
  · have := of_decide_eq_true h
    subst this
    exact ⟨.str _, ⟨_, rfl⟩, fun ex H => by rw [R]⟩
  · have := of_decide_eq_true h
    subst this
    exact ⟨.int _, ⟨_, rfl⟩, fun ex H => by rw [R]⟩
  · exact ⟨.non, rfl, fun ex H => by rw [R]⟩
  · cases h
theorem litsV_ok {K : PySem.W.Frag} : ∀ {ds : List D} {vs : List Value}, litsV ds vs = true → ∃ xs, Vals xs vs ∧ ∀ ex H, Paired (R K ex H) ds xs
  | [], [], _ => ⟨[], .nil, fun _ _ => .nil⟩
  | [], _ :: _, h => by cases h
  | _ :: _, [], h => by cases h
  | d :: ds, v :: vs, h => by
    rw [litsV, Bool.and_eq_true] at h
    obtain ⟨x, h1, h2⟩ := litV_ok (K := K) h.1
    obtain ⟨xs, h3, h4⟩ := litsV_ok (K := K) h.2
    exact ⟨x :: xs, .cons h1 h3, fun ex H => .cons (h2 ex H) (h4 ex H)⟩
theorem tupF_ok {x : Str} {ds : List D} {K : PySem.W.Frag} (h : tupF x ds K = true) : KTup K (He.ga K x) ds := by
  unfold tupF at h
  split at h
  · rename_i o ho
    rw [Bool.and_eq_true] at h
    obtain ⟨h1, h2⟩ := h
    split at h2
    · rename_i its n hd
      rw [Bool.and_eq_true] at h2
      obtain ⟨xs, h3, h4⟩ := litsV_ok (K := K) h2.2
      exact ⟨xs, ⟨o, its, n, ho, of_decide_eq_true h1, hd, of_decide_eq_true h2.1, h3⟩, h4⟩
    · cases h2
  · cases h
def dInK (ds : List D) (d : D) : Res D := if okN 60 d && okN 60 (.tup ds) then .ok (.bl (ds.any fun z => eqD z d)) else .err
def dNotInK (ds : List D) (d : D) : Res D := if okN 60 d && okN 60 (.tup ds) then .ok (.bl (!ds.any fun z => eqD z d)) else .err
def dIxK (ds : List D) (d : D) : Res D := dIx (.tup ds) d
section
variable {X : Cx} {W : WX} {L : List Nat} {n k : Nat} {e : Expr} {f : EF} {x : Str} {a : Addr} {ds : List D} {pos p p2 : Pos}
theorem ktup_dp {H : Hp} (h : KTup X.K a ds) (ok : okN 60 (.tup ds) = true) : Dp X.K H (.ref a) (.tuple (toPL ds)) := by
  obtain ⟨xs, h1, h2⟩ := h
  refine .tup (.inr h1) ?_
  have ok2 : okL 59 ds = true := by rw [okN] at ok; exact ok
  have key : ∀ {ds : List D} {xs : List V}, okL 59 ds = true → Paired (R X.K (fun _ => False) H) ds xs → DpAll X.K H xs (toPL ds) := by
    intro ds xs ok r
    induction r with
    | nil => exact .nil
    | @cons d v ds vs r t ih =>
      rw [okL, Bool.and_eq_true] at ok
      rw [toPL]
      exact .cons (R.dp 59 d ok.1 r) (ih ok.2)
  exact key ok2 (h2 _ H)
theorem dInK_nx (ds : List D) : NoX1 (dInK ds) := fun d c h => by
  unfold dInK at h
  split at h <;> cases h
theorem op_inK (hu : X.A.units + 65 < cLine) (h : KTup X.K a ds) : OpR X (compareOp .In) (fun x y H Q => y = .ref a ∧ ∃ ex d b, RB X.K ex H n d x ∧ dInK ds d = .ok (.bl b) ∧ Q (.bl b) H) := fun pins s σ H x y v u Q I rx ry hh => by
  obtain ⟨rfl, ex, d, b, r, e, q⟩ := hh
  unfold dInK at e
  split at e
  · rename_i ok
    rw [Bool.and_eq_true] at ok
    have e2 : (ds.any fun z => eqD z d) = b := by cases e; rfl
    have hl : okL 59 ds = true := by have := ok.2; rw [okN] at this; exact this
    have hs : SeqAt.shaped (.tuple (toPL ds)) = true := by have := ok_shaped ok.2; rw [toP] at this; exact this
    obtain ⟨as, q1⟩ := Dp.reads I (toP d) x v (r.dp 60 ok.1) rx
    obtain ⟨bs, q2⟩ := Dp.reads I (.tuple (toPL ds)) _ u (ktup_dp h ok.2) ry
    exact SeqAt.in_tuple_reads q2 q1 (SeqAt.canLay_of_shaped hs) (SeqAt.canLay_of_shaped (ok_shaped ok.1)) (room_in_shaped (ok_shaped ok.1) hu) ⟨.bl _, H, I, rfl, by rw [any_toP d ok.1 59 ds hl, e2]; exact q⟩
  · cases e
theorem eo_inK (hu : X.A.units + 65 < cLine) (hg : Gl X x) (hm : X.mg x = some (.ref a)) (h : KTup X.K a ds) (he : EB X W L n e f) (hdd : (x == ("__debug__" : Str)) = false := by decide) (hmk : behindInMarks .In (.Name x p2) = false := by rfl) :
    EO X W L k (.Compare e [.In] [.Name x p2] pos) (eUn (dInK ds) f) := by
  exact PE.imp (pe_cmpR (op_inK hu h) he (pe_glob (v := .ref a) hg hm rfl hdd) hmk) fun σ H Q ⟨ex, ρ, fp, I, q⟩ => ⟨ex, ρ, fp, I, q.bind.mono fun d q1 v1 H1 e1 r1 => by
    obtain ⟨d', ed, qd⟩ := no_exc q1 (dInK_nx ds d)
    have : ∃ b, d' = .bl b := by
      unfold dInK at ed
      split at ed
      · cases ed; exact ⟨_, rfl⟩
      · cases ed
    obtain ⟨b, rfl⟩ := this
    exact ⟨rfl, ex, d, b, r1, ed, qd _ H1 [] e1 (RO.flat (by rw [R]) rfl) List.nodup_nil fun b hb => nomatch hb⟩⟩
theorem dInK_bl {d d' : D} (ed : dInK ds d = .ok d') : ∃ b, d' = .bl b := by
  unfold dInK at ed
  split at ed
  · cases ed; exact ⟨_, rfl⟩
  · cases ed
theorem et_inK (hu : X.A.units + 65 < cLine) (hg : Gl X x) (hm : X.mg x = some (.ref a)) (h : KTup X.K a ds) (he : EB X W L n e f) (hdd : (x == ("__debug__" : Str)) = false := by decide) (hmk : behindInMarks .In (.Name x p2) = false := by rfl) :
    ET X W L (.Compare e [.In] [.Name x p2] pos) (eUn asB (eUn (dInK ds) f)) :=
  PT.imp (pt_cmpR (op_inK hu h) he (pe_glob (v := .ref a) hg hm rfl hdd) hmk) fun σ H Q ⟨ex, ρ, fp, I, q⟩ => ⟨ex, ρ, fp, I, q.bind.bind.mono fun d q1 v1 H1 e1 r1 => by
    obtain ⟨d', ed, qd⟩ := no_exc q1 (dInK_nx ds d)
    obtain ⟨b, rfl⟩ := dInK_bl ed
    exact ⟨rfl, ex, d, b, r1, ed, b, rfl, qd H1 e1⟩⟩
theorem eo_lenK {m : Int} (hg : Gl X "len") (hmb : X.mg "len" = none) (hgx : Gl X x) (hm : X.mg x = some (.ref a)) (h : KTup X.K a ds) (hdd : (x == ("__debug__" : Str)) = false := by decide)
    (hlen : (ds.length : Int) = m := by rfl) (hs : starEach [.Name x p2] X.env = (false, eval (.Name x p2) X.env) :: starEach [] X.env := by rfl) (hpl : (backTo pos (starEach [] X.env)).any (·.1) = false := by rfl) :
    EO X W L k (.Call (.Name "len" p) [.Name x p2] [] pos) (eC (.int m)) :=
  PE.imp (pe_callB call_len_seq hg hmb (by rfl) (pa_cons (pe_glob (v := .ref a) hgx hm rfl hdd) pa_nil hs) (by decide) (by decide) hs hpl) fun σ H Q ⟨ex, ρ, fp, I, o⟩ => by
    obtain ⟨xs, h1, h2⟩ := h
    refine ⟨a, xs, rfl, .inr (.inr h1), ?_⟩
    have hl : ds.length = xs.length := (h2 (fun _ => False) H).length
    rw [← hl, hlen]
    exact o _ H [] (Same.refl H) (RO.flat (by rw [R]) rfl) List.nodup_nil fun b hb => nomatch hb
theorem eo_ixK (hu : X.A.units + 1 < cLine) (hg : Gl X x) (hm : X.mg x = some (.ref a)) (h : KTup X.K a ds) (hb : EB X W L n e f) (hlit : ds.all notList = true := by rfl) (hdd : (x == ("__debug__" : Str)) = false := by decide) (hs : PlainIx e := by intro _ _; rfl) :
    EO X W L k (.Subscript (.Name x p2) e pos) (eUn (dIxK ds) f) :=
  PE.imp (pe_ix (IxR.or ix_seq (ix_dic hu)) (pe_glob (v := .ref a) hg hm rfl hdd) hb hs) fun σ H Q ⟨ex, ρ, fp, I, q⟩ => ⟨ex, ρ, fp, I, q.bind.mono fun d q1 v1 H1 e1 r1 => by
    obtain ⟨d', ed, qd⟩ := no_exc q1 (dIx_nx (.tup ds) d)
    obtain ⟨xs, h1, h2⟩ := h
    have key : ∃ z, d = .int z ∧ atI ds z = some d' := by
      cases d with
      | int z =>
        refine ⟨z, rfl, ?_⟩
        have ed : (match atI ds z with
          | some d => Res.ok d
          | none => .err) = .ok d' := ed
        cases hy : atI ds z with
        | none => rw [hy] at ed; cases ed
        | some y => rw [hy] at ed; cases ed; rfl
      | _ => cases ed
    obtain ⟨z, rfl, hy⟩ := key
    obtain ⟨w, hw, rw'⟩ := Paired.atI (h2 ex H1) hy
    have hc : notList d' = true := by
      have hmem : d' ∈ ds := by
        unfold atI at hy
        cases hz : ixN ds.length z with
        | none => rw [hz] at hy; cases hy
        | some m => rw [hz] at hy; exact List.mem_of_getElem? hy
      exact List.all_eq_true.mp hlit d' hmem
    exact .inl (.inr (.inl ⟨a, xs, _, w, rfl, r1.int, .inr h1, hw, qd w H1 [] e1 (RO.flat (R.less (fun b hb => .inl (hb.elim (fun q => nomatch q) id)) rw') hc) List.nodup_nil fun b hb => nomatch hb⟩))⟩
/-! a, b, .. = a list -/
def gfLst (is : List Nat) : Px.Env → D → Res Px.Env := fun ρ d => match d with
  | .lst ds => if ds.length = is.length then .ok (setL ρ is ds) else .err
  | _ => .err
theorem gs_lst {K : PySem.W.Frag} (is : List Nat) : GSem K (gLst K is.length (gNames is)) (gfLst is) is := fun ex v σ H Q d ρ ρ' r e h => by
  unfold gfLst at e
  split at e
  · split at e
    · rename_i ds hl
      cases e
      rw [R] at r
      obtain ⟨a, xs, rfl, h1, h2⟩ := r
      refine ⟨a, xs, rfl, ?_, by rw [← RL.length h2]; exact hl, gNames_ok is ds xs σ ρ hl (RL.pair h2) h⟩
      rcases h1 with ⟨o, ⟨rfl, _⟩, rd, _⟩ | ⟨_, kl, _⟩
      · exact .inl rd
      · exact .inr kl
    · cases e
  · cases e
end
/-! range(0, n, 4) -/
def dRng3P : List D → Res (List D)
  | [.int i, .int j, .int c] => if c = 4 ∧ i = 0 ∧ 0 ≤ j ∧ j ≤ 16777216 then .ok (rngC 0 4 ((j + 3) / 4).toNat) else .err
  | _ => .err
theorem rgC4 {j : Int} (h0 : 0 ≤ j) (h1 : j ≤ 16777216) : RgC 0 j 4 ((j + 3) / 4).toNat := by
  have e : Builtin.Range.rangeSize 0 j 4 = (((j + 3) / 4).toNat : Int) := by
    unfold Builtin.Range.rangeSize
    rw [if_pos (show (4 : Int) > 0 by decide)]
    by_cases h : (0 : Int) < j
    · rw [if_pos h]; omega
    · rw [if_neg h]; omega
  refine ⟨by decide, by decide, ?_, e⟩
  unfold Builtin.Range.small
  rw [e]
  rw [if_pos (show (4 : Int) > 0 by decide)]
  simp only [Builtin.Range.rangeFitsLong, Bool.and_eq_true, Bool.or_eq_true, decide_eq_true_eq, beq_iff_eq]
  omega
section
variable {X : Cx} {W : WX} {L : List Nat} {n k m n2 : Nat} {pos p : Pos} {tg a b c : Expr} {fs : Px.Env → Res (List D)}
theorem ei_range3P (hg : Gl X "range") (hm : X.mg "range" = none) (ha : EA X W L n2 m [a, b, c] fs) (hs : starEach [a, b, c] X.env = (false, eval a X.env) :: starEach [b, c] X.env := by rfl) (hpl : (backTo pos (starEach [b, c] X.env)).any (·.1) = false := by rfl) :
    EI X W L n tg (.Call (.Name "range" p) [a, b, c] [] pos) (iCall dRng3P fs) :=
  PI.imp (pi_range3 hg hm ha hs hpl) fun σ H Q ⟨ex, ρ, fp, I, o⟩ => ⟨ex, ρ, fp, I, o.bind.mono fun ds q vs H1 e1 r1 _ => by
    unfold dRng3P at q
    split at q
    · split at q
      · rename_i i j c hj
        obtain ⟨rfl, rfl, hj0, hj1⟩ := hj
        cases r1 with
        | cons r t =>
          cases t with
          | cons r2 t =>
            cases t with
            | cons r3 t =>
              cases t
              rw [RB.int r, RB.int r2, RB.int r3]
              exact ⟨0, j, 4, ((j + 3) / 4).toNat, rfl, rgC4 hj0 hj1, q (Itc 0 4 ((j + 3) / 4).toNat) H1 ((.non, .non), (.non, .non)) e1 HR.nil (itn_rngC (by rw [line_eq]; omega))⟩
      · exact q.elim
    · exact q.elim⟩
end
/-! enumerate(list) -/
def dEnumL : List D → Res (List D)
  | [.lst xs] => .ok (enumL xs)
  | _ => .err
theorem itn_enumLst {K : PySem.W.Frag} {ds : List D} {a : Addr} (hl : ds.length ≤ sizeLine) : Itn K 1 (Ite K a) ((.lst ds, .ref a), (.non, .non)) (enumL ds) := by
  have ob : ∀ ex H, RB K ex H 1 (.lst ds) (.ref a) → ∃ xs, SqL K H a xs ∧ Paired (R K ex H) ds xs := fun ex H h => by
    obtain ⟨b, xs, e, h1, h2, h3⟩ := RB.lst h
    cases e
    exact ⟨xs, h1, h3⟩
  refine ⟨by rw [enumL_len]; exact hl, fun ex H i h hi => ?_, fun ex H h => ?_, fun ex H i d x H' h hd hy => ?_⟩
  · rw [enumL_len] at hi
    obtain ⟨xs, h1, h2⟩ := ob ex H h.1
    obtain ⟨x, hx, _⟩ := Paired.get h2 (List.getElem?_eq_getElem hi)
    exact ⟨xs, x, h1, hx⟩
  · obtain ⟨xs, h1, h2⟩ := ob ex H h.1
    exact ⟨xs, h1, by rw [enumL_len, h2.length]; exact Nat.le_refl _⟩
  · obtain ⟨xs, h1, h2⟩ := ob ex H h.1
    obtain ⟨z, hz, rfl⟩ := enumL_get hd
    obtain ⟨y, hy1, ry⟩ := Paired.get h2 hz
    obtain ⟨T, x', rfl, hT, rfl, hy2⟩ := hy
    have e := hy2 xs h1
    rw [hy1] at e
    cases e
    have sm : Same H (upd H T (.tup [.int (i : Nat), y])) := same_upd hT
    refine ⟨sm, RB.of ?_⟩
    rw [R]
    refine ⟨T, [.int (i : Nat), y], rfl, ⟨upd_same, (by decide : (2 : Nat) ≤ sizeLine)⟩, RL.of (.cons (by rw [R]) (.cons (R.same sm ry) .nil))⟩
section
variable {X : Cx} {W : WX} {L : List Nat} {n kk : Nat} {elts : List Expr} {tpos p pos : Pos} {e : Expr} {fs : Px.Env → Res (List D)}
theorem ei_enumL (hg : Gl X "enumerate") (hm : X.mg "enumerate" = none) (ha : EA X W L 1 1 [e] fs) (hs : starEach [e] X.env = [(false, eval e X.env)] := by rfl) : EI X W L 1 (.Tuple elts kk tpos) (.Call (.Name "enumerate" p) [e] [] pos) (iCall dEnumL fs) :=
  PI.imp (pi_enum hg hm ha hs) fun σ H Q ⟨ex, ρ, fp, I, o⟩ => ⟨ex, ρ, fp, I, o.bind.mono fun ds q vs H1 e1 r1 _ => by
    unfold dEnumL at q
    split at q
    · rename_i xs
      cases r1 with
      | cons r t =>
        cases t
        have r' := r
        obtain ⟨a, ys, rfl, h1, h2, h3⟩ := RB.lst r
        exact ⟨a, ys, rfl, h1, q (Ite X.K a) H1 ((.lst xs, .ref a), (.non, .non)) e1 (HR.one r') (itn_enumLst (by rw [h3.length]; exact h2))⟩
    · exact q.elim⟩
end
/-! ### list displays with owned items, at any level -/
section
variable {X : Cx} {W : WX} {L : List Nat} {n k : Nat} {es : List Expr} {fs : List EF} {ks : List Nat} {pos : Pos}
theorem AOs.p3 {K : PySem.W.Frag} {ex : AS} {H : Hp} : ∀ {ks : List Nat} {ds : List D} {vs : List V} {fqs : List (List Addr)}, (∀ j ∈ ks, j = k) → AOs K ex H ks ds vs fqs → P3 (RO K ex H k) ds vs fqs ∧ vs.length = ks.length
  | [], [], [], [], _, _ => ⟨.nil, rfl⟩
  | j :: _, _ :: _, _ :: _, fq :: fqs, hk, h => by
    obtain ⟨p, l⟩ := AOs.p3 (fun i hi => hk i (List.mem_cons_of_mem _ hi)) h.2
    have e := hk j List.mem_cons_self
    subst e
    exact ⟨.cons h.1 p, by rw [List.length_cons, List.length_cons, l]⟩
theorem P3.map3 {α β γ : Type} {F G : α → β → γ → Prop} (h : ∀ a b c, F a b c → G a b c) {as : List α} {bs : List β} {cs : List γ} (p : P3 F as bs cs) : P3 G as bs cs := P3.mono h p
theorem eo_lstN (h : EAO X W L ks es fs) (hk : ∀ j ∈ ks, j = k := by decide) (hm : ks.length ≤ sizeLine := by decide) : EO X W L (k + 1) (.List es pos) (eLst (evL fs)) := PE.imp (pe_lst h) fun σ H Q ⟨ex, ρ, fp, I, o⟩ =>
  ⟨ex, ρ, fp, I, o.bind.mono fun ds q vs fqs H1 e1 r1 nd nw => by
    obtain ⟨p3, hl⟩ := AOs.p3 hk r1
    have hz : vs.length ≤ sizeLine := by omega
    refine ⟨hz, fun p hp => ?_⟩
    refine q (.ref p) _ (p :: fqs.flatten) (e1.trans (same_upd hp)) ((RO.cn rfl).mpr ⟨p, vs, fqs, _, rfl, ⟨⟨rfl, hz⟩, upd_same⟩, rfl, P3.mono (fun a b c r => ?_) p3⟩) (List.nodup_cons.mpr ⟨fun z => r1.there z hp, nd⟩) fun a ha => ?_
    · refine RO.keep (Keep.same (same_upd hp)) (fun a h => ?_) (fun a _ o q => same_upd hp a o q) r
      rcases h with h | h
      · rcases List.mem_cons.mp h with rfl | h
        · exact .inr hp
        · exact .inl (.inl h)
      · exact .inl (.inr h)
    · rcases List.mem_cons.mp ha with rfl | ha
      · exact e1.free hp
      · exact nw a ha⟩
theorem c_lenN : CallD X (n + 1) k (.builtin "len") fLen := fun pins s σ H xs us Q I r h => by
  obtain ⟨ex, ds, d, ext, rs, e, q⟩ := h
  unfold fLen at e
  split at e
  · split at e
    · rename_i hl
      cases e
      cases rs with
      | cons r1 t =>
        cases t
        rw [RB.str r1] at *
        exact call_len pins s σ H _ us Q I r ⟨_, _, rfl, ⟨hl, rfl⟩, q.int⟩
    · cases e
  · cases e
    cases rs with
    | cons r1 t =>
      cases t
      obtain ⟨a, ys, rfl, h1, _, h3⟩ := RB.tup r1
      exact call_len pins s σ H _ us Q I r ⟨_, ys.length, rfl, .inr ⟨ys, h1, rfl⟩, by rw [← h3.length]; exact q.int⟩
  · cases e
    cases rs with
    | cons r1 t =>
      cases t
      obtain ⟨a, ys, rfl, h1, _, h3⟩ := RB.lst r1
      exact call_len pins s σ H _ us Q I r ⟨_, ys.length, rfl, .inl ⟨ys, h1, rfl⟩, by rw [← h3.length]; exact q.int⟩
  · cases e
    cases rs with
    | cons r1 t =>
      cases t
      obtain ⟨a, ys, rfl, h1, h3⟩ := RB.cnr rfl r1
      rw [Vals.ref1 r]
      refine len_dic I h1 ?_
      rw [← h3.length]
      exact q.int
  · cases e
end
end Px

namespace K
open PySem PySem.Spec PyProof.Rows L2 Px
/-! _law_draws -/
def B__law_draws_2 : SF := (sSeq (sIf (eUn asB (eOp (dCmpI iGt) (eVar 5) (eC (.int 0)))) (sSeq (sAppend 2 (eOp dMod (eCall fInt (aCons (eVar 5) aNil)) (eC (.int 1009))))
  (sSet 5 (eOp dDiv (eVar 5) (eC (.int 1009))))) sNext)
  (sKill [6] sNext))
def B__law_draws_1 : SF := (sSeq (sSet 5 (eCall fAbs (aCons (eVar 4) aNil)))
  (sSeq (sSet 3 (eOp dMod (eCall fInt (aCons (eOp dAdd (eOp dAdd (eOp dMul (eVar 3) (eC (.int 48271))) (eVar 5)) (eC (.int 11))) aNil)) (eC (.int 2147483647))))
  (sSeq (sIf (eUn asB (eOp (dCmpI iGe) (eVar 5) (eOp dPow (eC (.int 10)) (eC (.int 18))))) (sSeq (sFor (iCall dRng1 (aCons (eC (.int 60)) aNil)) (gfName 6)
  B__law_draws_2)
  (sKill [5, 6] sNext)) (sAppend 2 (eOp dMod (eOp dDiv (eCall fInt (aCons (eOp dAdd (eOp dMul (eVar 3) (eC (.int 16807))) (eC (.int 5))) aNil)) (eC (.int 3))) (eC (.int 65521)))))
  (sKill [4, 5, 6] sNext))))
def B__law_draws_3 : SF := (sSeq (sIf (eUn asB (eOp (dCmpI iLt) (eCall fLen (aCons (eVar 2) aNil)) (eVar 1))) (sSeq (sSet 3 (eOp dMod (eCall fInt (aCons (eOp dAdd (eOp dAdd (eOp dMul (eVar 3) (eC (.int 69621))) (eVar 6)) (eC (.int 1))) aNil)) (eC (.int 2147483647))))
  (sAppend 2 (eOp dMod (eOp dDiv (eCall fInt (aCons (eVar 3) aNil)) (eC (.int 7))) (eC (.int 65521))))) sNext)
  (sKill [6] sNext))
def F__law_draws : SF := (sSeq (sSet 2 (eC (.lst [])))
  (sSeq (sSet 3 (eC (.int 7)))
  (sSeq (sFor (iSeq (eSl (eVar 0) oNone (oSome (eC (.int 63))))) (gfName 4)
  B__law_draws_1)
  (sKill [4, 5, 6] (sSeq (sFor (iCall dRng1 (aCons (eVar 1) aNil)) (gfName 6)
  B__law_draws_3)
  (sKill [3, 6] (sRet (eSl (eVar 2) oNone (oSome (eVar 1))))))))))
def C__law_draws : List D → Res D := fnE 7 F__law_draws
/-! _law_strange -/
def B__law_strange_1 : SF := (sSeq (sUnp (gfTup [5, 6, 7]) (eOp dIx (eVar 0) (eVar 4)))
  (sSeq (sSet 8 (eOp dIx (eVar 2) (eOp dMod (eCall fInt (aCons (eOp dIx (eVar 1) (eVar 4)) aNil)) (eC (.int 9)))))
  (sSeq (sIf (eUn asB (eOp (dNe) (eVar 6) (eOp dAdd (eTup (aCons (eVar 8) aNil)) (eVar 7)))) (sAppend 3 (eTup (aCons (eVar 5) (aCons (eVar 6) (aCons (eOp dAdd (eTup (aCons (eVar 8) aNil)) (eVar 7)) aNil))))) (sAppend 3 (eTup (aCons (eVar 5) (aCons (eVar 6) (aCons (eVar 7) aNil))))))
  (sKill [4, 5, 6, 7, 8] sNext))))
def F__law_strange : SF := (sSeq (sSet 2 (eLst (aCons (eC (.str "")) (aCons (eC (.str "+")) (aCons (eC (.str "-a")) (aCons (eC (.str "@ 1")) (aCons (eC (.str "@")) (aCons (eC (.str " ")) (aCons (eC (.str "a b")) (aCons (eC (.str "--")) (aCons (eC (.str "~")) aNil)))))))))))
  (sSeq (sSet 3 (eC (.lst [])))
  (sSeq (sFor (iCall dRng1 (aCons (eCall fLen (aCons (eVar 0) aNil)) aNil)) (gfName 4)
  B__law_strange_1)
  (sKill [4, 5, 6, 7, 8] (sRet (eCall fTuple (aCons (eVar 3) aNil)))))))
def C__law_strange : List D → Res D := fnE 9 F__law_strange
/-! _law_written -/
def B__law_written_1 : SF := (sSeq (sSet 1 (eOp dAdd (eOp dAdd (eOp dAdd (eVar 1) (eLst (aCons (eOp dAdd (eC (.str "@ ")) (eCall fStr (aCons (eVar 2) aNil))) aNil))) (eLc (iSeq (eVar 3)) [5] (gfName 5) bYes (eOp dAdd (eC (.str "-")) (eVar 5)))) (eLc (iSeq (eVar 4)) [5] (gfName 5) bYes (eOp dAdd (eC (.str "+")) (eVar 5)))))
  (sKill [2, 3, 4] sNext))
def F__law_written : SF := (sSeq (sSet 1 (eC (.lst [])))
  (sSeq (sFor (iSeq (eVar 0)) (gfTup [2, 3, 4])
  B__law_written_1)
  (sKill [2, 3, 4] (sRet (eMS fJoin (eC (.str "\n")) (aCons (eVar 1) aNil))))))
def C__law_written : List D → Res D := fnE 6 F__law_written
/-! _law_patch -/
def B__law_patch_1 : SF := (sSeq (sSet 7 (eSl (eVar 2) (oSome (eVar 5)) (oSome (eOp dAdd (eVar 5) (eOp dMod (eCall fInt (aCons (eOp dIx (eVar 0) (eOp dAdd (eOp dAdd (eVar 1) (eC (.int 2))) (eOp dMul (eC (.int 4)) (eVar 6)))) aNil)) (eC (.int 3)))))))
  (sSeq (sSet 8 (eCall fTuple (aCons (eLc (iCall dRng1 (aCons (eOp dMod (eCall fInt (aCons (eOp dIx (eVar 0) (eOp dAdd (eOp dAdd (eVar 1) (eC (.int 4))) (eOp dMul (eC (.int 4)) (eVar 6)))) aNil)) (eC (.int 3))) aNil)) [9] (gfName 9) bYes (eOp dIx (eC (.str "abcxyz")) (eOp dMod (eOp dDiv (eCall fInt (aCons (eOp dIx (eVar 0) (eOp dAdd (eOp dAdd (eVar 1) (eC (.int 3))) (eOp dMul (eC (.int 4)) (eVar 6)))) aNil)) (eOp dIx (eLst (aCons (eC (.int 1)) (aCons (eC (.int 6)) (aCons (eC (.int 36)) aNil)))) (eVar 9))) (eC (.int 6))))) aNil)))
  (sSeq (sIf (bAnd (eUn asB (eOp (dCmpI iLe) (eVar 5) (eCall fLen (aCons (eVar 2) aNil)))) (eUn asB (eOp (dNe) (eVar 7) (eVar 8)))) (sSeq (sAppend 4 (eTup (aCons (eVar 5) (aCons (eVar 7) (aCons (eVar 8) aNil)))))
  (sSet 5 (eOp dAdd (eVar 5) (eCall fLen (aCons (eVar 7) aNil))))) sNext)
  (sSeq (sSet 5 (eOp dAdd (eOp dAdd (eVar 5) (eC (.int 1))) (eOp dMod (eCall fInt (aCons (eOp dIx (eVar 0) (eOp dAdd (eOp dAdd (eVar 1) (eC (.int 5))) (eOp dMul (eC (.int 4)) (eVar 6)))) aNil)) (eC (.int 3)))))
  (sKill [6, 7, 8] sNext)))))
def F__law_patch : SF := (sSeq (sPar [4, 5] [(eC (.lst [])), (eOp dMod (eCall fInt (aCons (eOp dIx (eVar 0) (eVar 1)) aNil)) (eC (.int 3)))])
  (sSeq (sFor (iCall dRng1 (aCons (eOp dMod (eCall fInt (aCons (eOp dIx (eVar 0) (eOp dAdd (eVar 1) (eC (.int 1)))) aNil)) (eOp dAdd (eVar 3) (eC (.int 1)))) aNil)) (gfName 6)
  B__law_patch_1)
  (sKill [5, 6, 7, 8] (sRet (eCall fTuple (aCons (eVar 4) aNil))))))
def C__law_patch : List D → Res D := fnE 10 F__law_patch
/-! _law_bent -/
def F__law_bent : SF := (sSeq (sSet 2 (eLst (aCons (eC (.str "0")) (aCons (eC (.str "1")) (aCons (eC (.str "-")) (aCons (eC (.str "+")) (aCons (eC (.str "@ ")) (aCons (eC (.str "\n")) (aCons (eC (.str "@ 3")) (aCons (eC (.str "+x")) (aCons (eC (.str "-x")) (aCons (eC (.str "a")) (aCons (eC (.str "@ 01")) (aCons (eC (.str "@")) (aCons (eC (.str "\n+")) (aCons (eC (.str "\n-")) aNil))))))))))))))))
  (sSeq (sPar [3, 4, 5] [(eOp dMod (eCall fInt (aCons (eOp dIx (eVar 1) (eC (.int 0))) aNil)) (eOp dAdd (eCall fLen (aCons (eVar 0) aNil)) (eC (.int 1)))), (eOp dMod (eCall fInt (aCons (eOp dIx (eVar 1) (eC (.int 1))) aNil)) (eC (.int 4))), (eOp dIx (eVar 2) (eOp dMod (eCall fInt (aCons (eOp dIx (eVar 1) (eC (.int 2))) aNil)) (eC (.int 14))))])
  (sSeq (sIf (eUn asB (eOp (dEq) (eVar 4) (eC (.int 0)))) (sRet (eOp dAdd (eSl (eVar 0) oNone (oSome (eVar 3))) (eSl (eVar 0) (oSome (eOp dAdd (eVar 3) (eC (.int 1)))) oNone))) sNext)
  (sSeq (sIf (eUn asB (eOp (dEq) (eVar 4) (eC (.int 1)))) (sRet (eOp dAdd (eOp dAdd (eSl (eVar 0) oNone (oSome (eVar 3))) (eVar 5)) (eSl (eVar 0) (oSome (eVar 3)) oNone))) sNext)
  (sRet (eIf (eUn asB (eOp (dEq) (eVar 4) (eC (.int 2)))) (eOp dAdd (eOp dAdd (eSl (eVar 0) oNone (oSome (eVar 3))) (eVar 5)) (eSl (eVar 0) (oSome (eOp dAdd (eVar 3) (eC (.int 1)))) oNone)) (eOp dAdd (eOp dAdd (eVar 0) (eC (.str "\n"))) (eSl (eVar 0) oNone (oSome (eVar 3))))))))))
def C__law_bent : List D → Res D := fnE 6 F__law_bent
/-! _law_is_text -/
def F__law_is_text : SF := (sRet (eAnd (eUn (dIsi isTup) (eVar 0)) (eCall fAll (aCons (eLc (iSeq (eVar 0)) [1] (gfName 1) bYes (eAnd (eUn (dIsi isStr) (eVar 1)) (eOp (dNotIn) (eC (.str "\n")) (eVar 1)))) aNil))))
def C__law_is_text : List D → Res D := fnE 2 F__law_is_text
/-! _law_is_patch -/
def B__law_is_patch_1 : SF := (sSeq (sIf (bOr (bNot (eUn dTru (eUn (dIsi isTup) (eVar 2)))) (bOr (eUn asB (eOp (dNe) (eCall fLen (aCons (eVar 2) aNil)) (eC (.int 3)))) (bOr (bNot (eUn dTru (eUn (dIsi isInt) (eOp dIx (eVar 2) (eC (.int 0)))))) (bOr (eUn dTru (eUn (dIsi isBool) (eOp dIx (eVar 2) (eC (.int 0))))) (eUn asB (eOp (dCmpI iLe) (eOp dIx (eVar 2) (eC (.int 0))) (eVar 1))))))) (sRet (eC (.bl false))) sNext)
  (sSeq (sIf (bOr (bNot (eUn dTru (eCall C__law_is_text (aCons (eOp dIx (eVar 2) (eC (.int 1))) aNil)))) (bOr (bNot (eUn dTru (eCall C__law_is_text (aCons (eOp dIx (eVar 2) (eC (.int 2))) aNil)))) (eUn asB (eOp (dEq) (eOp dIx (eVar 2) (eC (.int 1))) (eOp dIx (eVar 2) (eC (.int 2))))))) (sRet (eC (.bl false))) sNext)
  (sSeq (sSet 1 (eOp dAdd (eOp dIx (eVar 2) (eC (.int 0))) (eCall fLen (aCons (eOp dIx (eVar 2) (eC (.int 1))) aNil))))
  (sKill [2] sNext))))
def F__law_is_patch : SF := (sSeq (sIf (bNot (eUn dTru (eUn (dIsi isTup) (eVar 0)))) (sRet (eC (.bl false))) sNext)
  (sSeq (sSet 1 (eUn dNeg (eC (.int 1))))
  (sSeq (sFor (iSeq (eVar 0)) (gfName 2)
  B__law_is_patch_1)
  (sKill [1, 2] (sRet (eC (.bl true)))))))
def C__law_is_patch : List D → Res D := fnE 3 F__law_is_patch
/-! _law_read -/
def B__law_read_1 : SF := (sSeq (sIf (eUn dTru (eMS fStarts (eVar 2) (aCons (eC (.str "@ ")) aNil))) (sSeq (sSet 3 (eSl (eVar 2) (oSome (eC (.int 2))) oNone))
  (sSeq (sIf (bOr (eUn asB (eOp (dEq) (eVar 3) (eC (.str "")))) (bOr (bNot (eUn dTru (eCall fAll (aCons (eLc (iSeq (eVar 3)) [4] (gfName 4) bYes (eOp (dIn) (eVar 4) (eC (.str "0123456789")))) aNil)))) (bAnd (eUn asB (eOp (dCmpI iGt) (eCall fLen (aCons (eVar 3) aNil)) (eC (.int 1)))) (eUn asB (eOp (dEq) (eOp dIx (eVar 3) (eC (.int 0))) (eC (.str "0"))))))) (sRet (eC .non)) sNext)
  (sAppend 1 (eTup (aCons (eCall fIntS (aCons (eVar 3) aNil)) (aCons (eTup aNil) (aCons (eTup aNil) aNil))))))) (sIf (bAnd (eUn asB (eOp (dCmpI iGt) (eCall fLen (aCons (eVar 1) aNil)) (eC (.int 0)))) (bAnd (eUn dTru (eMS fStarts (eVar 2) (aCons (eC (.str "-")) aNil))) (eUn asB (eOp (dEq) (eOp dIx (eOp dIx (eVar 1) (eUn dNeg (eC (.int 1)))) (eC (.int 2))) (eTup aNil))))) (sPutP 1 (plVar 1) (eUn dNeg (eC (.int 1))) (eTup (aCons (eOp dIx (eOp dIx (eVar 1) (eUn dNeg (eC (.int 1)))) (eC (.int 0))) (aCons (eOp dAdd (eOp dIx (eOp dIx (eVar 1) (eUn dNeg (eC (.int 1)))) (eC (.int 1))) (eTup (aCons (eSl (eVar 2) (oSome (eC (.int 1))) oNone) aNil))) (aCons (eTup aNil) aNil))))) (sIf (bAnd (eUn asB (eOp (dCmpI iGt) (eCall fLen (aCons (eVar 1) aNil)) (eC (.int 0)))) (eUn dTru (eMS fStarts (eVar 2) (aCons (eC (.str "+")) aNil)))) (sPutP 1 (plVar 1) (eUn dNeg (eC (.int 1))) (eTup (aCons (eOp dIx (eOp dIx (eVar 1) (eUn dNeg (eC (.int 1)))) (eC (.int 0))) (aCons (eOp dIx (eOp dIx (eVar 1) (eUn dNeg (eC (.int 1)))) (eC (.int 1))) (aCons (eOp dAdd (eOp dIx (eOp dIx (eVar 1) (eUn dNeg (eC (.int 1)))) (eC (.int 2))) (eTup (aCons (eSl (eVar 2) (oSome (eC (.int 1))) oNone) aNil))) aNil))))) (sRet (eC .non)))))
  (sKill [2, 3] sNext))
def F__law_read : SF := (sSeq (sSet 1 (eC (.lst [])))
  (sSeq (sFor (iSeq (eIf (eUn asB (eOp (dNe) (eVar 0) (eC (.str "")))) (eMS fSplit (eVar 0) (aCons (eC (.str "\n")) aNil)) (eC (.lst [])))) (gfName 2)
  B__law_read_1)
  (sKill [2, 3] (sRet (eIf (eUn dTru (eCall C__law_is_patch (aCons (eCall fTuple (aCons (eVar 1) aNil)) aNil))) (eCall fTuple (aCons (eVar 1) aNil)) (eC .non))))))
def C__law_read : List D → Res D := fnE 5 F__law_read
/-! _law_text -/
def F__law_text : SF := (sRet (eCall fTuple (aCons (eLc (iCall dRng1 (aCons (eOp dMod (eCall fInt (aCons (eOp dIx (eVar 0) (eVar 1)) aNil)) (eOp dAdd (eVar 2) (eC (.int 1)))) aNil)) [3] (gfName 3) bYes (eOp dIx (eC (.str "abcxy")) (eOp dMod (eCall fInt (aCons (eOp dIx (eVar 0) (eOp dAdd (eOp dAdd (eVar 1) (eC (.int 1))) (eVar 3))) aNil)) (eC (.int 5))))) aNil)))
def C__law_text : List D → Res D := fnE 4 F__law_text
/-! is_line -/
def F_is_line : SF := (sRet (eAnd (eUn (dIsi isStr) (eVar 0)) (eOp (dNotIn) (eC (.str "\n")) (eVar 0))))
def C_is_line : List D → Res D := fnE 1 F_is_line
/-! is_text -/
def F_is_text : SF := (sRet (eAnd (eUn (dIsi isTup) (eVar 0)) (eCall fAll (aCons (eLc (iSeq (eVar 0)) [1] (gfName 1) bYes (eCall C_is_line (aCons (eVar 1) aNil))) aNil))))
def C_is_text : List D → Res D := fnE 2 F_is_text
/-! is_whole -/
def F_is_whole : SF := (sRet (eAnd (eUn (dIsi isInt) (eVar 0)) (eAnd (eNot (eUn (dIsi isBool) (eVar 0))) (eOp (dCmpI iGe) (eVar 0) (eC (.int 0))))))
def C_is_whole : List D → Res D := fnE 1 F_is_whole
/-! _is_hunk -/
def F__is_hunk : SF := (sSeq (sIf (bOr (bNot (eUn dTru (eUn (dIsi isTup) (eVar 0)))) (bOr (eUn asB (eOp (dNe) (eCall fLen (aCons (eVar 0) aNil)) (eC (.int 3)))) (bNot (eUn dTru (eCall C_is_whole (aCons (eOp dIx (eVar 0) (eC (.int 0))) aNil)))))) (sRet (eC (.bl false))) sNext)
  (sRet (eAnd (eCall C_is_text (aCons (eOp dIx (eVar 0) (eC (.int 1))) aNil)) (eAnd (eCall C_is_text (aCons (eOp dIx (eVar 0) (eC (.int 2))) aNil)) (eOp (dNe) (eOp dIx (eVar 0) (eC (.int 1))) (eOp dIx (eVar 0) (eC (.int 2))))))))
def C__is_hunk : List D → Res D := fnE 1 F__is_hunk
/-! is_patch -/
def F_is_patch : SF := (sSeq (sIf (bOr (bNot (eUn dTru (eUn (dIsi isTup) (eVar 0)))) (bNot (eUn dTru (eCall fAll (aCons (eLc (iSeq (eVar 0)) [1] (gfName 1) bYes (eCall C__is_hunk (aCons (eVar 1) aNil))) aNil))))) (sRet (eC (.bl false))) sNext)
  (sRet (eCall fAll (aCons (eLc (iCall dZip (aCons (eVar 0) (aCons (eSl (eVar 0) (oSome (eC (.int 1))) oNone) aNil))) [1, 2] (gfTup [1, 2]) bYes (eOp (dCmpI iLt) (eOp dAdd (eOp dIx (eVar 1) (eC (.int 0))) (eCall fLen (aCons (eOp dIx (eVar 1) (eC (.int 1))) aNil))) (eOp dIx (eVar 2) (eC (.int 0))))) aNil))))
def C_is_patch : List D → Res D := fnE 3 F_is_patch
/-! check_patches -/
def F_check_patches : SF := (sIf (bNot (eUn dTru (eCall fAll (aCons (eLc (iSeq (eVar 0)) [1] (gfName 1) bYes (eCall C_is_patch (aCons (eVar 1) aNil))) aNil)))) (sRaise "BadPatch") sNext)
def C_check_patches : List D → Res D := fnE 2 F_check_patches
/-! patch_text -/
def B_patch_text_1 : SF := (sSeq (sAppend 1 (eOp dAdd (eC (.str "@ ")) (eCall fStr (aCons (eVar 2) aNil))))
  (sSeq (sExtP 1 (plVar 1) (eLc (iSeq (eVar 3)) [5] (gfName 5) bYes (eOp dAdd (eC (.str "-")) (eVar 5))))
  (sSeq (sExtP 1 (plVar 1) (eLc (iSeq (eVar 4)) [5] (gfName 5) bYes (eOp dAdd (eC (.str "+")) (eVar 5))))
  (sKill [2, 3, 4] sNext))))
def F_patch_text : SF := (sSeq (sDrop (eCall C_check_patches (aCons (eLst (aCons (eVar 0) aNil)) aNil)))
  (sSeq (sSet 1 (eC (.lst [])))
  (sSeq (sFor (iSeq (eVar 0)) (gfTup [2, 3, 4])
  B_patch_text_1)
  (sKill [2, 3, 4] (sRet (eMS fJoin (eC (.str "\n")) (aCons (eVar 1) aNil)))))))
def C_patch_text : List D → Res D := fnE 6 F_patch_text
/-! _place -/
def F__place : SF := (sSeq (sSet 1 (eSl (eVar 0) (oSome (eCall fLen (aCons (eC (.str "@ ")) aNil))) oNone))
  (sSeq (sIf (bOr (eUn asB (eOp (dEq) (eCall fLen (aCons (eVar 1) aNil)) (eC (.int 0)))) (bOr (bNot (eUn dTru (eCall fAll (aCons (eLc (iSeq (eVar 1)) [2] (gfName 2) bYes (eOp (dIn) (eVar 2) (eC (.str "0123456789")))) aNil)))) (bAnd (eUn asB (eOp (dCmpI iGt) (eCall fLen (aCons (eVar 1) aNil)) (eC (.int 1)))) (eUn asB (eOp (dEq) (eOp dIx (eVar 1) (eC (.int 0))) (eC (.str "0"))))))) (sRaise "BadText") sNext)
  (sSeq (sIf (eUn asB (eOp (dCmpI iGt) (eCall fLen (aCons (eVar 1) aNil)) (eC (.int 4000)))) (sRaise "BadText") sNext)
  (sRet (eCall fIntS (aCons (eVar 1) aNil))))))
def C__place : List D → Res D := fnE 3 F__place
/-! patch_of -/
def B_patch_of_1 : SF := (sSeq (sIf (eUn asB (eOp (dEq) (eSl (eVar 2) oNone (oSome (eCall fLen (aCons (eC (.str "@ ")) aNil)))) (eC (.str "@ ")))) (sAppend 1 (eLst (evL [(eUn dFlat (eCall C__place (aCons (eVar 2) aNil))), (eC (.lst [])), (eC (.lst []))]))) (sIf (bAnd (eUn asB (eOp (dCmpI iGt) (eCall fLen (aCons (eVar 1) aNil)) (eC (.int 0)))) (eUn asB (eOp (dEq) (eSl (eVar 2) oNone (oSome (eC (.int 1)))) (eC (.str "+"))))) (sAppP 1 (plIx (plIx (plVar 1) (eUn dNeg (eC (.int 1)))) (eC (.int 2))) (eSl (eVar 2) (oSome (eC (.int 1))) oNone)) (sIf (bAnd (eUn asB (eOp (dCmpI iGt) (eCall fLen (aCons (eVar 1) aNil)) (eC (.int 0)))) (bAnd (eUn asB (eOp (dEq) (eSl (eVar 2) oNone (oSome (eC (.int 1)))) (eC (.str "-")))) (eUn asB (eOp (dEq) (eCall fLen (aCons (eOp dIx (eOp dIx (eVar 1) (eUn dNeg (eC (.int 1)))) (eC (.int 2))) aNil)) (eC (.int 0)))))) (sAppP 1 (plIx (plIx (plVar 1) (eUn dNeg (eC (.int 1)))) (eC (.int 1))) (eSl (eVar 2) (oSome (eC (.int 1))) oNone)) (sRaise "BadText"))))
  (sKill [2] sNext))
def F_patch_of : SF := (sSeq (sIf (bNot (eUn dTru (eUn (dIsi isStr) (eVar 0)))) (sRaise "BadText") sNext)
  (sSeq (sSet 1 (eC (.lst [])))
  (sSeq (sFor (iSeq (eIf (eUn asB (eOp (dNe) (eVar 0) (eC (.str "")))) (eMS fSplit (eVar 0) (aCons (eC (.str "\n")) aNil)) (eC (.lst [])))) (gfName 2)
  B_patch_of_1)
  (sKill [2] (sSeq (sSet 3 (eCall fTuple (aCons (eLc (iSeq (eVar 1)) [4, 5, 6] (gfLst [4, 5, 6]) bYes (eTup (aCons (eVar 4) (aCons (eCall fTuple (aCons (eVar 5) aNil)) (aCons (eCall fTuple (aCons (eVar 6) aNil)) aNil))))) aNil)))
  (sSeq (sIf (bNot (eUn dTru (eCall C_is_patch (aCons (eVar 3) aNil)))) (sRaise "BadText") sNext)
  (sRet (eVar 3))))))))
def C_patch_of : List D → Res D := fnE 7 F_patch_of
/-! _law_told -/
def F__law_told : SF := (sTry ["BadPatch", "BadText"] (sRet (eCall C_patch_of (aCons (eVar 0) aNil))) [(["BadText"], (sNx (sRet (eC .non))))])
def C__law_told : List D → Res D := fnE 1 F__law_told
/-! law -/
def B_law_1 : SF := (sSeq (sSet 5 (eCall C__law_bent (aCons (eVar 3) (aCons (eSl (eVar 1) (oSome (eOp dAdd (eC (.int 50)) (eOp dMul (eC (.int 3)) (eVar 4)))) oNone) aNil))))
  (sSeq (sSet 6 (eCall C__law_read (aCons (eVar 5) aNil)))
  (sSeq (sIf (bOr (eUn asB (eOp (dNe) (eCall C__law_told (aCons (eVar 5) aNil)) (eVar 6))) (bAnd (eUn asB (eOp (dIsNot) (eVar 6) (eC .non))) (eUn asB (eOp (dNe) (eCall C_patch_text (aCons (eVar 6) aNil)) (eVar 5))))) (sRet (eC (.bl false))) sNext)
  (sKill [4, 5, 6] sNext))))
def B_law_2 : SF := (sSeq (sTry ["BadPatch", "BadText"] (sDrop (eCall C_patch_text (aCons (eVar 7) aNil))) [(["BadPatch"], (sNx sCont))])
  (sRet (eC (.bl false))))
def F_law : SF := (sSeq (sSet 1 (eCall C__law_draws (aCons (eVar 0) (aCons (eC (.int 90)) aNil))))
  (sSeq (sSet 2 (eCall C__law_strange (aCons (eCall C__law_patch (aCons (eVar 1) (aCons (eC (.int 16)) (aCons (eCall C__law_text (aCons (eVar 1) (aCons (eC (.int 0)) (aCons (eC (.int 14)) aNil)))) (aCons (eC (.int 4)) aNil))))) (aCons (eSl (eVar 1) (oSome (eC (.int 40))) oNone) aNil))))
  (sSeq (sSet 3 (eCall C__law_written (aCons (eVar 2) aNil)))
  (sSeq (sIf (bOr (bNot (eUn dTru (eCall C__law_is_patch (aCons (eVar 2) aNil)))) (bOr (eUn asB (eOp (dNe) (eCall C_patch_text (aCons (eVar 2) aNil)) (eVar 3))) (eUn asB (eOp (dNe) (eCall C__law_told (aCons (eVar 3) aNil)) (eVar 2))))) (sRet (eC (.bl false))) sNext)
  (sSeq (sFor (iCall dRng1 (aCons (eC (.int 8)) aNil)) (gfName 4)
  B_law_1)
  (sKill [4, 5, 6] (sSeq (sIf (bNot (eUn dTru (eCall fAll (aCons (eLc (iSeq (eTup (aCons (eC .non) (aCons (eC (.int 5)) (aCons (eC (.bl true)) (aCons (eLst (aCons (eC (.str "@ 0")) aNil)) (aCons (eTup (aCons (eC (.str "@ 0")) aNil)) (aCons (eC (.str "@ 0")) (aCons (eC (.str "@ 0\n")) (aCons (eC (.str "a")) (aCons (eC (.str "@ 1\n+a\n-b")) (aCons (eC (.str "@ 0\n-a\n+a")) (aCons (eC (.str "\n")) aNil))))))))))))) [7] (gfName 7) bYes (eOp (dIs) (eCall C__law_told (aCons (eVar 7) aNil)) (eC .non))) aNil)))) (sRet (eC (.bl false))) sNext)
  (sSeq (sFor (iSeq (eTup (aCons (eC .non) (aCons (eC (.lst [])) (aCons (eTup (aCons (eTup (aCons (eC (.int 0)) (aCons (eTup aNil) (aCons (eTup aNil) aNil)))) aNil)) (aCons (eC (.str "@ 0")) aNil)))))) (gfName 7)
  B_law_2)
  (sKill [7] (sRet (eAnd (eOp (dEq) (eCall C__law_told (aCons (eC (.str "")) aNil)) (eTup aNil)) (eOp (dEq) (eCall C__law_told (aCons (eC (.str "@ 0\n+")) aNil)) (eTup (aCons (eTup (aCons (eC (.int 0)) (aCons (eTup aNil) (aCons (eTup (aCons (eC (.str "")) aNil)) aNil)))) aNil))))))))))))))
def C_law : List D → Res D := fnE 8 F_law
end K
namespace K
open PySem PySem.Spec PyProof.Rows L2 Px
def topS (i : Nat) : Stmt := PySem.Challenge.pw_patchwright_k02_patches_as_texts.main.body.getD i (.Pass ⟨0, 0, 0, 0⟩)
def topM (i j : Nat) : Stmt := (clsBody (topS i)).getD j (.Pass ⟨0, 0, 0, 0⟩)
/-! _law_draws -/
abbrev s__law_draws : Stmt := topS 19
abbrev n__law_draws : List Str := ["script", "many", "draws", "seed", "cell", "number", "k"]
theorem sc__law_draws : FnScope n__law_draws ["script", "many"] (defScope s__law_draws) := ⟨rfl, rfl, rfl, by decide +kernel, rfl, by decide +kernel, by decide +kernel⟩
/-! _law_strange -/
abbrev s__law_strange : Stmt := topS 30
abbrev n__law_strange : List Str := ["patch", "draws", "signs", "found", "k", "at", "old", "new", "line"]
theorem sc__law_strange : FnScope n__law_strange ["patch", "draws"] (defScope s__law_strange) := ⟨rfl, rfl, rfl, by decide +kernel, rfl, by decide +kernel, by decide +kernel⟩
/-! _law_written -/
abbrev s__law_written : Stmt := topS 27
abbrev n__law_written : List Str := ["patch", "lines", "at", "old", "new", "line"]
theorem sc__law_written : FnScope n__law_written ["patch"] (defScope s__law_written) := ⟨rfl, rfl, rfl, by decide +kernel, rfl, by decide +kernel, by decide +kernel⟩
/-! _law_patch -/
abbrev s__law_patch : Stmt := topS 21
abbrev n__law_patch : List Str := ["draws", "at", "text", "most", "found", "place", "k", "old", "new", "j"]
theorem sc__law_patch : FnScope n__law_patch ["draws", "at", "text", "most"] (defScope s__law_patch) := ⟨rfl, rfl, rfl, by decide +kernel, rfl, by decide +kernel, by decide +kernel⟩
/-! _law_bent -/
abbrev s__law_bent : Stmt := topS 31
abbrev n__law_bent : List Str := ["text", "draws", "signs", "at", "way", "sign"]
theorem sc__law_bent : FnScope n__law_bent ["text", "draws"] (defScope s__law_bent) := ⟨rfl, rfl, rfl, by decide +kernel, rfl, by decide +kernel, by decide +kernel⟩
/-! _law_is_text -/
abbrev s__law_is_text : Stmt := topS 25
abbrev n__law_is_text : List Str := ["value", "line"]
theorem sc__law_is_text : FnScope n__law_is_text ["value"] (defScope s__law_is_text) := ⟨rfl, rfl, rfl, by decide +kernel, rfl, by decide +kernel, by decide +kernel⟩
/-! _law_is_patch -/
abbrev s__law_is_patch : Stmt := topS 26
abbrev n__law_is_patch : List Str := ["value", "end", "hunk"]
theorem sc__law_is_patch : FnScope n__law_is_patch ["value"] (defScope s__law_is_patch) := ⟨rfl, rfl, rfl, by decide +kernel, rfl, by decide +kernel, by decide +kernel⟩
/-! _law_read -/
abbrev s__law_read : Stmt := topS 28
abbrev n__law_read : List Str := ["text", "hunks", "line", "figures", "sign"]
theorem sc__law_read : FnScope n__law_read ["text"] (defScope s__law_read) := ⟨rfl, rfl, rfl, by decide +kernel, rfl, by decide +kernel, by decide +kernel⟩
/-! _law_text -/
abbrev s__law_text : Stmt := topS 20
abbrev n__law_text : List Str := ["draws", "at", "most", "k"]
theorem sc__law_text : FnScope n__law_text ["draws", "at", "most"] (defScope s__law_text) := ⟨rfl, rfl, rfl, by decide +kernel, rfl, by decide +kernel, by decide +kernel⟩
/-! is_line -/
abbrev s_is_line : Stmt := topS 7
abbrev n_is_line : List Str := ["value"]
theorem sc_is_line : FnScope n_is_line ["value"] (defScope s_is_line) := ⟨rfl, rfl, rfl, by decide +kernel, rfl, by decide +kernel, by decide +kernel⟩
/-! is_text -/
abbrev s_is_text : Stmt := topS 8
abbrev n_is_text : List Str := ["value", "line"]
theorem sc_is_text : FnScope n_is_text ["value"] (defScope s_is_text) := ⟨rfl, rfl, rfl, by decide +kernel, rfl, by decide +kernel, by decide +kernel⟩
/-! is_whole -/
abbrev s_is_whole : Stmt := topS 6
abbrev n_is_whole : List Str := ["value"]
theorem sc_is_whole : FnScope n_is_whole ["value"] (defScope s_is_whole) := ⟨rfl, rfl, rfl, by decide +kernel, rfl, by decide +kernel, by decide +kernel⟩
/-! _is_hunk -/
abbrev s__is_hunk : Stmt := topS 9
abbrev n__is_hunk : List Str := ["value"]
theorem sc__is_hunk : FnScope n__is_hunk ["value"] (defScope s__is_hunk) := ⟨rfl, rfl, rfl, by decide +kernel, rfl, by decide +kernel, by decide +kernel⟩
/-! is_patch -/
abbrev s_is_patch : Stmt := topS 10
abbrev n_is_patch : List Str := ["value", "hunk", "later"]
theorem sc_is_patch : FnScope n_is_patch ["value"] (defScope s_is_patch) := ⟨rfl, rfl, rfl, by decide +kernel, rfl, by decide +kernel, by decide +kernel⟩
/-! check_patches -/
abbrev s_check_patches : Stmt := topS 11
abbrev n_check_patches : List Str := ["values", "value"]
theorem sc_check_patches : FnScope n_check_patches ["values"] (defScope s_check_patches) := ⟨rfl, rfl, rfl, by decide +kernel, rfl, by decide +kernel, by decide +kernel⟩
/-! patch_text -/
abbrev s_patch_text : Stmt := topS 15
abbrev n_patch_text : List Str := ["patch", "lines", "at", "old", "new", "line"]
theorem sc_patch_text : FnScope n_patch_text ["patch"] (defScope s_patch_text) := ⟨rfl, rfl, rfl, by decide +kernel, rfl, by decide +kernel, by decide +kernel⟩
/-! _place -/
abbrev s__place : Stmt := topS 16
abbrev n__place : List Str := ["line", "figures", "sign"]
theorem sc__place : FnScope n__place ["line"] (defScope s__place) := ⟨rfl, rfl, rfl, by decide +kernel, rfl, by decide +kernel, by decide +kernel⟩
/-! patch_of -/
abbrev s_patch_of : Stmt := topS 17
abbrev n_patch_of : List Str := ["text", "hunks", "line", "found", "at", "old", "new"]
theorem sc_patch_of : FnScope n_patch_of ["text"] (defScope s_patch_of) := ⟨rfl, rfl, rfl, by decide +kernel, rfl, by decide +kernel, by decide +kernel⟩
/-! _law_told -/
abbrev s__law_told : Stmt := topS 29
abbrev n__law_told : List Str := ["text"]
theorem sc__law_told : FnScope n__law_told ["text"] (defScope s__law_told) := ⟨rfl, rfl, rfl, by decide +kernel, rfl, by decide +kernel, by decide +kernel⟩
/-! law -/
abbrev s_law : Stmt := topS 32
abbrev n_law : List Str := ["script", "draws", "patch", "text", "k", "bent", "due", "wrong"]
theorem sc_law : FnScope n_law ["script"] (defScope s_law) := ⟨rfl, rfl, rfl, by decide +kernel, rfl, by decide +kernel, by decide +kernel⟩
structure Txt (K : PySem.W.Frag) (mg : Str → Option Value) : Prop where
  F__law_draws : ∃ fd, Fun K "_law_draws" "_law_draws" s__law_draws (He.ga K "_law_draws") fd ∧ BA fd ["script", "many"]
  g__law_draws : mg "_law_draws" = some (.ref (He.ga K "_law_draws"))
  F__law_strange : ∃ fd, Fun K "_law_strange" "_law_strange" s__law_strange (He.ga K "_law_strange") fd ∧ BA fd ["patch", "draws"]
  g__law_strange : mg "_law_strange" = some (.ref (He.ga K "_law_strange"))
  F__law_written : ∃ fd, Fun K "_law_written" "_law_written" s__law_written (He.ga K "_law_written") fd ∧ BA fd ["patch"]
  g__law_written : mg "_law_written" = some (.ref (He.ga K "_law_written"))
  F__law_patch : ∃ fd, Fun K "_law_patch" "_law_patch" s__law_patch (He.ga K "_law_patch") fd ∧ BA fd ["draws", "at", "text", "most"]
  g__law_patch : mg "_law_patch" = some (.ref (He.ga K "_law_patch"))
  F__law_bent : ∃ fd, Fun K "_law_bent" "_law_bent" s__law_bent (He.ga K "_law_bent") fd ∧ BA fd ["text", "draws"]
  g__law_bent : mg "_law_bent" = some (.ref (He.ga K "_law_bent"))
  F__law_is_text : ∃ fd, Fun K "_law_is_text" "_law_is_text" s__law_is_text (He.ga K "_law_is_text") fd ∧ BA fd ["value"]
  g__law_is_text : mg "_law_is_text" = some (.ref (He.ga K "_law_is_text"))
  F__law_is_patch : ∃ fd, Fun K "_law_is_patch" "_law_is_patch" s__law_is_patch (He.ga K "_law_is_patch") fd ∧ BA fd ["value"]
  g__law_is_patch : mg "_law_is_patch" = some (.ref (He.ga K "_law_is_patch"))
  F__law_read : ∃ fd, Fun K "_law_read" "_law_read" s__law_read (He.ga K "_law_read") fd ∧ BA fd ["text"]
  g__law_read : mg "_law_read" = some (.ref (He.ga K "_law_read"))
  F__law_text : ∃ fd, Fun K "_law_text" "_law_text" s__law_text (He.ga K "_law_text") fd ∧ BA fd ["draws", "at", "most"]
  g__law_text : mg "_law_text" = some (.ref (He.ga K "_law_text"))
  F_is_line : ∃ fd, Fun K "is_line" "is_line" s_is_line (He.ga K "is_line") fd ∧ BA fd ["value"]
  g_is_line : mg "is_line" = some (.ref (He.ga K "is_line"))
  F_is_text : ∃ fd, Fun K "is_text" "is_text" s_is_text (He.ga K "is_text") fd ∧ BA fd ["value"]
  g_is_text : mg "is_text" = some (.ref (He.ga K "is_text"))
  F_is_whole : ∃ fd, Fun K "is_whole" "is_whole" s_is_whole (He.ga K "is_whole") fd ∧ BA fd ["value"]
  g_is_whole : mg "is_whole" = some (.ref (He.ga K "is_whole"))
  F__is_hunk : ∃ fd, Fun K "_is_hunk" "_is_hunk" s__is_hunk (He.ga K "_is_hunk") fd ∧ BA fd ["value"]
  g__is_hunk : mg "_is_hunk" = some (.ref (He.ga K "_is_hunk"))
  F_is_patch : ∃ fd, Fun K "is_patch" "is_patch" s_is_patch (He.ga K "is_patch") fd ∧ BA fd ["value"]
  g_is_patch : mg "is_patch" = some (.ref (He.ga K "is_patch"))
  F_check_patches : ∃ fd, Fun K "check_patches" "check_patches" s_check_patches (He.ga K "check_patches") fd ∧ BA fd ["values"]
  g_check_patches : mg "check_patches" = some (.ref (He.ga K "check_patches"))
  F_patch_text : ∃ fd, Fun K "patch_text" "patch_text" s_patch_text (He.ga K "patch_text") fd ∧ BA fd ["patch"]
  g_patch_text : mg "patch_text" = some (.ref (He.ga K "patch_text"))
  F__place : ∃ fd, Fun K "_place" "_place" s__place (He.ga K "_place") fd ∧ BA fd ["line"]
  g__place : mg "_place" = some (.ref (He.ga K "_place"))
  F_patch_of : ∃ fd, Fun K "patch_of" "patch_of" s_patch_of (He.ga K "patch_of") fd ∧ BA fd ["text"]
  g_patch_of : mg "patch_of" = some (.ref (He.ga K "patch_of"))
  F__law_told : ∃ fd, Fun K "_law_told" "_law_told" s__law_told (He.ga K "_law_told") fd ∧ BA fd ["text"]
  g__law_told : mg "_law_told" = some (.ref (He.ga K "_law_told"))
  F_law : ∃ fd, Fun K "law" "law" s_law (He.ga K "law") fd ∧ BA fd ["script"]
  g_law : mg "law" = some (.ref (He.ga K "law"))
  z_abs : mg "abs" = none
  z_int : mg "int" = none
  z_range : mg "range" = none
  z_len : mg "len" = none
  z_tuple : mg "tuple" = none
  z_str : mg "str" = none
  z_isinstance : mg "isinstance" = none
  z_all : mg "all" = none
  z_bool : mg "bool" = none
  z_zip : mg "zip" = none
  c_END : ∃ t, mg "END" = some (.str "\n" t)
  c_HEAD : ∃ t, mg "HEAD" = some (.str "@ " t)
  c_DIGITS : ∃ t, mg "DIGITS" = some (.str "0123456789" t)
  e_BadPatch : mg "BadPatch" = some (.ref (He.ga K "BadPatch")) ∧ PySem.W.excIn K (He.ga K "BadPatch") He.veBase "ValueError.__new__" = true ∧ PySem.W.keepIn K (.ref (He.ga K "BadPatch")) = true ∧ PySem.W.subIn K (.ref (He.ga K "BadPatch")) (.type "BaseException") = some true ∧ PySem.W.typeIn K (.ref (He.ga K "BadPatch")) = some (.type "type")
  e_BadText : mg "BadText" = some (.ref (He.ga K "BadText")) ∧ PySem.W.excIn K (He.ga K "BadText") He.veBase "ValueError.__new__" = true ∧ PySem.W.keepIn K (.ref (He.ga K "BadText")) = true ∧ PySem.W.subIn K (.ref (He.ga K "BadText")) (.type "BaseException") = some true ∧ PySem.W.typeIn K (.ref (He.ga K "BadText")) = some (.type "type")
  m_BadPatch_BadText : PySem.W.exmOne K (.ref (He.ga K "BadPatch")) (.ref (He.ga K "BadText")) = some false
  m_BadText_BadText : PySem.W.exmOne K (.ref (He.ga K "BadText")) (.ref (He.ga K "BadText")) = some true
  m_BadPatch_BadPatch : PySem.W.exmOne K (.ref (He.ga K "BadPatch")) (.ref (He.ga K "BadPatch")) = some true
  m_BadText_BadPatch : PySem.W.exmOne K (.ref (He.ga K "BadText")) (.ref (He.ga K "BadPatch")) = some false
section
variable {P : Program} {w : World} {K : PySem.W.Frag} {mg : Str → Option Value}
theorem ok__law_draws (T : Txt K mg) : ∃ fd, (∀ base : Heap, FnOk P w K mg base (L2.CX P w) 1 (He.ga K "_law_draws") fd ["script", "many"] (Spec K mg 2 0 C__law_draws)) ∧ BA fd ["script", "many"] ∧ PySem.W.keepIn K (.ref (He.ga K "_law_draws")) = true := by
  obtain ⟨fd, F, b⟩ := T.F__law_draws
  exact ⟨fd, fun base => fn_ok (N := n__law_draws) (nN := 7) (k := 0) (kr := 0) (L := [0, 0, 0, 0, 0, 0, 0]) (L' := [0, 0, 0, 0, 0, 0, 0]) (FF := F__law_draws) F sc__law_draws rfl rfl rfl rfl fun cdv A outer s H E hr => ((sjs_cons (L1 := [0, 0, 1, 0, 0, 0, 0]) (sj_set (i := 2) (k := 1) sc__law_draws.nd rfl (.inl (by kernel_rfl)) (eo_nil) (by decide))
  (sjs_cons (L1 := [0, 0, 1, 0, 0, 0, 0]) (sj_set (i := 3) (k := 0) sc__law_draws.nd rfl (.inl (by kernel_rfl)) eo_int (by decide))
  (sjs_cons (L1 := [0, 0, 1, 0, 0, 0, 0]) (sj_for (passes_of rfl) rfl (ei_seq (EO.up (k := 1) (n := 0) (eo_sl (eb_var (n := 1) (i := 0) rfl (.inl (by kernel_rfl)) (by decide)) ep_none (ep_some (EO.up (k := 0) (n := 0) eo_int))))) (pg_name (i := 4) sc__law_draws.nd rfl (.inl (by kernel_rfl)) (.inl rfl)) (gs_name 4) (by decide)
  (sjs_cons (L1 := [0, 0, 1, 0, 0, 0, 0]) (sj_set (i := 5) (k := 0) sc__law_draws.nd rfl (.inl (by kernel_rfl)) (eo_callB c_abs fAbs_nx (gl_of (by kernel_rfl)) T.z_abs (by decide +kernel) (ea_cons (eb_var (n := 0) (i := 4) rfl (.inl (by kernel_rfl)) (by decide)) ea_nil)) (by decide))
  (sjs_cons (L1 := [0, 0, 1, 0, 0, 0, 0]) (sj_set (i := 3) (k := 0) sc__law_draws.nd rfl (.inl (by kernel_rfl)) (eo_op o_mod dMod_nx (EO.up (k := 0) (n := 0) (eo_callTy c_int fInt_nx (gl_of (by kernel_rfl)) T.z_int (by decide +kernel) (ea_cons (EO.up (k := 1) (n := 0) (eo_op o_add dAdd_nx (EO.up (k := 1) (n := 1) (eo_op o_add dAdd_nx (EO.up (k := 0) (n := 1) (eo_op o_mul dMul_nx (eb_var (n := 0) (i := 3) rfl (.inl (by kernel_rfl)) (by decide)) (EO.up (k := 0) (n := 0) eo_int))) (eb_var (n := 1) (i := 5) rfl (.inl (by kernel_rfl)) (by decide)))) (EO.up (k := 0) (n := 1) eo_int))) ea_nil))) (EO.up (k := 0) (n := 0) eo_int)) (by decide))
  (sjs_cons (L1 := [0, 0, 1, 0, 0, 0, 0]) (sj_if (et_cmp o_ge dCmpI_nx (eb_var (n := 0) (i := 5) rfl (.inl (by kernel_rfl)) (by decide)) (EO.up (k := 0) (n := 0) (eo_op o_pow dPow_nx (EO.up (k := 0) (n := 0) eo_int) (EO.up (k := 0) (n := 0) eo_int))) (nomark _)) (sjs_cons (L1 := [0, 0, 1, 0, 0, 0, 0]) (sj_for (passes_of rfl) rfl (ei_range1 (gl_of (by kernel_rfl)) T.z_range (ea_cons (EO.up (k := 0) (n := 0) eo_int) ea_nil)) (pg_name (i := 6) sc__law_draws.nd rfl (.inl (by kernel_rfl)) (.inl rfl)) (gs_name 6) (by decide)
  (sjs_cons (L1 := [0, 0, 1, 0, 0, 0, 0]) (sj_if (et_cmp o_gt dCmpI_nx (eb_var (n := 0) (i := 5) rfl (.inl (by kernel_rfl)) (by decide)) (EO.up (k := 0) (n := 0) eo_int) (nomark _)) (sjs_cons (L1 := [0, 0, 1, 0, 0, 0, 0]) (sj_append (i := 2) (k := 0) rfl (.inl (by kernel_rfl)) rfl (eo_op o_mod dMod_nx (EO.up (k := 0) (n := 0) (eo_callTy c_int fInt_nx (gl_of (by kernel_rfl)) T.z_int (by decide +kernel) (ea_cons (eb_var (n := 0) (i := 5) rfl (.inl (by kernel_rfl)) (by decide)) ea_nil))) (EO.up (k := 0) (n := 0) eo_int)))
  (sjs_one (sj_set (i := 5) (k := 0) sc__law_draws.nd rfl (.inl (by kernel_rfl)) (eo_op o_div dDiv_nx (eb_var (n := 0) (i := 5) rfl (.inl (by kernel_rfl)) (by decide)) (EO.up (k := 0) (n := 0) eo_int)) (by decide)))) sjs_nil)
  (sjs_kill [6] sjs_nil)))
  (sjs_kill [5, 6] sjs_nil)) (sjs_one (sj_append (i := 2) (k := 0) rfl (.inl (by kernel_rfl)) rfl (eo_op o_mod dMod_nx (EO.up (k := 0) (n := 0) (eo_op o_div dDiv_nx (EO.up (k := 0) (n := 0) (eo_callTy c_int fInt_nx (gl_of (by kernel_rfl)) T.z_int (by decide +kernel) (ea_cons (EO.up (k := 1) (n := 0) (eo_op o_add dAdd_nx (EO.up (k := 0) (n := 1) (eo_op o_mul dMul_nx (eb_var (n := 0) (i := 3) rfl (.inl (by kernel_rfl)) (by decide)) (EO.up (k := 0) (n := 0) eo_int))) (EO.up (k := 0) (n := 1) eo_int))) ea_nil))) (EO.up (k := 0) (n := 0) eo_int))) (EO.up (k := 0) (n := 0) eo_int)))))
  (sjs_kill [4, 5, 6] sjs_nil)))))
  (sjs_kill [4, 5, 6] (sjs_cons (L1 := [0, 0, 1, 0, 0, 0, 0]) (sj_for (passes_of rfl) rfl (ei_range1 (gl_of (by kernel_rfl)) T.z_range (ea_cons (eb_var (n := 0) (i := 1) rfl (.inl (by kernel_rfl)) (by decide)) ea_nil)) (pg_name (i := 6) sc__law_draws.nd rfl (.inl (by kernel_rfl)) (.inl rfl)) (gs_name 6) (by decide)
  (sjs_cons (L1 := [0, 0, 1, 0, 0, 0, 0]) (sj_if (et_cmp o_lt dCmpI_nx (EO.up (k := 0) (n := 0) (eo_callB c_len fLen_nx (gl_of (by kernel_rfl)) T.z_len (by decide +kernel) (ea_cons (eb_var (n := 1) (i := 2) rfl (.inl (by kernel_rfl)) (by decide)) ea_nil))) (eb_var (n := 0) (i := 1) rfl (.inl (by kernel_rfl)) (by decide)) (nomark _)) (sjs_cons (L1 := [0, 0, 1, 0, 0, 0, 0]) (sj_set (i := 3) (k := 0) sc__law_draws.nd rfl (.inl (by kernel_rfl)) (eo_op o_mod dMod_nx (EO.up (k := 0) (n := 0) (eo_callTy c_int fInt_nx (gl_of (by kernel_rfl)) T.z_int (by decide +kernel) (ea_cons (EO.up (k := 1) (n := 0) (eo_op o_add dAdd_nx (EO.up (k := 1) (n := 1) (eo_op o_add dAdd_nx (EO.up (k := 0) (n := 1) (eo_op o_mul dMul_nx (eb_var (n := 0) (i := 3) rfl (.inl (by kernel_rfl)) (by decide)) (EO.up (k := 0) (n := 0) eo_int))) (eb_var (n := 1) (i := 6) rfl (.inl (by kernel_rfl)) (by decide)))) (EO.up (k := 0) (n := 1) eo_int))) ea_nil))) (EO.up (k := 0) (n := 0) eo_int)) (by decide))
  (sjs_one (sj_append (i := 2) (k := 0) rfl (.inl (by kernel_rfl)) rfl (eo_op o_mod dMod_nx (EO.up (k := 0) (n := 0) (eo_op o_div dDiv_nx (EO.up (k := 0) (n := 0) (eo_callTy c_int fInt_nx (gl_of (by kernel_rfl)) T.z_int (by decide +kernel) (ea_cons (eb_var (n := 0) (i := 3) rfl (.inl (by kernel_rfl)) (by decide)) ea_nil))) (EO.up (k := 0) (n := 0) eo_int))) (EO.up (k := 0) (n := 0) eo_int))))) sjs_nil)
  (sjs_kill [6] sjs_nil)))
  (sjs_kill [3, 6] (sjs_one (sj_ret (EB.o (EO.b (k := 1) (eo_sl (eb_var (n := 1) (i := 2) rfl (.inl (by kernel_rfl)) (by decide)) ep_none (ep_some (eb_var (n := 0) (i := 1) rfl (.inl (by kernel_rfl)) (by decide))))))))))))))), b, F.kp⟩
theorem ok__law_strange (T : Txt K mg) : ∃ fd, (∀ base : Heap, FnOk P w K mg base (L2.CX P w) 1 (He.ga K "_law_strange") fd ["patch", "draws"] (Spec K mg 2 0 C__law_strange)) ∧ BA fd ["patch", "draws"] ∧ PySem.W.keepIn K (.ref (He.ga K "_law_strange")) = true := by
  obtain ⟨fd, F, b⟩ := T.F__law_strange
  exact ⟨fd, fun base => fn_ok (N := n__law_strange) (nN := 9) (k := 0) (kr := 0) (L := [0, 0, 0, 0, 0, 0, 0, 0, 0]) (L' := [0, 0, 0, 0, 0, 0, 0, 0, 0]) (FF := F__law_strange) F sc__law_strange rfl rfl rfl rfl fun cdv A outer s H E hr => ((sjs_cons (L1 := [0, 0, 0, 0, 0, 0, 0, 0, 0]) (sj_set (i := 2) (k := 0) sc__law_strange.nd rfl (.inl (by kernel_rfl)) (EB.o (EO.b (k := 1) (eo_lst (ea_cons (EO.up (k := 0) (n := 0) eo_str) (ea_cons (EO.up (k := 0) (n := 0) eo_str) (ea_cons (EO.up (k := 0) (n := 0) eo_str) (ea_cons (EO.up (k := 0) (n := 0) eo_str) (ea_cons (EO.up (k := 0) (n := 0) eo_str) (ea_cons (EO.up (k := 0) (n := 0) eo_str) (ea_cons (EO.up (k := 0) (n := 0) eo_str) (ea_cons (EO.up (k := 0) (n := 0) eo_str) (ea_cons (EO.up (k := 0) (n := 0) eo_str) ea_nil)))))))))))) (by decide))
  (sjs_cons (L1 := [0, 0, 0, 1, 0, 0, 0, 0, 0]) (sj_set (i := 3) (k := 1) sc__law_strange.nd rfl (.inl (by kernel_rfl)) (eo_nil) (by decide))
  (sjs_cons (L1 := [0, 0, 0, 1, 0, 0, 0, 0, 0]) (sj_for (passes_of rfl) rfl (ei_range1 (gl_of (by kernel_rfl)) T.z_range (ea_cons (EO.up (k := 0) (n := 0) (eo_callB c_len fLen_nx (gl_of (by kernel_rfl)) T.z_len (by decide +kernel) (ea_cons (eb_var (n := 1) (i := 0) rfl (.inl (by kernel_rfl)) (by decide)) ea_nil))) ea_nil)) (pg_name (i := 4) sc__law_strange.nd rfl (.inl (by kernel_rfl)) (.inl rfl)) (gs_name 4) (by decide)
  (sjs_cons (L1 := [0, 0, 0, 1, 0, 0, 0, 0, 0]) (sj_unp (pg_tup rfl (pgs_cons (pg_name (i := 5) sc__law_strange.nd rfl (.inl (by kernel_rfl)) (.inl rfl)) (pgs_cons (pg_name (i := 6) sc__law_strange.nd rfl (.inl (by kernel_rfl)) (.inl rfl)) (pgs_cons (pg_name (i := 7) sc__law_strange.nd rfl (.inl (by kernel_rfl)) (.inl rfl)) pgs_nil)))) (gs_tup [5, 6, 7]) (eb_ix (hu_of hr) (eb_var (n := 1) (i := 0) rfl (.inl (by kernel_rfl)) (by decide)) (eb_var (n := 0) (i := 4) rfl (.inl (by kernel_rfl)) (by decide))) (by decide))
  (sjs_cons (L1 := [0, 0, 0, 1, 0, 0, 0, 0, 0]) (sj_set (i := 8) (k := 0) sc__law_strange.nd rfl (.inl (by kernel_rfl)) (EB.o (eb_ix (hu_of hr) (eb_var (n := 1) (i := 2) rfl (.inl (by kernel_rfl)) (by decide)) (EO.up (k := 0) (n := 0) (eo_op o_mod dMod_nx (EO.up (k := 0) (n := 0) (eo_callTy c_int fInt_nx (gl_of (by kernel_rfl)) T.z_int (by decide +kernel) (ea_cons (eb_ix (hu_of hr) (eb_var (n := 1) (i := 1) rfl (.inl (by kernel_rfl)) (by decide)) (eb_var (n := 0) (i := 4) rfl (.inl (by kernel_rfl)) (by decide))) ea_nil))) (EO.up (k := 0) (n := 0) eo_int))))) (by decide))
  (sjs_cons (L1 := [0, 0, 0, 1, 0, 0, 0, 0, 0]) (sj_if (et_cmp (o_ne hr.units) dNe_nx (eb_var (n := 1) (i := 6) rfl (.inl (by kernel_rfl)) (by decide)) (EO.up (k := 1) (n := 1) (eo_op o_add dAdd_nx (EO.up (k := 0) (n := 1) (eo_tup (ea_cons (eb_var (n := 0) (i := 8) rfl (.inl (by kernel_rfl)) (by decide)) ea_nil))) (eb_var (n := 1) (i := 7) rfl (.inl (by kernel_rfl)) (by decide)))) (nomark _)) (sjs_one (sj_append (i := 3) (k := 0) rfl (.inl (by kernel_rfl)) rfl (eo_tup (ea_cons (eb_var (n := 0) (i := 5) rfl (.inl (by kernel_rfl)) (by decide)) (ea_cons (eb_var (n := 0) (i := 6) rfl (.inl (by kernel_rfl)) (by decide)) (ea_cons (EO.up (k := 1) (n := 0) (eo_op o_add dAdd_nx (EO.up (k := 0) (n := 1) (eo_tup (ea_cons (eb_var (n := 0) (i := 8) rfl (.inl (by kernel_rfl)) (by decide)) ea_nil))) (eb_var (n := 1) (i := 7) rfl (.inl (by kernel_rfl)) (by decide)))) ea_nil)))))) (sjs_one (sj_append (i := 3) (k := 0) rfl (.inl (by kernel_rfl)) rfl (eo_tup (ea_cons (eb_var (n := 0) (i := 5) rfl (.inl (by kernel_rfl)) (by decide)) (ea_cons (eb_var (n := 0) (i := 6) rfl (.inl (by kernel_rfl)) (by decide)) (ea_cons (eb_var (n := 0) (i := 7) rfl (.inl (by kernel_rfl)) (by decide)) ea_nil)))))))
  (sjs_kill [4, 5, 6, 7, 8] sjs_nil)))))
  (sjs_kill [4, 5, 6, 7, 8] (sjs_one (sj_ret (eo_callTy c_tuple fTuple_nx (gl_of (by kernel_rfl)) T.z_tuple (by decide +kernel) (ea_cons (eb_var (n := 1) (i := 3) rfl (.inl (by kernel_rfl)) (by decide)) ea_nil))))))))), b, F.kp⟩
theorem ok__law_written (T : Txt K mg) : ∃ fd, (∀ base : Heap, FnOk P w K mg base (L2.CX P w) 1 (He.ga K "_law_written") fd ["patch"] (Spec K mg 1 0 C__law_written)) ∧ BA fd ["patch"] ∧ PySem.W.keepIn K (.ref (He.ga K "_law_written")) = true := by
  obtain ⟨fd, F, b⟩ := T.F__law_written
  exact ⟨fd, fun base => fn_ok (N := n__law_written) (nN := 6) (k := 0) (kr := 0) (L := [0, 0, 0, 0, 0, 0]) (L' := [0, 0, 0, 0, 0, 0]) (FF := F__law_written) F sc__law_written rfl rfl rfl rfl fun cdv A outer s H E hr => ((sjs_cons (L1 := [0, 0, 0, 0, 0, 0]) (sj_set (i := 1) (k := 0) sc__law_written.nd rfl (.inl (by kernel_rfl)) (EB.o (EO.b (k := 1) (eo_nil))) (by decide))
  (sjs_cons (L1 := [0, 0, 0, 0, 0, 0]) (sj_for (passes_of rfl) rfl (ei_seq (eb_var (n := 0) (i := 0) rfl (.inl (by kernel_rfl)) (by decide))) (pg_tup rfl (pgs_cons (pg_name (i := 2) sc__law_written.nd rfl (.inl (by kernel_rfl)) (.inl rfl)) (pgs_cons (pg_name (i := 3) sc__law_written.nd rfl (.inl (by kernel_rfl)) (.inl rfl)) (pgs_cons (pg_name (i := 4) sc__law_written.nd rfl (.inl (by kernel_rfl)) (.inl rfl)) pgs_nil)))) (gs_tup [2, 3, 4]) (by decide)
  (sjs_cons (L1 := [0, 0, 0, 0, 0, 0]) (sj_set (i := 1) (k := 0) sc__law_written.nd rfl (.inl (by kernel_rfl)) (EB.o (EO.b (k := 1) (eo_op o_add dAdd_nx (EO.up (k := 1) (n := 1) (eo_op o_add dAdd_nx (EO.up (k := 1) (n := 1) (eo_op o_add dAdd_nx (eb_var (n := 1) (i := 1) rfl (.inl (by kernel_rfl)) (by decide)) (EO.up (k := 1) (n := 1) (eo_lst (ea_cons (EO.up (k := 1) (n := 0) (eo_op o_add dAdd_nx (EO.up (k := 0) (n := 1) eo_str) (EO.up (k := 0) (n := 1) (eo_callTy c_str fStr_nx (gl_of (by kernel_rfl)) T.z_str (by decide +kernel) (ea_cons (eb_var (n := 0) (i := 2) rfl (.inl (by kernel_rfl)) (by decide)) ea_nil))))) ea_nil))))) (EO.up (k := 1) (n := 1) (eo_lc (own := [("line", 5)]) rfl sc__law_written.nd (ei_seq (eb_var (n := 1) (i := 3) rfl (.inl (by kernel_rfl)) (by decide))) (blkOk_by (by kernel_rfl)) (fun _ _ _ _ _ => (pg_name (i := 5) sc__law_written.nd rfl (.inl (by kernel_rfl)) (.inr (by kernel_rfl)))) (fun _ _ _ _ _ => ets_nil) (fun _ _ _ _ _ => (EB.o (EO.b (k := 1) (eo_op o_add dAdd_nx (EO.up (k := 0) (n := 1) eo_str) (eb_var (n := 1) (i := 5) rfl (.inl (by kernel_rfl)) (by decide)))))) (gs_name 5) (by decide) (by decide))))) (EO.up (k := 1) (n := 1) (eo_lc (own := [("line", 5)]) rfl sc__law_written.nd (ei_seq (eb_var (n := 1) (i := 4) rfl (.inl (by kernel_rfl)) (by decide))) (blkOk_by (by kernel_rfl)) (fun _ _ _ _ _ => (pg_name (i := 5) sc__law_written.nd rfl (.inl (by kernel_rfl)) (.inr (by kernel_rfl)))) (fun _ _ _ _ _ => ets_nil) (fun _ _ _ _ _ => (EB.o (EO.b (k := 1) (eo_op o_add dAdd_nx (EO.up (k := 0) (n := 1) eo_str) (eb_var (n := 1) (i := 5) rfl (.inl (by kernel_rfl)) (by decide)))))) (gs_name 5) (by decide) (by decide)))))) (by decide))
  (sjs_kill [2, 3, 4] sjs_nil)))
  (sjs_kill [2, 3, 4] (sjs_one (sj_ret (eo_ms m_join fJoin_nx PySem.F.slot_str_join PySem.F.type_str_join (EO.up (k := 0) (n := 0) eo_str) (ea_cons (eb_var (n := 1) (i := 1) rfl (.inl (by kernel_rfl)) (by decide)) ea_nil)))))))), b, F.kp⟩
theorem ok__law_patch (T : Txt K mg) : ∃ fd, (∀ base : Heap, FnOk P w K mg base (L2.CX P w) 1 (He.ga K "_law_patch") fd ["draws", "at", "text", "most"] (Spec K mg 4 0 C__law_patch)) ∧ BA fd ["draws", "at", "text", "most"] ∧ PySem.W.keepIn K (.ref (He.ga K "_law_patch")) = true := by
  obtain ⟨fd, F, b⟩ := T.F__law_patch
  exact ⟨fd, fun base => fn_ok (N := n__law_patch) (nN := 10) (k := 0) (kr := 0) (L := [0, 0, 0, 0, 0, 0, 0, 0, 0, 0]) (L' := [0, 0, 0, 0, 0, 0, 0, 0, 0, 0]) (FF := F__law_patch) F sc__law_patch rfl rfl rfl rfl fun cdv A outer s H E hr => ((sjs_cons (L1 := [0, 0, 0, 0, 1, 0, 0, 0, 0, 0]) (sj_par2 (i := 4) (j := 5) (k1 := 1) (k2 := 0) rfl sc__law_patch.nd rfl rfl (by decide) (by kernel_rfl) (by kernel_rfl) (eo_nil) (eo_op o_mod dMod_nx (EO.up (k := 0) (n := 0) (eo_callTy c_int fInt_nx (gl_of (by kernel_rfl)) T.z_int (by decide +kernel) (ea_cons (eb_ix (hu_of hr) (eb_var (n := 1) (i := 0) rfl (.inr (.inl (by kernel_rfl))) (by decide)) (eb_var (n := 0) (i := 1) rfl (.inr (.inl (by kernel_rfl))) (by decide))) ea_nil))) (EO.up (k := 0) (n := 0) eo_int)) (by decide) (by decide) (by kernel_rfl))
  (sjs_cons (L1 := [0, 0, 0, 0, 1, 0, 0, 0, 0, 0]) (sj_for (passes_of rfl) rfl (ei_range1 (gl_of (by kernel_rfl)) T.z_range (ea_cons (EO.up (k := 0) (n := 0) (eo_op o_mod dMod_nx (EO.up (k := 0) (n := 0) (eo_callTy c_int fInt_nx (gl_of (by kernel_rfl)) T.z_int (by decide +kernel) (ea_cons (eb_ix (hu_of hr) (eb_var (n := 1) (i := 0) rfl (.inr (.inl (by kernel_rfl))) (by decide)) (EO.up (k := 1) (n := 0) (eo_op o_add dAdd_nx (eb_var (n := 1) (i := 1) rfl (.inr (.inl (by kernel_rfl))) (by decide)) (EO.up (k := 0) (n := 1) eo_int)))) ea_nil))) (EO.up (k := 1) (n := 0) (eo_op o_add dAdd_nx (eb_var (n := 1) (i := 3) rfl (.inl (by kernel_rfl)) (by decide)) (EO.up (k := 0) (n := 1) eo_int))))) ea_nil)) (pg_name (i := 6) sc__law_patch.nd rfl (.inr (by kernel_rfl)) (.inl rfl)) (gs_name 6) (by decide)
  (sjs_cons (L1 := [0, 0, 0, 0, 1, 0, 0, 0, 0, 0]) (sj_set (i := 7) (k := 0) sc__law_patch.nd rfl (.inl (by kernel_rfl)) (EB.o (EO.b (k := 1) (eo_sl (eb_var (n := 1) (i := 2) rfl (.inl (by kernel_rfl)) (by decide)) (ep_some (eb_var (n := 0) (i := 5) rfl (.inl (by kernel_rfl)) (by decide))) (ep_some (EO.up (k := 1) (n := 0) (eo_op o_add dAdd_nx (eb_var (n := 1) (i := 5) rfl (.inl (by kernel_rfl)) (by decide)) (EO.up (k := 0) (n := 1) (eo_op o_mod dMod_nx (EO.up (k := 0) (n := 0) (eo_callTy c_int fInt_nx (gl_of (by kernel_rfl)) T.z_int (by decide +kernel) (ea_cons (eb_ix (hu_of hr) (eb_var (n := 1) (i := 0) rfl (.inr (.inl (by kernel_rfl))) (by decide)) (EO.up (k := 1) (n := 0) (eo_op o_add dAdd_nx (EO.up (k := 1) (n := 1) (eo_op o_add dAdd_nx (eb_var (n := 1) (i := 1) rfl (.inr (.inl (by kernel_rfl))) (by decide)) (EO.up (k := 0) (n := 1) eo_int))) (EO.up (k := 0) (n := 1) (eo_op o_mul dMul_nx (EO.up (k := 0) (n := 0) eo_int) (eb_var (n := 0) (i := 6) rfl (.inr (.inl (by kernel_rfl))) (by decide))))))) ea_nil))) (EO.up (k := 0) (n := 0) eo_int))))))))) (by decide))
  (sjs_cons (L1 := [0, 0, 0, 0, 1, 0, 0, 0, 0, 0]) (sj_set (i := 8) (k := 0) sc__law_patch.nd rfl (.inl (by kernel_rfl)) (eo_callTy c_tuple fTuple_nx (gl_of (by kernel_rfl)) T.z_tuple (by decide +kernel) (ea_cons (EO.up (k := 1) (n := 1) (eo_lc (own := [("j", 9)]) rfl sc__law_patch.nd (ei_range1 (gl_of (by kernel_rfl)) T.z_range (ea_cons (EO.up (k := 0) (n := 0) (eo_op o_mod dMod_nx (EO.up (k := 0) (n := 0) (eo_callTy c_int fInt_nx (gl_of (by kernel_rfl)) T.z_int (by decide +kernel) (ea_cons (eb_ix (hu_of hr) (eb_var (n := 1) (i := 0) rfl (.inr (.inl (by kernel_rfl))) (by decide)) (EO.up (k := 1) (n := 0) (eo_op o_add dAdd_nx (EO.up (k := 1) (n := 1) (eo_op o_add dAdd_nx (eb_var (n := 1) (i := 1) rfl (.inr (.inl (by kernel_rfl))) (by decide)) (EO.up (k := 0) (n := 1) eo_int))) (EO.up (k := 0) (n := 1) (eo_op o_mul dMul_nx (EO.up (k := 0) (n := 0) eo_int) (eb_var (n := 0) (i := 6) rfl (.inr (.inl (by kernel_rfl))) (by decide))))))) ea_nil))) (EO.up (k := 0) (n := 0) eo_int))) ea_nil)) (blkOk_by (by kernel_rfl)) (fun _ _ _ _ _ => (pg_name (i := 9) sc__law_patch.nd rfl (.inl (by kernel_rfl)) (.inr (by kernel_rfl)))) (fun _ _ _ _ _ => ets_nil) (fun _ _ _ _ _ => (EB.o (eb_ix (hu_of hr) (EO.up (k := 0) (n := 1) eo_str) (EO.up (k := 0) (n := 0) (eo_op o_mod dMod_nx (EO.up (k := 0) (n := 0) (eo_op o_div dDiv_nx (EO.up (k := 0) (n := 0) (eo_callTy c_int fInt_nx (gl_of (by kernel_rfl)) T.z_int (by decide +kernel) (ea_cons (eb_ix (hu_of hr) (eb_var (n := 1) (i := 0) rfl (.inr (.inl (by kernel_rfl))) (by decide)) (EO.up (k := 1) (n := 0) (eo_op o_add dAdd_nx (EO.up (k := 1) (n := 1) (eo_op o_add dAdd_nx (eb_var (n := 1) (i := 1) rfl (.inr (.inl (by kernel_rfl))) (by decide)) (EO.up (k := 0) (n := 1) eo_int))) (EO.up (k := 0) (n := 1) (eo_op o_mul dMul_nx (EO.up (k := 0) (n := 0) eo_int) (eb_var (n := 0) (i := 6) rfl (.inr (.inl (by kernel_rfl))) (by decide))))))) ea_nil))) (eb_ix (hu_of hr) (EO.up (k := 1) (n := 1) (eo_lst (ea_cons (EO.up (k := 0) (n := 0) eo_int) (ea_cons (EO.up (k := 0) (n := 0) eo_int) (ea_cons (EO.up (k := 0) (n := 0) eo_int) ea_nil))))) (eb_var (n := 0) (i := 9) rfl (.inl (by kernel_rfl)) (by decide))))) (EO.up (k := 0) (n := 0) eo_int)))))) (gs_name 9) (by decide) (by decide))) ea_nil)) (by decide))
  (sjs_cons (L1 := [0, 0, 0, 0, 1, 0, 0, 0, 0, 0]) (sj_if (et_w (ew_and (et_cmp o_le dCmpI_nx (eb_var (n := 0) (i := 5) rfl (.inl (by kernel_rfl)) (by decide)) (EO.up (k := 0) (n := 0) (eo_callB c_len fLen_nx (gl_of (by kernel_rfl)) T.z_len (by decide +kernel) (ea_cons (eb_var (n := 1) (i := 2) rfl (.inl (by kernel_rfl)) (by decide)) ea_nil))) (nomark _)) (ew_and1 (et_cmp (o_ne hr.units) dNe_nx (eb_var (n := 1) (i := 7) rfl (.inl (by kernel_rfl)) (by decide)) (eb_var (n := 1) (i := 8) rfl (.inl (by kernel_rfl)) (by decide)) (nomark _))))) (sjs_cons (L1 := [0, 0, 0, 0, 1, 0, 0, 0, 0, 0]) (sj_append (i := 4) (k := 0) rfl (.inl (by kernel_rfl)) rfl (eo_tup (ea_cons (eb_var (n := 0) (i := 5) rfl (.inl (by kernel_rfl)) (by decide)) (ea_cons (eb_var (n := 0) (i := 7) rfl (.inl (by kernel_rfl)) (by decide)) (ea_cons (eb_var (n := 0) (i := 8) rfl (.inl (by kernel_rfl)) (by decide)) ea_nil)))))
  (sjs_one (sj_set (i := 5) (k := 0) sc__law_patch.nd rfl (.inl (by kernel_rfl)) (EB.o (EO.b (k := 1) (eo_op o_add dAdd_nx (eb_var (n := 1) (i := 5) rfl (.inl (by kernel_rfl)) (by decide)) (EO.up (k := 0) (n := 1) (eo_callB c_len fLen_nx (gl_of (by kernel_rfl)) T.z_len (by decide +kernel) (ea_cons (eb_var (n := 1) (i := 7) rfl (.inl (by kernel_rfl)) (by decide)) ea_nil)))))) (by decide)))) sjs_nil)
  (sjs_cons (L1 := [0, 0, 0, 0, 1, 0, 0, 0, 0, 0]) (sj_set (i := 5) (k := 0) sc__law_patch.nd rfl (.inl (by kernel_rfl)) (EB.o (EO.b (k := 1) (eo_op o_add dAdd_nx (EO.up (k := 1) (n := 1) (eo_op o_add dAdd_nx (eb_var (n := 1) (i := 5) rfl (.inl (by kernel_rfl)) (by decide)) (EO.up (k := 0) (n := 1) eo_int))) (EO.up (k := 0) (n := 1) (eo_op o_mod dMod_nx (EO.up (k := 0) (n := 0) (eo_callTy c_int fInt_nx (gl_of (by kernel_rfl)) T.z_int (by decide +kernel) (ea_cons (eb_ix (hu_of hr) (eb_var (n := 1) (i := 0) rfl (.inr (.inl (by kernel_rfl))) (by decide)) (EO.up (k := 1) (n := 0) (eo_op o_add dAdd_nx (EO.up (k := 1) (n := 1) (eo_op o_add dAdd_nx (eb_var (n := 1) (i := 1) rfl (.inr (.inl (by kernel_rfl))) (by decide)) (EO.up (k := 0) (n := 1) eo_int))) (EO.up (k := 0) (n := 1) (eo_op o_mul dMul_nx (EO.up (k := 0) (n := 0) eo_int) (eb_var (n := 0) (i := 6) rfl (.inr (.inl (by kernel_rfl))) (by decide))))))) ea_nil))) (EO.up (k := 0) (n := 0) eo_int)))))) (by decide))
  (sjs_kill [6, 7, 8] sjs_nil))))))
  (sjs_kill [5, 6, 7, 8] (sjs_one (sj_ret (eo_callTy c_tuple fTuple_nx (gl_of (by kernel_rfl)) T.z_tuple (by decide +kernel) (ea_cons (eb_var (n := 1) (i := 4) rfl (.inl (by kernel_rfl)) (by decide)) ea_nil)))))))), b, F.kp⟩
theorem ok__law_bent (T : Txt K mg) : ∃ fd, (∀ base : Heap, FnOk P w K mg base (L2.CX P w) 1 (He.ga K "_law_bent") fd ["text", "draws"] (Spec K mg 2 0 C__law_bent)) ∧ BA fd ["text", "draws"] ∧ PySem.W.keepIn K (.ref (He.ga K "_law_bent")) = true := by
  obtain ⟨fd, F, b⟩ := T.F__law_bent
  exact ⟨fd, fun base => fn_ok (N := n__law_bent) (nN := 6) (k := 0) (kr := 0) (L := [0, 0, 0, 0, 0, 0]) (L' := [0, 0, 0, 0, 0, 0]) (FF := F__law_bent) F sc__law_bent rfl rfl rfl rfl fun cdv A outer s H E hr => ((sjs_cons (L1 := [0, 0, 0, 0, 0, 0]) (sj_set (i := 2) (k := 0) sc__law_bent.nd rfl (.inl (by kernel_rfl)) (EB.o (EO.b (k := 1) (eo_lst (ea_cons (EO.up (k := 0) (n := 0) eo_str) (ea_cons (EO.up (k := 0) (n := 0) eo_str) (ea_cons (EO.up (k := 0) (n := 0) eo_str) (ea_cons (EO.up (k := 0) (n := 0) eo_str) (ea_cons (EO.up (k := 0) (n := 0) eo_str) (ea_cons (EO.up (k := 0) (n := 0) eo_str) (ea_cons (EO.up (k := 0) (n := 0) eo_str) (ea_cons (EO.up (k := 0) (n := 0) eo_str) (ea_cons (EO.up (k := 0) (n := 0) eo_str) (ea_cons (EO.up (k := 0) (n := 0) eo_str) (ea_cons (EO.up (k := 0) (n := 0) eo_str) (ea_cons (EO.up (k := 0) (n := 0) eo_str) (ea_cons (EO.up (k := 0) (n := 0) eo_str) (ea_cons (EO.up (k := 0) (n := 0) eo_str) ea_nil))))))))))))))))) (by decide))
  (sjs_cons (L1 := [0, 0, 0, 0, 0, 0]) (sj_par3 (i := 3) (j := 4) (l := 5) (k1 := 0) (k2 := 0) (k3 := 0) rfl sc__law_bent.nd rfl rfl rfl (by decide) (by decide) (by decide) (by kernel_rfl) (by kernel_rfl) (by kernel_rfl) (eo_op o_mod dMod_nx (EO.up (k := 0) (n := 0) (eo_callTy c_int fInt_nx (gl_of (by kernel_rfl)) T.z_int (by decide +kernel) (ea_cons (eb_ix (hu_of hr) (eb_var (n := 1) (i := 1) rfl (.inl (by kernel_rfl)) (by decide)) (EO.up (k := 0) (n := 0) eo_int)) ea_nil))) (EO.up (k := 1) (n := 0) (eo_op o_add dAdd_nx (EO.up (k := 0) (n := 1) (eo_callB c_len fLen_nx (gl_of (by kernel_rfl)) T.z_len (by decide +kernel) (ea_cons (eb_var (n := 1) (i := 0) rfl (.inl (by kernel_rfl)) (by decide)) ea_nil))) (EO.up (k := 0) (n := 1) eo_int)))) (eo_op o_mod dMod_nx (EO.up (k := 0) (n := 0) (eo_callTy c_int fInt_nx (gl_of (by kernel_rfl)) T.z_int (by decide +kernel) (ea_cons (eb_ix (hu_of hr) (eb_var (n := 1) (i := 1) rfl (.inl (by kernel_rfl)) (by decide)) (EO.up (k := 0) (n := 0) eo_int)) ea_nil))) (EO.up (k := 0) (n := 0) eo_int)) (EB.o (eb_ix (hu_of hr) (eb_var (n := 1) (i := 2) rfl (.inl (by kernel_rfl)) (by decide)) (EO.up (k := 0) (n := 0) (eo_op o_mod dMod_nx (EO.up (k := 0) (n := 0) (eo_callTy c_int fInt_nx (gl_of (by kernel_rfl)) T.z_int (by decide +kernel) (ea_cons (eb_ix (hu_of hr) (eb_var (n := 1) (i := 1) rfl (.inl (by kernel_rfl)) (by decide)) (EO.up (k := 0) (n := 0) eo_int)) ea_nil))) (EO.up (k := 0) (n := 0) eo_int))))) (by decide) (by decide) (by decide) (by kernel_rfl))
  (sjs_cons (L1 := [0, 0, 0, 0, 0, 0]) (sj_if (et_cmp (o_eq hr.units) dEq_nx (eb_var (n := 1) (i := 4) rfl (.inl (by kernel_rfl)) (by decide)) (EO.up (k := 0) (n := 1) eo_int) (nomark _)) (sjs_one (sj_ret (EB.o (EO.b (k := 1) (eo_op o_add dAdd_nx (EO.up (k := 1) (n := 1) (eo_sl (eb_var (n := 1) (i := 0) rfl (.inl (by kernel_rfl)) (by decide)) ep_none (ep_some (eb_var (n := 0) (i := 3) rfl (.inl (by kernel_rfl)) (by decide))))) (EO.up (k := 1) (n := 1) (eo_sl (eb_var (n := 1) (i := 0) rfl (.inl (by kernel_rfl)) (by decide)) (ep_some (EO.up (k := 1) (n := 0) (eo_op o_add dAdd_nx (eb_var (n := 1) (i := 3) rfl (.inl (by kernel_rfl)) (by decide)) (EO.up (k := 0) (n := 1) eo_int)))) ep_none))))))) sjs_nil)
  (sjs_cons (L1 := [0, 0, 0, 0, 0, 0]) (sj_if (et_cmp (o_eq hr.units) dEq_nx (eb_var (n := 1) (i := 4) rfl (.inl (by kernel_rfl)) (by decide)) (EO.up (k := 0) (n := 1) eo_int) (nomark _)) (sjs_one (sj_ret (EB.o (EO.b (k := 1) (eo_op o_add dAdd_nx (EO.up (k := 1) (n := 1) (eo_op o_add dAdd_nx (EO.up (k := 1) (n := 1) (eo_sl (eb_var (n := 1) (i := 0) rfl (.inl (by kernel_rfl)) (by decide)) ep_none (ep_some (eb_var (n := 0) (i := 3) rfl (.inl (by kernel_rfl)) (by decide))))) (eb_var (n := 1) (i := 5) rfl (.inl (by kernel_rfl)) (by decide)))) (EO.up (k := 1) (n := 1) (eo_sl (eb_var (n := 1) (i := 0) rfl (.inl (by kernel_rfl)) (by decide)) (ep_some (eb_var (n := 0) (i := 3) rfl (.inl (by kernel_rfl)) (by decide))) ep_none))))))) sjs_nil)
  (sjs_one (sj_ret (EB.o (eb_if (et_cmp (o_eq hr.units) dEq_nx (eb_var (n := 1) (i := 4) rfl (.inl (by kernel_rfl)) (by decide)) (EO.up (k := 0) (n := 1) eo_int) (nomark _)) (EO.up (k := 1) (n := 0) (eo_op o_add dAdd_nx (EO.up (k := 1) (n := 1) (eo_op o_add dAdd_nx (EO.up (k := 1) (n := 1) (eo_sl (eb_var (n := 1) (i := 0) rfl (.inl (by kernel_rfl)) (by decide)) ep_none (ep_some (eb_var (n := 0) (i := 3) rfl (.inl (by kernel_rfl)) (by decide))))) (eb_var (n := 1) (i := 5) rfl (.inl (by kernel_rfl)) (by decide)))) (EO.up (k := 1) (n := 1) (eo_sl (eb_var (n := 1) (i := 0) rfl (.inl (by kernel_rfl)) (by decide)) (ep_some (EO.up (k := 1) (n := 0) (eo_op o_add dAdd_nx (eb_var (n := 1) (i := 3) rfl (.inl (by kernel_rfl)) (by decide)) (EO.up (k := 0) (n := 1) eo_int)))) ep_none)))) (EO.up (k := 1) (n := 0) (eo_op o_add dAdd_nx (EO.up (k := 1) (n := 1) (eo_op o_add dAdd_nx (eb_var (n := 1) (i := 0) rfl (.inl (by kernel_rfl)) (by decide)) (EO.up (k := 0) (n := 1) eo_str))) (EO.up (k := 1) (n := 1) (eo_sl (eb_var (n := 1) (i := 0) rfl (.inl (by kernel_rfl)) (by decide)) ep_none (ep_some (eb_var (n := 0) (i := 3) rfl (.inl (by kernel_rfl)) (by decide)))))))))))))))), b, F.kp⟩
theorem ok__law_is_text (T : Txt K mg) : ∃ fd, (∀ base : Heap, FnOk P w K mg base (L2.CX P w) 1 (He.ga K "_law_is_text") fd ["value"] (Spec K mg 1 0 C__law_is_text)) ∧ BA fd ["value"] ∧ PySem.W.keepIn K (.ref (He.ga K "_law_is_text")) = true := by
  obtain ⟨fd, F, b⟩ := T.F__law_is_text
  exact ⟨fd, fun base => fn_ok (N := n__law_is_text) (nN := 2) (k := 0) (kr := 0) (L := [0, 0]) (L' := [0, 0]) (FF := F__law_is_text) F sc__law_is_text rfl rfl rfl rfl fun cdv A outer s H E hr => ((sjs_one (sj_ret (EB.o (eb_and (EO.up (k := 0) (n := 0) (eo_isi kind_tup (gl_of (by kernel_rfl)) T.z_isinstance (gl_of (by kernel_rfl)) T.z_tuple (by decide +kernel) (eb_var (n := 1) (i := 0) rfl (.inl (by kernel_rfl)) (by decide)))) (eb_one (EO.up (k := 0) (n := 0) (eo_callB (c_all rfl) fAll_nx (gl_of (by kernel_rfl)) T.z_all (by decide +kernel) (ea_cons (EO.up (k := 1) (n := 1) (eo_lc (own := [("line", 1)]) rfl sc__law_is_text.nd (ei_seq (eb_var (n := 1) (i := 0) rfl (.inl (by kernel_rfl)) (by decide))) (blkOk_by (by kernel_rfl)) (fun _ _ _ _ _ => (pg_name (i := 1) sc__law_is_text.nd rfl (.inl (by kernel_rfl)) (.inr (by kernel_rfl)))) (fun _ _ _ _ _ => ets_nil) (fun _ _ _ _ _ => (EB.o (eb_and (EO.up (k := 0) (n := 0) (eo_isi kind_str (gl_of (by kernel_rfl)) T.z_isinstance (gl_of (by kernel_rfl)) T.z_str (by decide +kernel) (eb_var (n := 1) (i := 1) rfl (.inl (by kernel_rfl)) (by decide)))) (eb_one (EO.up (k := 0) (n := 0) (eo_cmp (o_notIn (hu65 hr)) dNotIn_nx (EO.up (k := 0) (n := 1) eo_str) (eb_var (n := 1) (i := 1) rfl (.inl (by kernel_rfl)) (by decide)) (by rfl))))))) (gs_name 1) (by decide) (by decide))) ea_nil))))))))), b, F.kp⟩
theorem ok__law_is_patch (T : Txt K mg) : ∃ fd, (∀ base : Heap, FnOk P w K mg base (L2.CX P w) 2 (He.ga K "_law_is_patch") fd ["value"] (Spec K mg 1 0 C__law_is_patch)) ∧ BA fd ["value"] ∧ PySem.W.keepIn K (.ref (He.ga K "_law_is_patch")) = true := by
  obtain ⟨fd, F, b⟩ := T.F__law_is_patch
  obtain ⟨fd__law_is_text, G__law_is_text, b__law_is_text, k__law_is_text⟩ := ok__law_is_text (P := P) (w := w) T
  exact ⟨fd, fun base => fn_ok (N := n__law_is_patch) (nN := 3) (k := 1) (kr := 0) (L := [0, 0, 0]) (L' := [0, 0, 0]) (FF := F__law_is_patch) F sc__law_is_patch rfl rfl rfl rfl fun cdv A outer s H E hr => ((sjs_cons (L1 := [0, 0, 0]) (sj_if (et_not (et_val (EO.up (k := 0) (n := 1) (eo_isi kind_tup (gl_of (by kernel_rfl)) T.z_isinstance (gl_of (by kernel_rfl)) T.z_tuple (by decide +kernel) (eb_var (n := 1) (i := 0) rfl (.inl (by kernel_rfl)) (by decide)))))) (sjs_one (sj_ret eo_bl)) sjs_nil)
  (sjs_cons (L1 := [0, 0, 0]) (sj_set (i := 1) (k := 0) sc__law_is_patch.nd rfl (.inl (by kernel_rfl)) (eo_un o_neg dNeg_nx (EO.up (k := 0) (n := 0) eo_int)) (by decide))
  (sjs_cons (L1 := [0, 0, 0]) (sj_for (passes_of rfl) rfl (ei_seq (eb_var (n := 0) (i := 0) rfl (.inl (by kernel_rfl)) (by decide))) (pg_name (i := 2) sc__law_is_patch.nd rfl (.inl (by kernel_rfl)) (.inl rfl)) (gs_name 2) (by decide)
  (sjs_cons (L1 := [0, 0, 0]) (sj_if (et_w (ew_or (et_not (et_val (EO.up (k := 0) (n := 1) (eo_isi kind_tup (gl_of (by kernel_rfl)) T.z_isinstance (gl_of (by kernel_rfl)) T.z_tuple (by decide +kernel) (eb_var (n := 1) (i := 2) rfl (.inl (by kernel_rfl)) (by decide)))))) (ew_or (et_cmp (o_ne hr.units) dNe_nx (EO.up (k := 0) (n := 1) (eo_callB c_len fLen_nx (gl_of (by kernel_rfl)) T.z_len (by decide +kernel) (ea_cons (eb_var (n := 1) (i := 2) rfl (.inl (by kernel_rfl)) (by decide)) ea_nil))) (EO.up (k := 0) (n := 1) eo_int) (nomark _)) (ew_or (et_not (et_val (EO.up (k := 0) (n := 1) (eo_isi kind_int (gl_of (by kernel_rfl)) T.z_isinstance (gl_of (by kernel_rfl)) T.z_int (by decide +kernel) (eb_ix (hu_of hr) (eb_var (n := 2) (i := 2) rfl (.inl (by kernel_rfl)) (by decide)) (EO.up (k := 0) (n := 0) eo_int)))))) (ew_or (et_val (EO.up (k := 0) (n := 1) (eo_isi kind_bool (gl_of (by kernel_rfl)) T.z_isinstance (gl_of (by kernel_rfl)) T.z_bool (by decide +kernel) (eb_ix (hu_of hr) (eb_var (n := 2) (i := 2) rfl (.inl (by kernel_rfl)) (by decide)) (EO.up (k := 0) (n := 0) eo_int))))) (ew_or1 (et_cmp o_le dCmpI_nx (eb_ix (hu_of hr) (eb_var (n := 1) (i := 2) rfl (.inl (by kernel_rfl)) (by decide)) (EO.up (k := 0) (n := 0) eo_int)) (eb_var (n := 0) (i := 1) rfl (.inl (by kernel_rfl)) (by decide)) (nomark _)))))))) (sjs_one (sj_ret eo_bl)) sjs_nil)
  (sjs_cons (L1 := [0, 0, 0]) (sj_if (et_w (ew_or (et_not (et_val (EO.up (k := 0) (n := 1) (eo_call (G__law_is_text base) (hr.mono (by decide)) (gl_of (by kernel_rfl)) T.g__law_is_text k__law_is_text b__law_is_text.b (takes_of rfl rfl rfl rfl) (ea_cons (eb_ix (hu_of hr) (eb_var (n := 1) (i := 2) rfl (.inl (by kernel_rfl)) (by decide)) (EO.up (k := 0) (n := 0) eo_int)) ea_nil))))) (ew_or (et_not (et_val (EO.up (k := 0) (n := 1) (eo_call (G__law_is_text base) (hr.mono (by decide)) (gl_of (by kernel_rfl)) T.g__law_is_text k__law_is_text b__law_is_text.b (takes_of rfl rfl rfl rfl) (ea_cons (eb_ix (hu_of hr) (eb_var (n := 1) (i := 2) rfl (.inl (by kernel_rfl)) (by decide)) (EO.up (k := 0) (n := 0) eo_int)) ea_nil))))) (ew_or1 (et_cmp (o_eq hr.units) dEq_nx (eb_ix (hu_of hr) (eb_var (n := 2) (i := 2) rfl (.inl (by kernel_rfl)) (by decide)) (EO.up (k := 0) (n := 0) eo_int)) (eb_ix (hu_of hr) (eb_var (n := 2) (i := 2) rfl (.inl (by kernel_rfl)) (by decide)) (EO.up (k := 0) (n := 0) eo_int)) (nomark _)))))) (sjs_one (sj_ret eo_bl)) sjs_nil)
  (sjs_cons (L1 := [0, 0, 0]) (sj_set (i := 1) (k := 0) sc__law_is_patch.nd rfl (.inl (by kernel_rfl)) (EB.o (EO.b (k := 1) (eo_op o_add dAdd_nx (eb_ix (hu_of hr) (eb_var (n := 2) (i := 2) rfl (.inl (by kernel_rfl)) (by decide)) (EO.up (k := 0) (n := 0) eo_int)) (EO.up (k := 0) (n := 1) (eo_callB c_len fLen_nx (gl_of (by kernel_rfl)) T.z_len (by decide +kernel) (ea_cons (eb_ix (hu_of hr) (eb_var (n := 2) (i := 2) rfl (.inl (by kernel_rfl)) (by decide)) (EO.up (k := 0) (n := 0) eo_int)) ea_nil)))))) (by decide))
  (sjs_kill [2] sjs_nil)))))
  (sjs_kill [1, 2] (sjs_one (sj_ret eo_bl))))))), b, F.kp⟩
theorem ok__law_read (T : Txt K mg) : ∃ fd, (∀ base : Heap, FnOk P w K mg base (L2.CX P w) 3 (He.ga K "_law_read") fd ["text"] (Spec K mg 1 0 C__law_read)) ∧ BA fd ["text"] ∧ PySem.W.keepIn K (.ref (He.ga K "_law_read")) = true := by
  obtain ⟨fd, F, b⟩ := T.F__law_read
  obtain ⟨fd__law_is_patch, G__law_is_patch, b__law_is_patch, k__law_is_patch⟩ := ok__law_is_patch (P := P) (w := w) T
  exact ⟨fd, fun base => fn_ok (N := n__law_read) (nN := 5) (k := 2) (kr := 0) (L := [0, 0, 0, 0, 0]) (L' := [0, 0, 0, 0, 0]) (FF := F__law_read) F sc__law_read rfl rfl rfl rfl fun cdv A outer s H E hr => ((sjs_cons (L1 := [0, 1, 0, 0, 0]) (sj_set (i := 1) (k := 1) sc__law_read.nd rfl (.inl (by kernel_rfl)) (eo_nil) (by decide))
  (sjs_cons (L1 := [0, 1, 0, 0, 0]) (sj_for (passes_of rfl) rfl (ei_seq (eb_if (et_cmp (o_ne hr.units) dNe_nx (eb_var (n := 1) (i := 0) rfl (.inl (by kernel_rfl)) (by decide)) (EO.up (k := 0) (n := 1) eo_str) (nomark _)) (EO.up (k := 1) (n := 0) (eo_ms m_split fSplit_nx PySem.F.slot_str_split PySem.F.type_str_split (eb_var (n := 0) (i := 0) rfl (.inl (by kernel_rfl)) (by decide)) (ea_cons (EO.up (k := 0) (n := 0) eo_str) ea_nil))) (EO.up (k := 1) (n := 0) (eo_nil)))) (pg_name (i := 2) sc__law_read.nd rfl (.inl (by kernel_rfl)) (.inl rfl)) (gs_name 2) (by decide)
  (sjs_cons (L1 := [0, 1, 0, 0, 0]) (sj_if (et_val (EO.up (k := 0) (n := 1) (eo_ms m_starts fStarts_nx PySem.F.slot_str_startswith PySem.F.type_str_startswith (eb_var (n := 0) (i := 2) rfl (.inl (by kernel_rfl)) (by decide)) (ea_cons (EO.up (k := 0) (n := 0) eo_str) ea_nil)))) (sjs_cons (L1 := [0, 1, 0, 0, 0]) (sj_set (i := 3) (k := 0) sc__law_read.nd rfl (.inl (by kernel_rfl)) (EB.o (EO.b (k := 1) (eo_sl (eb_var (n := 1) (i := 2) rfl (.inl (by kernel_rfl)) (by decide)) (ep_some (EO.up (k := 0) (n := 0) eo_int)) ep_none))) (by decide))
  (sjs_cons (L1 := [0, 1, 0, 0, 0]) (sj_if (et_w (ew_or (et_cmp (o_eq hr.units) dEq_nx (eb_var (n := 1) (i := 3) rfl (.inl (by kernel_rfl)) (by decide)) (EO.up (k := 0) (n := 1) eo_str) (nomark _)) (ew_or (et_not (et_val (EO.up (k := 0) (n := 1) (eo_callB (c_all rfl) fAll_nx (gl_of (by kernel_rfl)) T.z_all (by decide +kernel) (ea_cons (EO.up (k := 1) (n := 1) (eo_lc (own := [("sign", 4)]) rfl sc__law_read.nd (ei_seq (eb_var (n := 1) (i := 3) rfl (.inl (by kernel_rfl)) (by decide))) (blkOk_by (by kernel_rfl)) (fun _ _ _ _ _ => (pg_name (i := 4) sc__law_read.nd rfl (.inl (by kernel_rfl)) (.inr (by kernel_rfl)))) (fun _ _ _ _ _ => ets_nil) (fun _ _ _ _ _ => (eo_cmp (o_in (hu65 hr)) dIn_nx (eb_var (n := 1) (i := 4) rfl (.inl (by kernel_rfl)) (by decide)) (EO.up (k := 0) (n := 1) eo_str) (by rfl))) (gs_name 4) (by decide) (by decide))) ea_nil))))) (ew_or1 (et_w (ew_and (et_cmp o_gt dCmpI_nx (EO.up (k := 0) (n := 0) (eo_callB c_len fLen_nx (gl_of (by kernel_rfl)) T.z_len (by decide +kernel) (ea_cons (eb_var (n := 1) (i := 3) rfl (.inl (by kernel_rfl)) (by decide)) ea_nil))) (EO.up (k := 0) (n := 0) eo_int) (nomark _)) (ew_and1 (et_cmp (o_eq hr.units) dEq_nx (eb_ix (hu_of hr) (eb_var (n := 2) (i := 3) rfl (.inl (by kernel_rfl)) (by decide)) (EO.up (k := 0) (n := 0) eo_int)) (EO.up (k := 0) (n := 1) eo_str) (nomark _))))))))) (sjs_one (sj_ret eo_non)) sjs_nil)
  (sjs_one (sj_append (i := 1) (k := 0) rfl (.inl (by kernel_rfl)) rfl (eo_tup (ea_cons (EO.up (k := 0) (n := 0) (eo_callTy c_intS fIntS_nx (gl_of (by kernel_rfl)) T.z_int (by decide +kernel) (ea_cons (eb_var (n := 0) (i := 3) rfl (.inl (by kernel_rfl)) (by decide)) ea_nil))) (ea_cons (EO.up (k := 0) (n := 0) (eo_tup ea_nil)) (ea_cons (EO.up (k := 0) (n := 0) (eo_tup ea_nil)) ea_nil)))))))) (sjs_one (sj_if (et_w (ew_and (et_cmp o_gt dCmpI_nx (EO.up (k := 0) (n := 0) (eo_callB c_len fLen_nx (gl_of (by kernel_rfl)) T.z_len (by decide +kernel) (ea_cons (eb_var (n := 1) (i := 1) rfl (.inl (by kernel_rfl)) (by decide)) ea_nil))) (EO.up (k := 0) (n := 0) eo_int) (nomark _)) (ew_and (et_val (EO.up (k := 0) (n := 1) (eo_ms m_starts fStarts_nx PySem.F.slot_str_startswith PySem.F.type_str_startswith (eb_var (n := 0) (i := 2) rfl (.inl (by kernel_rfl)) (by decide)) (ea_cons (EO.up (k := 0) (n := 0) eo_str) ea_nil)))) (ew_and1 (et_cmp (o_eq hr.units) dEq_nx (eb_ix (hu_of hr) (eb_ix (hu_of hr) (eb_var (n := 3) (i := 1) rfl (.inl (by kernel_rfl)) (by decide)) (EO.up (k := 0) (n := 0) (eo_un o_neg dNeg_nx (EO.up (k := 0) (n := 0) eo_int)))) (EO.up (k := 0) (n := 0) eo_int)) (EO.up (k := 0) (n := 1) (eo_tup ea_nil)) (nomark _)))))) (sjs_one (sj_putP (k := 0) (hu_of hr) (epl_var (i := 1) (L := [0, 1, 0, 0, 0]) rfl (.inl (by kernel_rfl))) (EO.up (k := 0) (n := 0) (eo_un o_neg dNeg_nx (EO.up (k := 0) (n := 0) eo_int))) (eo_tup (ea_cons (eb_ix (hu_of hr) (eb_ix (hu_of hr) (eb_var (n := 2) (i := 1) rfl (.inl (by kernel_rfl)) (by decide)) (EO.up (k := 0) (n := 0) (eo_un o_neg dNeg_nx (EO.up (k := 0) (n := 0) eo_int)))) (EO.up (k := 0) (n := 0) eo_int)) (ea_cons (EO.up (k := 1) (n := 0) (eo_op o_add dAdd_nx (eb_ix (hu_of hr) (eb_ix (hu_of hr) (eb_var (n := 3) (i := 1) rfl (.inl (by kernel_rfl)) (by decide)) (EO.up (k := 0) (n := 0) (eo_un o_neg dNeg_nx (EO.up (k := 0) (n := 0) eo_int)))) (EO.up (k := 0) (n := 0) eo_int)) (EO.up (k := 0) (n := 1) (eo_tup (ea_cons (EO.up (k := 1) (n := 0) (eo_sl (eb_var (n := 1) (i := 2) rfl (.inl (by kernel_rfl)) (by decide)) (ep_some (EO.up (k := 0) (n := 0) eo_int)) ep_none)) ea_nil))))) (ea_cons (EO.up (k := 0) (n := 0) (eo_tup ea_nil)) ea_nil)))))) (sjs_one (sj_if (et_w (ew_and (et_cmp o_gt dCmpI_nx (EO.up (k := 0) (n := 0) (eo_callB c_len fLen_nx (gl_of (by kernel_rfl)) T.z_len (by decide +kernel) (ea_cons (eb_var (n := 1) (i := 1) rfl (.inl (by kernel_rfl)) (by decide)) ea_nil))) (EO.up (k := 0) (n := 0) eo_int) (nomark _)) (ew_and1 (et_val (EO.up (k := 0) (n := 1) (eo_ms m_starts fStarts_nx PySem.F.slot_str_startswith PySem.F.type_str_startswith (eb_var (n := 0) (i := 2) rfl (.inl (by kernel_rfl)) (by decide)) (ea_cons (EO.up (k := 0) (n := 0) eo_str) ea_nil))))))) (sjs_one (sj_putP (k := 0) (hu_of hr) (epl_var (i := 1) (L := [0, 1, 0, 0, 0]) rfl (.inl (by kernel_rfl))) (EO.up (k := 0) (n := 0) (eo_un o_neg dNeg_nx (EO.up (k := 0) (n := 0) eo_int))) (eo_tup (ea_cons (eb_ix (hu_of hr) (eb_ix (hu_of hr) (eb_var (n := 2) (i := 1) rfl (.inl (by kernel_rfl)) (by decide)) (EO.up (k := 0) (n := 0) (eo_un o_neg dNeg_nx (EO.up (k := 0) (n := 0) eo_int)))) (EO.up (k := 0) (n := 0) eo_int)) (ea_cons (eb_ix (hu_of hr) (eb_ix (hu_of hr) (eb_var (n := 2) (i := 1) rfl (.inl (by kernel_rfl)) (by decide)) (EO.up (k := 0) (n := 0) (eo_un o_neg dNeg_nx (EO.up (k := 0) (n := 0) eo_int)))) (EO.up (k := 0) (n := 0) eo_int)) (ea_cons (EO.up (k := 1) (n := 0) (eo_op o_add dAdd_nx (eb_ix (hu_of hr) (eb_ix (hu_of hr) (eb_var (n := 3) (i := 1) rfl (.inl (by kernel_rfl)) (by decide)) (EO.up (k := 0) (n := 0) (eo_un o_neg dNeg_nx (EO.up (k := 0) (n := 0) eo_int)))) (EO.up (k := 0) (n := 0) eo_int)) (EO.up (k := 0) (n := 1) (eo_tup (ea_cons (EO.up (k := 1) (n := 0) (eo_sl (eb_var (n := 1) (i := 2) rfl (.inl (by kernel_rfl)) (by decide)) (ep_some (EO.up (k := 0) (n := 0) eo_int)) ep_none)) ea_nil))))) ea_nil)))))) (sjs_one (sj_ret eo_non)))))))
  (sjs_kill [2, 3] sjs_nil)))
  (sjs_kill [2, 3] (sjs_one (sj_ret (EB.o (eb_if (et_val (EO.up (k := 0) (n := 1) (eo_call (G__law_is_patch base) (hr.mono (by decide)) (gl_of (by kernel_rfl)) T.g__law_is_patch k__law_is_patch b__law_is_patch.b (takes_of rfl rfl rfl rfl) (ea_cons (EO.up (k := 0) (n := 0) (eo_callTy c_tuple fTuple_nx (gl_of (by kernel_rfl)) T.z_tuple (by decide +kernel) (ea_cons (eb_var (n := 1) (i := 1) rfl (.inl (by kernel_rfl)) (by decide)) ea_nil))) ea_nil)))) (EO.up (k := 0) (n := 0) (eo_callTy c_tuple fTuple_nx (gl_of (by kernel_rfl)) T.z_tuple (by decide +kernel) (ea_cons (eb_var (n := 1) (i := 1) rfl (.inl (by kernel_rfl)) (by decide)) ea_nil))) (EO.up (k := 0) (n := 0) eo_non))))))))), b, F.kp⟩
theorem ok__law_text (T : Txt K mg) : ∃ fd, (∀ base : Heap, FnOk P w K mg base (L2.CX P w) 1 (He.ga K "_law_text") fd ["draws", "at", "most"] (Spec K mg 3 0 C__law_text)) ∧ BA fd ["draws", "at", "most"] ∧ PySem.W.keepIn K (.ref (He.ga K "_law_text")) = true := by
  obtain ⟨fd, F, b⟩ := T.F__law_text
  exact ⟨fd, fun base => fn_ok (N := n__law_text) (nN := 4) (k := 0) (kr := 0) (L := [0, 0, 0, 0]) (L' := [0, 0, 0, 0]) (FF := F__law_text) F sc__law_text rfl rfl rfl rfl fun cdv A outer s H E hr => ((sjs_one (sj_ret (eo_callTy c_tuple fTuple_nx (gl_of (by kernel_rfl)) T.z_tuple (by decide +kernel) (ea_cons (EO.up (k := 1) (n := 1) (eo_lc (own := [("k", 3)]) rfl sc__law_text.nd (ei_range1 (gl_of (by kernel_rfl)) T.z_range (ea_cons (EO.up (k := 0) (n := 0) (eo_op o_mod dMod_nx (EO.up (k := 0) (n := 0) (eo_callTy c_int fInt_nx (gl_of (by kernel_rfl)) T.z_int (by decide +kernel) (ea_cons (eb_ix (hu_of hr) (eb_var (n := 1) (i := 0) rfl (.inr (.inl (by kernel_rfl))) (by decide)) (eb_var (n := 0) (i := 1) rfl (.inr (.inl (by kernel_rfl))) (by decide))) ea_nil))) (EO.up (k := 1) (n := 0) (eo_op o_add dAdd_nx (eb_var (n := 1) (i := 2) rfl (.inl (by kernel_rfl)) (by decide)) (EO.up (k := 0) (n := 1) eo_int))))) ea_nil)) (blkOk_by (by kernel_rfl)) (fun _ _ _ _ _ => (pg_name (i := 3) sc__law_text.nd rfl (.inl (by kernel_rfl)) (.inr (by kernel_rfl)))) (fun _ _ _ _ _ => ets_nil) (fun _ _ _ _ _ => (EB.o (eb_ix (hu_of hr) (EO.up (k := 0) (n := 1) eo_str) (EO.up (k := 0) (n := 0) (eo_op o_mod dMod_nx (EO.up (k := 0) (n := 0) (eo_callTy c_int fInt_nx (gl_of (by kernel_rfl)) T.z_int (by decide +kernel) (ea_cons (eb_ix (hu_of hr) (eb_var (n := 1) (i := 0) rfl (.inr (.inl (by kernel_rfl))) (by decide)) (EO.up (k := 1) (n := 0) (eo_op o_add dAdd_nx (EO.up (k := 1) (n := 1) (eo_op o_add dAdd_nx (eb_var (n := 1) (i := 1) rfl (.inr (.inl (by kernel_rfl))) (by decide)) (EO.up (k := 0) (n := 1) eo_int))) (eb_var (n := 1) (i := 3) rfl (.inl (by kernel_rfl)) (by decide))))) ea_nil))) (EO.up (k := 0) (n := 0) eo_int)))))) (gs_name 3) (by decide) (by decide))) ea_nil))))), b, F.kp⟩
theorem ok_is_line (T : Txt K mg) : ∃ fd, (∀ base : Heap, FnOk P w K mg base (L2.CX P w) 1 (He.ga K "is_line") fd ["value"] (Spec K mg 1 0 C_is_line)) ∧ BA fd ["value"] ∧ PySem.W.keepIn K (.ref (He.ga K "is_line")) = true := by
  obtain ⟨fd, F, b⟩ := T.F_is_line
  exact ⟨fd, fun base => fn_ok (N := n_is_line) (nN := 1) (k := 0) (kr := 0) (L := [0]) (L' := [0]) (FF := F_is_line) F sc_is_line rfl rfl rfl rfl fun cdv A outer s H E hr => ((sjs_one (sj_ret (EB.o (eb_and (EO.up (k := 0) (n := 0) (eo_isi kind_str (gl_of (by kernel_rfl)) T.z_isinstance (gl_of (by kernel_rfl)) T.z_str (by decide +kernel) (eb_var (n := 1) (i := 0) rfl (.inl (by kernel_rfl)) (by decide)))) (eb_one (EO.up (k := 0) (n := 0) (eo_cmp (o_notIn (hu65 hr)) dNotIn_nx (EO.up (k := 0) (n := 1) (eo_gstr (gl_of (by kernel_rfl)) T.c_END.choose_spec)) (eb_var (n := 1) (i := 0) rfl (.inl (by kernel_rfl)) (by decide)) (by rfl))))))))), b, F.kp⟩
theorem ok_is_text (T : Txt K mg) : ∃ fd, (∀ base : Heap, FnOk P w K mg base (L2.CX P w) 2 (He.ga K "is_text") fd ["value"] (Spec K mg 1 0 C_is_text)) ∧ BA fd ["value"] ∧ PySem.W.keepIn K (.ref (He.ga K "is_text")) = true := by
  obtain ⟨fd, F, b⟩ := T.F_is_text
  obtain ⟨fd_is_line, G_is_line, b_is_line, k_is_line⟩ := ok_is_line (P := P) (w := w) T
  exact ⟨fd, fun base => fn_ok (N := n_is_text) (nN := 2) (k := 1) (kr := 0) (L := [0, 0]) (L' := [0, 0]) (FF := F_is_text) F sc_is_text rfl rfl rfl rfl fun cdv A outer s H E hr => ((sjs_one (sj_ret (EB.o (eb_and (EO.up (k := 0) (n := 0) (eo_isi kind_tup (gl_of (by kernel_rfl)) T.z_isinstance (gl_of (by kernel_rfl)) T.z_tuple (by decide +kernel) (eb_var (n := 1) (i := 0) rfl (.inl (by kernel_rfl)) (by decide)))) (eb_one (EO.up (k := 0) (n := 0) (eo_callB (c_all rfl) fAll_nx (gl_of (by kernel_rfl)) T.z_all (by decide +kernel) (ea_cons (EO.up (k := 1) (n := 1) (eo_lc (own := [("line", 1)]) rfl sc_is_text.nd (ei_seq (eb_var (n := 1) (i := 0) rfl (.inl (by kernel_rfl)) (by decide))) (blkOk_by (by kernel_rfl)) (fun _ _ _ _ _ => (pg_name (i := 1) sc_is_text.nd rfl (.inl (by kernel_rfl)) (.inr (by kernel_rfl)))) (fun _ _ _ _ _ => ets_nil) (fun _ _ _ _ _ => (eo_call (G_is_line base) (hr.mono (by decide)) (gl_of (by kernel_rfl)) T.g_is_line k_is_line b_is_line.b takes0 (ea_cons (eb_var (n := 0) (i := 1) rfl (.inl (by kernel_rfl)) (by decide)) ea_nil))) (gs_name 1) (by decide) (by decide))) ea_nil))))))))), b, F.kp⟩
theorem ok_is_whole (T : Txt K mg) : ∃ fd, (∀ base : Heap, FnOk P w K mg base (L2.CX P w) 1 (He.ga K "is_whole") fd ["value"] (Spec K mg 1 0 C_is_whole)) ∧ BA fd ["value"] ∧ PySem.W.keepIn K (.ref (He.ga K "is_whole")) = true := by
  obtain ⟨fd, F, b⟩ := T.F_is_whole
  exact ⟨fd, fun base => fn_ok (N := n_is_whole) (nN := 1) (k := 0) (kr := 0) (L := [0]) (L' := [0]) (FF := F_is_whole) F sc_is_whole rfl rfl rfl rfl fun cdv A outer s H E hr => ((sjs_one (sj_ret (EB.o (eb_and (EO.up (k := 0) (n := 0) (eo_isi kind_int (gl_of (by kernel_rfl)) T.z_isinstance (gl_of (by kernel_rfl)) T.z_int (by decide +kernel) (eb_var (n := 1) (i := 0) rfl (.inl (by kernel_rfl)) (by decide)))) (eb_and (EO.up (k := 0) (n := 0) (eo_not (EO.up (k := 0) (n := 1) (eo_isi kind_bool (gl_of (by kernel_rfl)) T.z_isinstance (gl_of (by kernel_rfl)) T.z_bool (by decide +kernel) (eb_var (n := 1) (i := 0) rfl (.inl (by kernel_rfl)) (by decide)))))) (eb_one (EO.up (k := 0) (n := 0) (eo_cmp o_ge dCmpI_nx (eb_var (n := 0) (i := 0) rfl (.inl (by kernel_rfl)) (by decide)) (EO.up (k := 0) (n := 0) eo_int) (nomark _)))))))))), b, F.kp⟩
theorem ok__is_hunk (T : Txt K mg) : ∃ fd, (∀ base : Heap, FnOk P w K mg base (L2.CX P w) 3 (He.ga K "_is_hunk") fd ["value"] (Spec K mg 1 0 C__is_hunk)) ∧ BA fd ["value"] ∧ PySem.W.keepIn K (.ref (He.ga K "_is_hunk")) = true := by
  obtain ⟨fd, F, b⟩ := T.F__is_hunk
  obtain ⟨fd_is_whole, G_is_whole, b_is_whole, k_is_whole⟩ := ok_is_whole (P := P) (w := w) T
  obtain ⟨fd_is_text, G_is_text, b_is_text, k_is_text⟩ := ok_is_text (P := P) (w := w) T
  exact ⟨fd, fun base => fn_ok (N := n__is_hunk) (nN := 1) (k := 2) (kr := 0) (L := [0]) (L' := [0]) (FF := F__is_hunk) F sc__is_hunk rfl rfl rfl rfl fun cdv A outer s H E hr => ((sjs_cons (L1 := [0]) (sj_if (et_w (ew_or (et_not (et_val (EO.up (k := 0) (n := 1) (eo_isi kind_tup (gl_of (by kernel_rfl)) T.z_isinstance (gl_of (by kernel_rfl)) T.z_tuple (by decide +kernel) (eb_var (n := 1) (i := 0) rfl (.inl (by kernel_rfl)) (by decide)))))) (ew_or (et_cmp (o_ne hr.units) dNe_nx (EO.up (k := 0) (n := 1) (eo_callB c_len fLen_nx (gl_of (by kernel_rfl)) T.z_len (by decide +kernel) (ea_cons (eb_var (n := 1) (i := 0) rfl (.inl (by kernel_rfl)) (by decide)) ea_nil))) (EO.up (k := 0) (n := 1) eo_int) (nomark _)) (ew_or1 (et_not (et_val (EO.up (k := 0) (n := 1) (eo_call (G_is_whole base) (hr.mono (by decide)) (gl_of (by kernel_rfl)) T.g_is_whole k_is_whole b_is_whole.b (takes_of rfl rfl rfl rfl) (ea_cons (eb_ix (hu_of hr) (eb_var (n := 1) (i := 0) rfl (.inl (by kernel_rfl)) (by decide)) (EO.up (k := 0) (n := 0) eo_int)) ea_nil))))))))) (sjs_one (sj_ret eo_bl)) sjs_nil)
  (sjs_one (sj_ret (EB.o (eb_and (EO.up (k := 0) (n := 0) (eo_call (G_is_text base) (hr.mono (by decide)) (gl_of (by kernel_rfl)) T.g_is_text k_is_text b_is_text.b (takes_of rfl rfl rfl rfl) (ea_cons (eb_ix (hu_of hr) (eb_var (n := 1) (i := 0) rfl (.inl (by kernel_rfl)) (by decide)) (EO.up (k := 0) (n := 0) eo_int)) ea_nil))) (eb_and (EO.up (k := 0) (n := 0) (eo_call (G_is_text base) (hr.mono (by decide)) (gl_of (by kernel_rfl)) T.g_is_text k_is_text b_is_text.b (takes_of rfl rfl rfl rfl) (ea_cons (eb_ix (hu_of hr) (eb_var (n := 1) (i := 0) rfl (.inl (by kernel_rfl)) (by decide)) (EO.up (k := 0) (n := 0) eo_int)) ea_nil))) (eb_one (EO.up (k := 0) (n := 0) (eo_cmp (o_ne hr.units) dNe_nx (eb_ix (hu_of hr) (eb_var (n := 2) (i := 0) rfl (.inl (by kernel_rfl)) (by decide)) (EO.up (k := 0) (n := 0) eo_int)) (eb_ix (hu_of hr) (eb_var (n := 2) (i := 0) rfl (.inl (by kernel_rfl)) (by decide)) (EO.up (k := 0) (n := 0) eo_int)) (nomark _))))))))))), b, F.kp⟩
theorem ok_is_patch (T : Txt K mg) : ∃ fd, (∀ base : Heap, FnOk P w K mg base (L2.CX P w) 4 (He.ga K "is_patch") fd ["value"] (Spec K mg 1 0 C_is_patch)) ∧ BA fd ["value"] ∧ PySem.W.keepIn K (.ref (He.ga K "is_patch")) = true := by
  obtain ⟨fd, F, b⟩ := T.F_is_patch
  obtain ⟨fd__is_hunk, G__is_hunk, b__is_hunk, k__is_hunk⟩ := ok__is_hunk (P := P) (w := w) T
  exact ⟨fd, fun base => fn_ok (N := n_is_patch) (nN := 3) (k := 3) (kr := 0) (L := [0, 0, 0]) (L' := [0, 0, 0]) (FF := F_is_patch) F sc_is_patch rfl rfl rfl rfl fun cdv A outer s H E hr => ((sjs_cons (L1 := [0, 0, 0]) (sj_if (et_w (ew_or (et_not (et_val (EO.up (k := 0) (n := 1) (eo_isi kind_tup (gl_of (by kernel_rfl)) T.z_isinstance (gl_of (by kernel_rfl)) T.z_tuple (by decide +kernel) (eb_var (n := 1) (i := 0) rfl (.inl (by kernel_rfl)) (by decide)))))) (ew_or1 (et_not (et_val (EO.up (k := 0) (n := 1) (eo_callB (c_all rfl) fAll_nx (gl_of (by kernel_rfl)) T.z_all (by decide +kernel) (ea_cons (EO.up (k := 1) (n := 1) (eo_lc (own := [("hunk", 1)]) rfl sc_is_patch.nd (ei_seq (eb_var (n := 1) (i := 0) rfl (.inl (by kernel_rfl)) (by decide))) (blkOk_by (by kernel_rfl)) (fun _ _ _ _ _ => (pg_name (i := 1) sc_is_patch.nd rfl (.inl (by kernel_rfl)) (.inr (by kernel_rfl)))) (fun _ _ _ _ _ => ets_nil) (fun _ _ _ _ _ => (eo_call (G__is_hunk base) (hr.mono (by decide)) (gl_of (by kernel_rfl)) T.g__is_hunk k__is_hunk b__is_hunk.b takes0 (ea_cons (eb_var (n := 0) (i := 1) rfl (.inl (by kernel_rfl)) (by decide)) ea_nil))) (gs_name 1) (by decide) (by decide))) ea_nil)))))))) (sjs_one (sj_ret eo_bl)) sjs_nil)
  (sjs_one (sj_ret (eo_callB (c_all rfl) fAll_nx (gl_of (by kernel_rfl)) T.z_all (by decide +kernel) (ea_cons (EO.up (k := 1) (n := 1) (eo_lc (own := [("hunk", 1), ("later", 2)]) rfl sc_is_patch.nd (ei_zip (gl_of (by kernel_rfl)) T.z_zip (ea_cons (eb_var (n := 1) (i := 0) rfl (.inl (by kernel_rfl)) (by decide)) (ea_cons (EO.up (k := 1) (n := 1) (eo_sl (eb_var (n := 1) (i := 0) rfl (.inl (by kernel_rfl)) (by decide)) (ep_some (EO.up (k := 0) (n := 0) eo_int)) ep_none)) ea_nil))) (blkOk_by (by kernel_rfl)) (fun _ _ _ _ _ => (pg_tup rfl (pgs_cons (pg_name (i := 1) sc_is_patch.nd rfl (.inl (by kernel_rfl)) (.inr (by kernel_rfl))) (pgs_cons (pg_name (i := 2) sc_is_patch.nd rfl (.inl (by kernel_rfl)) (.inr (by kernel_rfl))) pgs_nil)))) (fun _ _ _ _ _ => ets_nil) (fun _ _ _ _ _ => (eo_cmp o_lt dCmpI_nx (EO.up (k := 1) (n := 0) (eo_op o_add dAdd_nx (eb_ix (hu_of hr) (eb_var (n := 2) (i := 1) rfl (.inl (by kernel_rfl)) (by decide)) (EO.up (k := 0) (n := 0) eo_int)) (EO.up (k := 0) (n := 1) (eo_callB c_len fLen_nx (gl_of (by kernel_rfl)) T.z_len (by decide +kernel) (ea_cons (eb_ix (hu_of hr) (eb_var (n := 2) (i := 1) rfl (.inl (by kernel_rfl)) (by decide)) (EO.up (k := 0) (n := 0) eo_int)) ea_nil))))) (eb_ix (hu_of hr) (eb_var (n := 1) (i := 2) rfl (.inl (by kernel_rfl)) (by decide)) (EO.up (k := 0) (n := 0) eo_int)) (nomark _))) (gs_tup [1, 2]) (by decide) (by decide))) ea_nil)))))), b, F.kp⟩
theorem ok_check_patches (T : Txt K mg) : ∃ fd, (∀ base : Heap, FnOk P w K mg base (L2.CX P w) 5 (He.ga K "check_patches") fd ["values"] (Spec K mg 1 0 C_check_patches)) ∧ BA fd ["values"] ∧ PySem.W.keepIn K (.ref (He.ga K "check_patches")) = true := by
  obtain ⟨fd, F, b⟩ := T.F_check_patches
  obtain ⟨fd_is_patch, G_is_patch, b_is_patch, k_is_patch⟩ := ok_is_patch (P := P) (w := w) T
  exact ⟨fd, fun base => fn_ok (N := n_check_patches) (nN := 2) (k := 4) (kr := 0) (L := [0, 0]) (L' := [0, 0]) (FF := F_check_patches) F sc_check_patches rfl rfl rfl rfl fun cdv A outer s H E hr => ((sjs_one (sj_if (et_not (et_val (EO.up (k := 0) (n := 1) (eo_callB (c_all rfl) fAll_nx (gl_of (by kernel_rfl)) T.z_all (by decide +kernel) (ea_cons (EO.up (k := 1) (n := 1) (eo_lc (own := [("value", 1)]) rfl sc_check_patches.nd (ei_seq (eb_var (n := 1) (i := 0) rfl (.inl (by kernel_rfl)) (by decide))) (blkOk_by (by kernel_rfl)) (fun _ _ _ _ _ => (pg_name (i := 1) sc_check_patches.nd rfl (.inl (by kernel_rfl)) (.inr (by kernel_rfl)))) (fun _ _ _ _ _ => ets_nil) (fun _ _ _ _ _ => (eo_call (G_is_patch base) (hr.mono (by decide)) (gl_of (by kernel_rfl)) T.g_is_patch k_is_patch b_is_patch.b takes0 (ea_cons (eb_var (n := 0) (i := 1) rfl (.inl (by kernel_rfl)) (by decide)) ea_nil))) (gs_name 1) (by decide) (by decide))) ea_nil))))) (sjs_one (sj_raise rfl (takes_of rfl rfl rfl rfl) PySem.F.excBase_ValueError T.e_BadPatch.2.1 T.e_BadPatch.1 T.e_BadPatch.2.2.1 (raises_own T.e_BadPatch.2.2.2.1 T.e_BadPatch.2.2.2.2) (gl_of (by kernel_rfl)))) sjs_nil))), b, F.kp⟩
theorem ok_patch_text (T : Txt K mg) : ∃ fd, (∀ base : Heap, FnOk P w K mg base (L2.CX P w) 6 (He.ga K "patch_text") fd ["patch"] (Spec K mg 1 0 C_patch_text)) ∧ BA fd ["patch"] ∧ PySem.W.keepIn K (.ref (He.ga K "patch_text")) = true := by
  obtain ⟨fd, F, b⟩ := T.F_patch_text
  obtain ⟨fd_check_patches, G_check_patches, b_check_patches, k_check_patches⟩ := ok_check_patches (P := P) (w := w) T
  exact ⟨fd, fun base => fn_ok (N := n_patch_text) (nN := 6) (k := 5) (kr := 0) (L := [0, 0, 0, 0, 0, 0]) (L' := [0, 0, 0, 0, 0, 0]) (FF := F_patch_text) F sc_patch_text rfl rfl rfl rfl fun cdv A outer s H E hr => ((sjs_cons (L1 := [0, 0, 0, 0, 0, 0]) (sj_expr (EO.up (k := 0) (n := 0) (eo_call (G_check_patches base) (hr.mono (by decide)) (gl_of (by kernel_rfl)) T.g_check_patches k_check_patches b_check_patches.b (takes_of rfl rfl rfl rfl) (ea_cons (EO.up (k := 1) (n := 0) (eo_lst (ea_cons (eb_var (n := 0) (i := 0) rfl (.inl (by kernel_rfl)) (by decide)) ea_nil))) ea_nil))))
  (sjs_cons (L1 := [0, 1, 0, 0, 0, 0]) (sj_set (i := 1) (k := 1) sc_patch_text.nd rfl (.inl (by kernel_rfl)) (eo_nil) (by decide))
  (sjs_cons (L1 := [0, 1, 0, 0, 0, 0]) (sj_for (passes_of rfl) rfl (ei_seq (eb_var (n := 0) (i := 0) rfl (.inl (by kernel_rfl)) (by decide))) (pg_tup rfl (pgs_cons (pg_name (i := 2) sc_patch_text.nd rfl (.inl (by kernel_rfl)) (.inl rfl)) (pgs_cons (pg_name (i := 3) sc_patch_text.nd rfl (.inl (by kernel_rfl)) (.inl rfl)) (pgs_cons (pg_name (i := 4) sc_patch_text.nd rfl (.inl (by kernel_rfl)) (.inl rfl)) pgs_nil)))) (gs_tup [2, 3, 4]) (by decide)
  (sjs_cons (L1 := [0, 1, 0, 0, 0, 0]) (sj_append (i := 1) (k := 0) rfl (.inl (by kernel_rfl)) rfl (EB.o (EO.b (k := 1) (eo_op o_add dAdd_nx (EO.up (k := 0) (n := 1) (eo_gstr (gl_of (by kernel_rfl)) T.c_HEAD.choose_spec)) (EO.up (k := 0) (n := 1) (eo_callTy c_str fStr_nx (gl_of (by kernel_rfl)) T.z_str (by decide +kernel) (ea_cons (eb_var (n := 0) (i := 2) rfl (.inl (by kernel_rfl)) (by decide)) ea_nil)))))))
  (sjs_cons (L1 := [0, 1, 0, 0, 0, 0]) (sj_extP (k := 0) (epl_var (i := 1) (L := [0, 1, 0, 0, 0, 0]) rfl (.inl (by kernel_rfl))) (eo_lc (own := [("line", 5)]) rfl sc_patch_text.nd (ei_seq (eb_var (n := 1) (i := 3) rfl (.inl (by kernel_rfl)) (by decide))) (blkOk_by (by kernel_rfl)) (fun _ _ _ _ _ => (pg_name (i := 5) sc_patch_text.nd rfl (.inl (by kernel_rfl)) (.inr (by kernel_rfl)))) (fun _ _ _ _ _ => ets_nil) (fun _ _ _ _ _ => (EB.o (EO.b (k := 1) (eo_op o_add dAdd_nx (EO.up (k := 0) (n := 1) eo_str) (eb_var (n := 1) (i := 5) rfl (.inl (by kernel_rfl)) (by decide)))))) (gs_name 5) (by decide) (by decide)))
  (sjs_cons (L1 := [0, 1, 0, 0, 0, 0]) (sj_extP (k := 0) (epl_var (i := 1) (L := [0, 1, 0, 0, 0, 0]) rfl (.inl (by kernel_rfl))) (eo_lc (own := [("line", 5)]) rfl sc_patch_text.nd (ei_seq (eb_var (n := 1) (i := 4) rfl (.inl (by kernel_rfl)) (by decide))) (blkOk_by (by kernel_rfl)) (fun _ _ _ _ _ => (pg_name (i := 5) sc_patch_text.nd rfl (.inl (by kernel_rfl)) (.inr (by kernel_rfl)))) (fun _ _ _ _ _ => ets_nil) (fun _ _ _ _ _ => (EB.o (EO.b (k := 1) (eo_op o_add dAdd_nx (EO.up (k := 0) (n := 1) eo_str) (eb_var (n := 1) (i := 5) rfl (.inl (by kernel_rfl)) (by decide)))))) (gs_name 5) (by decide) (by decide)))
  (sjs_kill [2, 3, 4] sjs_nil)))))
  (sjs_kill [2, 3, 4] (sjs_one (sj_ret (eo_ms m_join fJoin_nx PySem.F.slot_str_join PySem.F.type_str_join (EO.up (k := 0) (n := 0) (eo_gstr (gl_of (by kernel_rfl)) T.c_END.choose_spec)) (ea_cons (eb_var (n := 1) (i := 1) rfl (.inl (by kernel_rfl)) (by decide)) ea_nil))))))))), b, F.kp⟩
theorem ok__place (T : Txt K mg) : ∃ fd, (∀ base : Heap, FnOk P w K mg base (L2.CX P w) 1 (He.ga K "_place") fd ["line"] (Spec K mg 1 0 C__place)) ∧ BA fd ["line"] ∧ PySem.W.keepIn K (.ref (He.ga K "_place")) = true := by
  obtain ⟨fd, F, b⟩ := T.F__place
  exact ⟨fd, fun base => fn_ok (N := n__place) (nN := 3) (k := 0) (kr := 0) (L := [0, 0, 0]) (L' := [0, 0, 0]) (FF := F__place) F sc__place rfl rfl rfl rfl fun cdv A outer s H E hr => ((sjs_cons (L1 := [0, 0, 0]) (sj_set (i := 1) (k := 0) sc__place.nd rfl (.inl (by kernel_rfl)) (EB.o (EO.b (k := 1) (eo_sl (eb_var (n := 1) (i := 0) rfl (.inl (by kernel_rfl)) (by decide)) (ep_some (EO.up (k := 0) (n := 0) (eo_callB c_len fLen_nx (gl_of (by kernel_rfl)) T.z_len (by decide +kernel) (ea_cons (EO.up (k := 0) (n := 1) (eo_gstr (gl_of (by kernel_rfl)) T.c_HEAD.choose_spec)) ea_nil)))) ep_none))) (by decide))
  (sjs_cons (L1 := [0, 0, 0]) (sj_if (et_w (ew_or (et_cmp (o_eq hr.units) dEq_nx (EO.up (k := 0) (n := 1) (eo_callB c_len fLen_nx (gl_of (by kernel_rfl)) T.z_len (by decide +kernel) (ea_cons (eb_var (n := 1) (i := 1) rfl (.inl (by kernel_rfl)) (by decide)) ea_nil))) (EO.up (k := 0) (n := 1) eo_int) (nomark _)) (ew_or (et_not (et_val (EO.up (k := 0) (n := 1) (eo_callB (c_all rfl) fAll_nx (gl_of (by kernel_rfl)) T.z_all (by decide +kernel) (ea_cons (EO.up (k := 1) (n := 1) (eo_lc (own := [("sign", 2)]) rfl sc__place.nd (ei_seq (eb_var (n := 1) (i := 1) rfl (.inl (by kernel_rfl)) (by decide))) (blkOk_by (by kernel_rfl)) (fun _ _ _ _ _ => (pg_name (i := 2) sc__place.nd rfl (.inl (by kernel_rfl)) (.inr (by kernel_rfl)))) (fun _ _ _ _ _ => ets_nil) (fun _ _ _ _ _ => (eo_cmp (o_in (hu65 hr)) dIn_nx (eb_var (n := 1) (i := 2) rfl (.inl (by kernel_rfl)) (by decide)) (EO.up (k := 0) (n := 1) (eo_gstr (gl_of (by kernel_rfl)) T.c_DIGITS.choose_spec)) (by rfl))) (gs_name 2) (by decide) (by decide))) ea_nil))))) (ew_or1 (et_w (ew_and (et_cmp o_gt dCmpI_nx (EO.up (k := 0) (n := 0) (eo_callB c_len fLen_nx (gl_of (by kernel_rfl)) T.z_len (by decide +kernel) (ea_cons (eb_var (n := 1) (i := 1) rfl (.inl (by kernel_rfl)) (by decide)) ea_nil))) (EO.up (k := 0) (n := 0) eo_int) (nomark _)) (ew_and1 (et_cmp (o_eq hr.units) dEq_nx (eb_ix (hu_of hr) (eb_var (n := 2) (i := 1) rfl (.inl (by kernel_rfl)) (by decide)) (EO.up (k := 0) (n := 0) eo_int)) (EO.up (k := 0) (n := 1) eo_str) (nomark _))))))))) (sjs_one (sj_raise rfl (takes_of rfl rfl rfl rfl) PySem.F.excBase_ValueError T.e_BadText.2.1 T.e_BadText.1 T.e_BadText.2.2.1 (raises_own T.e_BadText.2.2.2.1 T.e_BadText.2.2.2.2) (gl_of (by kernel_rfl)))) sjs_nil)
  (sjs_cons (L1 := [0, 0, 0]) (sj_if (et_cmp o_gt dCmpI_nx (EO.up (k := 0) (n := 0) (eo_callB c_len fLen_nx (gl_of (by kernel_rfl)) T.z_len (by decide +kernel) (ea_cons (eb_var (n := 1) (i := 1) rfl (.inl (by kernel_rfl)) (by decide)) ea_nil))) (EO.up (k := 0) (n := 0) eo_int) (nomark _)) (sjs_one (sj_raise rfl (takes_of rfl rfl rfl rfl) PySem.F.excBase_ValueError T.e_BadText.2.1 T.e_BadText.1 T.e_BadText.2.2.1 (raises_own T.e_BadText.2.2.2.1 T.e_BadText.2.2.2.2) (gl_of (by kernel_rfl)))) sjs_nil)
  (sjs_one (sj_ret (eo_callTy c_intS fIntS_nx (gl_of (by kernel_rfl)) T.z_int (by decide +kernel) (ea_cons (eb_var (n := 0) (i := 1) rfl (.inl (by kernel_rfl)) (by decide)) ea_nil)))))))), b, F.kp⟩
theorem ok_patch_of (T : Txt K mg) : ∃ fd, (∀ base : Heap, FnOk P w K mg base (L2.CX P w) 5 (He.ga K "patch_of") fd ["text"] (Spec K mg 1 0 C_patch_of)) ∧ BA fd ["text"] ∧ PySem.W.keepIn K (.ref (He.ga K "patch_of")) = true := by
  obtain ⟨fd, F, b⟩ := T.F_patch_of
  obtain ⟨fd__place, G__place, b__place, k__place⟩ := ok__place (P := P) (w := w) T
  obtain ⟨fd_is_patch, G_is_patch, b_is_patch, k_is_patch⟩ := ok_is_patch (P := P) (w := w) T
  exact ⟨fd, fun base => fn_ok (N := n_patch_of) (nN := 7) (k := 4) (kr := 0) (L := [0, 0, 0, 0, 0, 0, 0]) (L' := [0, 0, 0, 0, 0, 0, 0]) (FF := F_patch_of) F sc_patch_of rfl rfl rfl rfl fun cdv A outer s H E hr => ((sjs_cons (L1 := [0, 0, 0, 0, 0, 0, 0]) (sj_if (et_not (et_val (EO.up (k := 0) (n := 1) (eo_isi kind_str (gl_of (by kernel_rfl)) T.z_isinstance (gl_of (by kernel_rfl)) T.z_str (by decide +kernel) (eb_var (n := 1) (i := 0) rfl (.inl (by kernel_rfl)) (by decide)))))) (sjs_one (sj_raise rfl (takes_of rfl rfl rfl rfl) PySem.F.excBase_ValueError T.e_BadText.2.1 T.e_BadText.1 T.e_BadText.2.2.1 (raises_own T.e_BadText.2.2.2.1 T.e_BadText.2.2.2.2) (gl_of (by kernel_rfl)))) sjs_nil)
  (sjs_cons (L1 := [0, 3, 0, 0, 0, 0, 0]) (sj_set (i := 1) (k := 3) sc_patch_of.nd rfl (.inl (by kernel_rfl)) (eo_nil) (by decide))
  (sjs_cons (L1 := [0, 3, 0, 0, 0, 0, 0]) (sj_for (passes_of rfl) rfl (ei_seq (eb_if (et_cmp (o_ne hr.units) dNe_nx (eb_var (n := 1) (i := 0) rfl (.inl (by kernel_rfl)) (by decide)) (EO.up (k := 0) (n := 1) eo_str) (nomark _)) (EO.up (k := 1) (n := 0) (eo_ms m_split fSplit_nx PySem.F.slot_str_split PySem.F.type_str_split (eb_var (n := 0) (i := 0) rfl (.inl (by kernel_rfl)) (by decide)) (ea_cons (EO.up (k := 0) (n := 0) (eo_gstr (gl_of (by kernel_rfl)) T.c_END.choose_spec)) ea_nil))) (EO.up (k := 1) (n := 0) (eo_nil)))) (pg_name (i := 2) sc_patch_of.nd rfl (.inl (by kernel_rfl)) (.inl rfl)) (gs_name 2) (by decide)
  (sjs_cons (L1 := [0, 3, 0, 0, 0, 0, 0]) (sj_if (et_cmp (o_eq hr.units) dEq_nx (EO.up (k := 1) (n := 1) (eo_sl (eb_var (n := 1) (i := 2) rfl (.inl (by kernel_rfl)) (by decide)) ep_none (ep_some (EO.up (k := 0) (n := 0) (eo_callB c_len fLen_nx (gl_of (by kernel_rfl)) T.z_len (by decide +kernel) (ea_cons (EO.up (k := 0) (n := 1) (eo_gstr (gl_of (by kernel_rfl)) T.c_HEAD.choose_spec)) ea_nil)))))) (EO.up (k := 0) (n := 1) (eo_gstr (gl_of (by kernel_rfl)) T.c_HEAD.choose_spec)) (nomark _)) (sjs_one (sj_append (i := 1) (k := 2) rfl (.inl (by kernel_rfl)) rfl (eo_lstN (k := 1) (eas_cons (k := 1) (eo_flat (EO.up (k := 0) (n := 0) (eo_call (G__place base) (hr.mono (by decide)) (gl_of (by kernel_rfl)) T.g__place k__place b__place.b (takes_of rfl rfl rfl rfl) (ea_cons (eb_var (n := 0) (i := 2) rfl (.inl (by kernel_rfl)) (by decide)) ea_nil)))) (eas_cons (k := 1) (eo_nil) (eas_cons (k := 1) (eo_nil) eas_nil)))))) (sjs_one (sj_if (et_w (ew_and (et_cmp o_gt dCmpI_nx (EO.up (k := 0) (n := 0) (eo_callB (c_lenN (n := 2)) fLen_nx (gl_of (by kernel_rfl)) T.z_len (by decide +kernel) (ea_cons (eb_var (n := 3) (i := 1) rfl (.inl (by kernel_rfl)) (by decide)) ea_nil))) (EO.up (k := 0) (n := 0) eo_int) (nomark _)) (ew_and1 (et_cmp (o_eq hr.units) dEq_nx (EO.up (k := 1) (n := 1) (eo_sl (eb_var (n := 1) (i := 2) rfl (.inl (by kernel_rfl)) (by decide)) ep_none (ep_some (EO.up (k := 0) (n := 0) eo_int)))) (EO.up (k := 0) (n := 1) eo_str) (nomark _))))) (sjs_one (sj_appP (k := 0) (epl_ix (k := 1) (hu_of hr) (epl_ix (k := 2) (hu_of hr) (epl_var (i := 1) (L := [0, 3, 0, 0, 0, 0, 0]) rfl (.inl (by kernel_rfl))) (EO.up (k := 0) (n := 0) (eo_un o_neg dNeg_nx (EO.up (k := 0) (n := 0) eo_int)))) (EO.up (k := 0) (n := 0) eo_int)) (EB.o (EO.b (k := 1) (eo_sl (eb_var (n := 1) (i := 2) rfl (.inl (by kernel_rfl)) (by decide)) (ep_some (EO.up (k := 0) (n := 0) eo_int)) ep_none))))) (sjs_one (sj_if (et_w (ew_and (et_cmp o_gt dCmpI_nx (EO.up (k := 0) (n := 0) (eo_callB (c_lenN (n := 2)) fLen_nx (gl_of (by kernel_rfl)) T.z_len (by decide +kernel) (ea_cons (eb_var (n := 3) (i := 1) rfl (.inl (by kernel_rfl)) (by decide)) ea_nil))) (EO.up (k := 0) (n := 0) eo_int) (nomark _)) (ew_and (et_cmp (o_eq hr.units) dEq_nx (EO.up (k := 1) (n := 1) (eo_sl (eb_var (n := 1) (i := 2) rfl (.inl (by kernel_rfl)) (by decide)) ep_none (ep_some (EO.up (k := 0) (n := 0) eo_int)))) (EO.up (k := 0) (n := 1) eo_str) (nomark _)) (ew_and1 (et_cmp (o_eq hr.units) dEq_nx (EO.up (k := 0) (n := 1) (eo_callB c_len fLen_nx (gl_of (by kernel_rfl)) T.z_len (by decide +kernel) (ea_cons (eb_ix (hu_of hr) (eb_ix (hu_of hr) (eb_var (n := 3) (i := 1) rfl (.inl (by kernel_rfl)) (by decide)) (EO.up (k := 0) (n := 0) (eo_un o_neg dNeg_nx (EO.up (k := 0) (n := 0) eo_int)))) (EO.up (k := 0) (n := 0) eo_int)) ea_nil))) (EO.up (k := 0) (n := 1) eo_int) (nomark _)))))) (sjs_one (sj_appP (k := 0) (epl_ix (k := 1) (hu_of hr) (epl_ix (k := 2) (hu_of hr) (epl_var (i := 1) (L := [0, 3, 0, 0, 0, 0, 0]) rfl (.inl (by kernel_rfl))) (EO.up (k := 0) (n := 0) (eo_un o_neg dNeg_nx (EO.up (k := 0) (n := 0) eo_int)))) (EO.up (k := 0) (n := 0) eo_int)) (EB.o (EO.b (k := 1) (eo_sl (eb_var (n := 1) (i := 2) rfl (.inl (by kernel_rfl)) (by decide)) (ep_some (EO.up (k := 0) (n := 0) eo_int)) ep_none))))) (sjs_one (sj_raise rfl (takes_of rfl rfl rfl rfl) PySem.F.excBase_ValueError T.e_BadText.2.1 T.e_BadText.1 T.e_BadText.2.2.1 (raises_own T.e_BadText.2.2.2.1 T.e_BadText.2.2.2.2) (gl_of (by kernel_rfl)))))))))
  (sjs_kill [2] sjs_nil)))
  (sjs_kill [2] (sjs_drop 1 (sjs_cons (L1 := [0, 0, 0, 0, 0, 0, 0]) (sj_set (i := 3) (k := 0) sc_patch_of.nd rfl (.inl (by kernel_rfl)) (eo_callTy c_tuple fTuple_nx (gl_of (by kernel_rfl)) T.z_tuple (by decide +kernel) (ea_cons (EO.up (k := 1) (n := 1) (eo_lc (own := [("at", 4), ("old", 5), ("new", 6)]) rfl sc_patch_of.nd (ei_seq (eb_var (n := 1) (i := 1) rfl (.inl (by kernel_rfl)) (by decide))) (blkOk_by (by kernel_rfl)) (fun _ _ _ _ _ => (pg_lst rfl (pgs_cons (pg_name (i := 4) sc_patch_of.nd rfl (.inl (by kernel_rfl)) (.inr (by kernel_rfl))) (pgs_cons (pg_name (i := 5) sc_patch_of.nd rfl (.inl (by kernel_rfl)) (.inr (by kernel_rfl))) (pgs_cons (pg_name (i := 6) sc_patch_of.nd rfl (.inl (by kernel_rfl)) (.inr (by kernel_rfl))) pgs_nil))))) (fun _ _ _ _ _ => ets_nil) (fun _ _ _ _ _ => (eo_tup (ea_cons (eb_var (n := 0) (i := 4) rfl (.inl (by kernel_rfl)) (by decide)) (ea_cons (EO.up (k := 0) (n := 0) (eo_callTy c_tuple fTuple_nx (gl_of (by kernel_rfl)) T.z_tuple (by decide +kernel) (ea_cons (eb_var (n := 1) (i := 5) rfl (.inl (by kernel_rfl)) (by decide)) ea_nil))) (ea_cons (EO.up (k := 0) (n := 0) (eo_callTy c_tuple fTuple_nx (gl_of (by kernel_rfl)) T.z_tuple (by decide +kernel) (ea_cons (eb_var (n := 1) (i := 6) rfl (.inl (by kernel_rfl)) (by decide)) ea_nil))) ea_nil))))) (gs_lst [4, 5, 6]) (by decide) (by decide))) ea_nil)) (by decide))
  (sjs_cons (L1 := [0, 0, 0, 0, 0, 0, 0]) (sj_if (et_not (et_val (EO.up (k := 0) (n := 1) (eo_call (G_is_patch base) (hr.mono (by decide)) (gl_of (by kernel_rfl)) T.g_is_patch k_is_patch b_is_patch.b (takes_of rfl rfl rfl rfl) (ea_cons (eb_var (n := 0) (i := 3) rfl (.inl (by kernel_rfl)) (by decide)) ea_nil))))) (sjs_one (sj_raise rfl (takes_of rfl rfl rfl rfl) PySem.F.excBase_ValueError T.e_BadText.2.1 T.e_BadText.1 T.e_BadText.2.2.1 (raises_own T.e_BadText.2.2.2.1 T.e_BadText.2.2.2.2) (gl_of (by kernel_rfl)))) sjs_nil)
  (sjs_one (sj_ret (EB.o (eb_var (n := 0) (i := 3) rfl (.inl (by kernel_rfl)) (by decide))))))))))))), b, F.kp⟩
theorem ok__law_told (T : Txt K mg) : ∃ fd, (∀ base : Heap, FnOk P w K mg base (L2.CX P w) 6 (He.ga K "_law_told") fd ["text"] (Spec K mg 1 0 C__law_told)) ∧ BA fd ["text"] ∧ PySem.W.keepIn K (.ref (He.ga K "_law_told")) = true := by
  obtain ⟨fd, F, b⟩ := T.F__law_told
  obtain ⟨fd_patch_of, G_patch_of, b_patch_of, k_patch_of⟩ := ok_patch_of (P := P) (w := w) T
  exact ⟨fd, fun base => fn_ok (N := n__law_told) (nN := 1) (k := 5) (kr := 0) (L := [0]) (L' := [0]) (FF := F__law_told) F sc__law_told rfl rfl rfl rfl fun cdv A outer s H E hr => ((sjs_one (sj_try (us := ["BadPatch", "BadText"]) [(.ref (He.ga K "BadText"), ["BadText"], (sNx (sRet (eC .non))))] rfl rfl (takes_of rfl rfl rfl rfl) (hm_c (hc_c T.e_BadPatch.1 T.m_BadPatch_BadText (by decide +kernel) hc_n) (hm_c (hc_c T.e_BadText.1 T.m_BadText_BadText (by decide +kernel) hc_n) hm_n)) (fun W2 pnX xeX tkX pasX => (sjs_one (sj_ret (eo_call (G_patch_of base) (hr.mono (by decide)) (gl_of (by kernel_rfl)) T.g_patch_of k_patch_of b_patch_of.b tkX (ea_cons (eb_var (n := 0) (i := 0) rfl (.inl (by kernel_rfl)) (by decide)) ea_nil))))) (hp_cons 1 (names_g (gl_of (by kernel_rfl)) T.e_BadText.1) (fun _ _ => (sjs_one (sj_ret eo_non))) hp_nil)))), b, F.kp⟩
theorem ok_law (T : Txt K mg) : ∃ fd, (∀ base : Heap, FnOk P w K mg base (L2.CX P w) 7 (He.ga K "law") fd ["script"] (Spec K mg 1 0 C_law)) ∧ BA fd ["script"] ∧ PySem.W.keepIn K (.ref (He.ga K "law")) = true := by
  obtain ⟨fd, F, b⟩ := T.F_law
  obtain ⟨fd__law_draws, G__law_draws, b__law_draws, k__law_draws⟩ := ok__law_draws (P := P) (w := w) T
  obtain ⟨fd__law_strange, G__law_strange, b__law_strange, k__law_strange⟩ := ok__law_strange (P := P) (w := w) T
  obtain ⟨fd__law_patch, G__law_patch, b__law_patch, k__law_patch⟩ := ok__law_patch (P := P) (w := w) T
  obtain ⟨fd__law_text, G__law_text, b__law_text, k__law_text⟩ := ok__law_text (P := P) (w := w) T
  obtain ⟨fd__law_written, G__law_written, b__law_written, k__law_written⟩ := ok__law_written (P := P) (w := w) T
  obtain ⟨fd__law_is_patch, G__law_is_patch, b__law_is_patch, k__law_is_patch⟩ := ok__law_is_patch (P := P) (w := w) T
  obtain ⟨fd_patch_text, G_patch_text, b_patch_text, k_patch_text⟩ := ok_patch_text (P := P) (w := w) T
  obtain ⟨fd__law_told, G__law_told, b__law_told, k__law_told⟩ := ok__law_told (P := P) (w := w) T
  obtain ⟨fd__law_bent, G__law_bent, b__law_bent, k__law_bent⟩ := ok__law_bent (P := P) (w := w) T
  obtain ⟨fd__law_read, G__law_read, b__law_read, k__law_read⟩ := ok__law_read (P := P) (w := w) T
  exact ⟨fd, fun base => fn_ok (N := n_law) (nN := 8) (k := 6) (kr := 0) (L := [0, 0, 0, 0, 0, 0, 0, 0]) (L' := [0, 0, 0, 0, 0, 0, 0, 0]) (FF := F_law) F sc_law rfl rfl rfl rfl fun cdv A outer s H E hr => ((sjs_cons (L1 := [0, 0, 0, 0, 0, 0, 0, 0]) (sj_set (i := 1) (k := 0) sc_law.nd rfl (.inl (by kernel_rfl)) (eo_call (G__law_draws base) (hr.mono (by decide)) (gl_of (by kernel_rfl)) T.g__law_draws k__law_draws b__law_draws.b (takes_of rfl rfl rfl rfl) (ea_cons (eb_var (n := 0) (i := 0) rfl (.inl (by kernel_rfl)) (by decide)) (ea_cons (EO.up (k := 0) (n := 0) eo_int) ea_nil))) (by decide))
  (sjs_cons (L1 := [0, 0, 0, 0, 0, 0, 0, 0]) (sj_set (i := 2) (k := 0) sc_law.nd rfl (.inl (by kernel_rfl)) (eo_call (G__law_strange base) (hr.mono (by decide)) (gl_of (by kernel_rfl)) T.g__law_strange k__law_strange b__law_strange.b (takes_of rfl rfl rfl rfl) (ea_cons (EO.up (k := 0) (n := 0) (eo_call (G__law_patch base) (hr.mono (by decide)) (gl_of (by kernel_rfl)) T.g__law_patch k__law_patch b__law_patch.b (takes_of rfl rfl rfl rfl) (ea_cons (eb_var (n := 0) (i := 1) rfl (.inl (by kernel_rfl)) (by decide)) (ea_cons (EO.up (k := 0) (n := 0) eo_int) (ea_cons (EO.up (k := 0) (n := 0) (eo_call (G__law_text base) (hr.mono (by decide)) (gl_of (by kernel_rfl)) T.g__law_text k__law_text b__law_text.b (takes_of rfl rfl rfl rfl) (ea_cons (eb_var (n := 0) (i := 1) rfl (.inl (by kernel_rfl)) (by decide)) (ea_cons (EO.up (k := 0) (n := 0) eo_int) (ea_cons (EO.up (k := 0) (n := 0) eo_int) ea_nil))))) (ea_cons (EO.up (k := 0) (n := 0) eo_int) ea_nil)))))) (ea_cons (EO.up (k := 1) (n := 0) (eo_sl (eb_var (n := 1) (i := 1) rfl (.inl (by kernel_rfl)) (by decide)) (ep_some (EO.up (k := 0) (n := 0) eo_int)) ep_none)) ea_nil))) (by decide))
  (sjs_cons (L1 := [0, 0, 0, 0, 0, 0, 0, 0]) (sj_set (i := 3) (k := 0) sc_law.nd rfl (.inl (by kernel_rfl)) (eo_call (G__law_written base) (hr.mono (by decide)) (gl_of (by kernel_rfl)) T.g__law_written k__law_written b__law_written.b (takes_of rfl rfl rfl rfl) (ea_cons (eb_var (n := 0) (i := 2) rfl (.inl (by kernel_rfl)) (by decide)) ea_nil)) (by decide))
  (sjs_cons (L1 := [0, 0, 0, 0, 0, 0, 0, 0]) (sj_if (et_w (ew_or (et_not (et_val (EO.up (k := 0) (n := 1) (eo_call (G__law_is_patch base) (hr.mono (by decide)) (gl_of (by kernel_rfl)) T.g__law_is_patch k__law_is_patch b__law_is_patch.b (takes_of rfl rfl rfl rfl) (ea_cons (eb_var (n := 0) (i := 2) rfl (.inl (by kernel_rfl)) (by decide)) ea_nil))))) (ew_or (et_cmp (o_ne hr.units) dNe_nx (EO.up (k := 0) (n := 1) (eo_call (G_patch_text base) (hr.mono (by decide)) (gl_of (by kernel_rfl)) T.g_patch_text k_patch_text b_patch_text.b (takes_of rfl rfl rfl rfl) (ea_cons (eb_var (n := 0) (i := 2) rfl (.inl (by kernel_rfl)) (by decide)) ea_nil))) (eb_var (n := 1) (i := 3) rfl (.inl (by kernel_rfl)) (by decide)) (nomark _)) (ew_or1 (et_cmp (o_ne hr.units) dNe_nx (EO.up (k := 0) (n := 1) (eo_call (G__law_told base) (hr.mono (by decide)) (gl_of (by kernel_rfl)) T.g__law_told k__law_told b__law_told.b (takes_of rfl rfl rfl rfl) (ea_cons (eb_var (n := 0) (i := 3) rfl (.inl (by kernel_rfl)) (by decide)) ea_nil))) (eb_var (n := 1) (i := 2) rfl (.inl (by kernel_rfl)) (by decide)) (nomark _)))))) (sjs_one (sj_ret eo_bl)) sjs_nil)
  (sjs_cons (L1 := [0, 0, 0, 0, 0, 0, 0, 0]) (sj_for (passes_of rfl) rfl (ei_range1 (gl_of (by kernel_rfl)) T.z_range (ea_cons (EO.up (k := 0) (n := 0) eo_int) ea_nil)) (pg_name (i := 4) sc_law.nd rfl (.inl (by kernel_rfl)) (.inl rfl)) (gs_name 4) (by decide)
  (sjs_cons (L1 := [0, 0, 0, 0, 0, 0, 0, 0]) (sj_set (i := 5) (k := 0) sc_law.nd rfl (.inl (by kernel_rfl)) (eo_call (G__law_bent base) (hr.mono (by decide)) (gl_of (by kernel_rfl)) T.g__law_bent k__law_bent b__law_bent.b (takes_of rfl rfl rfl rfl) (ea_cons (eb_var (n := 0) (i := 3) rfl (.inl (by kernel_rfl)) (by decide)) (ea_cons (EO.up (k := 1) (n := 0) (eo_sl (eb_var (n := 1) (i := 1) rfl (.inl (by kernel_rfl)) (by decide)) (ep_some (EO.up (k := 1) (n := 0) (eo_op o_add dAdd_nx (EO.up (k := 0) (n := 1) eo_int) (EO.up (k := 0) (n := 1) (eo_op o_mul dMul_nx (EO.up (k := 0) (n := 0) eo_int) (eb_var (n := 0) (i := 4) rfl (.inl (by kernel_rfl)) (by decide))))))) ep_none)) ea_nil))) (by decide))
  (sjs_cons (L1 := [0, 0, 0, 0, 0, 0, 0, 0]) (sj_set (i := 6) (k := 0) sc_law.nd rfl (.inl (by kernel_rfl)) (eo_call (G__law_read base) (hr.mono (by decide)) (gl_of (by kernel_rfl)) T.g__law_read k__law_read b__law_read.b (takes_of rfl rfl rfl rfl) (ea_cons (eb_var (n := 0) (i := 5) rfl (.inl (by kernel_rfl)) (by decide)) ea_nil)) (by decide))
  (sjs_cons (L1 := [0, 0, 0, 0, 0, 0, 0, 0]) (sj_if (et_w (ew_or (et_cmp (o_ne hr.units) dNe_nx (EO.up (k := 0) (n := 1) (eo_call (G__law_told base) (hr.mono (by decide)) (gl_of (by kernel_rfl)) T.g__law_told k__law_told b__law_told.b (takes_of rfl rfl rfl rfl) (ea_cons (eb_var (n := 0) (i := 5) rfl (.inl (by kernel_rfl)) (by decide)) ea_nil))) (eb_var (n := 1) (i := 6) rfl (.inl (by kernel_rfl)) (by decide)) (nomark _)) (ew_or1 (et_w (ew_and (et_cmp o_isNot dIsNot_nx (eb_var (n := 1) (i := 6) rfl (.inl (by kernel_rfl)) (by decide)) (EO.up (k := 0) (n := 1) eo_non) (nomark _)) (ew_and1 (et_cmp (o_ne hr.units) dNe_nx (EO.up (k := 0) (n := 1) (eo_call (G_patch_text base) (hr.mono (by decide)) (gl_of (by kernel_rfl)) T.g_patch_text k_patch_text b_patch_text.b (takes_of rfl rfl rfl rfl) (ea_cons (eb_var (n := 0) (i := 6) rfl (.inl (by kernel_rfl)) (by decide)) ea_nil))) (eb_var (n := 1) (i := 5) rfl (.inl (by kernel_rfl)) (by decide)) (nomark _)))))))) (sjs_one (sj_ret eo_bl)) sjs_nil)
  (sjs_kill [4, 5, 6] sjs_nil)))))
  (sjs_kill [4, 5, 6] (sjs_cons (L1 := [0, 0, 0, 0, 0, 0, 0, 0]) (sj_if (et_not (et_val (EO.up (k := 0) (n := 1) (eo_callB (c_all rfl) fAll_nx (gl_of (by kernel_rfl)) T.z_all (by decide +kernel) (ea_cons (EO.up (k := 1) (n := 1) (eo_lc (own := [("wrong", 7)]) rfl sc_law.nd (ei_seq (EO.up (k := 0) (n := 1) (eo_tup (ea_cons (EO.up (k := 0) (n := 0) eo_non) (ea_cons (EO.up (k := 0) (n := 0) eo_int) (ea_cons (EO.up (k := 0) (n := 0) eo_bl) (ea_cons (EO.up (k := 1) (n := 0) (eo_lst (ea_cons (EO.up (k := 0) (n := 0) eo_str) ea_nil))) (ea_cons (EO.up (k := 0) (n := 0) (eo_tup (ea_cons (EO.up (k := 0) (n := 0) eo_str) ea_nil))) (ea_cons (EO.up (k := 0) (n := 0) eo_str) (ea_cons (EO.up (k := 0) (n := 0) eo_str) (ea_cons (EO.up (k := 0) (n := 0) eo_str) (ea_cons (EO.up (k := 0) (n := 0) eo_str) (ea_cons (EO.up (k := 0) (n := 0) eo_str) (ea_cons (EO.up (k := 0) (n := 0) eo_str) ea_nil)))))))))))))) (blkOk_by (by kernel_rfl)) (fun _ _ _ _ _ => (pg_name (i := 7) sc_law.nd rfl (.inl (by kernel_rfl)) (.inr (by kernel_rfl)))) (fun _ _ _ _ _ => ets_nil) (fun _ _ _ _ _ => (eo_cmp o_is dIs_nx (EO.up (k := 0) (n := 1) (eo_call (G__law_told base) (hr.mono (by decide)) (gl_of (by kernel_rfl)) T.g__law_told k__law_told b__law_told.b takes0 (ea_cons (eb_var (n := 0) (i := 7) rfl (.inl (by kernel_rfl)) (by decide)) ea_nil))) (EO.up (k := 0) (n := 1) eo_non) (nomark _))) (gs_name 7) (by decide) (by decide))) ea_nil))))) (sjs_one (sj_ret eo_bl)) sjs_nil)
  (sjs_cons (L1 := [0, 0, 0, 0, 0, 0, 0, 0]) (sj_for (passes_of rfl) rfl (ei_seq (EO.up (k := 0) (n := 0) (eo_tup (ea_cons (EO.up (k := 0) (n := 0) eo_non) (ea_cons (EO.up (k := 1) (n := 0) (eo_nil)) (ea_cons (EO.up (k := 0) (n := 0) (eo_tup (ea_cons (EO.up (k := 0) (n := 0) (eo_tup (ea_cons (EO.up (k := 0) (n := 0) eo_int) (ea_cons (EO.up (k := 0) (n := 0) (eo_tup ea_nil)) (ea_cons (EO.up (k := 0) (n := 0) (eo_tup ea_nil)) ea_nil))))) ea_nil))) (ea_cons (EO.up (k := 0) (n := 0) eo_str) ea_nil))))))) (pg_name (i := 7) sc_law.nd rfl (.inl (by kernel_rfl)) (.inl rfl)) (gs_name 7) (by decide)
  (sjs_cons (L1 := [0, 0, 0, 0, 0, 0, 0, 0]) (sj_try (us := ["BadPatch", "BadText"]) [(.ref (He.ga K "BadPatch"), ["BadPatch"], (sNx sCont))] rfl rfl (takes_of rfl rfl rfl rfl) (hm_c (hc_c T.e_BadPatch.1 T.m_BadPatch_BadPatch (by decide +kernel) hc_n) (hm_c (hc_c T.e_BadText.1 T.m_BadText_BadPatch (by decide +kernel) hc_n) hm_n)) (fun W2 pnX xeX tkX pasX => (sjs_one (sj_expr (EO.up (k := 0) (n := 0) (eo_call (G_patch_text base) (hr.mono (by decide)) (gl_of (by kernel_rfl)) T.g_patch_text k_patch_text b_patch_text.b tkX (ea_cons (eb_var (n := 0) (i := 7) rfl (.inl (by kernel_rfl)) (by decide)) ea_nil)))))) (hp_cons 8 (names_g (gl_of (by kernel_rfl)) T.e_BadPatch.1) (fun _ _ => (sjs_one sj_cont)) hp_nil))
  (sjs_one (sj_ret eo_bl))))
  (sjs_kill [7] (sjs_one (sj_ret (EB.o (eb_and (EO.up (k := 0) (n := 0) (eo_cmp (o_eq hr.units) dEq_nx (EO.up (k := 0) (n := 1) (eo_call (G__law_told base) (hr.mono (by decide)) (gl_of (by kernel_rfl)) T.g__law_told k__law_told b__law_told.b (takes_of rfl rfl rfl rfl) (ea_cons (EO.up (k := 0) (n := 0) eo_str) ea_nil))) (EO.up (k := 0) (n := 1) (eo_tup ea_nil)) (nomark _))) (eb_one (EO.up (k := 0) (n := 0) (eo_cmp (o_eq hr.units) dEq_nx (EO.up (k := 0) (n := 1) (eo_call (G__law_told base) (hr.mono (by decide)) (gl_of (by kernel_rfl)) T.g__law_told k__law_told b__law_told.b (takes_of rfl rfl rfl rfl) (ea_cons (EO.up (k := 0) (n := 0) eo_str) ea_nil))) (EO.up (k := 0) (n := 1) (eo_tup (ea_cons (EO.up (k := 0) (n := 0) (eo_tup (ea_cons (EO.up (k := 0) (n := 0) eo_int) (ea_cons (EO.up (k := 0) (n := 0) (eo_tup ea_nil)) (ea_cons (EO.up (k := 0) (n := 0) (eo_tup (ea_cons (EO.up (k := 0) (n := 0) eo_str) ea_nil))) ea_nil))))) ea_nil))) (nomark _)))))))))))))))))), b, F.kp⟩
end
end K
namespace K
open PySem PySem.Spec PyProof.Rows L2 Px
def fa_0 : List He.Fa := [.keep "_law_draws", .glo "_law_draws", .keep "_law_strange", .glo "_law_strange", .keep "_law_written", .glo "_law_written", .keep "_law_patch", .glo "_law_patch", .keep "_law_bent", .glo "_law_bent", .keep "_law_is_text", .glo "_law_is_text", .keep "_law_is_patch", .glo "_law_is_patch", .keep "_law_read", .glo "_law_read", .keep "_law_text", .glo "_law_text", .keep "is_line", .glo "is_line", .keep "is_text", .glo "is_text", .keep "is_whole", .glo "is_whole", .keep "_is_hunk", .glo "_is_hunk", .keep "is_patch", .glo "is_patch", .keep "check_patches", .glo "check_patches"]
def fa_1 : List He.Fa := [.keep "patch_text", .glo "patch_text", .keep "_place", .glo "_place", .keep "patch_of", .glo "patch_of", .keep "_law_told", .glo "_law_told", .keep "law", .glo "law", .free "abs", .free "int", .free "range", .free "len", .free "tuple", .free "str", .free "isinstance", .free "all", .free "bool", .free "zip", .str "END" "\n", .str "HEAD" "@ ", .str "DIGITS" "0123456789", .glo "BadPatch", .exc "BadPatch", .glo "BadText", .exc "BadText", .exm "BadPatch" "BadText" false, .exm "BadText" "BadText" true, .exm "BadPatch" "BadPatch" true]
def fa_2 : List He.Fa := [.exm "BadText" "BadPatch" false]
def fa : List He.Fa := fa_0 ++ fa_1 ++ fa_2
def fn_0 : List He.FnD := [⟨("_law_draws", none), "_law_draws", "_law_draws", defArgs s__law_draws, defBody s__law_draws, defScope s__law_draws⟩, ⟨("_law_strange", none), "_law_strange", "_law_strange", defArgs s__law_strange, defBody s__law_strange, defScope s__law_strange⟩, ⟨("_law_written", none), "_law_written", "_law_written", defArgs s__law_written, defBody s__law_written, defScope s__law_written⟩, ⟨("_law_patch", none), "_law_patch", "_law_patch", defArgs s__law_patch, defBody s__law_patch, defScope s__law_patch⟩, ⟨("_law_bent", none), "_law_bent", "_law_bent", defArgs s__law_bent, defBody s__law_bent, defScope s__law_bent⟩, ⟨("_law_is_text", none), "_law_is_text", "_law_is_text", defArgs s__law_is_text, defBody s__law_is_text, defScope s__law_is_text⟩, ⟨("_law_is_patch", none), "_law_is_patch", "_law_is_patch", defArgs s__law_is_patch, defBody s__law_is_patch, defScope s__law_is_patch⟩, ⟨("_law_read", none), "_law_read", "_law_read", defArgs s__law_read, defBody s__law_read, defScope s__law_read⟩, ⟨("_law_text", none), "_law_text", "_law_text", defArgs s__law_text, defBody s__law_text, defScope s__law_text⟩, ⟨("is_line", none), "is_line", "is_line", defArgs s_is_line, defBody s_is_line, defScope s_is_line⟩, ⟨("is_text", none), "is_text", "is_text", defArgs s_is_text, defBody s_is_text, defScope s_is_text⟩, ⟨("is_whole", none), "is_whole", "is_whole", defArgs s_is_whole, defBody s_is_whole, defScope s_is_whole⟩, ⟨("_is_hunk", none), "_is_hunk", "_is_hunk", defArgs s__is_hunk, defBody s__is_hunk, defScope s__is_hunk⟩, ⟨("is_patch", none), "is_patch", "is_patch", defArgs s_is_patch, defBody s_is_patch, defScope s_is_patch⟩, ⟨("check_patches", none), "check_patches", "check_patches", defArgs s_check_patches, defBody s_check_patches, defScope s_check_patches⟩, ⟨("patch_text", none), "patch_text", "patch_text", defArgs s_patch_text, defBody s_patch_text, defScope s_patch_text⟩, ⟨("_place", none), "_place", "_place", defArgs s__place, defBody s__place, defScope s__place⟩, ⟨("patch_of", none), "patch_of", "patch_of", defArgs s_patch_of, defBody s_patch_of, defScope s_patch_of⟩, ⟨("_law_told", none), "_law_told", "_law_told", defArgs s__law_told, defBody s__law_told, defScope s__law_told⟩, ⟨("law", none), "law", "law", defArgs s_law, defBody s_law, defScope s_law⟩]
def fn : List He.FnD := fn_0
def xs_0 : List (PySem.W.Frag → Bool) := []
def xs : List (PySem.W.Frag → Bool) := xs_0
def loose_0 : List Str := ["PatchError", "BadText", "BadPatch", "END", "is_whole", "is_line", "is_text", "_is_hunk", "is_patch", "check_patches", "DIGITS", "HEAD", "patch_text", "_place", "patch_of", "_law_draws", "_law_text", "_law_patch", "_law_behind", "_law_fits", "_law_marks", "_law_is_text", "_law_is_patch", "_law_written", "_law_read", "_law_told", "_law_strange", "_law_bent"]
def loose : List Str := loose_0
abbrev R_ : PySem.W.OpenRow := PySem.W.OpenLaw.row PySem.Challenge.rw_patchwright_k02_patches_as_texts
abbrev hk : PySem.W.Hook := hookX 4 fa fn xs
def ob (s : PySem.W.SharedT) : AlX := obsXG 4 fa fn xs (HandSHeadRun.getT s)
theorem ob_eq (s : PySem.W.SharedT) : ob s = hk.obs s.abs := obsXG_eq (HandSHeadRun.getT_eq s)
theorem run (w : World) : HandSHeadRun.RunEq R_ (PySem.W.view R_.prog [32]) hk ob 4000 loose w := by
  intro os
  kernel_rfl
theorem txt {K : PySem.W.Frag} {h : Heap} {mg : Str → Option Value} (X : K.In h) (G : h.Ns mainGlobals mg) (c0 : SaysX fa fn xs K) : Txt K mg :=
  have c := c0.e
  ⟨(txt_fun c 0 0 rfl rfl fun _ _ _ _ _ _ us hl => match us, hl with | [_, _], _ => rfl),
   (He.glo_ok X G (c.fact 1 rfl)),
   (txt_fun c 1 2 rfl rfl fun _ _ _ _ _ _ us hl => match us, hl with | [_, _], _ => rfl),
   (He.glo_ok X G (c.fact 3 rfl)),
   (txt_fun c 2 4 rfl rfl fun _ _ _ _ _ _ us hl => match us, hl with | [_], _ => rfl),
   (He.glo_ok X G (c.fact 5 rfl)),
   (txt_fun c 3 6 rfl rfl fun _ _ _ _ _ _ us hl => match us, hl with | [_, _, _, _], _ => rfl),
   (He.glo_ok X G (c.fact 7 rfl)),
   (txt_fun c 4 8 rfl rfl fun _ _ _ _ _ _ us hl => match us, hl with | [_, _], _ => rfl),
   (He.glo_ok X G (c.fact 9 rfl)),
   (txt_fun c 5 10 rfl rfl fun _ _ _ _ _ _ us hl => match us, hl with | [_], _ => rfl),
   (He.glo_ok X G (c.fact 11 rfl)),
   (txt_fun c 6 12 rfl rfl fun _ _ _ _ _ _ us hl => match us, hl with | [_], _ => rfl),
   (He.glo_ok X G (c.fact 13 rfl)),
   (txt_fun c 7 14 rfl rfl fun _ _ _ _ _ _ us hl => match us, hl with | [_], _ => rfl),
   (He.glo_ok X G (c.fact 15 rfl)),
   (txt_fun c 8 16 rfl rfl fun _ _ _ _ _ _ us hl => match us, hl with | [_, _, _], _ => rfl),
   (He.glo_ok X G (c.fact 17 rfl)),
   (txt_fun c 9 18 rfl rfl fun _ _ _ _ _ _ us hl => match us, hl with | [_], _ => rfl),
   (He.glo_ok X G (c.fact 19 rfl)),
   (txt_fun c 10 20 rfl rfl fun _ _ _ _ _ _ us hl => match us, hl with | [_], _ => rfl),
   (He.glo_ok X G (c.fact 21 rfl)),
   (txt_fun c 11 22 rfl rfl fun _ _ _ _ _ _ us hl => match us, hl with | [_], _ => rfl),
   (He.glo_ok X G (c.fact 23 rfl)),
   (txt_fun c 12 24 rfl rfl fun _ _ _ _ _ _ us hl => match us, hl with | [_], _ => rfl),
   (He.glo_ok X G (c.fact 25 rfl)),
   (txt_fun c 13 26 rfl rfl fun _ _ _ _ _ _ us hl => match us, hl with | [_], _ => rfl),
   (He.glo_ok X G (c.fact 27 rfl)),
   (txt_fun c 14 28 rfl rfl fun _ _ _ _ _ _ us hl => match us, hl with | [_], _ => rfl),
   (He.glo_ok X G (c.fact 29 rfl)),
   (txt_fun c 15 30 rfl rfl fun _ _ _ _ _ _ us hl => match us, hl with | [_], _ => rfl),
   (He.glo_ok X G (c.fact 31 rfl)),
   (txt_fun c 16 32 rfl rfl fun _ _ _ _ _ _ us hl => match us, hl with | [_], _ => rfl),
   (He.glo_ok X G (c.fact 33 rfl)),
   (txt_fun c 17 34 rfl rfl fun _ _ _ _ _ _ us hl => match us, hl with | [_], _ => rfl),
   (He.glo_ok X G (c.fact 35 rfl)),
   (txt_fun c 18 36 rfl rfl fun _ _ _ _ _ _ us hl => match us, hl with | [_], _ => rfl),
   (He.glo_ok X G (c.fact 37 rfl)),
   (txt_fun c 19 38 rfl rfl fun _ _ _ _ _ _ us hl => match us, hl with | [_], _ => rfl),
   (He.glo_ok X G (c.fact 39 rfl)),
   (He.free_ok X G (c.fact 40 rfl)),
   (He.free_ok X G (c.fact 41 rfl)),
   (He.free_ok X G (c.fact 42 rfl)),
   (He.free_ok X G (c.fact 43 rfl)),
   (He.free_ok X G (c.fact 44 rfl)),
   (He.free_ok X G (c.fact 45 rfl)),
   (He.free_ok X G (c.fact 46 rfl)),
   (He.free_ok X G (c.fact 47 rfl)),
   (He.free_ok X G (c.fact 48 rfl)),
   (He.free_ok X G (c.fact 49 rfl)),
   (He.str_ok X G (c.fact 50 rfl)),
   (He.str_ok X G (c.fact 51 rfl)),
   (He.str_ok X G (c.fact 52 rfl)),
   (txt_exc X G c 53 54 rfl rfl),
   (txt_exc X G c 55 56 rfl rfl),
   (He.exm_ok (c.fact 57 rfl)),
   (He.exm_ok (c.fact 58 rfl)),
   (He.exm_ok (c.fact 59 rfl)),
   (He.exm_ok (c.fact 60 rfl))⟩
theorem top (pure : ∀ ns : List Int, ns.length ≤ 63 → C_law [.lst (ns.map .int)] = .ok (.bl true)) : PySem.Challenge.rw_patchwright_k02_patches_as_texts.Holds := by
  w_on; o_law
  refine HandSHeadRun.head_any (r := PySem.W.OpenLaw.row PySem.Challenge.rw_patchwright_k02_patches_as_texts) (q := PySem.W.view (PySem.W.OpenLaw.row PySem.Challenge.rw_patchwright_k02_patches_as_texts).prog [32]) (H := hk) (ob := ob) (M := 4000) (loose := loose) (d := HandSHeadRun.topDef (PySem.W.OpenLaw.row PySem.Challenge.rw_patchwright_k02_patches_as_texts).prog 32) (kwd := []) ob_eq
    (by kernel_rfl) (fun s => by kernel_rfl) run (by kernel_rfl) (by kernel_rfl) (by kernel_rfl) (by rfl) (by first | assumption | decide +kernel) (by decide +kernel) ⟨rfl, rfl, rfl, rfl, rfl, by decide +kernel⟩ ?hw ?hc
  case hw => w_witness2
  case hc =>
    refine walk_px (l := PySem.Challenge.rw_patchwright_k02_patches_as_texts) (n := 63) (k := 7) (x := "script") rfl (by decide) (by kernel_rfl) ⟨rfl, by decide, by decide⟩ ?F
    intro w mg fa h Y G hmg0
    obtain ⟨K, KX, c⟩ := Y
    have T := txt KX G c
    have hmg : mg ("law" : PySem.Str) = some (.ref fa) := by
      have e : (HandSHeadRun.topDef (PySem.W.OpenLaw.row PySem.Challenge.rw_patchwright_k02_patches_as_texts).prog 32).name = ("law" : PySem.Str) := by kernel_rfl
      rw [← e]
      exact hmg0
    have e := hmg.symm.trans T.g_law
    cases e
    obtain ⟨fd, Fl, b, kp⟩ := ok_law (P := (PySem.Challenge.rw_patchwright_k02_patches_as_texts).prog) (w := w) T
    exact ⟨K, fd, Spec K mg 1 0 C_law, KX, fun s v => b s [v] rfl, fun H a ns hl _ _ hS => spec_law (pure ns hl) (Nat.le_trans hl (by decide)) hS, fun base _ _ => Fl base⟩
end K
namespace K
open PySem PySem.Spec PyProof.Rows L2 Px
/-! ### lines and texts -/
abbrev T := List Nat
def Ln (l : T) : Prop := l.length ≤ 1000 ∧ ∀ c ∈ l, c < 0x110000
def Lf (l : T) : Prop := Ln l ∧ 10 ∉ l
theorem Ln.ok {l : T} (h : Ln l) : PyData.strOk (sOf l) = true := by
  rw [s_ok]
  exact List.all_eq_true.mpr fun c hc => by simpa using h.2 c hc
theorem okS {k : Nat} {l : T} (h : Ln l) : okN k (dS l) = true := by rw [ok_str]; exact h.ok
theorem eq_S {a b : T} (ha : Ln a) (hb : Ln b) : dEq (dS a) (dS b) = .ok (.bl (decide (a = b))) := by
  unfold dEq
  rw [okS ha, okS hb, s_eqD]; rfl
theorem ne_S {a b : T} (ha : Ln a) (hb : Ln b) : dNe (dS a) (dS b) = .ok (.bl (!decide (a = b))) := by
  unfold dNe
  rw [okS ha, okS hb, s_eqD]; rfl
theorem okSs {k : Nat} {ls : List T} (h : ∀ l ∈ ls, Ln l) : okN (k + 1) (.tup (ls.map dS)) = true := okN_tup fun x hx => by
  obtain ⟨l, hl, rfl⟩ := List.mem_map.mp hx
  exact okS (h l hl)
/-- a line after a line -/
def jn (ls : List T) : T := TL.joinL [10] ls
theorem jn_nil : jn [] = [] := rfl
theorem jn_one (a : T) : jn [a] = a := rfl
theorem jn_cons (a b : T) (r : List T) : jn (a :: b :: r) = a ++ 10 :: jn (b :: r) := rfl
def spl : T → List T
  | [] => [[]]
  | c :: r => if c = 10 then [] :: spl r else match spl r with
    | a :: q => (c :: a) :: q
    | [] => [[c]]
theorem spl_ne : ∀ s : T, spl s ≠ []
  | [] => by simp [spl]
  | c :: r => by
    rw [spl]
    split
    · simp
    · split <;> simp
theorem jn_spl : ∀ s : T, jn (spl s) = s
  | [] => rfl
  | c :: r => by
    have ih := jn_spl r
    have hn := spl_ne r
    rw [spl]
    split
    · rename_i h
      subst h
      cases hs : spl r with
      | nil => exact absurd hs hn
      | cons a q => rw [hs] at ih; rw [jn_cons, ih]; rfl
    · cases hs : spl r with
      | nil => exact absurd hs hn
      | cons a q =>
        rw [hs] at ih
        show jn ((c :: a) :: q) = c :: r
        cases q with
        | nil => rw [jn_one] at ih ⊢; rw [ih]
        | cons b q => rw [jn_cons] at ih ⊢; rw [← ih]; rfl
theorem spl_free : ∀ s : T, ∀ p ∈ spl s, 10 ∉ p
  | [], p, hp => by rw [List.mem_singleton.mp (show p ∈ [[]] from hp)]; simp
  | c :: r, p, hp => by
    have ih := spl_free r
    rw [spl] at hp
    split at hp
    · rcases List.mem_cons.mp hp with rfl | hp
      · simp
      · exact ih p hp
    · rename_i hc
      cases hs : spl r with
      | nil => exact absurd hs (spl_ne r)
      | cons a q =>
        rw [hs] at hp ih
        rcases List.mem_cons.mp hp with rfl | hp
        · intro h
          rcases List.mem_cons.mp h with h | h
          · exact hc h.symm
          · exact ih a (.head _) h
        · exact ih p (.tail _ hp)
theorem spl_app {a : T} (h : 10 ∉ a) (r : T) : spl (a ++ 10 :: r) = a :: spl r := by
  induction a with
  | nil => show spl (10 :: r) = _; rw [spl, if_pos rfl]
  | cons c a ih =>
    have hc : ¬ c = 10 := fun z => h (by rw [z]; exact .head _)
    have := ih fun z => h (.tail _ z)
    show spl (c :: (a ++ 10 :: r)) = _
    rw [spl, if_neg hc, this]
theorem spl_id {a : T} (h : 10 ∉ a) : spl a = [a] := by
  induction a with
  | nil => rfl
  | cons c a ih =>
    have hc : ¬ c = 10 := fun z => h (by rw [z]; exact .head _)
    rw [spl, if_neg hc, ih fun z => h (.tail _ z)]
theorem spl_jn : ∀ {ls : List T}, ls ≠ [] → (∀ l ∈ ls, 10 ∉ l) → spl (jn ls) = ls
  | [], h, _ => absurd rfl h
  | [a], _, h => by rw [jn_one]; exact spl_id (h a (.head _))
  | a :: b :: r, _, h => by rw [jn_cons, spl_app (h a (.head _)), spl_jn (by simp) fun l hl => h l (.tail _ hl)]
theorem spl_mem {s : T} {p : T} (hp : p ∈ spl s) : p.length ≤ s.length ∧ ∀ c ∈ p, c ∈ s := by
  induction s generalizing p with
  | nil => rw [List.mem_singleton.mp (show p ∈ [[]] from hp)]; simp
  | cons c r ih =>
    rw [spl] at hp
    split at hp
    · rcases List.mem_cons.mp hp with rfl | hp
      · simp
      · exact ⟨by have := (ih hp).1; rw [List.length_cons]; omega, fun d hd => .tail _ ((ih hp).2 d hd)⟩
    · cases hs : spl r with
      | nil => exact absurd hs (spl_ne r)
      | cons a q =>
        rw [hs] at hp ih
        rcases List.mem_cons.mp hp with rfl | hp
        · have := ih (p := a) (.head _)
          refine ⟨by rw [List.length_cons, List.length_cons]; have := this.1; omega, fun d hd => ?_⟩
          rcases List.mem_cons.mp hd with rfl | hd
          · exact .head _
          · exact .tail _ (this.2 d hd)
        · have := ih (p := p) (.tail _ hp)
          exact ⟨by rw [List.length_cons]; have := this.1; omega, fun d hd => .tail _ (this.2 d hd)⟩
theorem spl_len : ∀ s : T, (spl s).length ≤ s.length + 1
  | [] => by simp [spl]
  | c :: r => by
    have ih := spl_len r
    rw [spl]
    split
    · simp; omega
    · cases hs : spl r with
      | nil => simp
      | cons a q => rw [hs] at ih; simp at ih ⊢; omega
theorem sNl : (Str.ofString "\n") = sOf [10] := by kernel_rfl
theorem split_is (s : T) : Txt.split (sOf s) (sOf [10]) = (spl s).map sOf := by
  by_cases hs : s = []
  · subst hs
    kernel_rfl
  have h1 := StrLaws.join_split (sOf s) (sOf [10])
  have h3 : ∀ p ∈ Txt.split (sOf s) (sOf [10]), 10 ∉ p.cps.toList := StrLaws.split_free (sOf s) 10
  generalize Txt.split (sOf s) (sOf [10]) = L at h1 h3
  have e := TL.tl_join (sOf [10]) L
  rw [h1] at e
  have e : s = jn (L.map TL.tl) := e
  have hL : L = (L.map TL.tl).map sOf := by
    rw [List.map_map]
    conv => lhs; rw [← List.map_id L]
    refine List.map_congr_left fun x _ => (sOf_eta x).symm
  have hne : L.map TL.tl ≠ [] := fun h => hs (by rw [e, h]; rfl)
  have := spl_jn hne fun l hl => by
    obtain ⟨x, hx, rfl⟩ := List.mem_map.mp hl
    exact h3 x hx
  rw [← e] at this
  rw [this]
  exact hL
theorem split_ok {s : T} (h : s.length ≤ 1000) : fSplit (sOf s) [dS [10]] = .ok (.lst ((spl s).map dS)) := by
  show (if _ then _ else _) = _
  rw [split_is, sOf_len, sOf_len, if_pos ⟨by decide, by rw [sizeLine_eq]; omega, by rw [List.length_map, sizeLine_eq]; have := spl_len s; omega⟩, List.map_map]
  rfl
theorem join_ok {ls : List T} (h : (ls.map (·.length)).sum + ls.length ≤ 16777216) : joinR (sOf [10]) (ls.map dS) = .ok (dS (jn ls)) := s_join [10] ls (by simpa using h)
/-! ### numbers as texts -/
open NumText in
def dg (n : Nat) : T := (Nat.toDigits 10 n).map Char.toNat
def isDg (l : T) : Bool := (l != [] && l.all fun c => decide (48 ≤ c) && decide (c ≤ 57)) && !(decide (1 < l.length) && l.headD 0 == 48)
theorem all_dg {l : T} (h : isDg l = true) : NumText.AllDigits l ∧ l ≠ [] ∧ (l.length = 1 ∨ ∃ c r, l = c :: r ∧ 49 ≤ c) := by
  unfold isDg at h
  rw [Bool.and_eq_true, Bool.and_eq_true] at h
  obtain ⟨⟨h1, h2⟩, h3⟩ := h
  have h2 : NumText.AllDigits l := fun c hc => by
    have := List.all_eq_true.mp h2 c hc
    simpa using this
  have h1 : l ≠ [] := by simpa using h1
  refine ⟨h2, h1, ?_⟩
  cases l with
  | nil => exact absurd rfl h1
  | cons c r =>
    have hc := h2 c (.head _)
    cases r with
    | nil => exact .inl rfl
    | cons d r =>
      refine .inr ⟨c, d :: r, rfl, ?_⟩
      simp at h3
      omega
theorem dg_val {l : T} (h : isDg l = true) : dg (NumText.digitsVal l) = l := by
  obtain ⟨h1, h2, h3⟩ := all_dg h
  unfold dg
  obtain ⟨n, hn⟩ : ∃ n, l.length = n + 1 := by
    cases l with
    | nil => exact absurd rfl h2
    | cons c r => exact ⟨r.length, rfl⟩
  rw [NumText.toDigits_digitsVal n l hn h1 (h3.imp (fun z => by omega) id), List.map_map]
  conv => rhs; rw [← List.map_id l]
  refine List.map_congr_left fun c hc => ?_
  have := h1 c hc
  show (Char.ofNat c).toNat = c
  have hv : c.isValidChar := .inl (by omega)
  rw [Char.ofNat, dif_pos hv]
  rfl
theorem val_lt : ∀ {l : T} (a : Nat), NumText.AllDigits l → l.foldl (fun acc c => acc * 10 + (c - 48)) a < (a + 1) * 10 ^ l.length
  | [], a, _ => by simp
  | c :: r, a, h => by
    have hc := h c (.head _)
    have ih := val_lt (l := r) (a * 10 + (c - 48)) fun d hd => h d (.tail _ hd)
    rw [List.foldl_cons, List.length_cons, Nat.pow_succ]
    refine Nat.lt_of_lt_of_le ih ?_
    rw [show (a + 1) * (10 ^ r.length * 10) = ((a + 1) * 10) * 10 ^ r.length by rw [Nat.mul_comm (10 ^ r.length) 10, Nat.mul_assoc]]
    exact Nat.mul_le_mul_right _ (by omega)
theorem str_ok {n : Nat} (h : n < 2 ^ 1900) : fStr [.int (n : Nat)] = .ok (dS (dg n)) := by
  show (if _ then _ else _) = _
  rw [if_pos ?_]
  · congr 2
    show Str.ofString (Nat.repr n) = _
    rw [Str.ofString_eq_toList]
    unfold Nat.repr dg
    rw [String.toList_ofList]
    rfl
  · show Nat.log2 (Int.natAbs (n : Int)) < 1920
    rw [Int.natAbs_natCast]
    by_cases h0 : n = 0
    · rw [h0]; decide
    · have := (Nat.log2_lt h0 (k := 1900)).mpr h
      omega
theorem int_ok {l : T} (h : isDg l = true) (hl : l.length ≤ 400) : fIntS [dS l] = .ok (.int (NumText.digitsVal l : Nat)) := by
  obtain ⟨h1, h2, _⟩ := all_dg h
  show (match PySem.intText? (sOf l) with
    | some n => if (sOf l).length ≤ 640 then Res.ok (D.int n) else .err
    | none => .err) = _
  rw [intText_digits (x := sOf l) h1 h2 (by rw [sOf_len]; omega)]
  dsimp only
  rw [sOf_len, if_pos (by omega)]
  rfl
theorem val_big {l : T} (h : isDg l = true) (hl : l.length ≤ 400) : NumText.digitsVal l < 2 ^ 1900 := by
  have := val_lt 0 (all_dg h).1
  refine Nat.lt_of_lt_of_le this ?_
  rw [Nat.zero_add, Nat.one_mul]
  exact Nat.le_trans (Nat.pow_le_pow_right (by decide) hl) (by decide +kernel)
/-! ### hunks, the reader -/
abbrev Hk := Nat × List T × List T
abbrev St := Option (List Hk × Hk)
def flat : St → List Hk
  | none => []
  | some (Q, h) => Q ++ [h]
def stp (st : St) (l : T) : Option St :=
  if l.take 2 = [64, 32] then (if isDg (l.drop 2) = true then some (some (flat st, (NumText.digitsVal (l.drop 2), [], []))) else none)
  else match st with
    | none => none
    | some (Q, (a, o, n)) => if l.take 1 = [43] then some (some (Q, (a, o, n ++ [l.drop 1]))) else if l.take 1 = [45] ∧ n = [] then some (some (Q, (a, o ++ [l.drop 1], n))) else none
def rnn : St → List T → Option St
  | st, [] => some st
  | st, l :: ls => match stp st l with
    | some st' => rnn st' ls
    | none => none
def blk (h : Hk) : List T := (64 :: 32 :: dg h.1) :: (h.2.1.map (45 :: ·) ++ h.2.2.map (43 :: ·))
def wl (P : List Hk) : List T := (P.map blk).flatten
theorem wl_snoc (P : List Hk) (h : Hk) : wl (P ++ [h]) = wl P ++ blk h := by
  unfold wl
  rw [List.map_append, List.flatten_append]
  simp
theorem take1 {l : T} {c : Nat} (h : l.take 1 = [c]) : l = c :: l.drop 1 := by
  have := List.take_append_drop 1 l
  rw [h] at this
  exact this.symm
theorem take2 {l : T} {c d : Nat} (h : l.take 2 = [c, d]) : l = c :: d :: l.drop 2 := by
  have := List.take_append_drop 2 l
  rw [h] at this
  exact this.symm
theorem stp_wl {st st' : St} {l : T} (h : stp st l = some st') : wl (flat st') = wl (flat st) ++ [l] := by
  unfold stp at h
  split at h
  · rename_i h1
    split at h
    · rename_i h2
      cases h
      show wl (flat st ++ [_]) = _
      rw [wl_snoc]
      unfold blk
      rw [dg_val h2, ← take2 h1]
      simp
    · cases h
  · split at h
    · cases h
    · rename_i Q a o n
      split at h
      · rename_i h1
        cases h
        show wl (Q ++ [_]) = wl (Q ++ [_]) ++ [l]
        rw [wl_snoc, wl_snoc, List.append_assoc]
        congr 1
        unfold blk
        dsimp only
        rw [List.map_append]
        show _ = _ :: ((List.map _ o ++ List.map _ n) ++ [l])
        rw [List.append_assoc]
        congr 3
        show [43 :: l.drop 1] = [l]
        rw [← take1 h1]
      · split at h
        · rename_i h1
          cases h
          obtain ⟨h1, h2⟩ := h1
          subst h2
          show wl (Q ++ [_]) = wl (Q ++ [_]) ++ [l]
          rw [wl_snoc, wl_snoc, List.append_assoc]
          congr 1
          unfold blk
          dsimp only
          rw [List.map_append, List.map_nil, List.append_nil, List.append_nil]
          show _ = _ :: (List.map _ o ++ [l])
          congr 2
          show [45 :: l.drop 1] = [l]
          rw [← take1 h1]
        · cases h
theorem run_wl : ∀ {ls : List T} {st st' : St}, rnn st ls = some st' → wl (flat st') = wl (flat st) ++ ls
  | [], st, st', h => by
    cases h
    rw [List.append_nil]
  | l :: ls, st, st', h => by
    rw [rnn] at h
    cases e : stp st l with
    | none => rw [e] at h; cases h
    | some s1 =>
      rw [e] at h
      rw [run_wl h, stp_wl e, List.append_assoc]
      rfl
theorem run_app : ∀ (a b : List T) (st : St), rnn st (a ++ b) = (rnn st a).bind fun s => rnn s b
  | [], b, st => rfl
  | l :: a, b, st => by
    show rnn st (l :: (a ++ b)) = _
    rw [rnn, rnn]
    cases stp st l with
    | none => rfl
    | some s1 => exact run_app a b s1
theorem run_olds (Q : List Hk) (a : Nat) : ∀ (xs o : List T), rnn (some (Q, (a, o, []))) (xs.map (45 :: ·)) = some (some (Q, (a, o ++ xs, [])))
  | [], o => by rw [List.append_nil]; rfl
  | x :: xs, o => by
    rw [List.map_cons, rnn]
    have : stp (some (Q, (a, o, []))) (45 :: x) = some (some (Q, (a, o ++ [x], []))) := by
      unfold stp
      rw [if_neg (by cases x <;> simp)]
      simp
    rw [this]
    dsimp only
    rw [run_olds Q a xs (o ++ [x]), List.append_assoc]
    rfl
theorem run_news (Q : List Hk) (a : Nat) (o : List T) : ∀ (xs n : List T), rnn (some (Q, (a, o, n))) (xs.map (43 :: ·)) = some (some (Q, (a, o, n ++ xs)))
  | [], n => by rw [List.append_nil]; rfl
  | x :: xs, n => by
    rw [List.map_cons, rnn]
    have : stp (some (Q, (a, o, n))) (43 :: x) = some (some (Q, (a, o, n ++ [x]))) := by
      unfold stp
      rw [if_neg (by cases x <;> simp)]
      simp
    rw [this]
    dsimp only
    rw [run_news Q a o xs (n ++ [x]), List.append_assoc]
    rfl
def Dgk (n : Nat) : Prop := isDg (dg n) = true ∧ NumText.digitsVal (dg n) = n
theorem run_blk (st : St) {h : Hk} (hd : Dgk h.1) : rnn st (blk h) = some (some (flat st, h)) := by
  obtain ⟨a, o, n⟩ := h
  unfold blk
  rw [rnn]
  have : stp st (64 :: 32 :: dg a) = some (some (flat st, (a, [], []))) := by
    have d1 : isDg (dg a) = true := hd.1
    have d2 : NumText.digitsVal (dg a) = a := hd.2
    unfold stp
    rw [if_pos (show List.take 2 (64 :: 32 :: dg a) = [64, 32] from rfl), show (64 :: 32 :: dg a).drop 2 = dg a from rfl, if_pos d1, d2]
  dsimp only
  rw [this]
  dsimp only
  rw [run_app, run_olds]
  show rnn _ _ = _
  rw [run_news]
  rfl
theorem run_all : ∀ (P : List Hk) (st : St), (∀ h ∈ P, Dgk h.1) → (rnn st (wl P)).map flat = some (flat st ++ P)
  | [], st, _ => by
    show some (flat st) = _
    rw [List.append_nil]
  | h :: P, st, hd => by
    show (rnn st (blk h ++ wl P)).map flat = _
    rw [run_app, run_blk st (hd h (.head _))]
    show (rnn _ (wl P)).map flat = _
    rw [run_all P _ fun x hx => hd x (.tail _ hx)]
    show some ((flat st ++ [h]) ++ P) = _
    rw [List.append_assoc]
    rfl
def chn : List Hk → Bool
  | [] => true
  | [_] => true
  | p :: q :: r => decide (p.1 + p.2.1.length < q.1) && chn (q :: r)
def vld (P : List Hk) : Bool := P.all (fun h => !decide (h.2.1 = h.2.2)) && chn P
def lns (s : T) : List T := if s = [] then [] else spl s
def rd (s : T) : Option (List Hk) := match rnn none (lns s) with
  | some st => if vld (flat st) = true then some (flat st) else none
  | none => none
theorem rd_wr {s : T} {P : List Hk} (h : rd s = some P) : jn (wl P) = s ∧ vld P = true ∧ wl P = lns s := by
  unfold rd at h
  cases e : rnn none (lns s) with
  | none => rw [e] at h; cases h
  | some st =>
    rw [e] at h
    dsimp only at h
    split at h
    · rename_i hv
      cases h
      have hw : wl (flat st) = lns s := run_wl e
      refine ⟨?_, hv, hw⟩
      rw [hw]
      unfold lns
      split
      · rename_i h0; rw [h0]; rfl
      · exact jn_spl s
    · cases h
theorem blk_free {h : Hk} (hd : Dgk h.1) (h1 : ∀ l ∈ h.2.1, 10 ∉ l) (h2 : ∀ l ∈ h.2.2, 10 ∉ l) : ∀ l ∈ blk h, 10 ∉ l := by
  intro l hl
  rcases List.mem_cons.mp hl with rfl | hl
  · intro z
    rcases List.mem_cons.mp z with z | z
    · cases z
    rcases List.mem_cons.mp z with z | z
    · cases z
    · have := (all_dg hd.1).1 10 z
      omega
  rcases List.mem_append.mp hl with hl | hl
  · obtain ⟨x, hx, rfl⟩ := List.mem_map.mp hl
    intro z
    rcases List.mem_cons.mp z with z | z
    · cases z
    · exact h1 x hx z
  · obtain ⟨x, hx, rfl⟩ := List.mem_map.mp hl
    intro z
    rcases List.mem_cons.mp z with z | z
    · cases z
    · exact h2 x hx z
theorem wr_rd {P : List Hk} (hv : vld P = true) (hd : ∀ h ∈ P, Dgk h.1) (hf : ∀ h ∈ P, (∀ l ∈ h.2.1, 10 ∉ l) ∧ ∀ l ∈ h.2.2, 10 ∉ l) : rd (jn (wl P)) = some P := by
  have hl : lns (jn (wl P)) = wl P := by
    cases P with
    | nil => rfl
    | cons h P =>
      have hfree : ∀ l ∈ wl (h :: P), 10 ∉ l := fun l hl => by
        obtain ⟨b, hb, hl⟩ := List.mem_flatten.mp hl
        obtain ⟨x, hx, rfl⟩ := List.mem_map.mp hb
        exact blk_free (hd x hx) (hf x hx).1 (hf x hx).2 l hl
      have hne : wl (h :: P) ≠ [] := by simp [wl, blk]
      unfold lns
      rw [if_neg ?_, spl_jn hne hfree]
      intro z
      have := spl_jn hne hfree
      rw [z] at this
      have h2 : ([] : T) ∈ wl (h :: P) := by rw [← this]; exact .head _
      rw [← this] at hne
      have h3 : wl (h :: P) = [[]] := this.symm
      unfold wl blk at h3
      simp at h3
  unfold rd
  rw [hl]
  have := run_all P none hd
  cases e : rnn none (wl P) with
  | none => rw [e] at this; cases this
  | some st =>
    rw [e] at this
    have : flat st = P := Option.some.inj this
    dsimp only
    rw [this, if_pos hv]
theorem jn_len : ∀ {ls : List T}, ls ≠ [] → (ls.map (·.length)).sum + ls.length = (jn ls).length + 1
  | [], h => absurd rfl h
  | [a], _ => by rw [jn_one]; simp
  | a :: b :: r, _ => by
    have := jn_len (ls := b :: r) (by simp)
    rw [jn_cons]
    simp only [List.length_append, List.length_cons, List.map_cons, List.sum_cons] at this ⊢
    omega
theorem jn_sum (ls : List T) : (ls.map (·.length)).sum + ls.length ≤ (jn ls).length + 1 := by
  by_cases h : ls = []
  · rw [h]; simp
  · exact Nat.le_of_eq (jn_len h)
/-- what a read patch is made of -/
def Gk (P : List Hk) : Prop := ∀ h ∈ P, h.1 < 2 ^ 1900 ∧ (∀ l ∈ h.2.1, Lf l) ∧ (∀ l ∈ h.2.2, Lf l)
theorem lf_drop {l : T} (h : Lf l) (n : Nat) : Lf (l.drop n) := ⟨⟨by rw [List.length_drop]; have := h.1.1; omega, fun c hc => h.1.2 c (List.mem_of_mem_drop hc)⟩, fun z => h.2 (List.mem_of_mem_drop z)⟩
theorem gk_snoc {P : List Hk} {h : Hk} (hP : Gk P) (h1 : h.1 < 2 ^ 1900) (h2 : ∀ l ∈ h.2.1, Lf l) (h3 : ∀ l ∈ h.2.2, Lf l) : Gk (P ++ [h]) := fun x hx => by
  rcases List.mem_append.mp hx with hx | hx
  · exact hP x hx
  · rw [List.mem_singleton.mp hx]; exact ⟨h1, h2, h3⟩
theorem stp_gk {st st' : St} {l : T} (hl : Lf l) (hz : l.length ≤ 400) (g : Gk (flat st)) (h : stp st l = some st') : Gk (flat st') := by
  unfold stp at h
  split at h
  · split at h
    · rename_i h2
      cases h
      exact gk_snoc g (val_big h2 (by rw [List.length_drop]; omega)) (fun l hl => by cases hl) (fun l hl => by cases hl)
    · cases h
  · split at h
    · cases h
    · rename_i Q a o n
      have gq : Gk Q := fun x hx => g x (List.mem_append_left _ hx)
      have gh := g (a, o, n) (List.mem_append_right _ (.head _))
      split at h
      · cases h
        refine gk_snoc gq gh.1 gh.2.1 fun x hx => ?_
        rcases List.mem_append.mp hx with hx | hx
        · exact gh.2.2 x hx
        · rw [List.mem_singleton.mp hx]; exact lf_drop hl 1
      · split at h
        · cases h
          refine gk_snoc gq gh.1 (fun x hx => ?_) gh.2.2
          rcases List.mem_append.mp hx with hx | hx
          · exact gh.2.1 x hx
          · rw [List.mem_singleton.mp hx]; exact lf_drop hl 1
        · cases h
theorem run_gk : ∀ {ls : List T} {st st' : St}, (∀ l ∈ ls, Lf l ∧ l.length ≤ 400) → Gk (flat st) → rnn st ls = some st' → Gk (flat st')
  | [], st, st', _, g, h => by cases h; exact g
  | l :: ls, st, st', hl, g, h => by
    rw [rnn] at h
    cases e : stp st l with
    | none => rw [e] at h; cases h
    | some s1 =>
      rw [e] at h
      exact run_gk (fun x hx => hl x (.tail _ hx)) (stp_gk (hl l (.head _)).1 (hl l (.head _)).2 g e) h
/-- a text that may be read -/
def Sx (s : T) : Prop := s.length ≤ 400 ∧ ∀ c ∈ s, c < 0x110000
theorem sx_lns {s : T} (h : Sx s) : ∀ l ∈ lns s, Lf l ∧ l.length ≤ 400 := by
  intro l hl
  unfold lns at hl
  split at hl
  · cases hl
  · obtain ⟨h1, h2⟩ := spl_mem hl
    have := h.1
    exact ⟨⟨⟨by omega, fun c hc => h.2 c (h2 c hc)⟩, spl_free s l hl⟩, by omega⟩
theorem rd_gk {s : T} (hs : Sx s) {P : List Hk} (h : rd s = some P) : Gk P := by
  unfold rd at h
  cases e : rnn none (lns s) with
  | none => rw [e] at h; cases h
  | some st =>
    rw [e] at h
    dsimp only at h
    split at h
    · cases h
      exact run_gk (sx_lns hs) (fun x hx => by cases hx) e
    · cases h
/-! ### what is a patch -/
abbrev dTx (ls : List T) : D := .tup (ls.map dS)
abbrev dH (h : Hk) : D := .tup [.int (h.1 : Nat), dTx h.2.1, dTx h.2.2]
abbrev dP (P : List Hk) : D := .tup (P.map dH)
theorem dTx_inj {a b : List T} : eqD (dTx a) (dTx b) = decide (a = b) := by
  show eqD (.tup _) (.tup _) = _
  rw [eqD]
  exact eqDL_map s_eqD a b
theorem okTx {k : Nat} {a : List T} (h : ∀ l ∈ a, Lf l) : okN (k + 1) (dTx a) = true := okSs fun l hl => (h l hl).1
theorem eq_Tx {a b : List T} (ha : ∀ l ∈ a, Lf l) (hb : ∀ l ∈ b, Lf l) : dEq (dTx a) (dTx b) = .ok (.bl (decide (a = b))) := by
  unfold dEq
  rw [okTx ha, okTx hb, dTx_inj]; rfl
theorem ne_Tx {a b : List T} (ha : ∀ l ∈ a, Lf l) (hb : ∀ l ∈ b, Lf l) : dNe (dTx a) (dTx b) = .ok (.bl (!decide (a = b))) := by
  unfold dNe
  rw [okTx ha, okTx hb, dTx_inj]; rfl
theorem nl_in {l : T} (h : Lf l) : dNotIn (dS [10]) (dS l) = .ok (.bl true) := by
  rw [s_notIn, decide_eq_false h.2]; rfl
theorem isLine_ok {l : T} (h : Lf l) : C_is_line [dS l] = .ok (.bl true) := by
  unfold C_is_line F_is_line
  rw [sNl]
  simp only [sSeq_x, x_min2, x_max2, x_eRg1, x_eMeth, x_eMake, x_sSet, x_sIf, x_sRet, x_sRetN, x_sPar, x_sUnp, resF_ok, x_sDrop, x_sNext, x_sBreak, x_sCont, x_sRaise, x_sAug, augK_ok, x_sFor, x_sWhile, sKill_x, x_wipe0, x_wipe1, x_evL0, x_evL1, x_setL0, x_setL1, x_eVar, x_eC, x_eOp, x_eUn, x_eCall, x_eMS, x_asStr, x_aNil, x_aCons, x_eTup, x_eLst, x_eIf, x_eNot, x_eAnd, x_eOr, x_bAnd, x_bOr, x_bNot, x_bYes, x_eSl, x_oNone, x_oSome, asI_int, x_iSeq, x_iCall, x_gfName, x_gfTup, eLc, noX_is, Res.bind_ok, Res.bind_exc, flow_ok, flow_exc, seqK_next, seqK_ret, seqK_exc, seqK_brk, seqK_cont, loopK_next, loopK_cont, loopK_brk, loopK_ret, loopK_exc, must_ok, List.set_cons_succ, List.set_cons_zero, List.getD_cons_succ, List.getD_cons_zero, vD_some, if_true, if_false, Bool.false_eq_true, reduceIte, List.map_cons, List.map_nil, List.length_cons, List.length_nil, List.cons_append, List.nil_append, List.replicate, Nat.reduceSub, Nat.reduceAdd, x_add, x_sub, x_cmp, x_eq_ii, x_ne_ii, x_int_i, x_len_t, x_len_l, x_tup_l, x_tup_t, x_list_l, x_list_t, x_dSl_t, x_dSl_l, x_items_t, x_items_l, x_tru_n, x_tru_b, x_tru_i, x_tru_t, x_tru_l, x_asB, x_is_n, x_isNot_n, isNon_n, isNon_i, isNon_s, isNon_t, isNon_l, isNon_b, Bool.not_true, Bool.not_false, List.length_map, fnE, startE, isi_s, k_ss, nl_in h]
theorem isText_ok {ls : List T} (h : ∀ l ∈ ls, Lf l) : C_is_text [dTx ls] = .ok (.bl true) := by
  unfold C_is_text F_is_text
  have e : lcE (gfName 1) bYes (eCall C_is_line (aCons (eVar 1) aNil)) [some (dTx ls), none] (ls.map dS) = .ok (ls.map fun _ => .bl true) :=
    lc_fun (g := fun _ => D.bl true) fun l hl => ⟨[some (dTx ls), some (dS l)], rfl, by simp only [sSeq_x, x_min2, x_max2, x_eRg1, x_eMeth, x_eMake, x_sSet, x_sIf, x_sRet, x_sRetN, x_sPar, x_sUnp, resF_ok, x_sDrop, x_sNext, x_sBreak, x_sCont, x_sRaise, x_sAug, augK_ok, x_sFor, x_sWhile, sKill_x, x_wipe0, x_wipe1, x_evL0, x_evL1, x_setL0, x_setL1, x_eVar, x_eC, x_eOp, x_eUn, x_eCall, x_eMS, x_asStr, x_aNil, x_aCons, x_eTup, x_eLst, x_eIf, x_eNot, x_eAnd, x_eOr, x_bAnd, x_bOr, x_bNot, x_bYes, x_eSl, x_oNone, x_oSome, asI_int, x_iSeq, x_iCall, x_gfName, x_gfTup, eLc, noX_is, Res.bind_ok, Res.bind_exc, flow_ok, flow_exc, seqK_next, seqK_ret, seqK_exc, seqK_brk, seqK_cont, loopK_next, loopK_cont, loopK_brk, loopK_ret, loopK_exc, must_ok, List.set_cons_succ, List.set_cons_zero, List.getD_cons_succ, List.getD_cons_zero, vD_some, if_true, if_false, Bool.false_eq_true, reduceIte, List.map_cons, List.map_nil, List.length_cons, List.length_nil, List.cons_append, List.nil_append, List.replicate, Nat.reduceSub, Nat.reduceAdd, x_add, x_sub, x_cmp, x_eq_ii, x_ne_ii, x_int_i, x_len_t, x_len_l, x_tup_l, x_tup_t, x_list_l, x_list_t, x_dSl_t, x_dSl_l, x_items_t, x_items_l, x_tru_n, x_tru_b, x_tru_i, x_tru_t, x_tru_l, x_asB, x_is_n, x_isNot_n, isNon_n, isNon_i, isNon_s, isNon_t, isNon_l, isNon_b, Bool.not_true, Bool.not_false, List.length_map, fnE, startE, isLine_ok (h l hl)]⟩
  simp only [sSeq_x, x_min2, x_max2, x_eRg1, x_eMeth, x_eMake, x_sSet, x_sIf, x_sRet, x_sRetN, x_sPar, x_sUnp, resF_ok, x_sDrop, x_sNext, x_sBreak, x_sCont, x_sRaise, x_sAug, augK_ok, x_sFor, x_sWhile, sKill_x, x_wipe0, x_wipe1, x_evL0, x_evL1, x_setL0, x_setL1, x_eVar, x_eC, x_eOp, x_eUn, x_eCall, x_eMS, x_asStr, x_aNil, x_aCons, x_eTup, x_eLst, x_eIf, x_eNot, x_eAnd, x_eOr, x_bAnd, x_bOr, x_bNot, x_bYes, x_eSl, x_oNone, x_oSome, asI_int, x_iSeq, x_iCall, x_gfName, x_gfTup, eLc, noX_is, Res.bind_ok, Res.bind_exc, flow_ok, flow_exc, seqK_next, seqK_ret, seqK_exc, seqK_brk, seqK_cont, loopK_next, loopK_cont, loopK_brk, loopK_ret, loopK_exc, must_ok, List.set_cons_succ, List.set_cons_zero, List.getD_cons_succ, List.getD_cons_zero, vD_some, if_true, if_false, Bool.false_eq_true, reduceIte, List.map_cons, List.map_nil, List.length_cons, List.length_nil, List.cons_append, List.nil_append, List.replicate, Nat.reduceSub, Nat.reduceAdd, x_add, x_sub, x_cmp, x_eq_ii, x_ne_ii, x_int_i, x_len_t, x_len_l, x_tup_l, x_tup_t, x_list_l, x_list_t, x_dSl_t, x_dSl_l, x_items_t, x_items_l, x_tru_n, x_tru_b, x_tru_i, x_tru_t, x_tru_l, x_asB, x_is_n, x_isNot_n, isNon_n, isNon_i, isNon_s, isNon_t, isNon_l, isNon_b, Bool.not_true, Bool.not_false, List.length_map, fnE, startE, isi_t, k_tt, e, x_all_f]
  simp
theorem lisText_ok {ls : List T} (h : ∀ l ∈ ls, Lf l) : C__law_is_text [dTx ls] = .ok (.bl true) := by
  unfold C__law_is_text F__law_is_text
  rw [sNl]
  have e : lcE (gfName 1) bYes (eAnd (eUn (dIsi isStr) (eVar 1)) (eOp (dNotIn) (eC (dS [10])) (eVar 1))) [some (dTx ls), none] (ls.map dS) = .ok (ls.map fun _ => .bl true) :=
    lc_fun (g := fun _ => D.bl true) fun l hl => ⟨[some (dTx ls), some (dS l)], rfl, by simp only [sSeq_x, x_min2, x_max2, x_eRg1, x_eMeth, x_eMake, x_sSet, x_sIf, x_sRet, x_sRetN, x_sPar, x_sUnp, resF_ok, x_sDrop, x_sNext, x_sBreak, x_sCont, x_sRaise, x_sAug, augK_ok, x_sFor, x_sWhile, sKill_x, x_wipe0, x_wipe1, x_evL0, x_evL1, x_setL0, x_setL1, x_eVar, x_eC, x_eOp, x_eUn, x_eCall, x_eMS, x_asStr, x_aNil, x_aCons, x_eTup, x_eLst, x_eIf, x_eNot, x_eAnd, x_eOr, x_bAnd, x_bOr, x_bNot, x_bYes, x_eSl, x_oNone, x_oSome, asI_int, x_iSeq, x_iCall, x_gfName, x_gfTup, eLc, noX_is, Res.bind_ok, Res.bind_exc, flow_ok, flow_exc, seqK_next, seqK_ret, seqK_exc, seqK_brk, seqK_cont, loopK_next, loopK_cont, loopK_brk, loopK_ret, loopK_exc, must_ok, List.set_cons_succ, List.set_cons_zero, List.getD_cons_succ, List.getD_cons_zero, vD_some, if_true, if_false, Bool.false_eq_true, reduceIte, List.map_cons, List.map_nil, List.length_cons, List.length_nil, List.cons_append, List.nil_append, List.replicate, Nat.reduceSub, Nat.reduceAdd, x_add, x_sub, x_cmp, x_eq_ii, x_ne_ii, x_int_i, x_len_t, x_len_l, x_tup_l, x_tup_t, x_list_l, x_list_t, x_dSl_t, x_dSl_l, x_items_t, x_items_l, x_tru_n, x_tru_b, x_tru_i, x_tru_t, x_tru_l, x_asB, x_is_n, x_isNot_n, isNon_n, isNon_i, isNon_s, isNon_t, isNon_l, isNon_b, Bool.not_true, Bool.not_false, List.length_map, fnE, startE, isi_s, k_ss, nl_in (h l hl)]⟩
  simp only [sSeq_x, x_min2, x_max2, x_eRg1, x_eMeth, x_eMake, x_sSet, x_sIf, x_sRet, x_sRetN, x_sPar, x_sUnp, resF_ok, x_sDrop, x_sNext, x_sBreak, x_sCont, x_sRaise, x_sAug, augK_ok, x_sFor, x_sWhile, sKill_x, x_wipe0, x_wipe1, x_evL0, x_evL1, x_setL0, x_setL1, x_eVar, x_eC, x_eOp, x_eUn, x_eCall, x_eMS, x_asStr, x_aNil, x_aCons, x_eTup, x_eLst, x_eIf, x_eNot, x_eAnd, x_eOr, x_bAnd, x_bOr, x_bNot, x_bYes, x_eSl, x_oNone, x_oSome, asI_int, x_iSeq, x_iCall, x_gfName, x_gfTup, eLc, noX_is, Res.bind_ok, Res.bind_exc, flow_ok, flow_exc, seqK_next, seqK_ret, seqK_exc, seqK_brk, seqK_cont, loopK_next, loopK_cont, loopK_brk, loopK_ret, loopK_exc, must_ok, List.set_cons_succ, List.set_cons_zero, List.getD_cons_succ, List.getD_cons_zero, vD_some, if_true, if_false, Bool.false_eq_true, reduceIte, List.map_cons, List.map_nil, List.length_cons, List.length_nil, List.cons_append, List.nil_append, List.replicate, Nat.reduceSub, Nat.reduceAdd, x_add, x_sub, x_cmp, x_eq_ii, x_ne_ii, x_int_i, x_len_t, x_len_l, x_tup_l, x_tup_t, x_list_l, x_list_t, x_dSl_t, x_dSl_l, x_items_t, x_items_l, x_tru_n, x_tru_b, x_tru_i, x_tru_t, x_tru_l, x_asB, x_is_n, x_isNot_n, isNon_n, isNon_i, isNon_s, isNon_t, isNon_l, isNon_b, Bool.not_true, Bool.not_false, List.length_map, fnE, startE, isi_t, k_tt, e, x_all_f]
  simp
theorem whole_ok {i : Nat} : C_is_whole [.int (i : Nat)] = .ok (.bl true) := by
  have e : iGe (i : Int) 0 = true := decide_eq_true (by omega)
  simp [C_is_whole, fnE, startE, F_is_whole, e]
theorem h0 (h : Hk) : dIx (dH h) (.int 0) = .ok (.int (h.1 : Nat)) := rfl
theorem h1 (h : Hk) : dIx (dH h) (.int 1) = .ok (dTx h.2.1) := rfl
theorem h2 (h : Hk) : dIx (dH h) (.int 2) = .ok (dTx h.2.2) := rfl
theorem hlen (h : Hk) : fLen [dH h] = .ok (.int 3) := rfl
theorem tlen (t : List T) : fLen [dTx t] = .ok (.int t.length) := by rw [x_len_t, List.length_map]
theorem isHunk_ok {h : Hk} (ho : ∀ l ∈ h.2.1, Lf l) (hn : ∀ l ∈ h.2.2, Lf l) : C__is_hunk [dH h] = .ok (.bl (!decide (h.2.1 = h.2.2))) := by
  have e := ne_Tx ho hn
  have z : (((3 : Nat) : Int) == 3) = true := rfl
  simp only [sSeq_x, x_min2, x_max2, x_eRg1, x_eMeth, x_eMake, x_sSet, x_sIf, x_sRet, x_sRetN, x_sPar, x_sUnp, resF_ok, x_sDrop, x_sNext, x_sBreak, x_sCont, x_sRaise, x_sAug, augK_ok, x_sFor, x_sWhile, sKill_x, x_wipe0, x_wipe1, x_evL0, x_evL1, x_setL0, x_setL1, x_eVar, x_eC, x_eOp, x_eUn, x_eCall, x_eMS, x_asStr, x_aNil, x_aCons, x_eTup, x_eLst, x_eIf, x_eNot, x_eAnd, x_eOr, x_bAnd, x_bOr, x_bNot, x_bYes, x_eSl, x_oNone, x_oSome, asI_int, x_iSeq, x_iCall, x_gfName, x_gfTup, eLc, noX_is, Res.bind_ok, Res.bind_exc, flow_ok, flow_exc, seqK_next, seqK_ret, seqK_exc, seqK_brk, seqK_cont, loopK_next, loopK_cont, loopK_brk, loopK_ret, loopK_exc, must_ok, List.set_cons_succ, List.set_cons_zero, List.getD_cons_succ, List.getD_cons_zero, vD_some, if_true, if_false, Bool.false_eq_true, reduceIte, List.map_cons, List.map_nil, List.length_cons, List.length_nil, List.cons_append, List.nil_append, List.replicate, Nat.reduceSub, Nat.reduceAdd, x_add, x_sub, x_cmp, x_eq_ii, x_ne_ii, x_int_i, x_len_t, x_len_l, x_tup_l, x_tup_t, x_list_l, x_list_t, x_dSl_t, x_dSl_l, x_items_t, x_items_l, x_tru_n, x_tru_b, x_tru_i, x_tru_t, x_tru_l, x_asB, x_is_n, x_isNot_n, isNon_n, isNon_i, isNon_s, isNon_t, isNon_l, isNon_b, Bool.not_true, Bool.not_false, List.length_map, fnE, startE, C__is_hunk, F__is_hunk, isi_t, k_tt, hlen, h0, h1, h2, whole_ok, isText_ok ho, isText_ok hn, e, z]
theorem chn_zip : ∀ P : List Hk, (P.zip (P.drop 1)).all (fun q => decide (q.1.1 + q.1.2.1.length < q.2.1)) = chn P
  | [] => rfl
  | [a] => rfl
  | a :: b :: r => by
    have ih := chn_zip (b :: r)
    show (decide _ && ((b :: r).zip ((b :: r).drop 1)).all _) = _
    rw [ih]
    rfl
theorem isPatch_ok {P : List Hk} (g : Gk P) : C_is_patch [dP P] = .ok (.bl (vld P)) := by
  have e1 := lc_fun (gf := gfName 1) (f := eCall C__is_hunk (aCons (eVar 1) aNil)) (ρ := [some (dP P), none, none]) (e := dH) (g := fun h => .bl (!decide (h.2.1 = h.2.2))) (xs := P) fun h hh => ⟨_, rfl, by
    simp only [sSeq_x, x_min2, x_max2, x_eRg1, x_eMeth, x_eMake, x_sSet, x_sIf, x_sRet, x_sRetN, x_sPar, x_sUnp, resF_ok, x_sDrop, x_sNext, x_sBreak, x_sCont, x_sRaise, x_sAug, augK_ok, x_sFor, x_sWhile, sKill_x, x_wipe0, x_wipe1, x_evL0, x_evL1, x_setL0, x_setL1, x_eVar, x_eC, x_eOp, x_eUn, x_eCall, x_eMS, x_asStr, x_aNil, x_aCons, x_eTup, x_eLst, x_eIf, x_eNot, x_eAnd, x_eOr, x_bAnd, x_bOr, x_bNot, x_bYes, x_eSl, x_oNone, x_oSome, asI_int, x_iSeq, x_iCall, x_gfName, x_gfTup, eLc, noX_is, Res.bind_ok, Res.bind_exc, flow_ok, flow_exc, seqK_next, seqK_ret, seqK_exc, seqK_brk, seqK_cont, loopK_next, loopK_cont, loopK_brk, loopK_ret, loopK_exc, must_ok, List.set_cons_succ, List.set_cons_zero, List.getD_cons_succ, List.getD_cons_zero, vD_some, if_true, if_false, Bool.false_eq_true, reduceIte, List.map_cons, List.map_nil, List.length_cons, List.length_nil, List.cons_append, List.nil_append, List.replicate, Nat.reduceSub, Nat.reduceAdd, x_add, x_sub, x_cmp, x_eq_ii, x_ne_ii, x_int_i, x_len_t, x_len_l, x_tup_l, x_tup_t, x_list_l, x_list_t, x_dSl_t, x_dSl_l, x_items_t, x_items_l, x_tru_n, x_tru_b, x_tru_i, x_tru_t, x_tru_l, x_asB, x_is_n, x_isNot_n, isNon_n, isNon_i, isNon_s, isNon_t, isNon_l, isNon_b, Bool.not_true, Bool.not_false, List.length_map, fnE, startE, isHunk_ok (g h hh).2.1 (g h hh).2.2]⟩
  have e2 := lc_fun (gf := gfTup [1, 2]) (f := eOp (dCmpI iLt) (eOp dAdd (eOp dIx (eVar 1) (eC (.int 0))) (eCall fLen (aCons (eOp dIx (eVar 1) (eC (.int 1))) aNil))) (eOp dIx (eVar 2) (eC (.int 0)))) (ρ := [some (dP P), none, none]) (e := fun p : Hk × Hk => .tup [dH p.1, dH p.2]) (g := fun q => .bl (decide (q.1.1 + q.1.2.1.length < q.2.1))) (xs := P.zip (P.drop 1)) fun q hq => ⟨_, rfl, by
    have e : iLt ((q.1.1 : Int) + (q.1.2.1.length : Int)) (q.2.1 : Int) = decide (q.1.1 + q.1.2.1.length < q.2.1) := by
      unfold iLt
      exact decide_eq_decide.mpr (by omega)
    simp only [sSeq_x, x_min2, x_max2, x_eRg1, x_eMeth, x_eMake, x_sSet, x_sIf, x_sRet, x_sRetN, x_sPar, x_sUnp, resF_ok, x_sDrop, x_sNext, x_sBreak, x_sCont, x_sRaise, x_sAug, augK_ok, x_sFor, x_sWhile, sKill_x, x_wipe0, x_wipe1, x_evL0, x_evL1, x_setL0, x_setL1, x_eVar, x_eC, x_eOp, x_eUn, x_eCall, x_eMS, x_asStr, x_aNil, x_aCons, x_eTup, x_eLst, x_eIf, x_eNot, x_eAnd, x_eOr, x_bAnd, x_bOr, x_bNot, x_bYes, x_eSl, x_oNone, x_oSome, asI_int, x_iSeq, x_iCall, x_gfName, x_gfTup, eLc, noX_is, Res.bind_ok, Res.bind_exc, flow_ok, flow_exc, seqK_next, seqK_ret, seqK_exc, seqK_brk, seqK_cont, loopK_next, loopK_cont, loopK_brk, loopK_ret, loopK_exc, must_ok, List.set_cons_succ, List.set_cons_zero, List.getD_cons_succ, List.getD_cons_zero, vD_some, if_true, if_false, Bool.false_eq_true, reduceIte, List.map_cons, List.map_nil, List.length_cons, List.length_nil, List.cons_append, List.nil_append, List.replicate, Nat.reduceSub, Nat.reduceAdd, x_add, x_sub, x_cmp, x_eq_ii, x_ne_ii, x_int_i, x_len_t, x_len_l, x_tup_l, x_tup_t, x_list_l, x_list_t, x_dSl_t, x_dSl_l, x_items_t, x_items_l, x_tru_n, x_tru_b, x_tru_i, x_tru_t, x_tru_l, x_asB, x_is_n, x_isNot_n, isNon_n, isNon_i, isNon_s, isNon_t, isNon_l, isNon_b, Bool.not_true, Bool.not_false, List.length_map, fnE, startE, h0, h1, tlen, e]⟩
  have ez : zipL (P.map dH) ((P.drop 1).map dH) = (P.zip (P.drop 1)).map fun p : Hk × Hk => D.tup [dH p.1, dH p.2] := by
    unfold zipL
    rw [List.zip_map, List.map_map]
    rfl
  have ec : cut (P.map dH) (some 1) none = (P.drop 1).map dH := by
    rw [List.map_drop]
    exact cut_lo (P.map dH) 1
  have t1 := x_all_f (fun h : Hk => !decide (h.2.1 = h.2.2)) P
  have t2 := x_all_f (fun q : Hk × Hk => decide (q.1.1 + q.1.2.1.length < q.2.1)) (P.zip (P.drop 1))
  rw [chn_zip] at t2
  unfold vld
  cases hb : P.all (fun h => !decide (h.2.1 = h.2.2)) with
  | false =>
    rw [hb] at t1
    simp only [sSeq_x, x_min2, x_max2, x_eRg1, x_eMeth, x_eMake, x_sSet, x_sIf, x_sRet, x_sRetN, x_sPar, x_sUnp, resF_ok, x_sDrop, x_sNext, x_sBreak, x_sCont, x_sRaise, x_sAug, augK_ok, x_sFor, x_sWhile, sKill_x, x_wipe0, x_wipe1, x_evL0, x_evL1, x_setL0, x_setL1, x_eVar, x_eC, x_eOp, x_eUn, x_eCall, x_eMS, x_asStr, x_aNil, x_aCons, x_eTup, x_eLst, x_eIf, x_eNot, x_eAnd, x_eOr, x_bAnd, x_bOr, x_bNot, x_bYes, x_eSl, x_oNone, x_oSome, asI_int, x_iSeq, x_iCall, x_gfName, x_gfTup, eLc, noX_is, Res.bind_ok, Res.bind_exc, flow_ok, flow_exc, seqK_next, seqK_ret, seqK_exc, seqK_brk, seqK_cont, loopK_next, loopK_cont, loopK_brk, loopK_ret, loopK_exc, must_ok, List.set_cons_succ, List.set_cons_zero, List.getD_cons_succ, List.getD_cons_zero, vD_some, if_true, if_false, Bool.false_eq_true, reduceIte, List.map_cons, List.map_nil, List.length_cons, List.length_nil, List.cons_append, List.nil_append, List.replicate, Nat.reduceSub, Nat.reduceAdd, x_add, x_sub, x_cmp, x_eq_ii, x_ne_ii, x_int_i, x_len_t, x_len_l, x_tup_l, x_tup_t, x_list_l, x_list_t, x_dSl_t, x_dSl_l, x_items_t, x_items_l, x_tru_n, x_tru_b, x_tru_i, x_tru_t, x_tru_l, x_asB, x_is_n, x_isNot_n, isNon_n, isNon_i, isNon_s, isNon_t, isNon_l, isNon_b, Bool.not_true, Bool.not_false, List.length_map, fnE, startE, C_is_patch, F_is_patch, isi_t, k_tt, e1, t1]
    rfl
  | true =>
    rw [hb] at t1
    simp only [sSeq_x, x_min2, x_max2, x_eRg1, x_eMeth, x_eMake, x_sSet, x_sIf, x_sRet, x_sRetN, x_sPar, x_sUnp, resF_ok, x_sDrop, x_sNext, x_sBreak, x_sCont, x_sRaise, x_sAug, augK_ok, x_sFor, x_sWhile, sKill_x, x_wipe0, x_wipe1, x_evL0, x_evL1, x_setL0, x_setL1, x_eVar, x_eC, x_eOp, x_eUn, x_eCall, x_eMS, x_asStr, x_aNil, x_aCons, x_eTup, x_eLst, x_eIf, x_eNot, x_eAnd, x_eOr, x_bAnd, x_bOr, x_bNot, x_bYes, x_eSl, x_oNone, x_oSome, asI_int, x_iSeq, x_iCall, x_gfName, x_gfTup, eLc, noX_is, Res.bind_ok, Res.bind_exc, flow_ok, flow_exc, seqK_next, seqK_ret, seqK_exc, seqK_brk, seqK_cont, loopK_next, loopK_cont, loopK_brk, loopK_ret, loopK_exc, must_ok, List.set_cons_succ, List.set_cons_zero, List.getD_cons_succ, List.getD_cons_zero, vD_some, if_true, if_false, Bool.false_eq_true, reduceIte, List.map_cons, List.map_nil, List.length_cons, List.length_nil, List.cons_append, List.nil_append, List.replicate, Nat.reduceSub, Nat.reduceAdd, x_add, x_sub, x_cmp, x_eq_ii, x_ne_ii, x_int_i, x_len_t, x_len_l, x_tup_l, x_tup_t, x_list_l, x_list_t, x_dSl_t, x_dSl_l, x_items_t, x_items_l, x_tru_n, x_tru_b, x_tru_i, x_tru_t, x_tru_l, x_asB, x_is_n, x_isNot_n, isNon_n, isNon_i, isNon_s, isNon_t, isNon_l, isNon_b, Bool.not_true, Bool.not_false, List.length_map, fnE, startE, C_is_patch, F_is_patch, isi_t, k_tt, e1, t1, ec, x_dZip, ez, e2, t2]
    rfl
def lchk : Int → List Hk → Bool
  | _, [] => true
  | e, h :: r => (decide (e < h.1) && !decide (h.2.1 = h.2.2)) && lchk (h.1 + h.2.1.length) r
theorem lchk_vld : ∀ (P : List Hk) (e : Int), lchk e P = (vld P && match P with
    | [] => true
    | h :: _ => decide (e < h.1))
  | [], _ => rfl
  | [h], e => by
    show ((decide (e < (h.1 : Int)) && !decide (h.2.1 = h.2.2)) && true) = ((((!decide (h.2.1 = h.2.2)) && true) && true) && decide (e < (h.1 : Int)))
    cases decide (e < (h.1 : Int)) <;> cases decide (h.2.1 = h.2.2) <;> rfl
  | h :: k :: r, e => by
    rw [lchk, lchk_vld (k :: r)]
    dsimp only
    have hd : decide ((h.1 : Int) + (h.2.1.length : Int) < (k.1 : Int)) = decide (h.1 + h.2.1.length < k.1) := decide_eq_decide.mpr (by omega)
    rw [hd]
    have hv : vld (h :: k :: r) = ((!decide (h.2.1 = h.2.2)) && (decide (h.1 + h.2.1.length < k.1) && vld (k :: r))) := by
      unfold vld
      rw [List.all_cons]
      show _ = _
      rw [show chn (h :: k :: r) = (decide (h.1 + h.2.1.length < k.1) && chn (k :: r)) from rfl]
      generalize (k :: r).all (fun h => !decide (h.2.1 = h.2.2)) = a
      generalize chn (k :: r) = b
      generalize decide (h.1 + h.2.1.length < k.1) = c
      cases decide (h.2.1 = h.2.2) <;> cases a <;> cases b <;> cases c <;> rfl
    rw [hv]
    generalize vld (k :: r) = a
    generalize decide (h.1 + h.2.1.length < k.1) = c
    cases decide (h.2.1 = h.2.2) <;> cases a <;> cases c <;> cases decide (e < (h.1 : Int)) <;> rfl
theorem lip_step {h : Hk} (ho : ∀ l ∈ h.2.1, Lf l) (hn : ∀ l ∈ h.2.2, Lf l) (v : Option D) (e : Int) : B__law_is_patch_1 [v, some (.int e), some (dH h)] = if (decide (e < (h.1 : Int)) && !decide (h.2.1 = h.2.2)) = true then .next [v, some (.int ((h.1 : Int) + (h.2.1.length : Int))), none] else .ret (.bl false) := by
  have e1 := eq_Tx ho hn
  have z : (((3 : Nat) : Int) == 3) = true := rfl
  have hl : iLe (h.1 : Int) e = !decide (e < (h.1 : Int)) := by
    unfold iLe
    by_cases q : e < (h.1 : Int)
    · rw [decide_eq_true q, decide_eq_false (by omega)]; rfl
    · rw [decide_eq_false q, decide_eq_true (by omega)]; rfl
  unfold B__law_is_patch_1
  by_cases q : e < (h.1 : Int)
  · rw [decide_eq_true q] at hl
    by_cases r : h.2.1 = h.2.2
    · rw [decide_eq_true r] at e1
      rw [decide_eq_true q, decide_eq_true r]
      simp only [sSeq_x, x_min2, x_max2, x_eRg1, x_eMeth, x_eMake, x_sSet, x_sIf, x_sRet, x_sRetN, x_sPar, x_sUnp, resF_ok, x_sDrop, x_sNext, x_sBreak, x_sCont, x_sRaise, x_sAug, augK_ok, x_sFor, x_sWhile, sKill_x, x_wipe0, x_wipe1, x_evL0, x_evL1, x_setL0, x_setL1, x_eVar, x_eC, x_eOp, x_eUn, x_eCall, x_eMS, x_asStr, x_aNil, x_aCons, x_eTup, x_eLst, x_eIf, x_eNot, x_eAnd, x_eOr, x_bAnd, x_bOr, x_bNot, x_bYes, x_eSl, x_oNone, x_oSome, asI_int, x_iSeq, x_iCall, x_gfName, x_gfTup, eLc, noX_is, Res.bind_ok, Res.bind_exc, flow_ok, flow_exc, seqK_next, seqK_ret, seqK_exc, seqK_brk, seqK_cont, loopK_next, loopK_cont, loopK_brk, loopK_ret, loopK_exc, must_ok, List.set_cons_succ, List.set_cons_zero, List.getD_cons_succ, List.getD_cons_zero, vD_some, if_true, if_false, Bool.false_eq_true, reduceIte, List.map_cons, List.map_nil, List.length_cons, List.length_nil, List.cons_append, List.nil_append, List.replicate, Nat.reduceSub, Nat.reduceAdd, x_add, x_sub, x_cmp, x_eq_ii, x_ne_ii, x_int_i, x_len_t, x_len_l, x_tup_l, x_tup_t, x_list_l, x_list_t, x_dSl_t, x_dSl_l, x_items_t, x_items_l, x_tru_n, x_tru_b, x_tru_i, x_tru_t, x_tru_l, x_asB, x_is_n, x_isNot_n, isNon_n, isNon_i, isNon_s, isNon_t, isNon_l, isNon_b, Bool.not_true, Bool.not_false, List.length_map, fnE, startE, isi_t, k_tt, hlen, h0, h1, h2, z, isi_i, k_ii, k_bi, hl, lisText_ok ho, lisText_ok hn, e1]
      rfl
    · rw [decide_eq_false r] at e1
      rw [decide_eq_true q, decide_eq_false r]
      simp only [sSeq_x, x_min2, x_max2, x_eRg1, x_eMeth, x_eMake, x_sSet, x_sIf, x_sRet, x_sRetN, x_sPar, x_sUnp, resF_ok, x_sDrop, x_sNext, x_sBreak, x_sCont, x_sRaise, x_sAug, augK_ok, x_sFor, x_sWhile, sKill_x, x_wipe0, x_wipe1, x_evL0, x_evL1, x_setL0, x_setL1, x_eVar, x_eC, x_eOp, x_eUn, x_eCall, x_eMS, x_asStr, x_aNil, x_aCons, x_eTup, x_eLst, x_eIf, x_eNot, x_eAnd, x_eOr, x_bAnd, x_bOr, x_bNot, x_bYes, x_eSl, x_oNone, x_oSome, asI_int, x_iSeq, x_iCall, x_gfName, x_gfTup, eLc, noX_is, Res.bind_ok, Res.bind_exc, flow_ok, flow_exc, seqK_next, seqK_ret, seqK_exc, seqK_brk, seqK_cont, loopK_next, loopK_cont, loopK_brk, loopK_ret, loopK_exc, must_ok, List.set_cons_succ, List.set_cons_zero, List.getD_cons_succ, List.getD_cons_zero, vD_some, if_true, if_false, Bool.false_eq_true, reduceIte, List.map_cons, List.map_nil, List.length_cons, List.length_nil, List.cons_append, List.nil_append, List.replicate, Nat.reduceSub, Nat.reduceAdd, x_add, x_sub, x_cmp, x_eq_ii, x_ne_ii, x_int_i, x_len_t, x_len_l, x_tup_l, x_tup_t, x_list_l, x_list_t, x_dSl_t, x_dSl_l, x_items_t, x_items_l, x_tru_n, x_tru_b, x_tru_i, x_tru_t, x_tru_l, x_asB, x_is_n, x_isNot_n, isNon_n, isNon_i, isNon_s, isNon_t, isNon_l, isNon_b, Bool.not_true, Bool.not_false, List.length_map, fnE, startE, isi_t, k_tt, hlen, h0, h1, h2, z, isi_i, k_ii, k_bi, hl, lisText_ok ho, lisText_ok hn, e1, tlen]
      rfl
  · rw [decide_eq_false q] at hl
    rw [decide_eq_false q]
    simp only [sSeq_x, x_min2, x_max2, x_eRg1, x_eMeth, x_eMake, x_sSet, x_sIf, x_sRet, x_sRetN, x_sPar, x_sUnp, resF_ok, x_sDrop, x_sNext, x_sBreak, x_sCont, x_sRaise, x_sAug, augK_ok, x_sFor, x_sWhile, sKill_x, x_wipe0, x_wipe1, x_evL0, x_evL1, x_setL0, x_setL1, x_eVar, x_eC, x_eOp, x_eUn, x_eCall, x_eMS, x_asStr, x_aNil, x_aCons, x_eTup, x_eLst, x_eIf, x_eNot, x_eAnd, x_eOr, x_bAnd, x_bOr, x_bNot, x_bYes, x_eSl, x_oNone, x_oSome, asI_int, x_iSeq, x_iCall, x_gfName, x_gfTup, eLc, noX_is, Res.bind_ok, Res.bind_exc, flow_ok, flow_exc, seqK_next, seqK_ret, seqK_exc, seqK_brk, seqK_cont, loopK_next, loopK_cont, loopK_brk, loopK_ret, loopK_exc, must_ok, List.set_cons_succ, List.set_cons_zero, List.getD_cons_succ, List.getD_cons_zero, vD_some, if_true, if_false, Bool.false_eq_true, reduceIte, List.map_cons, List.map_nil, List.length_cons, List.length_nil, List.cons_append, List.nil_append, List.replicate, Nat.reduceSub, Nat.reduceAdd, x_add, x_sub, x_cmp, x_eq_ii, x_ne_ii, x_int_i, x_len_t, x_len_l, x_tup_l, x_tup_t, x_list_l, x_list_t, x_dSl_t, x_dSl_l, x_items_t, x_items_l, x_tru_n, x_tru_b, x_tru_i, x_tru_t, x_tru_l, x_asB, x_is_n, x_isNot_n, isNon_n, isNon_i, isNon_s, isNon_t, isNon_l, isNon_b, Bool.not_true, Bool.not_false, List.length_map, fnE, startE, isi_t, k_tt, hlen, h0, h1, h2, z, isi_i, k_ii, k_bi, hl]
    rfl
theorem lip_run (v : Option D) : ∀ (P : List Hk) (e : Int) (c : Option D), Gk P → seqK (forE (gfName 2) B__law_is_patch_1 (P.map dH) [v, some (.int e), c]) (sKill [1, 2] (sRet (eC (.bl true)))) = .ret (.bl (lchk e P)) := by
  intro P
  induction P with
  | nil => intro e c _; rfl
  | cons h P ih =>
    intro e c g
    have gh := g h (.head _)
    have gP : Gk P := fun x hx => g x (.tail _ hx)
    have st := lip_step gh.2.1 gh.2.2 v e
    rw [List.map_cons, forE_cons]
    show seqK (loopK (B__law_is_patch_1 [v, some (.int e), some (dH h)]) _) _ = _
    rw [st, lchk]
    cases decide (e < (h.1 : Int)) && !decide (h.2.1 = h.2.2) with
    | true => rw [if_pos rfl, loopK_next, ih _ _ gP]; rfl
    | false => rfl
theorem lisPatch_ok {P : List Hk} (g : Gk P) : C__law_is_patch [dP P] = .ok (.bl (vld P)) := by
  have hv : lchk (-1) P = vld P := by
    rw [lchk_vld]
    cases P with
    | nil => rfl
    | cons h P =>
      dsimp only
      rw [decide_eq_true (show (-1 : Int) < (h.1 : Int) by omega), Bool.and_true]
  have e := lip_run (some (dP P)) P (-1) none g
  unfold C__law_is_patch F__law_is_patch
  have hn : dNeg (.int 1) = .ok (.int (-1)) := rfl
  simp only [sSeq_x, x_min2, x_max2, x_eRg1, x_eMeth, x_eMake, x_sSet, x_sIf, x_sRet, x_sRetN, x_sPar, x_sUnp, resF_ok, x_sDrop, x_sNext, x_sBreak, x_sCont, x_sRaise, x_sAug, augK_ok, x_sFor, x_sWhile, sKill_x, x_wipe0, x_wipe1, x_evL0, x_evL1, x_setL0, x_setL1, x_eVar, x_eC, x_eOp, x_eUn, x_eCall, x_eMS, x_asStr, x_aNil, x_aCons, x_eTup, x_eLst, x_eIf, x_eNot, x_eAnd, x_eOr, x_bAnd, x_bOr, x_bNot, x_bYes, x_eSl, x_oNone, x_oSome, asI_int, x_iSeq, x_iCall, x_gfName, x_gfTup, eLc, noX_is, Res.bind_ok, Res.bind_exc, flow_ok, flow_exc, seqK_next, seqK_ret, seqK_exc, seqK_brk, seqK_cont, loopK_next, loopK_cont, loopK_brk, loopK_ret, loopK_exc, must_ok, List.set_cons_succ, List.set_cons_zero, List.getD_cons_succ, List.getD_cons_zero, vD_some, if_true, if_false, Bool.false_eq_true, reduceIte, List.map_cons, List.map_nil, List.length_cons, List.length_nil, List.cons_append, List.nil_append, List.replicate, Nat.reduceSub, Nat.reduceAdd, x_add, x_sub, x_cmp, x_eq_ii, x_ne_ii, x_int_i, x_len_t, x_len_l, x_tup_l, x_tup_t, x_list_l, x_list_t, x_dSl_t, x_dSl_l, x_items_t, x_items_l, x_tru_n, x_tru_b, x_tru_i, x_tru_t, x_tru_l, x_asB, x_is_n, x_isNot_n, isNon_n, isNon_i, isNon_s, isNon_t, isNon_l, isNon_b, Bool.not_true, Bool.not_false, List.length_map, fnE, startE, isi_t, k_tt, hn] at e ⊢
  rw [e, hv]
/-! ### patches written -/
theorem sAt : (Str.ofString "@ ") = sOf [64, 32] := by kernel_rfl
theorem sMi : (Str.ofString "-") = sOf [45] := by kernel_rfl
theorem sPl : (Str.ofString "+") = sOf [43] := by kernel_rfl
theorem ext_L {i : Nat} {f : EF} {ρ : Px.Env} {xs ys : List D} (h : ρ.getD i none = some (.lst xs)) (hf : f ρ = .ok (.lst ys)) (hl : xs.length + ys.length ≤ 16777216) : sExtP i (plVar i) f ρ = .next (ρ.set i (some (.lst (xs ++ ys)))) := by
  unfold sExtP plVar
  rw [h]
  show (f ρ).flow ρ _ = _
  rw [hf, flow_ok]
  show (if _ then _ else _) = _
  rw [if_pos (by rw [sizeLine_eq]; exact hl)]
theorem add_ls {a b : List T} (h : a.length + b.length ≤ 16777216) : dAdd (.lst (a.map dS)) (.lst (b.map dS)) = .ok (.lst ((a ++ b).map dS)) := by
  rw [x_add_l, if_pos (by rw [List.length_map, List.length_map, sizeLine_eq]; exact h), List.map_append]
theorem head_ok {n : Nat} (hn : n < 2 ^ 1900) (hz : (dg n).length ≤ 1000) : (fStr [.int (n : Nat)] >>= fun b => dAdd (dS [64, 32]) b) = .ok (dS (64 :: 32 :: dg n)) := by
  rw [str_ok hn, Res.bind_ok, s_add _ _ (by simp; omega)]
  rfl
theorem old_ok {ls : List T} (hz : ∀ l ∈ ls, l.length ≤ 1000) (c : Nat) (ρ : Px.Env) (hr : ρ.length = 6) : lcE (gfName 5) bYes (eOp dAdd (eC (dS [c])) (eVar 5)) ρ (ls.map dS) = .ok ((ls.map (c :: ·)).map dS) := by
  rw [List.map_map]
  exact lc_fun (g := fun l => dS (c :: l)) fun l hl => ⟨ρ.set 5 (some (dS l)), rfl, by
    have h5 : (ρ.set 5 (some (dS l))).getD 5 none = some (dS l) := by
      rw [List.getD_eq_getElem?_getD, List.getElem?_set_self (by omega)]; rfl
    simp only [x_eOp, x_eC, x_eVar, Res.bind_ok, h5, vD_some]
    rw [s_add _ _ (by have := hz l hl; simp; omega)]
    rfl⟩
/-- small enough to be written -/
def Wz (P : List Hk) : Prop := (∀ l ∈ wl P, l.length ≤ 1000) ∧ (wl P).length ≤ 1000
theorem blk_len (h : Hk) : (blk h).length = 1 + (h.2.1.length + h.2.2.length) := by
  unfold blk
  simp
  omega
theorem lw_step {h : Hk} (v : Option D) (acc : List T) (hn : h.1 < 2 ^ 1900) (hz : ∀ l ∈ blk h, l.length ≤ 1000) (ha : acc.length + (blk h).length ≤ 1000) :
    B__law_written_1 [v, some (.lst (acc.map dS)), some (.int (h.1 : Nat)), some (dTx h.2.1), some (dTx h.2.2), none] = .next [v, some (.lst ((acc ++ blk h).map dS)), none, none, none, none] := by
  rw [blk_len] at ha
  have z0 : (dg h.1).length ≤ 1000 := by have := hz (64 :: 32 :: dg h.1) (.head _); simp at this; omega
  have z1 : ∀ l ∈ h.2.1, l.length ≤ 1000 := fun l hl => by
    have := hz (45 :: l) (.tail _ (List.mem_append_left _ (List.mem_map.mpr ⟨l, hl, rfl⟩)))
    simp at this; omega
  have z2 : ∀ l ∈ h.2.2, l.length ≤ 1000 := fun l hl => by
    have := hz (43 :: l) (.tail _ (List.mem_append_right _ (List.mem_map.mpr ⟨l, hl, rfl⟩)))
    simp at this; omega
  have e0 := head_ok hn z0
  have e1 := old_ok z1 45 [v, some (.lst (acc.map dS)), some (.int (h.1 : Nat)), some (dTx h.2.1), some (dTx h.2.2), none] rfl
  have e2 := old_ok z2 43 [v, some (.lst (acc.map dS)), some (.int (h.1 : Nat)), some (dTx h.2.1), some (dTx h.2.2), none] rfl
  have s1 := add_ls (a := acc) (b := [64 :: 32 :: dg h.1]) (by simp; omega)
  have s2 := add_ls (a := acc ++ [64 :: 32 :: dg h.1]) (b := h.2.1.map (45 :: ·)) (by simp; omega)
  have s3 := add_ls (a := acc ++ [64 :: 32 :: dg h.1] ++ h.2.1.map (45 :: ·)) (b := h.2.2.map (43 :: ·)) (by simp; omega)
  have es : fStr [.int (h.1 : Nat)] = .ok (dS (dg h.1)) := str_ok hn
  have ea : dAdd (dS [64, 32]) (dS (dg h.1)) = .ok (dS (64 :: 32 :: dg h.1)) := by rw [es, Res.bind_ok] at e0; exact e0
  unfold B__law_written_1
  rw [sAt, sMi, sPl]
  have hL : (eOp dAdd (eOp dAdd (eOp dAdd (eVar 1) (eLst (aCons (eOp dAdd (eC (dS [64, 32])) (eCall fStr (aCons (eVar 2) aNil))) aNil))) (eLc (iSeq (eVar 3)) [5] (gfName 5) bYes (eOp dAdd (eC (dS [45])) (eVar 5)))) (eLc (iSeq (eVar 4)) [5] (gfName 5) bYes (eOp dAdd (eC (dS [43])) (eVar 5)))) [v, some (.lst (acc.map dS)), some (.int (h.1 : Nat)), some (dTx h.2.1), some (dTx h.2.2), none] = .ok (.lst ((acc ++ blk h).map dS)) := by
    simp only [x_eOp, x_eVar, x_eLst, x_aCons, x_aNil, x_eC, x_eCall, eLc, x_iSeq, x_items_t, x_wipe1, Res.bind_ok, List.set_cons_succ, List.set_cons_zero, List.getD_cons_succ, List.getD_cons_zero, vD_some, es, ea, e1, e2, wipeE]
    have s1 : dAdd (.lst (acc.map dS)) (.lst [dS (64 :: 32 :: dg h.1)]) = .ok (.lst ((acc ++ [64 :: 32 :: dg h.1]).map dS)) := s1
    rw [s1, Res.bind_ok, s2, Res.bind_ok, s3]
    congr 3
    unfold blk
    simp
  rw [sSeq_x, x_sSet, hL, flow_ok, seqK_next]
  rfl
theorem wl_take (P : List Hk) (i : Nat) (h : i < P.length) : wl (P.take (i + 1)) = wl (P.take i) ++ blk P[i] := by
  rw [List.take_succ_eq_append_getElem h, wl_snoc]
theorem wl_len_take (P : List Hk) (i : Nat) : (wl (P.take i)).length ≤ (wl P).length := by
  conv => rhs; rw [← List.take_append_drop i P]
  unfold wl
  rw [List.map_append, List.flatten_append, List.length_append]
  omega
theorem sum_le {ls : List T} (h : ∀ l ∈ ls, l.length ≤ 1000) : (ls.map (·.length)).sum ≤ 1000 * ls.length := by
  induction ls with
  | nil => simp
  | cons l ls ih =>
    have := ih fun x hx => h x (.tail _ hx)
    have := h l (.head _)
    simp only [List.map_cons, List.sum_cons, List.length_cons]
    omega
theorem join_wl {P : List Hk} (hz : Wz P) : fJoin (sOf [10]) [.lst ((wl P).map dS)] = .ok (dS (jn (wl P))) := by
  have := sum_le hz.1
  have := hz.2
  exact join_ok (by omega)
theorem mem_blk {P : List Hk} {h : Hk} (hh : h ∈ P) : ∀ l ∈ blk h, l ∈ wl P := fun l hl => List.mem_flatten.mpr ⟨blk h, List.mem_map.mpr ⟨h, hh, rfl⟩, hl⟩
theorem written_ok {P : List Hk} (g : Gk P) (hz : Wz P) : C__law_written [dP P] = .ok (dS (jn (wl P))) := by
  obtain ⟨ρ', e, rfl⟩ := for_inv (gf := gfTup [2, 3, 4]) (F := B__law_written_1) (ds := P.map dH) (n := 0) (ρ := [some (dP P), some (.lst []), none, none, none, none])
    (P := fun i ρ => ρ = [some (dP P), some (.lst ((wl (P.take i)).map dS)), none, none, none, none]) rfl (by
      rintro i d hd ρ rfl
      rw [Nat.zero_add]
      obtain ⟨hi, hx⟩ := List.getElem?_eq_some_iff.mp hd
      rw [List.length_map] at hi
      rw [List.getElem_map] at hx
      subst hx
      have hm : P[i] ∈ P := List.getElem_mem hi
      have hl := wl_len_take P (i + 1)
      rw [wl_take P i hi, List.length_append] at hl
      refine ⟨_, _, rfl, .inl (lw_step (h := P[i]) (some (dP P)) (wl (P.take i)) (g _ hm).1 (fun l hl => hz.1 l (mem_blk hm l hl)) (by have := hz.2; omega)), ?_⟩
      rw [wl_take P i hi])
  have hj := join_wl hz
  have ht : P.take (0 + (P.map dH).length) = P := by rw [List.length_map, Nat.zero_add, List.take_length]
  rw [ht] at e
  unfold C__law_written F__law_written
  rw [sNl]
  simp only [sSeq_x, x_min2, x_max2, x_eRg1, x_eMeth, x_eMake, x_sSet, x_sIf, x_sRet, x_sRetN, x_sPar, x_sUnp, resF_ok, x_sDrop, x_sNext, x_sBreak, x_sCont, x_sRaise, x_sAug, augK_ok, x_sFor, x_sWhile, sKill_x, x_wipe0, x_wipe1, x_evL0, x_evL1, x_setL0, x_setL1, x_eVar, x_eC, x_eOp, x_eUn, x_eCall, x_eMS, x_asStr, x_aNil, x_aCons, x_eTup, x_eLst, x_eIf, x_eNot, x_eAnd, x_eOr, x_bAnd, x_bOr, x_bNot, x_bYes, x_eSl, x_oNone, x_oSome, asI_int, x_iSeq, x_iCall, x_gfName, x_gfTup, eLc, noX_is, Res.bind_ok, Res.bind_exc, flow_ok, flow_exc, seqK_next, seqK_ret, seqK_exc, seqK_brk, seqK_cont, loopK_next, loopK_cont, loopK_brk, loopK_ret, loopK_exc, must_ok, List.set_cons_succ, List.set_cons_zero, List.getD_cons_succ, List.getD_cons_zero, vD_some, if_true, if_false, Bool.false_eq_true, reduceIte, List.map_cons, List.map_nil, List.length_cons, List.length_nil, List.cons_append, List.nil_append, List.replicate, Nat.reduceSub, Nat.reduceAdd, x_add, x_sub, x_cmp, x_eq_ii, x_ne_ii, x_int_i, x_len_t, x_len_l, x_tup_l, x_tup_t, x_list_l, x_list_t, x_dSl_t, x_dSl_l, x_items_t, x_items_l, x_tru_n, x_tru_b, x_tru_i, x_tru_t, x_tru_l, x_asB, x_is_n, x_isNot_n, isNon_n, isNon_i, isNon_s, isNon_t, isNon_l, isNon_b, Bool.not_true, Bool.not_false, List.length_map, fnE, startE] at e ⊢
  rw [e]
  simp only [sSeq_x, x_min2, x_max2, x_eRg1, x_eMeth, x_eMake, x_sSet, x_sIf, x_sRet, x_sRetN, x_sPar, x_sUnp, resF_ok, x_sDrop, x_sNext, x_sBreak, x_sCont, x_sRaise, x_sAug, augK_ok, x_sFor, x_sWhile, sKill_x, x_wipe0, x_wipe1, x_evL0, x_evL1, x_setL0, x_setL1, x_eVar, x_eC, x_eOp, x_eUn, x_eCall, x_eMS, x_asStr, x_aNil, x_aCons, x_eTup, x_eLst, x_eIf, x_eNot, x_eAnd, x_eOr, x_bAnd, x_bOr, x_bNot, x_bYes, x_eSl, x_oNone, x_oSome, asI_int, x_iSeq, x_iCall, x_gfName, x_gfTup, eLc, noX_is, Res.bind_ok, Res.bind_exc, flow_ok, flow_exc, seqK_next, seqK_ret, seqK_exc, seqK_brk, seqK_cont, loopK_next, loopK_cont, loopK_brk, loopK_ret, loopK_exc, must_ok, List.set_cons_succ, List.set_cons_zero, List.getD_cons_succ, List.getD_cons_zero, vD_some, if_true, if_false, Bool.false_eq_true, reduceIte, List.map_cons, List.map_nil, List.length_cons, List.length_nil, List.cons_append, List.nil_append, List.replicate, Nat.reduceSub, Nat.reduceAdd, x_add, x_sub, x_cmp, x_eq_ii, x_ne_ii, x_int_i, x_len_t, x_len_l, x_tup_l, x_tup_t, x_list_l, x_list_t, x_dSl_t, x_dSl_l, x_items_t, x_items_l, x_tru_n, x_tru_b, x_tru_i, x_tru_t, x_tru_l, x_asB, x_is_n, x_isNot_n, isNon_n, isNon_i, isNon_s, isNon_t, isNon_l, isNon_b, Bool.not_true, Bool.not_false, List.length_map, fnE, startE, hj]
theorem pt_step {h : Hk} (v : Option D) (acc : List T) (hn : h.1 < 2 ^ 1900) (hz : ∀ l ∈ blk h, l.length ≤ 1000) (ha : acc.length + (blk h).length ≤ 1000) :
    B_patch_text_1 [v, some (.lst (acc.map dS)), some (.int (h.1 : Nat)), some (dTx h.2.1), some (dTx h.2.2), none] = .next [v, some (.lst ((acc ++ blk h).map dS)), none, none, none, none] := by
  rw [blk_len] at ha
  have z0 : (dg h.1).length ≤ 1000 := by have := hz (64 :: 32 :: dg h.1) (.head _); simp at this; omega
  have z1 : ∀ l ∈ h.2.1, l.length ≤ 1000 := fun l hl => by
    have := hz (45 :: l) (.tail _ (List.mem_append_left _ (List.mem_map.mpr ⟨l, hl, rfl⟩)))
    simp at this; omega
  have z2 : ∀ l ∈ h.2.2, l.length ≤ 1000 := fun l hl => by
    have := hz (43 :: l) (.tail _ (List.mem_append_right _ (List.mem_map.mpr ⟨l, hl, rfl⟩)))
    simp at this; omega
  have e0 := head_ok hn z0
  have es : fStr [.int (h.1 : Nat)] = .ok (dS (dg h.1)) := str_ok hn
  have ea : dAdd (dS [64, 32]) (dS (dg h.1)) = .ok (dS (64 :: 32 :: dg h.1)) := by rw [es, Res.bind_ok] at e0; exact e0
  have a1 : sAppend 1 (eOp dAdd (eC (dS [64, 32])) (eCall fStr (aCons (eVar 2) aNil))) [v, some (.lst (acc.map dS)), some (.int (h.1 : Nat)), some (dTx h.2.1), some (dTx h.2.2), none] = .next [v, some (.lst ((acc ++ [64 :: 32 :: dg h.1]).map dS)), some (.int (h.1 : Nat)), some (dTx h.2.1), some (dTx h.2.2), none] := by
    have hf : (eOp dAdd (eC (dS [64, 32])) (eCall fStr (aCons (eVar 2) aNil))) [v, some (.lst (acc.map dS)), some (.int (h.1 : Nat)), some (dTx h.2.1), some (dTx h.2.2), none] = .ok (dS (64 :: 32 :: dg h.1)) := by
      simp only [x_eOp, x_eC, x_eCall, x_aCons, x_aNil, x_eVar, Res.bind_ok, List.getD_cons_succ, List.getD_cons_zero, vD_some, es, ea]
    rw [app_ok (i := 1) rfl hf (by simp [sizeLine]; omega), List.map_append]
    rfl
  have a2 : sExtP 1 (plVar 1) (eLc (iSeq (eVar 3)) [5] (gfName 5) bYes (eOp dAdd (eC (dS [45])) (eVar 5))) [v, some (.lst ((acc ++ [64 :: 32 :: dg h.1]).map dS)), some (.int (h.1 : Nat)), some (dTx h.2.1), some (dTx h.2.2), none] = .next [v, some (.lst ((acc ++ [64 :: 32 :: dg h.1] ++ h.2.1.map (45 :: ·)).map dS)), some (.int (h.1 : Nat)), some (dTx h.2.1), some (dTx h.2.2), none] := by
    have e1 := old_ok z1 45 [v, some (.lst ((acc ++ [64 :: 32 :: dg h.1]).map dS)), some (.int (h.1 : Nat)), some (dTx h.2.1), some (dTx h.2.2), none] rfl
    have hf : eLc (iSeq (eVar 3)) [5] (gfName 5) bYes (eOp dAdd (eC (dS [45])) (eVar 5)) [v, some (.lst ((acc ++ [64 :: 32 :: dg h.1]).map dS)), some (.int (h.1 : Nat)), some (dTx h.2.1), some (dTx h.2.2), none] = .ok (.lst ((h.2.1.map (45 :: ·)).map dS)) := by
      simp only [eLc, x_iSeq, x_eVar, x_items_t, Res.bind_ok, x_wipe1, List.set_cons_succ, List.set_cons_zero, List.getD_cons_succ, List.getD_cons_zero, vD_some, wipeE, e1]
    rw [ext_L (i := 1) rfl hf (by simp; omega), List.map_append (l₁ := acc ++ _)]
    rfl
  have a3 : sExtP 1 (plVar 1) (eLc (iSeq (eVar 4)) [5] (gfName 5) bYes (eOp dAdd (eC (dS [43])) (eVar 5))) [v, some (.lst ((acc ++ [64 :: 32 :: dg h.1] ++ h.2.1.map (45 :: ·)).map dS)), some (.int (h.1 : Nat)), some (dTx h.2.1), some (dTx h.2.2), none] = .next [v, some (.lst ((acc ++ blk h).map dS)), some (.int (h.1 : Nat)), some (dTx h.2.1), some (dTx h.2.2), none] := by
    have e1 := old_ok z2 43 [v, some (.lst ((acc ++ [64 :: 32 :: dg h.1] ++ h.2.1.map (45 :: ·)).map dS)), some (.int (h.1 : Nat)), some (dTx h.2.1), some (dTx h.2.2), none] rfl
    have hf : eLc (iSeq (eVar 4)) [5] (gfName 5) bYes (eOp dAdd (eC (dS [43])) (eVar 5)) [v, some (.lst ((acc ++ [64 :: 32 :: dg h.1] ++ h.2.1.map (45 :: ·)).map dS)), some (.int (h.1 : Nat)), some (dTx h.2.1), some (dTx h.2.2), none] = .ok (.lst ((h.2.2.map (43 :: ·)).map dS)) := by
      simp only [eLc, x_iSeq, x_eVar, x_items_t, Res.bind_ok, x_wipe1, List.set_cons_succ, List.set_cons_zero, List.getD_cons_succ, List.getD_cons_zero, vD_some, wipeE, e1]
    rw [ext_L (i := 1) rfl hf (by simp; omega), ← List.map_append]
    have hb : acc ++ [64 :: 32 :: dg h.1] ++ h.2.1.map (45 :: ·) ++ h.2.2.map (43 :: ·) = acc ++ blk h := by
      unfold blk
      simp
    rw [hb]
    rfl
  unfold B_patch_text_1
  rw [sAt, sMi, sPl, sSeq_x, a1, seqK_next, sSeq_x, a2, seqK_next, sSeq_x, a3, seqK_next]
  rfl
theorem check_ok {P : List Hk} (g : Gk P) (hv : vld P = true) : C_check_patches [.lst [dP P]] = .ok .non := by
  have e := isPatch_ok g
  rw [hv] at e
  have e2 : fAll [.lst [.bl true]] = .ok (.bl true) := x_all [true]
  unfold C_check_patches F_check_patches
  simp only [sSeq_x, x_min2, x_max2, x_eRg1, x_eMeth, x_eMake, x_sSet, x_sIf, x_sRet, x_sRetN, x_sPar, x_sUnp, resF_ok, x_sDrop, x_sNext, x_sBreak, x_sCont, x_sRaise, x_sAug, augK_ok, x_sFor, x_sWhile, sKill_x, x_wipe0, x_wipe1, x_evL0, x_evL1, x_setL0, x_setL1, x_eVar, x_eC, x_eOp, x_eUn, x_eCall, x_eMS, x_asStr, x_aNil, x_aCons, x_eTup, x_eLst, x_eIf, x_eNot, x_eAnd, x_eOr, x_bAnd, x_bOr, x_bNot, x_bYes, x_eSl, x_oNone, x_oSome, asI_int, x_iSeq, x_iCall, x_gfName, x_gfTup, eLc, noX_is, Res.bind_ok, Res.bind_exc, flow_ok, flow_exc, seqK_next, seqK_ret, seqK_exc, seqK_brk, seqK_cont, loopK_next, loopK_cont, loopK_brk, loopK_ret, loopK_exc, must_ok, List.set_cons_succ, List.set_cons_zero, List.getD_cons_succ, List.getD_cons_zero, vD_some, if_true, if_false, Bool.false_eq_true, reduceIte, List.map_cons, List.map_nil, List.length_cons, List.length_nil, List.cons_append, List.nil_append, List.replicate, Nat.reduceSub, Nat.reduceAdd, x_add, x_sub, x_cmp, x_eq_ii, x_ne_ii, x_int_i, x_len_t, x_len_l, x_tup_l, x_tup_t, x_list_l, x_list_t, x_dSl_t, x_dSl_l, x_items_t, x_items_l, x_tru_n, x_tru_b, x_tru_i, x_tru_t, x_tru_l, x_asB, x_is_n, x_isNot_n, isNon_n, isNon_i, isNon_s, isNon_t, isNon_l, isNon_b, Bool.not_true, Bool.not_false, List.length_map, fnE, startE, lcE, e, e2]
theorem patchText_ok {P : List Hk} (g : Gk P) (hv : vld P = true) (hz : Wz P) : C_patch_text [dP P] = .ok (dS (jn (wl P))) := by
  obtain ⟨ρ', e, rfl⟩ := for_inv (gf := gfTup [2, 3, 4]) (F := B_patch_text_1) (ds := P.map dH) (n := 0) (ρ := [some (dP P), some (.lst []), none, none, none, none])
    (P := fun i ρ => ρ = [some (dP P), some (.lst ((wl (P.take i)).map dS)), none, none, none, none]) rfl (by
      rintro i d hd ρ rfl
      rw [Nat.zero_add]
      obtain ⟨hi, hx⟩ := List.getElem?_eq_some_iff.mp hd
      rw [List.length_map] at hi
      rw [List.getElem_map] at hx
      subst hx
      have hm : P[i] ∈ P := List.getElem_mem hi
      have hl := wl_len_take P (i + 1)
      rw [wl_take P i hi, List.length_append] at hl
      refine ⟨_, _, rfl, .inl (pt_step (h := P[i]) (some (dP P)) (wl (P.take i)) (g _ hm).1 (fun l hl => hz.1 l (mem_blk hm l hl)) (by have := hz.2; omega)), ?_⟩
      rw [wl_take P i hi])
  have hj := join_wl hz
  have hc := check_ok g hv
  have ht : P.take (0 + (P.map dH).length) = P := by rw [List.length_map, Nat.zero_add, List.take_length]
  rw [ht] at e
  unfold C_patch_text F_patch_text
  rw [sNl]
  simp only [sSeq_x, x_min2, x_max2, x_eRg1, x_eMeth, x_eMake, x_sSet, x_sIf, x_sRet, x_sRetN, x_sPar, x_sUnp, resF_ok, x_sDrop, x_sNext, x_sBreak, x_sCont, x_sRaise, x_sAug, augK_ok, x_sFor, x_sWhile, sKill_x, x_wipe0, x_wipe1, x_evL0, x_evL1, x_setL0, x_setL1, x_eVar, x_eC, x_eOp, x_eUn, x_eCall, x_eMS, x_asStr, x_aNil, x_aCons, x_eTup, x_eLst, x_eIf, x_eNot, x_eAnd, x_eOr, x_bAnd, x_bOr, x_bNot, x_bYes, x_eSl, x_oNone, x_oSome, asI_int, x_iSeq, x_iCall, x_gfName, x_gfTup, eLc, noX_is, Res.bind_ok, Res.bind_exc, flow_ok, flow_exc, seqK_next, seqK_ret, seqK_exc, seqK_brk, seqK_cont, loopK_next, loopK_cont, loopK_brk, loopK_ret, loopK_exc, must_ok, List.set_cons_succ, List.set_cons_zero, List.getD_cons_succ, List.getD_cons_zero, vD_some, if_true, if_false, Bool.false_eq_true, reduceIte, List.map_cons, List.map_nil, List.length_cons, List.length_nil, List.cons_append, List.nil_append, List.replicate, Nat.reduceSub, Nat.reduceAdd, x_add, x_sub, x_cmp, x_eq_ii, x_ne_ii, x_int_i, x_len_t, x_len_l, x_tup_l, x_tup_t, x_list_l, x_list_t, x_dSl_t, x_dSl_l, x_items_t, x_items_l, x_tru_n, x_tru_b, x_tru_i, x_tru_t, x_tru_l, x_asB, x_is_n, x_isNot_n, isNon_n, isNon_i, isNon_s, isNon_t, isNon_l, isNon_b, Bool.not_true, Bool.not_false, List.length_map, fnE, startE, hc] at e ⊢
  rw [e]
  simp only [sSeq_x, x_min2, x_max2, x_eRg1, x_eMeth, x_eMake, x_sSet, x_sIf, x_sRet, x_sRetN, x_sPar, x_sUnp, resF_ok, x_sDrop, x_sNext, x_sBreak, x_sCont, x_sRaise, x_sAug, augK_ok, x_sFor, x_sWhile, sKill_x, x_wipe0, x_wipe1, x_evL0, x_evL1, x_setL0, x_setL1, x_eVar, x_eC, x_eOp, x_eUn, x_eCall, x_eMS, x_asStr, x_aNil, x_aCons, x_eTup, x_eLst, x_eIf, x_eNot, x_eAnd, x_eOr, x_bAnd, x_bOr, x_bNot, x_bYes, x_eSl, x_oNone, x_oSome, asI_int, x_iSeq, x_iCall, x_gfName, x_gfTup, eLc, noX_is, Res.bind_ok, Res.bind_exc, flow_ok, flow_exc, seqK_next, seqK_ret, seqK_exc, seqK_brk, seqK_cont, loopK_next, loopK_cont, loopK_brk, loopK_ret, loopK_exc, must_ok, List.set_cons_succ, List.set_cons_zero, List.getD_cons_succ, List.getD_cons_zero, vD_some, if_true, if_false, Bool.false_eq_true, reduceIte, List.map_cons, List.map_nil, List.length_cons, List.length_nil, List.cons_append, List.nil_append, List.replicate, Nat.reduceSub, Nat.reduceAdd, x_add, x_sub, x_cmp, x_eq_ii, x_ne_ii, x_int_i, x_len_t, x_len_l, x_tup_l, x_tup_t, x_list_l, x_list_t, x_dSl_t, x_dSl_l, x_items_t, x_items_l, x_tru_n, x_tru_b, x_tru_i, x_tru_t, x_tru_l, x_asB, x_is_n, x_isNot_n, isNon_n, isNon_i, isNon_s, isNon_t, isNon_l, isNon_b, Bool.not_true, Bool.not_false, List.length_map, fnE, startE, hj]
/-! ### the program's reader -/
theorem sDig : (Str.ofString "0123456789") = sOf [48, 49, 50, 51, 52, 53, 54, 55, 56, 57] := by kernel_rfl
theorem sZero : (Str.ofString "0") = sOf [48] := by kernel_rfl
theorem sEmp : (Str.ofString "") = sOf [] := by kernel_rfl
theorem sl_take {l : T} (h : Ln l) (n : Nat) : dSl (dS l) none (some (n : Int)) = .ok (dS (l.take n)) := by
  rw [s_sl l _ _ (by have := h.1; omega), cut_hi]
theorem sl_drop {l : T} (h : Ln l) (n : Nat) : dSl (dS l) (some (n : Int)) none = .ok (dS (l.drop n)) := by
  rw [s_sl l _ _ (by have := h.1; omega), cut_lo]
theorem ln_take {l : T} (h : Ln l) (n : Nat) : Ln (l.take n) := ⟨by rw [List.length_take]; have := h.1; omega, fun c hc => h.2 c (List.mem_of_mem_take hc)⟩
theorem ln_drop {l : T} (h : Ln l) (n : Nat) : Ln (l.drop n) := ⟨by rw [List.length_drop]; have := h.1; omega, fun c hc => h.2 c (List.mem_of_mem_drop hc)⟩
theorem ln_one {c : Nat} (h : c < 0x110000) : Ln [c] := ⟨by simp, fun d hd => by rw [List.mem_singleton.mp hd]; exact h⟩
theorem ln_at : Ln [64, 32] := ⟨by decide, fun d hd => by simp at hd; omega⟩
theorem ln_nil : Ln [] := ⟨by decide, fun d hd => by cases hd⟩
theorem lenS {l : T} (h : Ln l) : fLen [dS l] = .ok (.int (l.length : Nat)) := s_len l (by have := h.1; omega)
theorem dig_mem (c : Nat) : decide (c ∈ [48, 49, 50, 51, 52, 53, 54, 55, 56, 57]) = (decide (48 ≤ c) && decide (c ≤ 57)) := by
  by_cases h : 48 ≤ c ∧ c ≤ 57
  · rw [decide_eq_true h.1, decide_eq_true h.2, decide_eq_true]
    · rfl
    · simp; omega
  · rw [decide_eq_false]
    · by_cases h1 : 48 ≤ c
      · rw [decide_eq_true h1, decide_eq_false (fun z => h ⟨h1, z⟩)]; rfl
      · rw [decide_eq_false h1]; rfl
    · simp; omega
def allDg (l : T) : Bool := l.all fun c => decide (48 ≤ c) && decide (c ≤ 57)
theorem all_ok (l : T) (i : Nat) (ρ : Px.Env) (hi : i < ρ.length) : lcE (gfName i) bYes (eOp (dIn) (eVar i) (eC (dS [48, 49, 50, 51, 52, 53, 54, 55, 56, 57]))) ρ (l.map fun c => dS [c]) = .ok (l.map fun c => .bl (decide (48 ≤ c) && decide (c ≤ 57))) := by
  refine lc_fun (e := fun c : Nat => dS [c]) (g := fun c => .bl (decide (48 ≤ c) && decide (c ≤ 57))) fun c hc => ⟨ρ.set i (some (dS [c])), rfl, ?_⟩
  have h5 : (ρ.set i (some (dS [c]))).getD i none = some (dS [c]) := by
    rw [List.getD_eq_getElem?_getD, List.getElem?_set_self hi]; rfl
  simp only [x_eOp, x_eC, x_eVar, Res.bind_ok, h5, vD_some]
  rw [s_in, dig_mem]
theorem isDg_eq (l : T) : isDg l = ((l != [] && allDg l) && !(decide (1 < l.length) && l.headD 0 == 48)) := rfl
/-- the three tests of figures -/
def fgT (i : Nat) (j : Nat) (empty : Px.Env → Res Bool) : Px.Env → Res Bool := bOr empty (bOr (bNot (eUn dTru (eCall fAll (aCons (eLc (iSeq (eVar i)) [j] (gfName j) bYes (eOp (dIn) (eVar j) (eC (dS [48, 49, 50, 51, 52, 53, 54, 55, 56, 57])))) aNil)))) (bAnd (eUn asB (eOp (dCmpI iGt) (eCall fLen (aCons (eVar i) aNil)) (eC (.int 1)))) (eUn asB (eOp (dEq) (eOp dIx (eVar i) (eC (.int 0))) (eC (dS [48]))))))
theorem fgT_ok {i j : Nat} {empty : Px.Env → Res Bool} {ρ : Px.Env} {l : T} (hl : Ln l) (hi : ρ.getD i none = some (dS l)) (hj : j < ρ.length) (he : empty ρ = .ok (l == [])) : fgT i j empty ρ = .ok (!isDg l) := by
  have e1 := all_ok l j (wipeE ρ [j]) (by simp [wipeE]; omega)
  have e2 := x_all_f (fun c : Nat => decide (48 ≤ c) && decide (c ≤ 57)) l
  have e3 := s_items l (by have := hl.1; omega)
  have e4 := lenS hl
  unfold fgT
  rw [isDg_eq]
  simp only [x_bOr, he, Res.bind_ok]
  cases l with
  | nil => rfl
  | cons c r =>
    have hx : dIx (dS (c :: r)) (.int 0) = .ok (dS [c]) := s_ix (c :: r) 0 c rfl (by have := hl.1; omega)
    have hq : dEq (dS [c]) (dS [48]) = .ok (.bl (decide ([c] = [48]))) := eq_S (ln_one (hl.2 c (.head _))) (ln_one (by decide))
    have hg : iGt ((c :: r).length : Nat) 1 = decide (1 < (c :: r).length) := by
      unfold iGt
      exact decide_eq_decide.mpr (by omega)
    have hb : (c :: r == []) = false := rfl
    have hd : decide ([c] = [48]) = (c == 48) := by
      by_cases q : c = 48
      · subst q; rfl
      · rw [decide_eq_false (by simpa using q)]; simp [q]
    rw [hb]
    simp only [x_bNot, x_bAnd, x_eUn, x_eCall, x_aCons, x_aNil, eLc, x_iSeq, x_eVar, hi, vD_some, Res.bind_ok, e3, e1, e2, x_tru_b, asB, Bool.false_eq_true, if_false]
    have ha : allDg (c :: r) = (c :: r).all fun c => decide (48 ≤ c) && decide (c ≤ 57) := rfl
    rw [← ha]
    have hne : ((c :: r) != []) = true := rfl
    rw [hne]
    cases allDg (c :: r) with
    | false => rfl
    | true =>
      simp only [Bool.not_true, Bool.false_eq_true, if_false, x_eOp, x_eVar, x_eCall, x_aCons, x_aNil, hi, vD_some, x_eC, Res.bind_ok, e4, x_cmp, hg, hx, hq, hd]
      show _ = Res.ok (!(true && !(decide (1 < (c :: r).length) && c == 48)))
      cases decide (1 < (c :: r).length) <;> cases c == 48 <;> rfl
theorem place_ok {l : T} (h : Lf l) (hz : l.length ≤ 400) : C__place [dS l] = if isDg (l.drop 2) = true then .ok (.int (NumText.digitsVal (l.drop 2) : Nat)) else .exc "BadText" := by
  have hd := ln_drop h.1 2
  have hl : (l.drop 2).length ≤ 400 := by rw [List.length_drop]; omega
  have e0 : fLen [dS [64, 32]] = .ok (.int 2) := rfl
  have e1 : dSl (dS l) (some 2) none = .ok (dS (l.drop 2)) := sl_drop h.1 2
  have e2 := lenS hd
  have hi : iGt ((l.drop 2).length : Nat) 4000 = false := decide_eq_false (by omega)
  have he : (eUn asB (eOp (dEq) (eCall fLen (aCons (eVar 1) aNil)) (eC (.int 0)))) [some (dS l), some (dS (l.drop 2)), none] = .ok (l.drop 2 == []) := by
    simp only [x_eUn, x_eOp, x_eCall, x_aCons, x_aNil, x_eVar, x_eC, List.getD_cons_succ, List.getD_cons_zero, vD_some, Res.bind_ok, e2, x_eq_ii, asB]
    cases l.drop 2 with
    | nil => rfl
    | cons c r =>
      congr 1
  have ht := fgT_ok (i := 1) (j := 2) (ρ := [some (dS l), some (dS (l.drop 2)), none]) hd rfl (show 2 < 3 by decide) he
  unfold C__place F__place
  rw [sAt, sDig, sZero]
  unfold fgT at ht
  simp only [fnE, startE, List.length_cons, List.length_nil, Nat.reduceAdd, Nat.reduceSub, List.replicate, List.map_cons, List.map_nil, List.cons_append, List.nil_append]
  have hs : sSet 1 (eSl (eVar 0) (oSome (eCall fLen (aCons (eC (dS [64, 32])) aNil))) oNone) [some (dS l), none, none] = .next [some (dS l), some (dS (l.drop 2)), none] := by
    simp only [x_sSet, x_eSl, x_eVar, x_oSome, x_oNone, x_eCall, x_aCons, x_aNil, x_eC, List.getD_cons_succ, List.getD_cons_zero, vD_some, Res.bind_ok, e0, asI_int, e1, flow_ok, List.set_cons_succ, List.set_cons_zero]
  rw [sSeq_x, hs, seqK_next, sSeq_x, x_sIf, ht, flow_ok]
  cases hb : isDg (l.drop 2) with
  | false => rfl
  | true =>
    have e3 := int_ok hb hl
    simp only [Bool.not_true, Bool.false_eq_true, if_false, if_true, reduceIte, x_sNext, seqK_next]
    rw [sSeq_x, x_sIf]
    simp only [x_eUn, x_eOp, x_eCall, x_aCons, x_aNil, x_eVar, x_eC, List.getD_cons_succ, List.getD_cons_zero, vD_some, Res.bind_ok, e2, x_cmp, hi, x_asB, flow_ok, Bool.false_eq_true, if_false, x_sNext, seqK_next, x_sRet, e3]
abbrev dL (h : Hk) : D := .lst [.int (h.1 : Nat), .lst (h.2.1.map dS), .lst (h.2.2.map dS)]
abbrev pE (s : T) (st : St) (l : Option D) : Px.Env := [some (dS s), some (.lst ((flat st).map dL)), l, none, none, none, none]
theorem ixN_last {n : Nat} : ixN (n + 1) (-1) = some n := by
  unfold ixN
  rw [if_neg (by omega), if_pos (by omega)]
  congr 1
  omega
theorem pl_last {ρ : Px.Env} {xs : List D} {c : D} (h : ρ.getD 1 none = some (.lst (xs ++ [c]))) : plIx (plVar 1) (eUn dNeg (eC (.int 1))) ρ = .ok (c, fun c' => .lst (xs ++ [c'])) := by
  unfold plIx plVar
  rw [h]
  have e : kidIx (.lst (xs ++ [c])) (.int (-1)) = .ok xs.length := by
    unfold kidIx
    dsimp only
    rw [List.length_append, List.length_singleton, ixN_last]
  show kidIx (.lst (xs ++ [c])) (.int (-1)) >>= lensAt _ = _
  rw [e, Res.bind_ok]
  unfold lensAt
  have : (kids (.lst (xs ++ [c])))[xs.length]? = some c := by
    show (xs ++ [c])[xs.length]? = some c
    simp
  dsimp only
  rw [this]
  dsimp only
  congr 2
  funext c'
  show D.lst ((xs ++ [c]).set xs.length c') = _
  rw [List.set_append_right _ _ (Nat.le_refl _), Nat.sub_self]
  rfl
theorem pl_last2 {ρ : Px.Env} {xs : List D} {a : D} {cs ds : List D} (h : ρ.getD 1 none = some (.lst (xs ++ [.lst [a, .lst cs, .lst ds]]))) :
    plIx (plIx (plVar 1) (eUn dNeg (eC (.int 1)))) (eC (.int 1)) ρ = .ok (.lst cs, fun c' => .lst (xs ++ [.lst [a, c', .lst ds]])) ∧
    plIx (plIx (plVar 1) (eUn dNeg (eC (.int 1)))) (eC (.int 2)) ρ = .ok (.lst ds, fun c' => .lst (xs ++ [.lst [a, .lst cs, c']])) := by
  have e := pl_last h
  constructor
  · show plIx (plVar 1) (eUn dNeg (eC (.int 1))) ρ >>= _ = _
    rw [e, Res.bind_ok]
    rfl
  · show plIx (plVar 1) (eUn dNeg (eC (.int 1))) ρ >>= _ = _
    rw [e, Res.bind_ok]
    rfl
theorem appP_ok {pf : PLF} {f : EF} {ρ : Px.Env} {xs : List D} {g : D → D} {d : D} (h : pf ρ = .ok (.lst xs, g)) (hf : f ρ = .ok d) (hl : xs.length < 16777216) : sAppP 1 pf f ρ = .next (ρ.set 1 (some (g (.lst (xs ++ [d]))))) := by
  unfold sAppP
  rw [h, flow_ok]
  dsimp only
  rw [hf, flow_ok, if_pos (by rw [sizeLine_eq]; exact hl)]
/-- how many there are -/
def Fw (st : St) : Prop := (flat st).length ≤ 1000 ∧ match st with
  | none => True
  | some (_, h) => h.2.1.length ≤ 1000 ∧ h.2.2.length ≤ 1000
theorem ix_last {xs : List D} {c : D} : dIx (.lst (xs ++ [c])) (.int (-1)) = .ok c := by
  show (match atI (xs ++ [c]) (-1) with
    | some d => Res.ok d
    | none => .err) = _
  have : atI (xs ++ [c]) (-1) = some c := by
    unfold atI
    rw [List.length_append, List.length_singleton, ixN_last]
    simp
  rw [this]
theorem c_head {l : T} (h : Lf l) (ρ : Px.Env) (h2 : ρ.getD 2 none = some (dS l)) : (eUn asB (eOp (dEq) (eSl (eVar 2) oNone (oSome (eCall fLen (aCons (eC (dS [64, 32])) aNil)))) (eC (dS [64, 32])))) ρ = .ok (decide (l.take 2 = [64, 32])) := by
  have e0 : fLen [dS [64, 32]] = .ok (.int 2) := rfl
  have e1 : dSl (dS l) none (some 2) = .ok (dS (l.take 2)) := sl_take h.1 2
  have e2 := eq_S (ln_take h.1 2) ln_at
  simp only [x_eUn, x_eOp, x_eSl, x_eVar, h2, vD_some, x_oNone, x_oSome, x_eCall, x_aCons, x_aNil, x_eC, Res.bind_ok, e0, asI_int, e1, e2, asB]
theorem c_sign {l : T} (h : Lf l) {c : Nat} (hc : c < 0x110000) (ρ : Px.Env) (h2 : ρ.getD 2 none = some (dS l)) : (eUn asB (eOp (dEq) (eSl (eVar 2) oNone (oSome (eC (.int 1)))) (eC (dS [c])))) ρ = .ok (decide (l.take 1 = [c])) := by
  have e1 : dSl (dS l) none (some 1) = .ok (dS (l.take 1)) := sl_take h.1 1
  have e2 := eq_S (ln_take h.1 1) (ln_one hc)
  simp only [x_eUn, x_eOp, x_eSl, x_eVar, h2, vD_some, x_oNone, x_oSome, x_eC, Res.bind_ok, asI_int, e1, e2, asB]
theorem c_some {xs : List D} (ρ : Px.Env) (h1 : ρ.getD 1 none = some (.lst xs)) : (eUn asB (eOp (dCmpI iGt) (eCall fLen (aCons (eVar 1) aNil)) (eC (.int 0)))) ρ = .ok (decide (0 < xs.length)) := by
  have e : fLen [.lst xs] = .ok (.int (xs.length : Nat)) := rfl
  have hg : iGt (xs.length : Nat) 0 = decide (0 < xs.length) := by
    unfold iGt
    exact decide_eq_decide.mpr (by omega)
  simp only [x_eUn, x_eOp, x_eVar, h1, vD_some, x_eCall, x_aCons, x_aNil, x_eC, Res.bind_ok, e, x_cmp, hg, asB]
theorem drop_e {l : T} (h : Lf l) (ρ : Px.Env) (h2 : ρ.getD 2 none = some (dS l)) : (eSl (eVar 2) (oSome (eC (.int 1))) oNone) ρ = .ok (dS (l.drop 1)) := by
  have e1 : dSl (dS l) (some 1) none = .ok (dS (l.drop 1)) := sl_drop h.1 1
  simp only [x_eSl, x_eVar, h2, vD_some, x_oNone, x_oSome, x_eC, Res.bind_ok, asI_int, e1]
def poH : SF := (sAppend 1 (eLst (evL [(eUn dFlat (eCall C__place (aCons (eVar 2) aNil))), (eC (.lst [])), (eC (.lst []))])))
def poN : SF := (sAppP 1 (plIx (plIx (plVar 1) (eUn dNeg (eC (.int 1)))) (eC (.int 2))) (eSl (eVar 2) (oSome (eC (.int 1))) oNone))
def poO : SF := (sAppP 1 (plIx (plIx (plVar 1) (eUn dNeg (eC (.int 1)))) (eC (.int 1))) (eSl (eVar 2) (oSome (eC (.int 1))) oNone))
def cH : Px.Env → Res Bool := (eUn asB (eOp (dEq) (eSl (eVar 2) oNone (oSome (eCall fLen (aCons (eC (dS [64, 32])) aNil)))) (eC (dS [64, 32]))))
def cS (c : Nat) : Px.Env → Res Bool := (eUn asB (eOp (dEq) (eSl (eVar 2) oNone (oSome (eC (.int 1)))) (eC (dS [c]))))
def cN : Px.Env → Res Bool := (eUn asB (eOp (dCmpI iGt) (eCall fLen (aCons (eVar 1) aNil)) (eC (.int 0))))
def cE : Px.Env → Res Bool := (eUn asB (eOp (dEq) (eCall fLen (aCons (eOp dIx (eOp dIx (eVar 1) (eUn dNeg (eC (.int 1)))) (eC (.int 2))) aNil)) (eC (.int 0))))
theorem po_eq : B_patch_of_1 = sSeq (sIf cH poH (sIf (bAnd cN (cS 43)) poN (sIf (bAnd cN (bAnd (cS 45) cE)) poO (sRaise "BadText")))) (sKill [2] sNext) := by
  unfold B_patch_of_1
  rw [sAt, sPl, sMi]
  rfl
theorem cE_ok {xs : List D} {a : D} {cs ds : List D} {ρ : Px.Env} (h : ρ.getD 1 none = some (.lst (xs ++ [.lst [a, .lst cs, .lst ds]]))) : cE ρ = .ok (decide (ds = [])) := by
  have e1 : dNeg (.int 1) = .ok (.int (-1)) := rfl
  have e2 := ix_last (xs := xs) (c := .lst [a, .lst cs, .lst ds])
  have e3 : dIx (.lst [a, .lst cs, .lst ds]) (.int 2) = .ok (.lst ds) := rfl
  have e4 : fLen [.lst ds] = .ok (.int (ds.length : Nat)) := rfl
  have e5 : (((ds.length : Nat) : Int) == 0) = decide (ds = []) := by
    cases ds with
    | nil => rfl
    | cons d ds => rw [decide_eq_false (by simp)]; exact beq_eq_false_iff_ne.mpr (by simp; omega)
  unfold cE
  simp only [x_eUn, x_eOp, x_eVar, h, vD_some, x_eCall, x_aCons, x_aNil, x_eC, Res.bind_ok, e1, e2, e3, e4, x_eq_ii, e5, asB]
theorem po_step {s l : T} {st : St} (hl : Lf l) (hz : l.length ≤ 400) (f : Fw st) : match stp st l with
    | some st' => B_patch_of_1 (pE s st (some (dS l))) = .next (pE s st' none)
    | none => ∃ ρ, B_patch_of_1 (pE s st (some (dS l))) = .exc "BadText" ρ := by
  have k1 := c_head hl (pE s st (some (dS l))) rfl
  have k2 := c_sign hl (c := 43) (by decide) (pE s st (some (dS l))) rfl
  have k3 := c_sign hl (c := 45) (by decide) (pE s st (some (dS l))) rfl
  have k4 : cN (pE s st (some (dS l))) = .ok (decide (0 < ((flat st).map dL).length)) := c_some (pE s st (some (dS l))) rfl
  have kd := drop_e hl (pE s st (some (dS l))) rfl
  have k1 : cH (pE s st (some (dS l))) = .ok (decide (l.take 2 = [64, 32])) := k1
  have k2 : cS 43 (pE s st (some (dS l))) = .ok (decide (l.take 1 = [43])) := k2
  have k3 : cS 45 (pE s st (some (dS l))) = .ok (decide (l.take 1 = [45])) := k3
  unfold stp
  by_cases q1 : l.take 2 = [64, 32]
  · rw [if_pos q1]
    rw [decide_eq_true q1] at k1
    have hp := place_ok hl hz
    cases hb : isDg (l.drop 2) with
    | false =>
      rw [hb] at hp
      rw [if_neg Bool.false_ne_true]
      have hp : C__place [dS l] = .exc "BadText" := hp
      refine ⟨pE s st (some (dS l)), ?_⟩
      rw [po_eq, sSeq_x, x_sIf, k1, flow_ok, if_pos rfl]
      have e : eLst (evL [(eUn dFlat (eCall C__place (aCons (eVar 2) aNil))), (eC (.lst [])), (eC (.lst []))]) (pE s st (some (dS l))) = .exc "BadText" := by
        simp only [eLst, evL, x_eUn, x_eCall, x_aCons, x_aNil, x_eVar, List.getD_cons_succ, List.getD_cons_zero, vD_some, Res.bind_ok, hp, Res.bind_exc]
      unfold poH sAppend
      rw [e]
      rfl
    | true =>
      rw [hb] at hp
      rw [if_pos rfl]
      have hp : C__place [dS l] = .ok (.int (NumText.digitsVal (l.drop 2) : Nat)) := hp
      dsimp only
      rw [po_eq, sSeq_x, x_sIf, k1, flow_ok, if_pos rfl]
      have e : eLst (evL [(eUn dFlat (eCall C__place (aCons (eVar 2) aNil))), (eC (.lst [])), (eC (.lst []))]) (pE s st (some (dS l))) = .ok (dL (NumText.digitsVal (l.drop 2), [], [])) := by
        have hf : ∀ i : Int, dFlat (.int i) = .ok (.int i) := fun _ => rfl
        simp only [eLst, evL, x_eUn, x_eCall, x_aCons, x_aNil, x_eVar, x_eC, List.getD_cons_succ, List.getD_cons_zero, vD_some, Res.bind_ok, hp, hf]
        rfl
      unfold poH
      rw [app_ok (i := 1) rfl e (by have := f.1; simp [sizeLine]; omega), seqK_next]
      show Px.Flow.next _ = Px.Flow.next (pE s (some (flat st, (NumText.digitsVal (l.drop 2), [], []))) none)
      congr 1
      show _ = [some (dS s), some (.lst ((flat st ++ [_]).map dL)), none, none, none, none, none]
      rw [List.map_append]
      rfl
  · rw [if_neg q1]
    rw [decide_eq_false q1] at k1
    cases st with
    | none =>
      dsimp only
      have k4 : cN (pE s none (some (dS l))) = .ok false := k4
      have b1 : bAnd cN (cS 43) (pE s none (some (dS l))) = .ok false := by rw [x_bAnd, k4, Res.bind_ok, if_neg Bool.false_ne_true]
      have b2 : bAnd cN (bAnd (cS 45) cE) (pE s none (some (dS l))) = .ok false := by rw [x_bAnd, k4, Res.bind_ok, if_neg Bool.false_ne_true]
      refine ⟨pE s none (some (dS l)), ?_⟩
      rw [po_eq, sSeq_x, x_sIf, k1, flow_ok, if_neg Bool.false_ne_true, x_sIf, b1, flow_ok, if_neg Bool.false_ne_true, x_sIf, b2, flow_ok, if_neg Bool.false_ne_true]
      rfl
    | some p =>
      obtain ⟨Q, a, o, n⟩ := p
      dsimp only
      have fl : ((flat (some (Q, (a, o, n)))).map dL) = Q.map dL ++ [.lst [.int (a : Nat), .lst (o.map dS), .lst (n.map dS)]] := by
        show (Q ++ [(a, o, n)]).map dL = _
        rw [List.map_append]
        rfl
      have hg : (pE s (some (Q, (a, o, n))) (some (dS l))).getD 1 none = some (.lst (Q.map dL ++ [.lst [.int (a : Nat), .lst (o.map dS), .lst (n.map dS)]])) := by
        rw [← fl]; rfl
      have k4 : cN (pE s (some (Q, (a, o, n))) (some (dS l))) = .ok true := by
        rw [k4, fl, decide_eq_true]
        rw [List.length_append]
        simp
      have k5 := cE_ok hg
      have hd5 : decide (n.map dS = []) = decide (n = []) := by cases n <;> simp
      rw [hd5] at k5
      obtain ⟨p1, p2⟩ := pl_last2 hg
      have fo : o.length ≤ 1000 := f.2.1
      have fn : n.length ≤ 1000 := f.2.2
      have b1 : bAnd cN (cS 43) (pE s (some (Q, (a, o, n))) (some (dS l))) = .ok (decide (l.take 1 = [43])) := by rw [x_bAnd, k4, Res.bind_ok, if_pos rfl, k2]
      by_cases q2 : l.take 1 = [43]
      · rw [if_pos q2]
        rw [decide_eq_true q2] at b1
        dsimp only
        rw [po_eq, sSeq_x, x_sIf, k1, flow_ok, if_neg Bool.false_ne_true, x_sIf, b1, flow_ok, if_pos rfl]
        unfold poN
        rw [appP_ok p2 kd (by rw [List.length_map]; omega), seqK_next]
        show Px.Flow.next _ = Px.Flow.next (pE s (some (Q, (a, o, n ++ [l.drop 1]))) none)
        congr 1
        show _ = [some (dS s), some (.lst ((Q ++ [(a, o, n ++ [l.drop 1])]).map dL)), none, none, none, none, none]
        have hx : dL (a, o, n ++ [l.drop 1]) = .lst [.int (a : Nat), .lst (o.map dS), .lst (n.map dS ++ [dS (l.drop 1)])] := by
          show D.lst [_, _, .lst ((n ++ [l.drop 1]).map dS)] = _
          rw [List.map_append]
          rfl
        rw [List.map_append, List.map_cons, List.map_nil, hx]
        rfl
      · rw [if_neg q2]
        rw [decide_eq_false q2] at b1
        by_cases q3 : l.take 1 = [45]
        · rw [decide_eq_true q3] at k3
          have b2 : bAnd cN (bAnd (cS 45) cE) (pE s (some (Q, (a, o, n))) (some (dS l))) = .ok (decide (n = [])) := by rw [x_bAnd, k4, Res.bind_ok, if_pos rfl, x_bAnd, k3, Res.bind_ok, if_pos rfl, k5]
          by_cases q4 : n = []
          · rw [if_pos ⟨q3, q4⟩]
            rw [decide_eq_true q4] at b2
            dsimp only
            rw [po_eq, sSeq_x, x_sIf, k1, flow_ok, if_neg Bool.false_ne_true, x_sIf, b1, flow_ok, if_neg Bool.false_ne_true, x_sIf, b2, flow_ok, if_pos rfl]
            unfold poO
            rw [appP_ok p1 kd (by rw [List.length_map]; omega), seqK_next]
            show Px.Flow.next _ = Px.Flow.next (pE s (some (Q, (a, o ++ [l.drop 1], n))) none)
            congr 1
            show _ = [some (dS s), some (.lst ((Q ++ [(a, o ++ [l.drop 1], n)]).map dL)), none, none, none, none, none]
            have hx : dL (a, o ++ [l.drop 1], n) = .lst [.int (a : Nat), .lst (o.map dS ++ [dS (l.drop 1)]), .lst (n.map dS)] := by
              show D.lst [_, .lst ((o ++ [l.drop 1]).map dS), _] = _
              rw [List.map_append]
              rfl
            rw [List.map_append, List.map_cons, List.map_nil, hx]
            rfl
          · rw [if_neg (fun z => q4 z.2)]
            rw [decide_eq_false q4] at b2
            refine ⟨pE s (some (Q, (a, o, n))) (some (dS l)), ?_⟩
            rw [po_eq, sSeq_x, x_sIf, k1, flow_ok, if_neg Bool.false_ne_true, x_sIf, b1, flow_ok, if_neg Bool.false_ne_true, x_sIf, b2, flow_ok, if_neg Bool.false_ne_true]
            rfl
        · rw [if_neg (fun z => q3 z.1)]
          rw [decide_eq_false q3] at k3
          have b2 : bAnd cN (bAnd (cS 45) cE) (pE s (some (Q, (a, o, n))) (some (dS l))) = .ok false := by rw [x_bAnd, k4, Res.bind_ok, if_pos rfl, x_bAnd, k3, Res.bind_ok, if_neg Bool.false_ne_true]
          refine ⟨pE s (some (Q, (a, o, n))) (some (dS l)), ?_⟩
          rw [po_eq, sSeq_x, x_sIf, k1, flow_ok, if_neg Bool.false_ne_true, x_sIf, b1, flow_ok, if_neg Bool.false_ne_true, x_sIf, b2, flow_ok, if_neg Bool.false_ne_true]
          rfl
/-- room for m lines more -/
def Fk (st : St) (m : Nat) : Prop := (flat st).length + m ≤ 1000 ∧ match st with
  | none => True
  | some (_, h) => h.2.1.length + m ≤ 1000 ∧ h.2.2.length + m ≤ 1000
theorem fk_fw {st : St} {m : Nat} (h : Fk st m) : Fw st := by
  refine ⟨by have := h.1; omega, ?_⟩
  cases st with
  | none => trivial
  | some p => exact ⟨by have := h.2.1; omega, by have := h.2.2; omega⟩
theorem fk_stp {st st' : St} {l : T} {m : Nat} (h : Fk st (m + 1)) (e : stp st l = some st') : Fk st' m := by
  unfold stp at e
  split at e
  · split at e
    · cases e
      have := h.1
      refine ⟨?_, by simp; omega, by simp; omega⟩
      show (flat st ++ [_]).length + m ≤ 1000
      rw [List.length_append, List.length_singleton]
      omega
    · cases e
  · split at e
    · cases e
    · rename_i Q a o n
      have h1 : (Q ++ [(a, o, n)]).length + (m + 1) ≤ 1000 := h.1
      have h2 : o.length + (m + 1) ≤ 1000 := h.2.1
      have h3 : n.length + (m + 1) ≤ 1000 := h.2.2
      rw [List.length_append, List.length_singleton] at h1
      split at e
      · cases e
        refine ⟨?_, ?_, ?_⟩
        · show (Q ++ [_]).length + m ≤ 1000
          rw [List.length_append, List.length_singleton]; omega
        · show o.length + m ≤ 1000
          omega
        · show (n ++ [_]).length + m ≤ 1000
          rw [List.length_append, List.length_singleton]; omega
      · split at e
        · cases e
          refine ⟨?_, ?_, ?_⟩
          · show (Q ++ [_]).length + m ≤ 1000
            rw [List.length_append, List.length_singleton]; omega
          · show (o ++ [_]).length + m ≤ 1000
            rw [List.length_append, List.length_singleton]; omega
          · show n.length + m ≤ 1000
            omega
        · cases e
theorem po_run (s : T) : ∀ (ls : List T) (st : St), (∀ l ∈ ls, Lf l ∧ l.length ≤ 400) → Fk st ls.length → match rnn st ls with
    | some st' => forE (gfName 2) B_patch_of_1 (ls.map dS) (pE s st none) = .next (pE s st' none)
    | none => ∃ ρ, forE (gfName 2) B_patch_of_1 (ls.map dS) (pE s st none) = .exc "BadText" ρ := by
  intro ls
  induction ls with
  | nil => intro st _ _; rfl
  | cons l ls ih =>
    intro st hl f
    have h0 := hl l (.head _)
    have stp1 := po_step (s := s) (st := st) h0.1 h0.2 (fk_fw f)
    have hfe : forE (gfName 2) B_patch_of_1 ((l :: ls).map dS) (pE s st none) = loopK (B_patch_of_1 (pE s st (some (dS l)))) (forE (gfName 2) B_patch_of_1 (ls.map dS)) := by
      rw [List.map_cons, forE_cons]
      rfl
    rw [rnn]
    cases e : stp st l with
    | none =>
      rw [e] at stp1
      obtain ⟨ρ, hρ⟩ := stp1
      refine ⟨ρ, ?_⟩
      rw [hfe, hρ]
      rfl
    | some st' =>
      rw [e] at stp1
      dsimp only at stp1
      have := ih st' (fun x hx => hl x (.tail _ hx)) (fk_stp f e)
      rw [hfe, stp1, loopK_next]
      exact this
theorem lns_len {s : T} (h : Sx s) : (lns s).length ≤ 401 := by
  have := spl_len s
  have := h.1
  unfold lns
  split
  · simp
  · omega
theorem lns_eq {s : T} (h : Sx s) (ρ : Px.Env) (h0 : ρ.getD 0 none = some (dS s)) : iSeq (eIf (eUn asB (eOp (dNe) (eVar 0) (eC (dS [])))) (eMS fSplit (eVar 0) (aCons (eC (dS [10])) aNil)) (eC (.lst []))) ρ = .ok ((lns s).map dS) := by
  have e1 := ne_S (a := s) (b := []) ⟨by have := h.1; omega, h.2⟩ ln_nil
  have e2 := split_ok (s := s) (by have := h.1; omega)
  unfold lns
  by_cases q : s = []
  · rw [decide_eq_true q] at e1
    rw [if_pos q]
    simp only [x_iSeq, x_eIf, x_eUn, x_eOp, x_eVar, h0, vD_some, x_eC, Res.bind_ok, e1, asB, Bool.not_true, Bool.false_eq_true, if_false, x_items_l, List.map_nil]
  · rw [decide_eq_false q] at e1
    rw [if_neg q]
    simp only [x_iSeq, x_eIf, x_eUn, x_eOp, x_eVar, h0, vD_some, x_eC, Res.bind_ok, e1, asB, Bool.not_false, if_true, x_eMS, x_asStr, x_aCons, x_aNil, e2, x_items_l]
def outE : Option (List Hk) → Res D
  | some P => .ok (dP P)
  | none => .exc "BadText"
def outD : Option (List Hk) → D
  | some P => dP P
  | none => .non
theorem patchOf_ok {s : T} (h : Sx s) : C_patch_of [dS s] = outE (rd s) := by
  have hr := po_run s (lns s) none (sx_lns h) ⟨by have := lns_len h; show 0 + _ ≤ 1000; omega, trivial⟩
  have hi := lns_eq h (pE s none none) rfl
  unfold C_patch_of F_patch_of
  rw [sEmp, sNl]
  simp only [fnE, startE, List.length_cons, List.length_nil, Nat.reduceAdd, Nat.reduceSub, List.replicate, List.map_cons, List.map_nil, List.cons_append, List.nil_append]
  simp only [sSeq_x, x_sIf, x_bNot, x_eUn, x_eVar, isi_s, k_ss, x_tru_b, vD_some, Res.bind_ok, flow_ok, Bool.not_true, Bool.false_eq_true, if_false, x_sNext, seqK_next, x_sSet, x_eC, List.set_cons_succ, List.set_cons_zero, List.getD_cons_succ, List.getD_cons_zero]
  rw [x_sFor]
  have hi : iSeq (eIf (eUn asB (eOp (dNe) (eVar 0) (eC (dS [])))) (eMS fSplit (eVar 0) (aCons (eC (dS [10])) aNil)) (eC (.lst []))) [some (dS s), some (.lst []), none, none, none, none, none] = .ok ((lns s).map dS) := hi
  rw [hi, flow_ok]
  unfold rd
  cases e : rnn none (lns s) with
  | none =>
    rw [e] at hr
    obtain ⟨ρ, hρ⟩ := hr
    have hρ : forE (gfName 2) B_patch_of_1 ((lns s).map dS) [some (dS s), some (.lst []), none, none, none, none, none] = .exc "BadText" ρ := hρ
    rw [hρ]
    rfl
  | some st =>
    rw [e] at hr
    have hr : forE (gfName 2) B_patch_of_1 ((lns s).map dS) [some (dS s), some (.lst []), none, none, none, none, none] = .next (pE s st none) := hr
    have g : Gk (flat st) := run_gk (sx_lns h) (fun x hx => by cases hx) e
    have hp := isPatch_ok g
    have hc : lcE (gfLst [4, 5, 6]) bYes (eTup (aCons (eVar 4) (aCons (eCall fTuple (aCons (eVar 5) aNil)) (aCons (eCall fTuple (aCons (eVar 6) aNil)) aNil)))) [some (dS s), some (.lst ((flat st).map dL)), none, none, none, none, none] ((flat st).map dL) = .ok ((flat st).map dH) :=
      lc_fun (e := dL) (g := dH) fun x hx => ⟨_, rfl, rfl⟩
    rw [hr]
    simp only [sSeq_x, x_min2, x_max2, x_eRg1, x_eMeth, x_eMake, x_sSet, x_sIf, x_sRet, x_sRetN, x_sPar, x_sUnp, resF_ok, x_sDrop, x_sNext, x_sBreak, x_sCont, x_sRaise, x_sAug, augK_ok, x_sFor, x_sWhile, sKill_x, x_wipe0, x_wipe1, x_evL0, x_evL1, x_setL0, x_setL1, x_eVar, x_eC, x_eOp, x_eUn, x_eCall, x_eMS, x_asStr, x_aNil, x_aCons, x_eTup, x_eLst, x_eIf, x_eNot, x_eAnd, x_eOr, x_bAnd, x_bOr, x_bNot, x_bYes, x_eSl, x_oNone, x_oSome, asI_int, x_iSeq, x_iCall, x_gfName, x_gfTup, eLc, noX_is, Res.bind_ok, Res.bind_exc, flow_ok, flow_exc, seqK_next, seqK_ret, seqK_exc, seqK_brk, seqK_cont, loopK_next, loopK_cont, loopK_brk, loopK_ret, loopK_exc, must_ok, List.set_cons_succ, List.set_cons_zero, List.getD_cons_succ, List.getD_cons_zero, vD_some, if_true, if_false, Bool.false_eq_true, reduceIte, List.map_cons, List.map_nil, List.length_cons, List.length_nil, List.cons_append, List.nil_append, List.replicate, Nat.reduceSub, Nat.reduceAdd, x_add, x_sub, x_cmp, x_eq_ii, x_ne_ii, x_int_i, x_len_t, x_len_l, x_tup_l, x_tup_t, x_list_l, x_list_t, x_dSl_t, x_dSl_l, x_items_t, x_items_l, x_tru_n, x_tru_b, x_tru_i, x_tru_t, x_tru_l, x_asB, x_is_n, x_isNot_n, isNon_n, isNon_i, isNon_s, isNon_t, isNon_l, isNon_b, Bool.not_true, Bool.not_false, List.length_map, fnE, startE, hc, hp]
    cases vld (flat st) with
    | true => rfl
    | false => rfl
/-! ### the law's reader -/
theorem startsw (l p : T) : fStarts (sOf l) [dS p] = .ok (.bl (decide (l.take p.length = p))) := by
  show Res.ok (D.bl (Txt.startswith (sOf l) (sOf p))) = _
  congr 2
  unfold Txt.startswith
  rw [StrLaws.subAt_eq, sOf_len, sOf_len, sOf_cps, sOf_cps, List.drop_zero]
  by_cases h : l.take p.length = p
  · rw [decide_eq_true h, h]
    have := congrArg List.length h
    rw [List.length_take] at this
    rw [decide_eq_true (by omega)]
    simp
  · rw [decide_eq_false h]
    have : (List.take p.length l == p) = false := beq_eq_false_iff_ne.mpr h
    rw [this, Bool.and_false]
theorem put_last {f fj : EF} {ρ : Px.Env} {xs : List D} {c d : D} (h : ρ.getD 1 none = some (.lst (xs ++ [c]))) (hf : f ρ = .ok d) (hj : fj ρ = .ok (.int (-1))) : sPutP 1 (plVar 1) fj f ρ = .next (ρ.set 1 (some (.lst (xs ++ [d])))) := by
  unfold sPutP plVar
  rw [hf]
  show Res.flow (match ρ.getD 1 none with
    | some d => .ok (d, fun x => x)
    | none => .err) ρ _ = _
  rw [h]
  show Res.flow (fj ρ) ρ _ = _
  rw [hj]
  show (match (match ixN (xs ++ [c]).length (-1) with
    | some m => Res.ok (D.lst ((xs ++ [c]).set m d))
    | none => .err) with
    | .ok c => Px.Flow.next (ρ.set 1 (some c))
    | _ => .err) = _
  have e : ixN (xs ++ [c]).length (-1) = some xs.length := by
    rw [List.length_append, List.length_singleton, ixN_last]
  rw [e]
  dsimp only
  rw [List.set_append_right _ _ (Nat.le_refl _), Nat.sub_self]
  rfl
abbrev lE (s : T) (st : St) (l c : Option D) : Px.Env := [some (dS s), some (.lst ((flat st).map dH)), l, c, none]
def rS (p : T) : Px.Env → Res Bool := (eUn dTru (eMS fStarts (eVar 2) (aCons (eC (dS p)) aNil)))
def rE : Px.Env → Res Bool := (eUn asB (eOp (dEq) (eOp dIx (eOp dIx (eVar 1) (eUn dNeg (eC (.int 1)))) (eC (.int 2))) (eTup aNil)))
def rO : SF := (sPutP 1 (plVar 1) (eUn dNeg (eC (.int 1))) (eTup (aCons (eOp dIx (eOp dIx (eVar 1) (eUn dNeg (eC (.int 1)))) (eC (.int 0))) (aCons (eOp dAdd (eOp dIx (eOp dIx (eVar 1) (eUn dNeg (eC (.int 1)))) (eC (.int 1))) (eTup (aCons (eSl (eVar 2) (oSome (eC (.int 1))) oNone) aNil))) (aCons (eTup aNil) aNil)))))
def rN : SF := (sPutP 1 (plVar 1) (eUn dNeg (eC (.int 1))) (eTup (aCons (eOp dIx (eOp dIx (eVar 1) (eUn dNeg (eC (.int 1)))) (eC (.int 0))) (aCons (eOp dIx (eOp dIx (eVar 1) (eUn dNeg (eC (.int 1)))) (eC (.int 1))) (aCons (eOp dAdd (eOp dIx (eOp dIx (eVar 1) (eUn dNeg (eC (.int 1)))) (eC (.int 2))) (eTup (aCons (eSl (eVar 2) (oSome (eC (.int 1))) oNone) aNil))) aNil)))))
def r0 : SF := (sSet 3 (eSl (eVar 2) (oSome (eC (.int 2))) oNone))
def r1 : SF := (sIf (fgT 3 4 (eUn asB (eOp (dEq) (eVar 3) (eC (dS []))))) (sRet (eC .non)) sNext)
def r2 : SF := (sAppend 1 (eTup (aCons (eCall fIntS (aCons (eVar 3) aNil)) (aCons (eTup aNil) (aCons (eTup aNil) aNil)))))
theorem lr_eq : B__law_read_1 = sSeq (sIf (rS [64, 32]) (sSeq r0 (sSeq r1 r2)) (sIf (bAnd cN (bAnd (rS [45]) rE)) rO (sIf (bAnd cN (rS [43])) rN (sRet (eC .non))))) (sKill [2, 3] sNext) := by
  unfold B__law_read_1
  rw [sAt, sPl, sMi, sDig, sZero, sEmp]
  rfl
theorem rS_ok {l : T} (p : T) (ρ : Px.Env) (h2 : ρ.getD 2 none = some (dS l)) : rS p ρ = .ok (decide (l.take p.length = p)) := by
  unfold rS
  simp only [x_eUn, x_eMS, x_eVar, h2, vD_some, x_asStr, x_aCons, x_aNil, x_eC, Res.bind_ok, startsw, x_tru_b]
theorem lr_step {s l : T} {st : St} (hl : Lf l) (hz : l.length ≤ 400) (f : Fw st) (g : Gk (flat st)) : match stp st l with
    | some st' => B__law_read_1 (lE s st (some (dS l)) none) = .next (lE s st' none none)
    | none => B__law_read_1 (lE s st (some (dS l)) none) = .ret .non := by
  have k1 : rS [64, 32] (lE s st (some (dS l)) none) = .ok (decide (l.take 2 = [64, 32])) := rS_ok [64, 32] _ rfl
  have k2 : rS [43] (lE s st (some (dS l)) none) = .ok (decide (l.take 1 = [43])) := rS_ok [43] _ rfl
  have k3 : rS [45] (lE s st (some (dS l)) none) = .ok (decide (l.take 1 = [45])) := rS_ok [45] _ rfl
  have k4 : cN (lE s st (some (dS l)) none) = .ok (decide (0 < ((flat st).map dH).length)) := c_some _ rfl
  have kd := drop_e hl (lE s st (some (dS l)) none) rfl
  unfold stp
  by_cases q1 : l.take 2 = [64, 32]
  · rw [if_pos q1]
    rw [decide_eq_true q1] at k1
    have hd := ln_drop hl.1 2
    have e0 : r0 (lE s st (some (dS l)) none) = .next (lE s st (some (dS l)) (some (dS (l.drop 2)))) := by
      have e1 : dSl (dS l) (some 2) none = .ok (dS (l.drop 2)) := sl_drop hl.1 2
      unfold r0
      simp only [x_sSet, x_eSl, x_eVar, x_oSome, x_oNone, x_eC, List.getD_cons_succ, List.getD_cons_zero, vD_some, Res.bind_ok, asI_int, e1, flow_ok, List.set_cons_succ, List.set_cons_zero]
    have he : (eUn asB (eOp (dEq) (eVar 3) (eC (dS [])))) (lE s st (some (dS l)) (some (dS (l.drop 2)))) = .ok (l.drop 2 == []) := by
      have := eq_S hd ln_nil
      simp only [x_eUn, x_eOp, x_eVar, x_eC, List.getD_cons_succ, List.getD_cons_zero, vD_some, Res.bind_ok, this, asB]
      cases l.drop 2 <;> simp
    have ht := fgT_ok (i := 3) (j := 4) (ρ := lE s st (some (dS l)) (some (dS (l.drop 2)))) hd rfl (show 4 < 5 by decide) he
    cases hb : isDg (l.drop 2) with
    | false =>
      rw [hb] at ht
      rw [if_neg Bool.false_ne_true]
      dsimp only
      rw [lr_eq, sSeq_x, x_sIf, k1, flow_ok, if_pos rfl, sSeq_x, e0, seqK_next, sSeq_x]
      unfold r1
      rw [x_sIf, ht, flow_ok]
      rfl
    | true =>
      rw [hb] at ht
      rw [if_pos rfl]
      dsimp only
      have e3 := int_ok hb (by rw [List.length_drop]; omega)
      have e : (eTup (aCons (eCall fIntS (aCons (eVar 3) aNil)) (aCons (eTup aNil) (aCons (eTup aNil) aNil)))) (lE s st (some (dS l)) (some (dS (l.drop 2)))) = .ok (dH (NumText.digitsVal (l.drop 2), [], [])) := by
        simp only [x_eTup, x_aCons, x_aNil, x_eCall, x_eVar, List.getD_cons_succ, List.getD_cons_zero, vD_some, Res.bind_ok, e3]
        rfl
      rw [lr_eq, sSeq_x, x_sIf, k1, flow_ok, if_pos rfl, sSeq_x, e0, seqK_next, sSeq_x]
      have e1 : r1 (lE s st (some (dS l)) (some (dS (l.drop 2)))) = .next (lE s st (some (dS l)) (some (dS (l.drop 2)))) := by
        unfold r1
        rw [x_sIf, ht, flow_ok]
        rfl
      rw [e1, seqK_next]
      unfold r2
      rw [app_ok (i := 1) rfl e (by have := f.1; simp [sizeLine]; omega), seqK_next]
      show Px.Flow.next _ = Px.Flow.next (lE s (some (flat st, (NumText.digitsVal (l.drop 2), [], []))) none none)
      congr 1
      show _ = [some (dS s), some (.lst ((flat st ++ [_]).map dH)), none, none, none]
      rw [List.map_append]
      rfl
  · rw [if_neg q1]
    rw [decide_eq_false q1] at k1
    cases st with
    | none =>
      dsimp only
      have k4 : cN (lE s none (some (dS l)) none) = .ok false := k4
      have b1 : bAnd cN (rS [43]) (lE s none (some (dS l)) none) = .ok false := by rw [x_bAnd, k4, Res.bind_ok, if_neg Bool.false_ne_true]
      have b2 : bAnd cN (bAnd (rS [45]) rE) (lE s none (some (dS l)) none) = .ok false := by rw [x_bAnd, k4, Res.bind_ok, if_neg Bool.false_ne_true]
      rw [lr_eq, sSeq_x, x_sIf, k1, flow_ok, if_neg Bool.false_ne_true, x_sIf, b2, flow_ok, if_neg Bool.false_ne_true, x_sIf, b1, flow_ok, if_neg Bool.false_ne_true]
      rfl
    | some p =>
      obtain ⟨Q, a, o, n⟩ := p
      dsimp only
      have gh : _ ∧ (∀ l ∈ o, Lf l) ∧ (∀ l ∈ n, Lf l) := g (a, o, n) (List.mem_append_right _ (.head _))
      have fl : ((flat (some (Q, (a, o, n)))).map dH) = Q.map dH ++ [dH (a, o, n)] := by
        show (Q ++ [(a, o, n)]).map dH = _
        rw [List.map_append]
        rfl
      have hg : (lE s (some (Q, (a, o, n))) (some (dS l)) none).getD 1 none = some (.lst (Q.map dH ++ [dH (a, o, n)])) := by
        rw [← fl]; rfl
      have k4 : cN (lE s (some (Q, (a, o, n))) (some (dS l)) none) = .ok true := by
        rw [k4, fl, decide_eq_true]
        rw [List.length_append]
        simp
      have en : dNeg (.int 1) = .ok (.int (-1)) := rfl
      have ei := ix_last (xs := Q.map dH) (c := dH (a, o, n))
      have i0 : dIx (dH (a, o, n)) (.int 0) = .ok (.int (a : Nat)) := rfl
      have i1 : dIx (dH (a, o, n)) (.int 1) = .ok (dTx o) := rfl
      have i2 : dIx (dH (a, o, n)) (.int 2) = .ok (dTx n) := rfl
      have k5 : rE (lE s (some (Q, (a, o, n))) (some (dS l)) none) = .ok (decide (n = [])) := by
        have := eq_Tx (a := n) (b := []) gh.2.2 (fun l hl => by cases hl)
        have : dEq (dTx n) (.tup []) = .ok (.bl (decide (n = []))) := this
        unfold rE
        simp only [x_eUn, x_eOp, x_eVar, hg, vD_some, x_eC, x_eTup, x_aNil, Res.bind_ok, en, ei, i2, this, asB]
      have fo : o.length ≤ 1000 := f.2.1
      have fn : n.length ≤ 1000 := f.2.2
      have b1 : bAnd cN (rS [43]) (lE s (some (Q, (a, o, n))) (some (dS l)) none) = .ok (decide (l.take 1 = [43])) := by rw [x_bAnd, k4, Res.bind_ok, if_pos rfl, k2]
      have b2 : bAnd cN (bAnd (rS [45]) rE) (lE s (some (Q, (a, o, n))) (some (dS l)) none) = .ok (decide (l.take 1 = [45]) && decide (n = [])) := by
        rw [x_bAnd, k4, Res.bind_ok, if_pos rfl, x_bAnd, k3, Res.bind_ok, k5]
        cases decide (l.take 1 = [45]) <;> rfl
      have neg1 : (eUn dNeg (eC (.int 1))) (lE s (some (Q, (a, o, n))) (some (dS l)) none) = .ok (.int (-1)) := rfl
      by_cases q2 : l.take 1 = [43]
      · rw [if_pos q2]
        rw [decide_eq_true q2] at b1
        have q3 : ¬ l.take 1 = [45] := by rw [q2]; decide
        rw [decide_eq_false q3] at b2
        have b2 : bAnd cN (bAnd (rS [45]) rE) (lE s (some (Q, (a, o, n))) (some (dS l)) none) = .ok false := b2
        dsimp only
        have ea : dAdd (dTx n) (.tup [dS (l.drop 1)]) = .ok (dTx (n ++ [l.drop 1])) := by
          show dAdd (.tup _) (.tup _) = _
          rw [x_add_t, if_pos (by rw [List.length_map, sizeLine_eq]; simp; omega), ← List.map_singleton (f := dS), ← List.map_append]
        have hf : (eTup (aCons (eOp dIx (eOp dIx (eVar 1) (eUn dNeg (eC (.int 1)))) (eC (.int 0))) (aCons (eOp dIx (eOp dIx (eVar 1) (eUn dNeg (eC (.int 1)))) (eC (.int 1))) (aCons (eOp dAdd (eOp dIx (eOp dIx (eVar 1) (eUn dNeg (eC (.int 1)))) (eC (.int 2))) (eTup (aCons (eSl (eVar 2) (oSome (eC (.int 1))) oNone) aNil))) aNil)))) (lE s (some (Q, (a, o, n))) (some (dS l)) none) = .ok (dH (a, o, n ++ [l.drop 1])) := by
          simp only [x_eTup, x_aCons, x_aNil, x_eOp, x_eUn, x_eVar, hg, vD_some, x_eC, Res.bind_ok, en, ei, i0, i1, i2, kd, ea]
        rw [lr_eq, sSeq_x, x_sIf, k1, flow_ok, if_neg Bool.false_ne_true, x_sIf, b2, flow_ok, if_neg Bool.false_ne_true, x_sIf, b1, flow_ok, if_pos rfl]
        unfold rN
        rw [put_last hg hf neg1, seqK_next]
        show Px.Flow.next _ = Px.Flow.next (lE s (some (Q, (a, o, n ++ [l.drop 1]))) none none)
        congr 1
        show _ = [some (dS s), some (.lst ((Q ++ [(a, o, n ++ [l.drop 1])]).map dH)), none, none, none]
        rw [List.map_append]
        rfl
      · rw [if_neg q2]
        rw [decide_eq_false q2] at b1
        by_cases q3 : l.take 1 = [45] ∧ n = []
        · rw [if_pos q3]
          rw [decide_eq_true q3.1, decide_eq_true q3.2] at b2
          have b2 : bAnd cN (bAnd (rS [45]) rE) (lE s (some (Q, (a, o, n))) (some (dS l)) none) = .ok true := b2
          dsimp only
          obtain ⟨_, q4⟩ := q3
          subst q4
          have ea : dAdd (dTx o) (.tup [dS (l.drop 1)]) = .ok (dTx (o ++ [l.drop 1])) := by
            show dAdd (.tup _) (.tup _) = _
            rw [x_add_t, if_pos (by rw [List.length_map, sizeLine_eq]; simp; omega), ← List.map_singleton (f := dS), ← List.map_append]
          have hf : (eTup (aCons (eOp dIx (eOp dIx (eVar 1) (eUn dNeg (eC (.int 1)))) (eC (.int 0))) (aCons (eOp dAdd (eOp dIx (eOp dIx (eVar 1) (eUn dNeg (eC (.int 1)))) (eC (.int 1))) (eTup (aCons (eSl (eVar 2) (oSome (eC (.int 1))) oNone) aNil))) (aCons (eTup aNil) aNil)))) (lE s (some (Q, (a, o, []))) (some (dS l)) none) = .ok (dH (a, o ++ [l.drop 1], [])) := by
            simp only [x_eTup, x_aCons, x_aNil, x_eOp, x_eUn, x_eVar, hg, vD_some, x_eC, Res.bind_ok, en, ei, i0, i1, i2, kd, ea]
            rfl
          rw [lr_eq, sSeq_x, x_sIf, k1, flow_ok, if_neg Bool.false_ne_true, x_sIf, b2, flow_ok, if_pos rfl]
          unfold rO
          rw [put_last hg hf neg1, seqK_next]
          show Px.Flow.next _ = Px.Flow.next (lE s (some (Q, (a, o ++ [l.drop 1], []))) none none)
          congr 1
          show _ = [some (dS s), some (.lst ((Q ++ [(a, o ++ [l.drop 1], [])]).map dH)), none, none, none]
          rw [List.map_append]
          rfl
        · rw [if_neg q3]
          have b2 : bAnd cN (bAnd (rS [45]) rE) (lE s (some (Q, (a, o, n))) (some (dS l)) none) = .ok false := by
            rw [b2]
            by_cases q5 : l.take 1 = [45]
            · rw [decide_eq_true q5, decide_eq_false (fun z => q3 ⟨q5, z⟩)]; rfl
            · rw [decide_eq_false q5]; rfl
          dsimp only
          rw [lr_eq, sSeq_x, x_sIf, k1, flow_ok, if_neg Bool.false_ne_true, x_sIf, b2, flow_ok, if_neg Bool.false_ne_true, x_sIf, b1, flow_ok, if_neg Bool.false_ne_true]
          rfl
theorem gk_stp {st st' : St} {l : T} (hl : Lf l ∧ l.length ≤ 400) (g : Gk (flat st)) (e : stp st l = some st') : Gk (flat st') := stp_gk hl.1 hl.2 g e
theorem lr_run (s : T) : ∀ (ls : List T) (st : St), (∀ l ∈ ls, Lf l ∧ l.length ≤ 400) → Fk st ls.length → Gk (flat st) → match rnn st ls with
    | some st' => forE (gfName 2) B__law_read_1 (ls.map dS) (lE s st none none) = .next (lE s st' none none)
    | none => forE (gfName 2) B__law_read_1 (ls.map dS) (lE s st none none) = .ret .non := by
  intro ls
  induction ls with
  | nil => intro st _ _ _; rfl
  | cons l ls ih =>
    intro st hl f g
    have h0 := hl l (.head _)
    have stp1 := lr_step (s := s) (st := st) h0.1 h0.2 (fk_fw f) g
    have hfe : forE (gfName 2) B__law_read_1 ((l :: ls).map dS) (lE s st none none) = loopK (B__law_read_1 (lE s st (some (dS l)) none)) (forE (gfName 2) B__law_read_1 (ls.map dS)) := by
      rw [List.map_cons, forE_cons]
      rfl
    rw [rnn]
    cases e : stp st l with
    | none =>
      rw [e] at stp1
      dsimp only at stp1 ⊢
      rw [hfe, stp1]
      rfl
    | some st' =>
      rw [e] at stp1
      dsimp only at stp1
      have := ih st' (fun x hx => hl x (.tail _ hx)) (fk_stp f e) (gk_stp h0 g e)
      rw [hfe, stp1, loopK_next]
      exact this
theorem lawRead_ok {s : T} (h : Sx s) : C__law_read [dS s] = .ok (outD (rd s)) := by
  have hr := lr_run s (lns s) none (sx_lns h) ⟨by have := lns_len h; show 0 + _ ≤ 1000; omega, trivial⟩ (fun x hx => by cases hx)
  have hi := lns_eq h (lE s none none none) rfl
  unfold C__law_read F__law_read
  rw [sEmp, sNl]
  simp only [fnE, startE, List.length_cons, List.length_nil, Nat.reduceAdd, Nat.reduceSub, List.replicate, List.map_cons, List.map_nil, List.cons_append, List.nil_append]
  simp only [sSeq_x, x_sSet, x_eC, flow_ok, seqK_next, List.set_cons_succ, List.set_cons_zero]
  rw [x_sFor]
  have hi : iSeq (eIf (eUn asB (eOp (dNe) (eVar 0) (eC (dS [])))) (eMS fSplit (eVar 0) (aCons (eC (dS [10])) aNil)) (eC (.lst []))) [some (dS s), some (.lst []), none, none, none] = .ok ((lns s).map dS) := hi
  rw [hi, flow_ok]
  unfold rd
  cases e : rnn none (lns s) with
  | none =>
    rw [e] at hr
    have hr : forE (gfName 2) B__law_read_1 ((lns s).map dS) [some (dS s), some (.lst []), none, none, none] = .ret .non := hr
    rw [hr]
    rfl
  | some st =>
    rw [e] at hr
    have hr : forE (gfName 2) B__law_read_1 ((lns s).map dS) [some (dS s), some (.lst []), none, none, none] = .next (lE s st none none) := hr
    have g : Gk (flat st) := run_gk (sx_lns h) (fun x hx => by cases hx) e
    have hp := lisPatch_ok g
    rw [hr]
    simp only [sSeq_x, x_min2, x_max2, x_eRg1, x_eMeth, x_eMake, x_sSet, x_sIf, x_sRet, x_sRetN, x_sPar, x_sUnp, resF_ok, x_sDrop, x_sNext, x_sBreak, x_sCont, x_sRaise, x_sAug, augK_ok, x_sFor, x_sWhile, sKill_x, x_wipe0, x_wipe1, x_evL0, x_evL1, x_setL0, x_setL1, x_eVar, x_eC, x_eOp, x_eUn, x_eCall, x_eMS, x_asStr, x_aNil, x_aCons, x_eTup, x_eLst, x_eIf, x_eNot, x_eAnd, x_eOr, x_bAnd, x_bOr, x_bNot, x_bYes, x_eSl, x_oNone, x_oSome, asI_int, x_iSeq, x_iCall, x_gfName, x_gfTup, eLc, noX_is, Res.bind_ok, Res.bind_exc, flow_ok, flow_exc, seqK_next, seqK_ret, seqK_exc, seqK_brk, seqK_cont, loopK_next, loopK_cont, loopK_brk, loopK_ret, loopK_exc, must_ok, List.set_cons_succ, List.set_cons_zero, List.getD_cons_succ, List.getD_cons_zero, vD_some, if_true, if_false, Bool.false_eq_true, reduceIte, List.map_cons, List.map_nil, List.length_cons, List.length_nil, List.cons_append, List.nil_append, List.replicate, Nat.reduceSub, Nat.reduceAdd, x_add, x_sub, x_cmp, x_eq_ii, x_ne_ii, x_int_i, x_len_t, x_len_l, x_tup_l, x_tup_t, x_list_l, x_list_t, x_dSl_t, x_dSl_l, x_items_t, x_items_l, x_tru_n, x_tru_b, x_tru_i, x_tru_t, x_tru_l, x_asB, x_is_n, x_isNot_n, isNon_n, isNon_i, isNon_s, isNon_t, isNon_l, isNon_b, Bool.not_true, Bool.not_false, List.length_map, fnE, startE, hp]
    cases vld (flat st) with
    | true => rfl
    | false => rfl
theorem lbad : (Str.ofString "BadText") ∈ [Str.ofString "BadPatch", Str.ofString "BadText"] := by decide +kernel
theorem lbad2 : (Str.ofString "BadText") ∈ [Str.ofString "BadText"] := by decide +kernel
theorem told_ok {s : T} (h : Sx s) : C__law_told [dS s] = .ok (outD (rd s)) := by
  have e := patchOf_ok h
  unfold C__law_told F__law_told
  cases hr : rd s with
  | some P =>
    rw [hr] at e
    have e : C_patch_of [dS s] = .ok (dP P) := e
    simp only [sSeq_x, x_min2, x_max2, x_eRg1, x_eMeth, x_eMake, x_sSet, x_sIf, x_sRet, x_sRetN, x_sPar, x_sUnp, resF_ok, x_sDrop, x_sNext, x_sBreak, x_sCont, x_sRaise, x_sAug, augK_ok, x_sFor, x_sWhile, sKill_x, x_wipe0, x_wipe1, x_evL0, x_evL1, x_setL0, x_setL1, x_eVar, x_eC, x_eOp, x_eUn, x_eCall, x_eMS, x_asStr, x_aNil, x_aCons, x_eTup, x_eLst, x_eIf, x_eNot, x_eAnd, x_eOr, x_bAnd, x_bOr, x_bNot, x_bYes, x_eSl, x_oNone, x_oSome, asI_int, x_iSeq, x_iCall, x_gfName, x_gfTup, eLc, noX_is, Res.bind_ok, Res.bind_exc, flow_ok, flow_exc, seqK_next, seqK_ret, seqK_exc, seqK_brk, seqK_cont, loopK_next, loopK_cont, loopK_brk, loopK_ret, loopK_exc, must_ok, List.set_cons_succ, List.set_cons_zero, List.getD_cons_succ, List.getD_cons_zero, vD_some, if_true, if_false, Bool.false_eq_true, reduceIte, List.map_cons, List.map_nil, List.length_cons, List.length_nil, List.cons_append, List.nil_append, List.replicate, Nat.reduceSub, Nat.reduceAdd, x_add, x_sub, x_cmp, x_eq_ii, x_ne_ii, x_int_i, x_len_t, x_len_l, x_tup_l, x_tup_t, x_list_l, x_list_t, x_dSl_t, x_dSl_l, x_items_t, x_items_l, x_tru_n, x_tru_b, x_tru_i, x_tru_t, x_tru_l, x_asB, x_is_n, x_isNot_n, isNon_n, isNon_i, isNon_s, isNon_t, isNon_l, isNon_b, Bool.not_true, Bool.not_false, List.length_map, fnE, startE, startE, sTry, e]
    rfl
  | none =>
    rw [hr] at e
    have e : C_patch_of [dS s] = .exc "BadText" := e
    simp only [sSeq_x, x_min2, x_max2, x_eRg1, x_eMeth, x_eMake, x_sSet, x_sIf, x_sRet, x_sRetN, x_sPar, x_sUnp, resF_ok, x_sDrop, x_sNext, x_sBreak, x_sCont, x_sRaise, x_sAug, augK_ok, x_sFor, x_sWhile, sKill_x, x_wipe0, x_wipe1, x_evL0, x_evL1, x_setL0, x_setL1, x_eVar, x_eC, x_eOp, x_eUn, x_eCall, x_eMS, x_asStr, x_aNil, x_aCons, x_eTup, x_eLst, x_eIf, x_eNot, x_eAnd, x_eOr, x_bAnd, x_bOr, x_bNot, x_bYes, x_eSl, x_oNone, x_oSome, asI_int, x_iSeq, x_iCall, x_gfName, x_gfTup, eLc, noX_is, Res.bind_ok, Res.bind_exc, flow_ok, flow_exc, seqK_next, seqK_ret, seqK_exc, seqK_brk, seqK_cont, loopK_next, loopK_cont, loopK_brk, loopK_ret, loopK_exc, must_ok, List.set_cons_succ, List.set_cons_zero, List.getD_cons_succ, List.getD_cons_zero, vD_some, if_true, if_false, Bool.false_eq_true, reduceIte, List.map_cons, List.map_nil, List.length_cons, List.length_nil, List.cons_append, List.nil_append, List.replicate, Nat.reduceSub, Nat.reduceAdd, x_add, x_sub, x_cmp, x_eq_ii, x_ne_ii, x_int_i, x_len_t, x_len_l, x_tup_l, x_tup_t, x_list_l, x_list_t, x_dSl_t, x_dSl_l, x_items_t, x_items_l, x_tru_n, x_tru_b, x_tru_i, x_tru_t, x_tru_l, x_asB, x_is_n, x_isNot_n, isNon_n, isNon_i, isNon_s, isNon_t, isNon_l, isNon_b, Bool.not_true, Bool.not_false, List.length_map, fnE, startE, startE, sTry, e, if_pos lbad, pick, if_pos lbad2, sNx]
    rfl
/-! ### a bent text -/
theorem x_dSl_s {s : T} (h : s.length ≤ 1000) (a b : Option Int) : dSl (dS s) a b = .ok (dS (cut s a b)) := s_sl s a b (by omega)
def sgs : List T := [[48], [49], [45], [43], [64, 32], [10], [64, 32, 51], [43, 120], [45, 120], [97], [64, 32, 48, 49], [64], [10, 43], [10, 45]]
theorem sgs_eq : (D.lst [.str "0", .str "1", .str "-", .str "+", .str "@ ", .str "\n", .str "@ 3", .str "+x", .str "-x", .str "a", .str "@ 01", .str "@", .str "\n+", .str "\n-"]) = .lst (sgs.map dS) := by kernel_rfl
theorem sgs_ok : ∀ g ∈ sgs, g.length ≤ 4 ∧ ∀ c ∈ g, c < 0x110000 := by decide +kernel
theorem bent_ok {s : T} (h : s.length ≤ 190) (hc : ∀ c ∈ s, c < 0x110000) {d0 d1 d2 : Nat} {r : List Nat} : ∃ b : T, Sx b ∧ C__law_bent [dS s, .lst ((d0 :: d1 :: d2 :: r).map dN)] = .ok (dS b) := by
  have hL : fLen [dS s] = .ok (.int (s.length : Nat)) := s_len s (by omega)
  have i0 : dIx (.lst ((d0 :: d1 :: d2 :: r).map dN)) (.int 0) = .ok (dN d0) := dIx_lm (n := 0) rfl
  have i1 : dIx (.lst ((d0 :: d1 :: d2 :: r).map dN)) (.int 1) = .ok (dN d1) := dIx_lm (n := 1) rfl
  have i2 : dIx (.lst ((d0 :: d1 :: d2 :: r).map dN)) (.int 2) = .ok (dN d2) := dIx_lm (n := 2) rfl
  have f0 : ∀ n : Nat, fInt [dN n] = .ok (dN n) := fun n => x_int_i _
  have m0 : dMod (dN d0) (.int ((s.length : Int) + 1)) = .ok (.int ((d0 % (s.length + 1) : Nat) : Int)) := x_mod _ _ (by omega)
  have m1 : dMod (dN d1) (.int 4) = .ok (.int ((d1 % 4 : Nat) : Int)) := x_mod _ _ (by omega)
  have m2 : dMod (dN d2) (.int 14) = .ok (.int ((d2 % 14 : Nat) : Int)) := x_mod _ _ (by omega)
  have hk : d0 % (s.length + 1) ≤ s.length := by have := Nat.mod_lt d0 (show 0 < s.length + 1 by omega); omega
  generalize d0 % (s.length + 1) = k at m0 hk
  have h14 : d2 % 14 < sgs.length := Nat.mod_lt _ (by decide)
  have hg : dIx (.lst (sgs.map dS)) (.int ((d2 % 14 : Nat) : Int)) = .ok (dS sgs[d2 % 14]) := dIx_lm (n := d2 % 14) (List.getElem?_eq_getElem h14)
  have hgo := sgs_ok _ (List.getElem_mem h14)
  generalize sgs[d2 % 14] = g at hg hgo
  have t1 : dSl (dS s) none (some (k : Int)) = .ok (dS (s.take k)) := by rw [x_dSl_s (by omega), cut_hi]
  have t2 : dSl (dS s) (some (k : Int)) none = .ok (dS (s.drop k)) := by rw [x_dSl_s (by omega), cut_lo]
  have t3 : dSl (dS s) (some ((k : Int) + 1)) none = .ok (dS (s.drop (k + 1))) := by
    have := cut_lo s (k + 1)
    rw [x_dSl_s (by omega)]
    rw [← this]
    rfl
  have l1 : (s.take k).length ≤ 190 := by rw [List.length_take]; omega
  have l2 : (s.drop k).length ≤ 190 := by rw [List.length_drop]; omega
  have l3 : (s.drop (k + 1)).length ≤ 190 := by rw [List.length_drop]; omega
  have c1 : ∀ c ∈ s.take k, c < 0x110000 := fun c h => hc c (List.mem_of_mem_take h)
  have c2 : ∀ c ∈ s.drop k, c < 0x110000 := fun c h => hc c (List.mem_of_mem_drop h)
  have c3 : ∀ c ∈ s.drop (k + 1), c < 0x110000 := fun c h => hc c (List.mem_of_mem_drop h)
  have a1 := s_add (s.take k) (s.drop (k + 1)) (by omega)
  have a2 := s_add (s.take k) g (by omega)
  have a3 := s_add (s.take k ++ g) (s.drop k) (by rw [List.length_append]; omega)
  have a4 := s_add (s.take k ++ g) (s.drop (k + 1)) (by rw [List.length_append]; omega)
  have a5 := s_add s [10] (by simp; omega)
  have a6 := s_add (s ++ [10]) (s.take k) (by rw [List.length_append, List.length_singleton]; omega)
  have app : ∀ a b : T, (∀ c ∈ a, c < 0x110000) → (∀ c ∈ b, c < 0x110000) → ∀ c ∈ a ++ b, c < 0x110000 := fun a b ha hb c h => (List.mem_append.mp h).elim (ha c) (hb c)
  have hb : ∃ b : T, Sx b ∧ (if d1 % 4 = 0 then b = s.take k ++ s.drop (k + 1) else if d1 % 4 = 1 then b = s.take k ++ g ++ s.drop k else if d1 % 4 = 2 then b = s.take k ++ g ++ s.drop (k + 1) else b = s ++ [10] ++ s.take k) := by
    by_cases q0 : d1 % 4 = 0
    · exact ⟨s.take k ++ s.drop (k + 1), ⟨by rw [List.length_append]; omega, app _ _ c1 c3⟩, by rw [if_pos q0]⟩
    by_cases q1 : d1 % 4 = 1
    · exact ⟨s.take k ++ g ++ s.drop k, ⟨by rw [List.length_append, List.length_append]; omega, app _ _ (app _ _ c1 hgo.2) c2⟩, by rw [if_neg q0, if_pos q1]⟩
    by_cases q2 : d1 % 4 = 2
    · exact ⟨s.take k ++ g ++ s.drop (k + 1), ⟨by rw [List.length_append, List.length_append]; omega, app _ _ (app _ _ c1 hgo.2) c3⟩, by rw [if_neg q0, if_neg q1, if_pos q2]⟩
    · exact ⟨s ++ [10] ++ s.take k, ⟨by rw [List.length_append, List.length_append, List.length_singleton]; omega, app _ _ (app _ _ hc (fun c h => by rw [List.mem_singleton.mp h]; decide)) c1⟩, by rw [if_neg q0, if_neg q1, if_neg q2]⟩
  obtain ⟨b, hS, hb⟩ := hb
  refine ⟨b, hS, ?_⟩
  unfold C__law_bent F__law_bent
  have hs0 : sSet 2 (eLst (aCons (eC (.str "0")) (aCons (eC (.str "1")) (aCons (eC (.str "-")) (aCons (eC (.str "+")) (aCons (eC (.str "@ ")) (aCons (eC (.str "\n")) (aCons (eC (.str "@ 3")) (aCons (eC (.str "+x")) (aCons (eC (.str "-x")) (aCons (eC (.str "a")) (aCons (eC (.str "@ 01")) (aCons (eC (.str "@")) (aCons (eC (.str "\n+")) (aCons (eC (.str "\n-")) aNil))))))))))))))) (startE 6 [dS s, .lst ((d0 :: d1 :: d2 :: r).map dN)]) = .next [some (dS s), some (.lst ((d0 :: d1 :: d2 :: r).map dN)), some (.lst (sgs.map dS)), none, none, none] := by
    rw [← sgs_eq]
    rfl
  have em1 : ((d1 % 4 : Nat) : Int) = ((d1 % 4 : Nat) : Int) := rfl
  have hv : d1 % 4 < 4 := by omega
  generalize d1 % 4 = v at m1 hb hv
  have hs1 : sPar [3, 4, 5] [(eOp dMod (eCall fInt (aCons (eOp dIx (eVar 1) (eC (.int 0))) aNil)) (eOp dAdd (eCall fLen (aCons (eVar 0) aNil)) (eC (.int 1)))), (eOp dMod (eCall fInt (aCons (eOp dIx (eVar 1) (eC (.int 1))) aNil)) (eC (.int 4))), (eOp dIx (eVar 2) (eOp dMod (eCall fInt (aCons (eOp dIx (eVar 1) (eC (.int 2))) aNil)) (eC (.int 14))))]
      [some (dS s), some (.lst ((d0 :: d1 :: d2 :: r).map dN)), some (.lst (sgs.map dS)), none, none, none] = .next [some (dS s), some (.lst ((d0 :: d1 :: d2 :: r).map dN)), some (.lst (sgs.map dS)), some (dN k), some (.int (v : Nat)), some (dS g)] := by
    simp only [x_sPar, x_evL0, x_evL1, x_setL0, x_setL1, x_eOp, x_eCall, x_aCons, x_aNil, x_eVar, x_eC, List.getD_cons_succ, List.getD_cons_zero, vD_some, Res.bind_ok, i0, i1, i2, f0, hL, x_add, m0, m1, m2, hg, flow_ok, List.set_cons_succ, List.set_cons_zero]
  show fnE 6 _ [dS s, .lst ((d0 :: d1 :: d2 :: r).map dN)] = _
  unfold fnE
  rw [sSeq_x, hs0, seqK_next, sSeq_x, hs1, seqK_next]
  rw [sNl]
  have a5 : dAdd (dS s) (dS [10]) = .ok (dS (s ++ [10])) := a5
  match v, hv with
  | 0, _ =>
    have hb : b = s.take k ++ s.drop (k + 1) := hb
    subst hb
    have z0 : (((0 : Nat) : Int) == 0) = true := rfl
    simp only [sSeq_x, x_min2, x_max2, x_eRg1, x_eMeth, x_eMake, x_sSet, x_sIf, x_sRet, x_sRetN, x_sPar, x_sUnp, resF_ok, x_sDrop, x_sNext, x_sBreak, x_sCont, x_sRaise, x_sAug, augK_ok, x_sFor, x_sWhile, sKill_x, x_wipe0, x_wipe1, x_evL0, x_evL1, x_setL0, x_setL1, x_eVar, x_eC, x_eOp, x_eUn, x_eCall, x_eMS, x_asStr, x_aNil, x_aCons, x_eTup, x_eLst, x_eIf, x_eNot, x_eAnd, x_eOr, x_bAnd, x_bOr, x_bNot, x_bYes, x_eSl, x_oNone, x_oSome, asI_int, x_iSeq, x_iCall, x_gfName, x_gfTup, eLc, noX_is, Res.bind_ok, Res.bind_exc, flow_ok, flow_exc, seqK_next, seqK_ret, seqK_exc, seqK_brk, seqK_cont, loopK_next, loopK_cont, loopK_brk, loopK_ret, loopK_exc, must_ok, List.set_cons_succ, List.set_cons_zero, List.getD_cons_succ, List.getD_cons_zero, vD_some, if_true, if_false, Bool.false_eq_true, reduceIte, List.map_cons, List.map_nil, List.length_cons, List.length_nil, List.cons_append, List.nil_append, List.replicate, Nat.reduceSub, Nat.reduceAdd, x_add, x_sub, x_cmp, x_eq_ii, x_ne_ii, x_int_i, x_len_t, x_len_l, x_tup_l, x_tup_t, x_list_l, x_list_t, x_dSl_t, x_dSl_l, x_items_t, x_items_l, x_tru_n, x_tru_b, x_tru_i, x_tru_t, x_tru_l, x_asB, x_is_n, x_isNot_n, isNon_n, isNon_i, isNon_s, isNon_t, isNon_l, isNon_b, Bool.not_true, Bool.not_false, List.length_map, fnE, startE, x_eq_ii, t1, t3, a1, z0]
  | 1, _ =>
    have hb : b = s.take k ++ g ++ s.drop k := hb
    subst hb
    have z0 : (((1 : Nat) : Int) == 0) = false := rfl
    have z1 : (((1 : Nat) : Int) == 1) = true := rfl
    simp only [sSeq_x, x_min2, x_max2, x_eRg1, x_eMeth, x_eMake, x_sSet, x_sIf, x_sRet, x_sRetN, x_sPar, x_sUnp, resF_ok, x_sDrop, x_sNext, x_sBreak, x_sCont, x_sRaise, x_sAug, augK_ok, x_sFor, x_sWhile, sKill_x, x_wipe0, x_wipe1, x_evL0, x_evL1, x_setL0, x_setL1, x_eVar, x_eC, x_eOp, x_eUn, x_eCall, x_eMS, x_asStr, x_aNil, x_aCons, x_eTup, x_eLst, x_eIf, x_eNot, x_eAnd, x_eOr, x_bAnd, x_bOr, x_bNot, x_bYes, x_eSl, x_oNone, x_oSome, asI_int, x_iSeq, x_iCall, x_gfName, x_gfTup, eLc, noX_is, Res.bind_ok, Res.bind_exc, flow_ok, flow_exc, seqK_next, seqK_ret, seqK_exc, seqK_brk, seqK_cont, loopK_next, loopK_cont, loopK_brk, loopK_ret, loopK_exc, must_ok, List.set_cons_succ, List.set_cons_zero, List.getD_cons_succ, List.getD_cons_zero, vD_some, if_true, if_false, Bool.false_eq_true, reduceIte, List.map_cons, List.map_nil, List.length_cons, List.length_nil, List.cons_append, List.nil_append, List.replicate, Nat.reduceSub, Nat.reduceAdd, x_add, x_sub, x_cmp, x_eq_ii, x_ne_ii, x_int_i, x_len_t, x_len_l, x_tup_l, x_tup_t, x_list_l, x_list_t, x_dSl_t, x_dSl_l, x_items_t, x_items_l, x_tru_n, x_tru_b, x_tru_i, x_tru_t, x_tru_l, x_asB, x_is_n, x_isNot_n, isNon_n, isNon_i, isNon_s, isNon_t, isNon_l, isNon_b, Bool.not_true, Bool.not_false, List.length_map, fnE, startE, x_eq_ii, t1, t2, a2, a3, z0, z1]
  | 2, _ =>
    have hb : b = s.take k ++ g ++ s.drop (k + 1) := hb
    subst hb
    have z0 : (((2 : Nat) : Int) == 0) = false := rfl
    have z1 : (((2 : Nat) : Int) == 1) = false := rfl
    have z2 : (((2 : Nat) : Int) == 2) = true := rfl
    simp only [sSeq_x, x_min2, x_max2, x_eRg1, x_eMeth, x_eMake, x_sSet, x_sIf, x_sRet, x_sRetN, x_sPar, x_sUnp, resF_ok, x_sDrop, x_sNext, x_sBreak, x_sCont, x_sRaise, x_sAug, augK_ok, x_sFor, x_sWhile, sKill_x, x_wipe0, x_wipe1, x_evL0, x_evL1, x_setL0, x_setL1, x_eVar, x_eC, x_eOp, x_eUn, x_eCall, x_eMS, x_asStr, x_aNil, x_aCons, x_eTup, x_eLst, x_eIf, x_eNot, x_eAnd, x_eOr, x_bAnd, x_bOr, x_bNot, x_bYes, x_eSl, x_oNone, x_oSome, asI_int, x_iSeq, x_iCall, x_gfName, x_gfTup, eLc, noX_is, Res.bind_ok, Res.bind_exc, flow_ok, flow_exc, seqK_next, seqK_ret, seqK_exc, seqK_brk, seqK_cont, loopK_next, loopK_cont, loopK_brk, loopK_ret, loopK_exc, must_ok, List.set_cons_succ, List.set_cons_zero, List.getD_cons_succ, List.getD_cons_zero, vD_some, if_true, if_false, Bool.false_eq_true, reduceIte, List.map_cons, List.map_nil, List.length_cons, List.length_nil, List.cons_append, List.nil_append, List.replicate, Nat.reduceSub, Nat.reduceAdd, x_add, x_sub, x_cmp, x_eq_ii, x_ne_ii, x_int_i, x_len_t, x_len_l, x_tup_l, x_tup_t, x_list_l, x_list_t, x_dSl_t, x_dSl_l, x_items_t, x_items_l, x_tru_n, x_tru_b, x_tru_i, x_tru_t, x_tru_l, x_asB, x_is_n, x_isNot_n, isNon_n, isNon_i, isNon_s, isNon_t, isNon_l, isNon_b, Bool.not_true, Bool.not_false, List.length_map, fnE, startE, x_eq_ii, t1, t3, a2, a4, z0, z1, z2]
  | 3, _ =>
    have hb : b = s ++ [10] ++ s.take k := hb
    subst hb
    have z0 : (((3 : Nat) : Int) == 0) = false := rfl
    have z1 : (((3 : Nat) : Int) == 1) = false := rfl
    have z2 : (((3 : Nat) : Int) == 2) = false := rfl
    simp only [sSeq_x, x_min2, x_max2, x_eRg1, x_eMeth, x_eMake, x_sSet, x_sIf, x_sRet, x_sRetN, x_sPar, x_sUnp, resF_ok, x_sDrop, x_sNext, x_sBreak, x_sCont, x_sRaise, x_sAug, augK_ok, x_sFor, x_sWhile, sKill_x, x_wipe0, x_wipe1, x_evL0, x_evL1, x_setL0, x_setL1, x_eVar, x_eC, x_eOp, x_eUn, x_eCall, x_eMS, x_asStr, x_aNil, x_aCons, x_eTup, x_eLst, x_eIf, x_eNot, x_eAnd, x_eOr, x_bAnd, x_bOr, x_bNot, x_bYes, x_eSl, x_oNone, x_oSome, asI_int, x_iSeq, x_iCall, x_gfName, x_gfTup, eLc, noX_is, Res.bind_ok, Res.bind_exc, flow_ok, flow_exc, seqK_next, seqK_ret, seqK_exc, seqK_brk, seqK_cont, loopK_next, loopK_cont, loopK_brk, loopK_ret, loopK_exc, must_ok, List.set_cons_succ, List.set_cons_zero, List.getD_cons_succ, List.getD_cons_zero, vD_some, if_true, if_false, Bool.false_eq_true, reduceIte, List.map_cons, List.map_nil, List.length_cons, List.length_nil, List.cons_append, List.nil_append, List.replicate, Nat.reduceSub, Nat.reduceAdd, x_add, x_sub, x_cmp, x_eq_ii, x_ne_ii, x_int_i, x_len_t, x_len_l, x_tup_l, x_tup_t, x_list_l, x_list_t, x_dSl_t, x_dSl_l, x_items_t, x_items_l, x_tru_n, x_tru_b, x_tru_i, x_tru_t, x_tru_l, x_asB, x_is_n, x_isNot_n, isNon_n, isNon_i, isNon_s, isNon_t, isNon_l, isNon_b, Bool.not_true, Bool.not_false, List.length_map, fnE, startE, x_eq_ii, t1, a5, a6, z0, z1, z2]
/-! ### drawn texts and patches (of single signs) -/
abbrev Hunk := Int × List Nat × List Nat
abbrev Patch := List Hunk
def hEnd (h : Hunk) : Int := h.1 + h.2.1.length
def Ch : Int → Patch → Prop
  | _, [] => True
  | lo, h :: r => lo < h.1 ∧ Ch (hEnd h) r
abbrev lnD (c : Nat) : D := .str (sOf [c])
abbrev txD (t : List Nat) : D := .tup (t.map lnD)
abbrev hkD (h : Hunk) : D := .tup [.int h.1, txD h.2.1, txD h.2.2]
abbrev ptD (P : Patch) : D := .tup (P.map hkD)
def LOk (t : List Nat) : Prop := ∀ c ∈ t, 97 ≤ c ∧ c ≤ 122
theorem ln_okN {k c : Nat} (h : 97 ≤ c ∧ c ≤ 122) : okN k (lnD c) = true := by
  rw [ok_str, s_ok]
  simp
  omega
theorem tx_okN {k : Nat} {t : List Nat} (h : LOk t) : okN (k + 1) (txD t) = true := okN_tup fun x hx => by
  obtain ⟨c, hc, rfl⟩ := List.mem_map.mp hx
  exact ln_okN (h c hc)
theorem tx_eqD (a b : List Nat) : eqD (txD a) (txD b) = decide (a = b) := by
  rw [eqD, eqDL_map (f := lnD)]
  intro x y
  rw [s_eqD]
  simp
theorem tx_ne {a b : List Nat} (ha : LOk a) (hb : LOk b) : dNe (txD a) (txD b) = .ok (.bl (!decide (a = b))) := by
  unfold dNe
  rw [tx_okN ha, tx_okN hb, tx_eqD]
  rfl
theorem tx_len (t : List Nat) : fLen [txD t] = .ok (.int t.length) := by rw [x_len_t, List.length_map]
def fit1 (t : List Nat) (h : Hunk) : Bool := decide (hEnd h ≤ t.length) && decide ((t.drop h.1.toNat).take h.2.1.length = h.2.1)
/-! ### what is drawn -/
def abN (n : Nat) : Nat := [97, 98, 99, 120, 121, 122].getD n 97
theorem ab_ok (n : Nat) : 97 ≤ abN n ∧ abN n ≤ 122 := by
  unfold abN
  match n with
  | 0 | 1 | 2 | 3 | 4 | 5 => exact ⟨by decide, by decide⟩
  | n + 6 =>
    have e : [97, 98, 99, 120, 121, 122].getD (n + 6) 97 = 97 := rfl
    rw [e]
    exact ⟨by decide, by decide⟩
theorem abc5 {n : Nat} (h : n < 5) : dIx (.str "abcxy") (.int (n : Nat)) = .ok (lnD (abN n)) := by
  match n, h with
  | 0, _ => kernel_rfl
  | 1, _ => kernel_rfl
  | 2, _ => kernel_rfl
  | 3, _ => kernel_rfl
  | 4, _ => kernel_rfl
theorem abc6 {n : Nat} (h : n < 6) : dIx (.str "abcxyz") (.int (n : Nat)) = .ok (lnD (abN n)) := by
  match n, h with
  | 0, _ => kernel_rfl
  | 1, _ => kernel_rfl
  | 2, _ => kernel_rfl
  | 3, _ => kernel_rfl
  | 4, _ => kernel_rfl
  | 5, _ => kernel_rfl
theorem dr_ix {ds : List Nat} {n : Nat} (h : n < ds.length) : dIx (.lst (ds.map dN)) (.int (n : Nat)) = .ok (dN (ds.getD n 0)) := by
  rw [List.getD_eq_getElem?_getD, List.getElem?_eq_getElem h]
  exact dIx_lm (List.getElem?_eq_getElem h)
theorem ltext_ok (ds : List Nat) (a most : Nat) (hl : a + 1 + most < ds.length) (hm : most ≤ 100) : ∃ t : List Nat, t.length ≤ most ∧ LOk t ∧ C__law_text [.lst (ds.map dN), dN a, dN most] = .ok (txD t) := by
  have i0 := dr_ix (ds := ds) (n := a) (by omega)
  have hpos : (0 : Int) < (most : Int) + 1 := by omega
  have em : ((ds.getD a 0 : Nat) : Int) % ((most : Int) + 1) = ((ds.getD a 0 % (most + 1) : Nat) : Int) := by simp
  have hs : ds.getD a 0 % (most + 1) ≤ most := by have := Nat.mod_lt (ds.getD a 0) (show 0 < most + 1 by omega); omega
  generalize ds.getD a 0 % (most + 1) = s at em hs
  have e0 := dRng1_nat s (by omega)
  refine ⟨(List.range s).map fun k => abN (ds.getD (a + 1 + k) 0 % 5), by simp; omega, fun c hc => ?_, ?_⟩
  · obtain ⟨k, _, rfl⟩ := List.mem_map.mp hc
    exact ab_ok _
  · have hb := lc_fun (gf := gfName 3) (f := eOp dIx (eC (.str "abcxy")) (eOp dMod (eCall fInt (aCons (eOp dIx (eVar 0) (eOp dAdd (eOp dAdd (eVar 1) (eC (.int 1))) (eVar 3))) aNil)) (eC (.int 5)))) (ρ := [some (.lst (ds.map dN)), some (dN a), some (dN most), none])
      (e := fun i : Nat => D.int (i : Nat)) (g := fun k => lnD (abN (ds.getD (a + 1 + k) 0 % 5))) (xs := List.range s) fun k hk => ⟨_, rfl, by
        have hk := List.mem_range.mp hk
        have i1 : dIx (.lst (ds.map dN)) (.int ((a : Int) + 1 + k)) = .ok (dN (ds.getD (a + 1 + k) 0)) := dr_ix (n := a + 1 + k) (by omega)
        have hx := abc5 (n := ds.getD (a + 1 + k) 0 % 5) (by omega)
        simp only [Int.natCast_emod, Int.cast_ofNat_Int] at hx
        simp only [sSeq_x, x_min2, x_max2, x_eRg1, x_eMeth, x_eMake, x_sSet, x_sIf, x_sRet, x_sRetN, x_sPar, x_sUnp, resF_ok, x_sDrop, x_sNext, x_sBreak, x_sCont, x_sRaise, x_sAug, augK_ok, x_sFor, x_sWhile, sKill_x, x_wipe0, x_wipe1, x_evL0, x_evL1, x_setL0, x_setL1, x_eVar, x_eC, x_eOp, x_eUn, x_eCall, x_eMS, x_asStr, x_aNil, x_aCons, x_eTup, x_eLst, x_eIf, x_eNot, x_eAnd, x_eOr, x_bAnd, x_bOr, x_bNot, x_bYes, x_eSl, x_oNone, x_oSome, asI_int, x_iSeq, x_iCall, x_gfName, x_gfTup, eLc, noX_is, Res.bind_ok, Res.bind_exc, flow_ok, flow_exc, seqK_next, seqK_ret, seqK_exc, seqK_brk, seqK_cont, loopK_next, loopK_cont, loopK_brk, loopK_ret, loopK_exc, must_ok, List.set_cons_succ, List.set_cons_zero, List.getD_cons_succ, List.getD_cons_zero, vD_some, if_true, if_false, Bool.false_eq_true, reduceIte, List.map_cons, List.map_nil, List.length_cons, List.length_nil, List.cons_append, List.nil_append, List.replicate, Nat.reduceSub, Nat.reduceAdd, x_add, x_sub, x_cmp, x_eq_ii, x_ne_ii, x_int_i, x_len_t, x_len_l, x_tup_l, x_tup_t, x_list_l, x_list_t, x_dSl_t, x_dSl_l, x_items_t, x_items_l, x_tru_n, x_tru_b, x_tru_i, x_tru_t, x_tru_l, x_asB, x_is_n, x_isNot_n, isNon_n, isNon_i, isNon_s, isNon_t, isNon_l, isNon_b, Bool.not_true, Bool.not_false, List.length_map, fnE, startE, i1, x_mod _ 5 (by decide), hx]⟩
    simp only [sSeq_x, x_min2, x_max2, x_eRg1, x_eMeth, x_eMake, x_sSet, x_sIf, x_sRet, x_sRetN, x_sPar, x_sUnp, resF_ok, x_sDrop, x_sNext, x_sBreak, x_sCont, x_sRaise, x_sAug, augK_ok, x_sFor, x_sWhile, sKill_x, x_wipe0, x_wipe1, x_evL0, x_evL1, x_setL0, x_setL1, x_eVar, x_eC, x_eOp, x_eUn, x_eCall, x_eMS, x_asStr, x_aNil, x_aCons, x_eTup, x_eLst, x_eIf, x_eNot, x_eAnd, x_eOr, x_bAnd, x_bOr, x_bNot, x_bYes, x_eSl, x_oNone, x_oSome, asI_int, x_iSeq, x_iCall, x_gfName, x_gfTup, eLc, noX_is, Res.bind_ok, Res.bind_exc, flow_ok, flow_exc, seqK_next, seqK_ret, seqK_exc, seqK_brk, seqK_cont, loopK_next, loopK_cont, loopK_brk, loopK_ret, loopK_exc, must_ok, List.set_cons_succ, List.set_cons_zero, List.getD_cons_succ, List.getD_cons_zero, vD_some, if_true, if_false, Bool.false_eq_true, reduceIte, List.map_cons, List.map_nil, List.length_cons, List.length_nil, List.cons_append, List.nil_append, List.replicate, Nat.reduceSub, Nat.reduceAdd, x_add, x_sub, x_cmp, x_eq_ii, x_ne_ii, x_int_i, x_len_t, x_len_l, x_tup_l, x_tup_t, x_list_l, x_list_t, x_dSl_t, x_dSl_l, x_items_t, x_items_l, x_tru_n, x_tru_b, x_tru_i, x_tru_t, x_tru_l, x_asB, x_is_n, x_isNot_n, isNon_n, isNon_i, isNon_s, isNon_t, isNon_l, isNon_b, Bool.not_true, Bool.not_false, List.length_map, fnE, startE, C__law_text, F__law_text, i0, x_mod _ _ hpos, em, e0, hb]
    rw [txD, List.map_map]
    rfl
theorem lnew_ok (v : Nat) {j : Nat} (hj : j < 3) : (do let b ← dIx (.lst [.int 1, .int 6, .int 36]) (.int (j : Nat)); dDiv (.int (v : Nat)) b) = .ok (dN (v / [1, 6, 36].getD j 1)) := by
  match j, hj with
  | 0, _ => rfl
  | 1, _ => rfl
  | 2, _ => rfl
theorem ne_of_D {a b : List Nat} (ha : LOk a) (hb : LOk b) : dNe (txD a) (txD b) = .ok (.bl (!decide (a = b))) := tx_ne ha hb
theorem ch_snoc : ∀ {P : Patch} {lo : Int} {h : Hunk}, Ch lo P → lo < h.1 → (∀ p ∈ P, hEnd p < h.1) → Ch lo (P ++ [h])
  | [], lo, h, _, hl, _ => ⟨hl, trivial⟩
  | p :: P, lo, h, c, hl, a => ⟨c.1, ch_snoc c.2 (a p List.mem_cons_self) fun q hq => a q (List.mem_cons_of_mem _ hq)⟩
/-- so far: found, the place -/
structure Dr (t : List Nat) (P : Patch) (pl : Nat) (k : Nat) : Prop where
  ch : Ch (-1) P
  ne : ∀ h ∈ P, h.2.1 ≠ h.2.2
  ln : ∀ h ∈ P, LOk h.2.1 ∧ LOk h.2.2
  sz : ∀ h ∈ P, h.2.1.length ≤ 2 ∧ h.2.2.length ≤ 2
  few : P.length ≤ k
  bel : ∀ h ∈ P, hEnd h < pl
  fit : ∀ h ∈ P, fit1 t h = true
theorem lp_step (ds t : List Nat) (ht : LOk t) (hd : ∀ d ∈ ds, d < 65521) (hl : t.length ≤ 10000) (a most : Nat) (P : Patch) (pl k : Nat) (ha : a + 5 + 4 * k < ds.length) (hk : k ≤ 10) (h : Dr t P pl k) (g1 g2 g3 : Option D) :
    ∃ P' pl', Dr t P' pl' (k + 1) ∧ B__law_patch_1 [some (.lst (ds.map dN)), some (dN a), some (txD t), some (dN most), some (.lst (P.map hkD)), some (dN pl), some (dN k), none, none, none] = .next [some (.lst (ds.map dN)), some (dN a), some (txD t), some (dN most), some (.lst (P'.map hkD)), some (dN pl'), none, none, none, none] := by
  have m4 : mulOk 4 (k : Int) = true := mulOk_l _ _ (by decide)
  have i2 : dIx (.lst (ds.map dN)) (.int ((a : Int) + 2 + 4 * k)) = .ok (dN (ds.getD (a + 2 + 4 * k) 0)) := dr_ix (n := a + 2 + 4 * k) (by omega)
  have i3 : dIx (.lst (ds.map dN)) (.int ((a : Int) + 3 + 4 * k)) = .ok (dN (ds.getD (a + 3 + 4 * k) 0)) := dr_ix (n := a + 3 + 4 * k) (by omega)
  have i4 : dIx (.lst (ds.map dN)) (.int ((a : Int) + 4 + 4 * k)) = .ok (dN (ds.getD (a + 4 + 4 * k) 0)) := dr_ix (n := a + 4 + 4 * k) (by omega)
  have i5 : dIx (.lst (ds.map dN)) (.int ((a : Int) + 5 + 4 * k)) = .ok (dN (ds.getD (a + 5 + 4 * k) 0)) := dr_ix (n := a + 5 + 4 * k) (by omega)
  generalize ds.getD (a + 2 + 4 * k) 0 = d2 at i2
  generalize ds.getD (a + 3 + 4 * k) 0 = d3 at i3
  generalize ds.getD (a + 4 + 4 * k) 0 = d4 at i4
  generalize ds.getD (a + 5 + 4 * k) 0 = d5 at i5
  have ec : cut (t.map lnD) (some (pl : Int)) (some ((pl : Int) + (d2 : Int) % 3)) = ((t.drop pl).take (d2 % 3)).map lnD := by
    have := cut_lh (t.map lnD) pl (pl + d2 % 3)
    rw [show pl + d2 % 3 - pl = d2 % 3 by omega] at this
    rw [List.map_take, List.map_drop, ← this]
    simp
  have e4 : ((d4 : Int) % 3) = ((d4 % 3 : Nat) : Int) := by omega
  have e5 : ((pl : Int) + 1 + (d5 : Int) % 3) = ((pl + 1 + d5 % 3 : Nat) : Int) := by omega
  have h43 : d4 % 3 < 3 := by omega
  generalize d4 % 3 = m at e4 h43
  have e0 := dRng1_nat m (by omega)
  have hold : LOk ((t.drop pl).take (d2 % 3)) := fun c hc => ht c (List.mem_of_mem_drop (List.mem_of_mem_take hc))
  generalize hO : (t.drop pl).take (d2 % 3) = o at ec hold
  obtain ⟨nw, hnw, lnw, eN⟩ : ∃ nw : List Nat, LOk nw ∧ nw.length ≤ 2 ∧ ∀ ρ9 : Px.Env, ρ9 = [some (.lst (ds.map dN)), some (dN a), some (txD t), some (dN most), some (.lst (P.map hkD)), some (dN pl), some (dN k), some (txD o), none, none] →
      lcE (gfName 9) bYes (eOp dIx (eC (.str "abcxyz")) (eOp dMod (eOp dDiv (eCall fInt (aCons (eOp dIx (eVar 0) (eOp dAdd (eOp dAdd (eVar 1) (eC (.int 3))) (eOp dMul (eC (.int 4)) (eVar 6)))) aNil)) (eOp dIx (eLst (aCons (eC (.int 1)) (aCons (eC (.int 6)) (aCons (eC (.int 36)) aNil)))) (eVar 9))) (eC (.int 6)))) ρ9 ((List.range m).map fun i => .int (i : Nat)) = .ok (nw.map lnD) := by
    refine ⟨(List.range m).map fun j => abN (d3 / [1, 6, 36].getD j 1 % 6), fun c hc => ?_, by simp; omega, fun ρ9 h9 => ?_⟩
    · obtain ⟨j, _, rfl⟩ := List.mem_map.mp hc
      exact ab_ok _
    · subst h9
      rw [List.map_map]
      refine lc_fun (e := fun i : Nat => D.int (i : Nat)) (g := fun j => lnD (abN (d3 / [1, 6, 36].getD j 1 % 6))) fun j hj => ⟨_, rfl, ?_⟩
      have hj := List.mem_range.mp hj
      have ln := lnew_ok d3 (j := j) (by omega)
      have hx := abc6 (n := d3 / [1, 6, 36].getD j 1 % 6) (by omega)
      simp only [Int.natCast_emod, Int.cast_ofNat_Int] at hx
      cases q : dIx (.lst [.int 1, .int 6, .int 36]) (.int (j : Nat)) with
      | ok b =>
        rw [q, Res.bind_ok] at ln
        simp only [sSeq_x, x_min2, x_max2, x_eRg1, x_eMeth, x_eMake, x_sSet, x_sIf, x_sRet, x_sRetN, x_sPar, x_sUnp, resF_ok, x_sDrop, x_sNext, x_sBreak, x_sCont, x_sRaise, x_sAug, augK_ok, x_sFor, x_sWhile, sKill_x, x_wipe0, x_wipe1, x_evL0, x_evL1, x_setL0, x_setL1, x_eVar, x_eC, x_eOp, x_eUn, x_eCall, x_eMS, x_asStr, x_aNil, x_aCons, x_eTup, x_eLst, x_eIf, x_eNot, x_eAnd, x_eOr, x_bAnd, x_bOr, x_bNot, x_bYes, x_eSl, x_oNone, x_oSome, asI_int, x_iSeq, x_iCall, x_gfName, x_gfTup, eLc, noX_is, Res.bind_ok, Res.bind_exc, flow_ok, flow_exc, seqK_next, seqK_ret, seqK_exc, seqK_brk, seqK_cont, loopK_next, loopK_cont, loopK_brk, loopK_ret, loopK_exc, must_ok, List.set_cons_succ, List.set_cons_zero, List.getD_cons_succ, List.getD_cons_zero, vD_some, if_true, if_false, Bool.false_eq_true, reduceIte, List.map_cons, List.map_nil, List.length_cons, List.length_nil, List.cons_append, List.nil_append, List.replicate, Nat.reduceSub, Nat.reduceAdd, x_add, x_sub, x_cmp, x_eq_ii, x_ne_ii, x_int_i, x_len_t, x_len_l, x_tup_l, x_tup_t, x_list_l, x_list_t, x_dSl_t, x_dSl_l, x_items_t, x_items_l, x_tru_n, x_tru_b, x_tru_i, x_tru_t, x_tru_l, x_asB, x_is_n, x_isNot_n, isNon_n, isNon_i, isNon_s, isNon_t, isNon_l, isNon_b, Bool.not_true, Bool.not_false, List.length_map, fnE, startE, dMul_i _ _ m4, i3, q, ln, x_mod _ 6 (by decide), hx]
      | exc c => rw [q] at ln; cases ln
      | err => rw [q] at ln; cases ln
  have eN := eN _ rfl
  have hne := tx_ne hold hnw
  have lenO : o.length ≤ 2 := by rw [← hO, List.length_take]; omega
  by_cases hp : pl ≤ t.length
  · have z1 : iLe (pl : Int) (t.length : Int) = true := decide_eq_true (by omega)
    by_cases hq : o = nw
    · rw [decide_eq_true hq] at hne
      refine ⟨P, pl + 1 + d5 % 3, ⟨h.ch, h.ne, h.ln, h.sz, by have := h.few; omega, fun x hx => by have := h.bel x hx; omega, h.fit⟩, ?_⟩
      simp only [sSeq_x, x_min2, x_max2, x_eRg1, x_eMeth, x_eMake, x_sSet, x_sIf, x_sRet, x_sRetN, x_sPar, x_sUnp, resF_ok, x_sDrop, x_sNext, x_sBreak, x_sCont, x_sRaise, x_sAug, augK_ok, x_sFor, x_sWhile, sKill_x, x_wipe0, x_wipe1, x_evL0, x_evL1, x_setL0, x_setL1, x_eVar, x_eC, x_eOp, x_eUn, x_eCall, x_eMS, x_asStr, x_aNil, x_aCons, x_eTup, x_eLst, x_eIf, x_eNot, x_eAnd, x_eOr, x_bAnd, x_bOr, x_bNot, x_bYes, x_eSl, x_oNone, x_oSome, asI_int, x_iSeq, x_iCall, x_gfName, x_gfTup, eLc, noX_is, Res.bind_ok, Res.bind_exc, flow_ok, flow_exc, seqK_next, seqK_ret, seqK_exc, seqK_brk, seqK_cont, loopK_next, loopK_cont, loopK_brk, loopK_ret, loopK_exc, must_ok, List.set_cons_succ, List.set_cons_zero, List.getD_cons_succ, List.getD_cons_zero, vD_some, if_true, if_false, Bool.false_eq_true, reduceIte, List.map_cons, List.map_nil, List.length_cons, List.length_nil, List.cons_append, List.nil_append, List.replicate, Nat.reduceSub, Nat.reduceAdd, x_add, x_sub, x_cmp, x_eq_ii, x_ne_ii, x_int_i, x_len_t, x_len_l, x_tup_l, x_tup_t, x_list_l, x_list_t, x_dSl_t, x_dSl_l, x_items_t, x_items_l, x_tru_n, x_tru_b, x_tru_i, x_tru_t, x_tru_l, x_asB, x_is_n, x_isNot_n, isNon_n, isNon_i, isNon_s, isNon_t, isNon_l, isNon_b, Bool.not_true, Bool.not_false, List.length_map, fnE, startE, B__law_patch_1, dMul_i _ _ m4, i2, i4, i5, x_mod _ 3 (by decide), ec, e4, e0, eN, tx_len, z1, hne, e5]
    · rw [decide_eq_false hq] at hne
      have lenO2 : (pl : Int) + o.length ≤ t.length := by rw [← hO, List.length_take, List.length_drop]; omega
      refine ⟨P ++ [((pl : Int), o, nw)], pl + o.length + 1 + d5 % 3, ⟨ch_snoc h.ch (by dsimp only; omega) (fun p hp => h.bel p hp), ?_, ?_, ?_, by rw [List.length_append, List.length_singleton]; have := h.few; omega, ?_, ?_⟩, ?_⟩
      · intro x hx
        rcases List.mem_append.mp hx with hx | hx
        · exact h.ne x hx
        · rw [List.mem_singleton.mp hx]; exact hq
      · intro x hx
        rcases List.mem_append.mp hx with hx | hx
        · exact h.ln x hx
        · rw [List.mem_singleton.mp hx]; exact ⟨hold, hnw⟩
      · intro x hx
        rcases List.mem_append.mp hx with hx | hx
        · exact h.sz x hx
        · rw [List.mem_singleton.mp hx]; exact ⟨lenO, lnw⟩
      · intro x hx
        rcases List.mem_append.mp hx with hx | hx
        · have := h.bel x hx; omega
        · rw [List.mem_singleton.mp hx]; unfold hEnd; dsimp only; omega
      · intro x hx
        rcases List.mem_append.mp hx with hx | hx
        · exact h.fit x hx
        · rw [List.mem_singleton.mp hx]
          unfold fit1 hEnd
          dsimp only
          rw [decide_eq_true lenO2, decide_eq_true]
          · rfl
          · rw [Int.toNat_natCast]
            rw [← hO, List.length_take, List.length_drop]
            have : min (d2 % 3) (t.length - pl) ≤ d2 % 3 := by omega
            rw [List.take_eq_take_iff, List.length_drop]
            omega
      · have hl2 : P.length < 16777216 := by have := h.few; omega
        have e5' : ((pl : Int) + (o.length : Int) + 1 + (d5 : Int) % 3) = ((pl + o.length + 1 + d5 % 3 : Nat) : Int) := by omega
        simp only [sSeq_x, x_min2, x_max2, x_eRg1, x_eMeth, x_eMake, x_sSet, x_sIf, x_sRet, x_sRetN, x_sPar, x_sUnp, resF_ok, x_sDrop, x_sNext, x_sBreak, x_sCont, x_sRaise, x_sAug, augK_ok, x_sFor, x_sWhile, sKill_x, x_wipe0, x_wipe1, x_evL0, x_evL1, x_setL0, x_setL1, x_eVar, x_eC, x_eOp, x_eUn, x_eCall, x_eMS, x_asStr, x_aNil, x_aCons, x_eTup, x_eLst, x_eIf, x_eNot, x_eAnd, x_eOr, x_bAnd, x_bOr, x_bNot, x_bYes, x_eSl, x_oNone, x_oSome, asI_int, x_iSeq, x_iCall, x_gfName, x_gfTup, eLc, noX_is, Res.bind_ok, Res.bind_exc, flow_ok, flow_exc, seqK_next, seqK_ret, seqK_exc, seqK_brk, seqK_cont, loopK_next, loopK_cont, loopK_brk, loopK_ret, loopK_exc, must_ok, List.set_cons_succ, List.set_cons_zero, List.getD_cons_succ, List.getD_cons_zero, vD_some, if_true, if_false, Bool.false_eq_true, reduceIte, List.map_cons, List.map_nil, List.length_cons, List.length_nil, List.cons_append, List.nil_append, List.replicate, Nat.reduceSub, Nat.reduceAdd, x_add, x_sub, x_cmp, x_eq_ii, x_ne_ii, x_int_i, x_len_t, x_len_l, x_tup_l, x_tup_t, x_list_l, x_list_t, x_dSl_t, x_dSl_l, x_items_t, x_items_l, x_tru_n, x_tru_b, x_tru_i, x_tru_t, x_tru_l, x_asB, x_is_n, x_isNot_n, isNon_n, isNon_i, isNon_s, isNon_t, isNon_l, isNon_b, Bool.not_true, Bool.not_false, List.length_map, fnE, startE, B__law_patch_1, dMul_i _ _ m4, i2, i4, i5, x_mod _ 3 (by decide), ec, e4, e0, eN, tx_len, z1, hne, sAppend, sl_eq, hl2, e5', List.map_append]
  · have z1 : iLe (pl : Int) (t.length : Int) = false := decide_eq_false (by omega)
    refine ⟨P, pl + 1 + d5 % 3, ⟨h.ch, h.ne, h.ln, h.sz, by have := h.few; omega, fun x hx => by have := h.bel x hx; omega, h.fit⟩, ?_⟩
    simp only [sSeq_x, x_min2, x_max2, x_eRg1, x_eMeth, x_eMake, x_sSet, x_sIf, x_sRet, x_sRetN, x_sPar, x_sUnp, resF_ok, x_sDrop, x_sNext, x_sBreak, x_sCont, x_sRaise, x_sAug, augK_ok, x_sFor, x_sWhile, sKill_x, x_wipe0, x_wipe1, x_evL0, x_evL1, x_setL0, x_setL1, x_eVar, x_eC, x_eOp, x_eUn, x_eCall, x_eMS, x_asStr, x_aNil, x_aCons, x_eTup, x_eLst, x_eIf, x_eNot, x_eAnd, x_eOr, x_bAnd, x_bOr, x_bNot, x_bYes, x_eSl, x_oNone, x_oSome, asI_int, x_iSeq, x_iCall, x_gfName, x_gfTup, eLc, noX_is, Res.bind_ok, Res.bind_exc, flow_ok, flow_exc, seqK_next, seqK_ret, seqK_exc, seqK_brk, seqK_cont, loopK_next, loopK_cont, loopK_brk, loopK_ret, loopK_exc, must_ok, List.set_cons_succ, List.set_cons_zero, List.getD_cons_succ, List.getD_cons_zero, vD_some, if_true, if_false, Bool.false_eq_true, reduceIte, List.map_cons, List.map_nil, List.length_cons, List.length_nil, List.cons_append, List.nil_append, List.replicate, Nat.reduceSub, Nat.reduceAdd, x_add, x_sub, x_cmp, x_eq_ii, x_ne_ii, x_int_i, x_len_t, x_len_l, x_tup_l, x_tup_t, x_list_l, x_list_t, x_dSl_t, x_dSl_l, x_items_t, x_items_l, x_tru_n, x_tru_b, x_tru_i, x_tru_t, x_tru_l, x_asB, x_is_n, x_isNot_n, isNon_n, isNon_i, isNon_s, isNon_t, isNon_l, isNon_b, Bool.not_true, Bool.not_false, List.length_map, fnE, startE, B__law_patch_1, dMul_i _ _ m4, i2, i4, i5, x_mod _ 3 (by decide), ec, e4, e0, eN, tx_len, z1, e5]
theorem lpatch_ok (ds t : List Nat) (ht : LOk t) (hd : ∀ d ∈ ds, d < 65521) (hl : t.length ≤ 10000) (a most : Nat) (ha : a + 5 + 4 * most < ds.length) (hm : most ≤ 4) : ∃ (P : Patch) (pl : Nat), Dr t P pl 4 ∧ C__law_patch [.lst (ds.map dN), dN a, txD t, dN most] = .ok (ptD P) := by
  have i0 := dr_ix (ds := ds) (n := a) (by omega)
  have i1 : dIx (.lst (ds.map dN)) (.int ((a : Int) + 1)) = .ok (dN (ds.getD (a + 1) 0)) := dr_ix (n := a + 1) (by omega)
  have hpos : (0 : Int) < (most : Int) + 1 := by omega
  have em : ((ds.getD (a + 1) 0 : Nat) : Int) % ((most : Int) + 1) = ((ds.getD (a + 1) 0 % (most + 1) : Nat) : Int) := by simp
  have hs : ds.getD (a + 1) 0 % (most + 1) ≤ most := by have := Nat.mod_lt (ds.getD (a + 1) 0) (show 0 < most + 1 by omega); omega
  generalize ds.getD (a + 1) 0 % (most + 1) = s at em hs
  have e3 : ((ds.getD a 0 : Nat) : Int) % 3 = ((ds.getD a 0 % 3 : Nat) : Int) := by omega
  generalize ds.getD a 0 % 3 = pl0 at e3
  have e0 := dRng1_nat s (by omega)
  obtain ⟨ρ, f, P, pl, dr, rfl⟩ := for_inv (gf := gfName 6) (F := B__law_patch_1) (ds := (List.range s).map fun i => D.int (i : Nat)) (n := 0) (ρ := [some (.lst (ds.map dN)), some (dN a), some (txD t), some (dN most), some (.lst []), some (dN pl0), none, none, none, none])
    (P := fun k ρ => ∃ P pl, Dr t P pl k ∧ ρ = [some (.lst (ds.map dN)), some (dN a), some (txD t), some (dN most), some (.lst (P.map hkD)), some (dN pl), none, none, none, none])
    ⟨[], pl0, ⟨trivial, fun h hh => (nomatch hh), fun h hh => (nomatch hh), fun h hh => (nomatch hh), by simp, fun h hh => (nomatch hh), fun h hh => (nomatch hh)⟩, rfl⟩ (fun i d hi ρ hp => by
      obtain ⟨P, pl, dr, rfl⟩ := hp
      have hi2 : i < s := by have := (List.getElem?_eq_some_iff.mp hi).1; simpa using this
      have hd2 : d = dN i := by
        rw [List.getElem?_map, List.getElem?_range hi2] at hi
        exact (Option.some.inj hi).symm
      subst hd2
      rw [Nat.zero_add] at dr ⊢
      obtain ⟨P', pl', dr', e⟩ := lp_step ds t ht hd hl a most P pl i (by omega) (by omega) dr none none none
      exact ⟨_, _, rfl, .inl e, P', pl', dr', rfl⟩)
  have few : P.length ≤ 4 := by have := dr.few; simp at this; omega
  refine ⟨P, pl, ⟨dr.ch, dr.ne, dr.ln, dr.sz, few, dr.bel, dr.fit⟩, ?_⟩
  simp only [sSeq_x, x_min2, x_max2, x_eRg1, x_eMeth, x_eMake, x_sSet, x_sIf, x_sRet, x_sRetN, x_sPar, x_sUnp, resF_ok, x_sDrop, x_sNext, x_sBreak, x_sCont, x_sRaise, x_sAug, augK_ok, x_sFor, x_sWhile, sKill_x, x_wipe0, x_wipe1, x_evL0, x_evL1, x_setL0, x_setL1, x_eVar, x_eC, x_eOp, x_eUn, x_eCall, x_eMS, x_asStr, x_aNil, x_aCons, x_eTup, x_eLst, x_eIf, x_eNot, x_eAnd, x_eOr, x_bAnd, x_bOr, x_bNot, x_bYes, x_eSl, x_oNone, x_oSome, asI_int, x_iSeq, x_iCall, x_gfName, x_gfTup, eLc, noX_is, Res.bind_ok, Res.bind_exc, flow_ok, flow_exc, seqK_next, seqK_ret, seqK_exc, seqK_brk, seqK_cont, loopK_next, loopK_cont, loopK_brk, loopK_ret, loopK_exc, must_ok, List.set_cons_succ, List.set_cons_zero, List.getD_cons_succ, List.getD_cons_zero, vD_some, if_true, if_false, Bool.false_eq_true, reduceIte, List.map_cons, List.map_nil, List.length_cons, List.length_nil, List.cons_append, List.nil_append, List.replicate, Nat.reduceSub, Nat.reduceAdd, x_add, x_sub, x_cmp, x_eq_ii, x_ne_ii, x_int_i, x_len_t, x_len_l, x_tup_l, x_tup_t, x_list_l, x_list_t, x_dSl_t, x_dSl_l, x_items_t, x_items_l, x_tru_n, x_tru_b, x_tru_i, x_tru_t, x_tru_l, x_asB, x_is_n, x_isNot_n, isNon_n, isNon_i, isNon_s, isNon_t, isNon_l, isNon_b, Bool.not_true, Bool.not_false, List.length_map, fnE, startE, C__law_patch, F__law_patch, i0, i1, x_mod _ 3 (by decide), x_mod _ _ hpos, em, e3, e0, f]
/-! ### drawn hunks with strange lines -/
def cv1 (h : Hunk) : Hk := (h.1.toNat, h.2.1.map (fun c => [c]), h.2.2.map (fun c => [c]))
theorem tx_cv (t : List Nat) : txD t = dTx (t.map fun c => [c]) := by
  show D.tup (t.map lnD) = D.tup ((t.map fun c => [c]).map dS)
  rw [List.map_map]
  rfl
theorem hk_cv {h : Hunk} (h0 : 0 ≤ h.1) : hkD h = dH (cv1 h) := by
  show D.tup [.int h.1, txD h.2.1, txD h.2.2] = D.tup [.int ((h.1.toNat : Nat) : Int), dTx _, dTx _]
  rw [tx_cv, tx_cv, Int.toNat_of_nonneg h0]
  rfl
theorem ch_ge : ∀ {P : Patch} {lo : Int}, Ch lo P → ∀ h ∈ P, lo < h.1
  | h :: r, lo, c, p, hp => by
    rcases List.mem_cons.mp hp with rfl | hp
    · exact c.1
    · have h1 := ch_ge c.2 p hp
      have h2 := c.1
      unfold hEnd at h1
      omega
theorem pt_cv {P : Patch} (c : Ch (-1) P) : ptD P = dP (P.map cv1) := by
  show D.tup (P.map hkD) = D.tup ((P.map cv1).map dH)
  rw [List.map_map]
  congr 1
  exact List.map_congr_left fun h hh => hk_cv (by have := ch_ge c h hh; omega)
theorem chn_cv : ∀ {P : Patch} {lo : Int}, -1 ≤ lo → Ch lo P → chn (P.map cv1) = true
  | [], _, _, _ => rfl
  | [_], _, _, _ => rfl
  | p :: q :: r, lo, hl, c => by
    have h1 := c.1
    have h2 := c.2.1
    unfold hEnd at h2
    show (decide ((cv1 p).1 + (cv1 p).2.1.length < (cv1 q).1) && chn ((q :: r).map cv1)) = true
    rw [chn_cv (P := q :: r) (lo := hEnd p) (by unfold hEnd; omega) c.2, Bool.and_true, decide_eq_true_eq]
    show p.1.toNat + (p.2.1.map _).length < q.1.toNat
    rw [List.length_map]
    omega
def fk (h : Hk) : Nat × List T := (h.1, h.2.1)
theorem chn_congr : ∀ {P Q : List Hk}, P.map fk = Q.map fk → chn P = chn Q
  | [], [], _ => rfl
  | [], q :: Q, h => by simp at h
  | p :: P, [], h => by simp at h
  | [p], [q], _ => rfl
  | [p], q :: q2 :: Q, h => by simp at h
  | p :: p2 :: P, [q], h => by simp at h
  | p :: p2 :: P, q :: q2 :: Q, h => by
    have h1 : fk p = fk q := by rw [List.map_cons, List.map_cons] at h; exact (List.cons.inj h).1
    have h2 : (p2 :: P).map fk = (q2 :: Q).map fk := by rw [List.map_cons, List.map_cons] at h; exact (List.cons.inj h).2
    have h3 : fk p2 = fk q2 := by rw [List.map_cons, List.map_cons] at h2; exact (List.cons.inj h2).1
    show (decide _ && chn (p2 :: P)) = (decide _ && chn (q2 :: Q))
    rw [chn_congr h2]
    obtain ⟨a1, a2⟩ := Prod.mk.inj (show (p.1, p.2.1) = (q.1, q.2.1) from h1)
    have a3 := (Prod.mk.inj (show (p2.1, p2.2.1) = (q2.1, q2.2.1) from h3)).1
    rw [a1, a2, a3]
/-- a short line -/
def Ls (l : T) : Prop := l.length ≤ 3 ∧ ∀ c ∈ l, c < 0x110000 ∧ c ≠ 10
theorem ls_lf {l : T} (h : Ls l) : Lf l := ⟨⟨by have := h.1; omega, fun c hc => (h.2 c hc).1⟩, fun z => (h.2 10 z).2 rfl⟩
structure Gd (k : Nat) (h : Hk) : Prop where
  at_ : h.1 ≤ 20
  ne : h.2.1 ≠ h.2.2
  lo : h.2.1.length ≤ 2
  ln : h.2.2.length ≤ k
  oo : ∀ l ∈ h.2.1, Ls l
  on : ∀ l ∈ h.2.2, Ls l
theorem ls_one {c : Nat} (h : 97 ≤ c ∧ c ≤ 122) : Ls [c] := ⟨by simp, fun d hd => by rw [List.mem_singleton.mp hd]; omega⟩
theorem gd_cv {t : List Nat} {P : Patch} {pl : Nat} (ht : t.length ≤ 14) (d : Dr t P pl 4) : ∀ h ∈ P.map cv1, Gd 2 h := by
  intro h hh
  obtain ⟨p, hp, rfl⟩ := List.mem_map.mp hh
  have f := d.fit p hp
  unfold fit1 hEnd at f
  rw [Bool.and_eq_true, decide_eq_true_eq] at f
  have sz := d.sz p hp
  have lnk := d.ln p hp
  have ge := ch_ge d.ch p hp
  refine ⟨?_, ?_, ?_, ?_, ?_, ?_⟩
  · show p.1.toNat ≤ 20
    omega
  · intro z
    refine d.ne p hp ?_
    have z : p.2.1.map (fun c => [c]) = p.2.2.map (fun c => [c]) := z
    exact List.map_inj_right (fun a b h => (List.cons.inj h).1) |>.mp z
  · show (p.2.1.map _).length ≤ 2
    rw [List.length_map]; exact sz.1
  · show (p.2.2.map _).length ≤ 2
    rw [List.length_map]; exact sz.2
  · intro l hl
    obtain ⟨c, hc, rfl⟩ := List.mem_map.mp hl
    exact ls_one (lnk.1 c hc)
  · intro l hl
    obtain ⟨c, hc, rfl⟩ := List.mem_map.mp hl
    exact ls_one (lnk.2 c hc)
def sts : List T := [[], [43], [45, 97], [64, 32, 49], [64], [32], [97, 32, 98], [45, 45], [126]]
theorem sts_eq : (D.lst [.str "", .str "+", .str "-a", .str "@ 1", .str "@", .str " ", .str "a b", .str "--", .str "~"]) = .lst (sts.map dS) := by kernel_rfl
theorem sts_ok : ∀ g ∈ sts, Ls g := by
  have : ∀ g ∈ sts, g.length ≤ 3 ∧ ∀ c ∈ g, c < 0x110000 ∧ c ≠ 10 := by decide +kernel
  exact this
abbrev zE (P F : List Hk) (ds : List Nat) (k : Option D) : Px.Env := [some (dP P), some (.lst (ds.map dN)), some (.lst (sts.map dS)), some (.lst (F.map dH)), k, none, none, none, none]
theorem st_step {P F : List Hk} {ds : List Nat} {i : Nat} (hi : i < P.length) (h4 : P.length ≤ 4) (hF : F.length ≤ 4) (hd : P.length ≤ ds.length) (g : Gd 2 P[i]) :
    ∃ h : Hk, B__law_strange_1 (zE P F ds (some (.int (i : Nat)))) = .next (zE P (F ++ [h]) ds none) ∧ fk h = fk P[i] ∧ Gd 3 h := by
  have hid : i < ds.length := by omega
  obtain ⟨dr, hdr⟩ : ∃ x, x = ds[i] := ⟨_, rfl⟩
  have e1 : dIx (dP P) (.int (i : Nat)) = .ok (dH P[i]) := dIx_tup (n := i) (by rw [List.getElem?_map, List.getElem?_eq_getElem hi]; rfl)
  have e2 : dIx (.lst (ds.map dN)) (.int (i : Nat)) = .ok (dN dr) := by rw [hdr]; exact dIx_lm (n := i) (List.getElem?_eq_getElem hid)
  have e3 : fInt [dN dr] = .ok (dN dr) := x_int_i _
  have e4 : dMod (dN dr) (.int 9) = .ok (.int ((dr % 9 : Nat) : Int)) := x_mod _ _ (by omega)
  have h9 : dr % 9 < sts.length := Nat.mod_lt _ (by decide)
  have e5 : dIx (.lst (sts.map dS)) (.int ((dr % 9 : Nat) : Int)) = .ok (dS sts[dr % 9]) := dIx_lm (n := dr % 9) (List.getElem?_eq_getElem h9)
  have hs := sts_ok _ (List.getElem_mem h9)
  generalize sts[dr % 9] = s at e5 hs
  obtain ⟨p, hp⟩ : ∃ p, p = P[i] := ⟨_, rfl⟩
  rw [← hp] at e1 g ⊢
  obtain ⟨a, o, n⟩ := p
  have go : ∀ l ∈ o, Ls l := g.oo
  have gn : ∀ l ∈ n, Ls l := g.on
  have gln : n.length ≤ 2 := g.ln
  have ea : dAdd (.tup [dS s]) (dTx n) = .ok (dTx (s :: n)) := by
    show dAdd (.tup _) (.tup _) = _
    rw [x_add_t, if_pos (by rw [List.length_map, sizeLine_eq]; simp; omega)]
    rfl
  have en := ne_Tx (a := o) (b := s :: n) (fun l hl => ls_lf (go l hl)) (fun l hl => by
    rcases List.mem_cons.mp hl with rfl | hl
    · exact ls_lf hs
    · exact ls_lf (gn l hl))
  have hu : sUnp (gfTup [5, 6, 7]) (eOp dIx (eVar 0) (eVar 4)) (zE P F ds (some (.int (i : Nat)))) = .next [some (dP P), some (.lst (ds.map dN)), some (.lst (sts.map dS)), some (.lst (F.map dH)), some (.int (i : Nat)), some (.int (a : Nat)), some (dTx o), some (dTx n), none] := by
    simp only [x_sUnp, x_eOp, x_eVar, List.getD_cons_succ, List.getD_cons_zero, vD_some, Res.bind_ok, e1, flow_ok]
    rfl
  have hset : sSet 8 (eOp dIx (eVar 2) (eOp dMod (eCall fInt (aCons (eOp dIx (eVar 1) (eVar 4)) aNil)) (eC (.int 9)))) [some (dP P), some (.lst (ds.map dN)), some (.lst (sts.map dS)), some (.lst (F.map dH)), some (.int (i : Nat)), some (.int (a : Nat)), some (dTx o), some (dTx n), none] = .next [some (dP P), some (.lst (ds.map dN)), some (.lst (sts.map dS)), some (.lst (F.map dH)), some (.int (i : Nat)), some (.int (a : Nat)), some (dTx o), some (dTx n), some (dS s)] := by
    simp only [x_sSet, x_eOp, x_eVar, x_eC, x_eCall, x_aCons, x_aNil, List.getD_cons_succ, List.getD_cons_zero, vD_some, Res.bind_ok, e2, e3, e4, e5, flow_ok, List.set_cons_succ, List.set_cons_zero]
  have hfin : ∀ h : Hk, seqK (Px.Flow.next [some (dP P), some (.lst (ds.map dN)), some (.lst (sts.map dS)), some (.lst (F.map dH ++ [dH h])), some (.int (i : Nat)), some (.int (a : Nat)), some (dTx o), some (dTx n), some (dS s)]) (sKill [4, 5, 6, 7, 8] sNext) = .next (zE P (F ++ [h]) ds none) := by
    intro h
    show _ = Px.Flow.next [some (dP P), some (.lst (ds.map dN)), some (.lst (sts.map dS)), some (.lst ((F ++ [h]).map dH)), none, none, none, none, none]
    rw [List.map_append]
    rfl
  unfold B__law_strange_1
  rw [sSeq_x, hu, seqK_next, sSeq_x, hset, seqK_next, sSeq_x]
  by_cases q : o = s :: n
  · rw [decide_eq_true q] at en
    refine ⟨(a, o, n), ?_, rfl, ⟨g.at_, g.ne, g.lo, by show n.length ≤ 3; omega, go, gn⟩⟩
    rw [x_sIf]
    have ht : (eUn asB (eOp (dNe) (eVar 6) (eOp dAdd (eTup (aCons (eVar 8) aNil)) (eVar 7)))) [some (dP P), some (.lst (ds.map dN)), some (.lst (sts.map dS)), some (.lst (F.map dH)), some (.int (i : Nat)), some (.int (a : Nat)), some (dTx o), some (dTx n), some (dS s)] = .ok false := by
      simp only [x_eUn, x_eOp, x_eTup, x_aCons, x_aNil, x_eVar, List.getD_cons_succ, List.getD_cons_zero, vD_some, Res.bind_ok, ea, en, asB, Bool.not_true]
    rw [ht, flow_ok, if_neg Bool.false_ne_true, app_ok (i := 3) (xs := F.map dH) (d := dH (a, o, n)) rfl rfl (by rw [List.length_map, sizeLine_eq]; omega)]
    exact hfin (a, o, n)
  · rw [decide_eq_false q] at en
    refine ⟨(a, o, s :: n), ?_, rfl, ⟨g.at_, q, g.lo, by show (s :: n).length ≤ 3; rw [List.length_cons]; omega, go, fun l hl => by
      rcases List.mem_cons.mp hl with rfl | hl
      · exact hs
      · exact gn l hl⟩⟩
    rw [x_sIf]
    have ht : (eUn asB (eOp (dNe) (eVar 6) (eOp dAdd (eTup (aCons (eVar 8) aNil)) (eVar 7)))) [some (dP P), some (.lst (ds.map dN)), some (.lst (sts.map dS)), some (.lst (F.map dH)), some (.int (i : Nat)), some (.int (a : Nat)), some (dTx o), some (dTx n), some (dS s)] = .ok true := by
      simp only [x_eUn, x_eOp, x_eTup, x_aCons, x_aNil, x_eVar, List.getD_cons_succ, List.getD_cons_zero, vD_some, Res.bind_ok, ea, en, asB, Bool.not_false]
    have hf : (eTup (aCons (eVar 5) (aCons (eVar 6) (aCons (eOp dAdd (eTup (aCons (eVar 8) aNil)) (eVar 7)) aNil)))) [some (dP P), some (.lst (ds.map dN)), some (.lst (sts.map dS)), some (.lst (F.map dH)), some (.int (i : Nat)), some (.int (a : Nat)), some (dTx o), some (dTx n), some (dS s)] = .ok (dH (a, o, s :: n)) := by
      simp only [x_eOp, x_eTup, x_aCons, x_aNil, x_eVar, List.getD_cons_succ, List.getD_cons_zero, vD_some, Res.bind_ok, ea]
    rw [ht, flow_ok, if_pos rfl, app_ok (i := 3) (xs := F.map dH) (d := dH (a, o, s :: n)) rfl hf (by rw [List.length_map, sizeLine_eq]; omega)]
    exact hfin (a, o, s :: n)
theorem strange_ok {P : List Hk} {ds : List Nat} (h4 : P.length ≤ 4) (hd : P.length ≤ ds.length) (g : ∀ h ∈ P, Gd 2 h) :
    ∃ F : List Hk, C__law_strange [dP P, .lst (ds.map dN)] = .ok (dP F) ∧ F.map fk = P.map fk ∧ ∀ h ∈ F, Gd 3 h := by
  obtain ⟨ρ', e, F, hF, hG, rfl⟩ := for_inv (gf := gfName 4) (F := B__law_strange_1) (ds := (List.range P.length).map fun i => D.int (i : Nat)) (n := 0) (ρ := zE P [] ds none)
    (P := fun i ρ => ∃ F : List Hk, F.map fk = (P.take i).map fk ∧ (∀ h ∈ F, Gd 3 h) ∧ ρ = zE P F ds none) ⟨[], rfl, (fun h hh => nomatch hh), rfl⟩ (by
      rintro i d hd2 ρ ⟨F, hF, hG, rfl⟩
      rw [Nat.zero_add] at hF ⊢
      obtain ⟨hi, hx⟩ := List.getElem?_eq_some_iff.mp hd2
      rw [List.length_map, List.length_range] at hi
      rw [List.getElem_map, List.getElem_range] at hx
      subst hx
      have hFl : F.length ≤ 4 := by
        have := congrArg List.length hF
        rw [List.length_map, List.length_map, List.length_take] at this
        omega
      obtain ⟨h, e, f1, f2⟩ := st_step (P := P) (F := F) (ds := ds) hi h4 hFl hd (g _ (List.getElem_mem hi))
      refine ⟨_, _, rfl, .inl e, F ++ [h], ?_, ?_, rfl⟩
      · rw [List.take_succ_eq_append_getElem hi, List.map_append, List.map_append, hF, List.map_singleton, List.map_singleton, f1]
      · intro x hx
        rcases List.mem_append.mp hx with hx | hx
        · exact hG x hx
        · rw [List.mem_singleton.mp hx]; exact f2)
  rw [List.length_map, List.length_range, Nat.zero_add, List.take_length] at hF
  refine ⟨F, ?_, hF, hG⟩
  have hr := dRng1_nat P.length (by omega)
  have hl : fLen [dP P] = .ok (.int (P.length : Nat)) := by rw [x_len_t, List.length_map]
  unfold C__law_strange F__law_strange
  have hs0 : sSet 2 (eLst (aCons (eC (.str "")) (aCons (eC (.str "+")) (aCons (eC (.str "-a")) (aCons (eC (.str "@ 1")) (aCons (eC (.str "@")) (aCons (eC (.str " ")) (aCons (eC (.str "a b")) (aCons (eC (.str "--")) (aCons (eC (.str "~")) aNil)))))))))) (startE 9 [dP P, .lst (ds.map dN)]) = .next [some (dP P), some (.lst (ds.map dN)), some (.lst (sts.map dS)), none, none, none, none, none, none] := by
    rw [← sts_eq]
    rfl
  unfold fnE
  rw [sSeq_x, hs0, seqK_next]
  have e : forE (gfName 4) B__law_strange_1 ((List.range P.length).map fun i => D.int (i : Nat)) [some (dP P), some (.lst (ds.map dN)), some (.lst (sts.map dS)), some (.lst []), none, none, none, none, none] = .next [some (dP P), some (.lst (ds.map dN)), some (.lst (sts.map dS)), some (.lst (F.map dH)), none, none, none, none, none] := e
  simp only [sSeq_x, x_min2, x_max2, x_eRg1, x_eMeth, x_eMake, x_sSet, x_sIf, x_sRet, x_sRetN, x_sPar, x_sUnp, resF_ok, x_sDrop, x_sNext, x_sBreak, x_sCont, x_sRaise, x_sAug, augK_ok, x_sFor, x_sWhile, sKill_x, x_wipe0, x_wipe1, x_evL0, x_evL1, x_setL0, x_setL1, x_eVar, x_eC, x_eOp, x_eUn, x_eCall, x_eMS, x_asStr, x_aNil, x_aCons, x_eTup, x_eLst, x_eIf, x_eNot, x_eAnd, x_eOr, x_bAnd, x_bOr, x_bNot, x_bYes, x_eSl, x_oNone, x_oSome, asI_int, x_iSeq, x_iCall, x_gfName, x_gfTup, eLc, noX_is, Res.bind_ok, Res.bind_exc, flow_ok, flow_exc, seqK_next, seqK_ret, seqK_exc, seqK_brk, seqK_cont, loopK_next, loopK_cont, loopK_brk, loopK_ret, loopK_exc, must_ok, List.set_cons_succ, List.set_cons_zero, List.getD_cons_succ, List.getD_cons_zero, vD_some, if_true, if_false, Bool.false_eq_true, reduceIte, List.map_cons, List.map_nil, List.length_cons, List.length_nil, List.cons_append, List.nil_append, List.replicate, Nat.reduceSub, Nat.reduceAdd, x_add, x_sub, x_cmp, x_eq_ii, x_ne_ii, x_int_i, x_len_t, x_len_l, x_tup_l, x_tup_t, x_list_l, x_list_t, x_dSl_t, x_dSl_l, x_items_t, x_items_l, x_tru_n, x_tru_b, x_tru_i, x_tru_t, x_tru_l, x_asB, x_is_n, x_isNot_n, isNon_n, isNon_i, isNon_s, isNon_t, isNon_l, isNon_b, Bool.not_true, Bool.not_false, List.length_map, fnE, startE, hl, hr]
  rw [e]
  simp only [sSeq_x, x_min2, x_max2, x_eRg1, x_eMeth, x_eMake, x_sSet, x_sIf, x_sRet, x_sRetN, x_sPar, x_sUnp, resF_ok, x_sDrop, x_sNext, x_sBreak, x_sCont, x_sRaise, x_sAug, augK_ok, x_sFor, x_sWhile, sKill_x, x_wipe0, x_wipe1, x_evL0, x_evL1, x_setL0, x_setL1, x_eVar, x_eC, x_eOp, x_eUn, x_eCall, x_eMS, x_asStr, x_aNil, x_aCons, x_eTup, x_eLst, x_eIf, x_eNot, x_eAnd, x_eOr, x_bAnd, x_bOr, x_bNot, x_bYes, x_eSl, x_oNone, x_oSome, asI_int, x_iSeq, x_iCall, x_gfName, x_gfTup, eLc, noX_is, Res.bind_ok, Res.bind_exc, flow_ok, flow_exc, seqK_next, seqK_ret, seqK_exc, seqK_brk, seqK_cont, loopK_next, loopK_cont, loopK_brk, loopK_ret, loopK_exc, must_ok, List.set_cons_succ, List.set_cons_zero, List.getD_cons_succ, List.getD_cons_zero, vD_some, if_true, if_false, Bool.false_eq_true, reduceIte, List.map_cons, List.map_nil, List.length_cons, List.length_nil, List.cons_append, List.nil_append, List.replicate, Nat.reduceSub, Nat.reduceAdd, x_add, x_sub, x_cmp, x_eq_ii, x_ne_ii, x_int_i, x_len_t, x_len_l, x_tup_l, x_tup_t, x_list_l, x_list_t, x_dSl_t, x_dSl_l, x_items_t, x_items_l, x_tru_n, x_tru_b, x_tru_i, x_tru_t, x_tru_l, x_asB, x_is_n, x_isNot_n, isNon_n, isNon_i, isNon_s, isNon_t, isNon_l, isNon_b, Bool.not_true, Bool.not_false, List.length_map, fnE, startE]
/-! ### what is drawn can be written and read -/
theorem dgk20 : ∀ n, n ≤ 20 → Dgk n ∧ (dg n).length ≤ 2 ∧ ∀ c ∈ dg n, c < 0x110000 := by
  have : ∀ n, n < 21 → (isDg (dg n) = true ∧ NumText.digitsVal (dg n) = n) ∧ (dg n).length ≤ 2 ∧ ∀ c ∈ dg n, c < 0x110000 := by decide +kernel
  exact fun n h => this n (by omega)
theorem blk_small {h : Hk} (g : Gd 3 h) : (blk h).length ≤ 6 ∧ ∀ l ∈ blk h, l.length ≤ 4 ∧ ∀ c ∈ l, c < 0x110000 := by
  have hd := dgk20 h.1 g.at_
  refine ⟨by rw [blk_len]; have := g.lo; have := g.ln; omega, fun l hl => ?_⟩
  rcases List.mem_cons.mp hl with rfl | hl
  · refine ⟨by rw [List.length_cons, List.length_cons]; omega, fun c hc => ?_⟩
    rcases List.mem_cons.mp hc with rfl | hc
    · decide
    rcases List.mem_cons.mp hc with rfl | hc
    · decide
    · exact hd.2.2 c hc
  rcases List.mem_append.mp hl with hl | hl
  · obtain ⟨x, hx, rfl⟩ := List.mem_map.mp hl
    have := g.oo x hx
    refine ⟨by rw [List.length_cons]; have := this.1; omega, fun c hc => ?_⟩
    rcases List.mem_cons.mp hc with rfl | hc
    · decide
    · exact (this.2 c hc).1
  · obtain ⟨x, hx, rfl⟩ := List.mem_map.mp hl
    have := g.on x hx
    refine ⟨by rw [List.length_cons]; have := this.1; omega, fun c hc => ?_⟩
    rcases List.mem_cons.mp hc with rfl | hc
    · decide
    · exact (this.2 c hc).1
theorem wl_small : ∀ {F : List Hk}, (∀ h ∈ F, Gd 3 h) → (wl F).length ≤ 6 * F.length ∧ ∀ l ∈ wl F, l.length ≤ 4 ∧ ∀ c ∈ l, c < 0x110000
  | [], _ => ⟨Nat.le_refl _, fun l hl => (nomatch hl)⟩
  | h :: F, g => by
    obtain ⟨a, b⟩ := wl_small (F := F) fun x hx => g x (.tail _ hx)
    obtain ⟨c, d⟩ := blk_small (g h (.head _))
    refine ⟨?_, fun l hl => ?_⟩
    · show (blk h ++ wl F).length ≤ 6 * (F.length + 1)
      rw [List.length_append]; omega
    · have hl : l ∈ blk h ++ wl F := hl
      rcases List.mem_append.mp hl with hl | hl
      · exact d l hl
      · exact b l hl
theorem jn_chars : ∀ {ls : List T}, (∀ l ∈ ls, ∀ c ∈ l, c < 0x110000) → ∀ c ∈ jn ls, c < 0x110000
  | [], _, c, hc => nomatch hc
  | [a], h, c, hc => h a (.head _) c hc
  | a :: b :: r, h, c, hc => by
    rw [jn_cons] at hc
    rcases List.mem_append.mp hc with hc | hc
    · exact h a (.head _) c hc
    rcases List.mem_cons.mp hc with rfl | hc
    · decide
    · exact jn_chars (ls := b :: r) (fun l hl => h l (.tail _ hl)) c hc
theorem jn_le : ∀ {ls : List T}, (∀ l ∈ ls, l.length ≤ 4) → (jn ls).length ≤ 5 * ls.length
  | [], _ => by simp [jn_nil]
  | [a], h => by have := h a (.head _); rw [jn_one]; simp; omega
  | a :: b :: r, h => by
    have h1 := h a (.head _)
    have h2 := jn_le (ls := b :: r) fun l hl => h l (.tail _ hl)
    rw [jn_cons]
    simp only [List.length_append, List.length_cons] at h2 ⊢
    omega
structure Ok (F : List Hk) : Prop where
  gk : Gk F
  vl : vld F = true
  wz : Wz F
  sx : (jn (wl F)).length ≤ 190
  ch : ∀ c ∈ jn (wl F), c < 0x110000
  rr : rd (jn (wl F)) = some F
theorem ok_of {F P : List Hk} (hf : F.map fk = P.map fk) (hc : chn P = true) (h4 : P.length ≤ 4) (g : ∀ h ∈ F, Gd 3 h) : Ok F := by
  have hl : F.length ≤ 4 := by
    have := congrArg List.length hf
    rw [List.length_map, List.length_map] at this
    omega
  obtain ⟨w1, w2⟩ := wl_small g
  have hv : vld F = true := by
    unfold vld
    rw [chn_congr hf, hc, Bool.and_true]
    exact List.all_eq_true.mpr fun h hh => by
      rw [decide_eq_false (g h hh).ne]; rfl
  have hj := jn_le fun l hl => (w2 l hl).1
  refine ⟨fun h hh => ⟨?_, fun l hl => ls_lf ((g h hh).oo l hl), fun l hl => ls_lf ((g h hh).on l hl)⟩, hv, ⟨fun l hl => by have := (w2 l hl).1; omega, by omega⟩, by omega, jn_chars fun l hl => (w2 l hl).2, wr_rd hv (fun h hh => (dgk20 h.1 (g h hh).at_).1) fun h hh => ⟨fun l hl => (ls_lf ((g h hh).oo l hl)).2, fun l hl => (ls_lf ((g h hh).on l hl)).2⟩⟩
  exact Nat.lt_of_le_of_lt (g h hh).at_ (by decide +kernel)
theorem okPt {P : List Hk} (g : Gk P) : okN 60 (dP P) = true := okN_tup (k := 59) fun x hx => by
  obtain ⟨h, hh, rfl⟩ := List.mem_map.mp hx
  refine okN_tup (k := 58) fun y hy => ?_
  rcases List.mem_cons.mp hy with rfl | hy
  · exact ok_int _ _
  rcases List.mem_cons.mp hy with rfl | hy
  · exact okTx (k := 57) (g h hh).2.1
  · rw [List.mem_singleton.mp hy]; exact okTx (k := 57) (g h hh).2.2
theorem ne_out {s : T} (h : Sx s) : dNe (outD (rd s)) (outD (rd s)) = .ok (.bl false) := by
  cases e : rd s with
  | none => exact dNe_self (by rfl)
  | some P => exact dNe_self (okPt (rd_gk h e))
theorem wz_rd {s : T} (h : Sx s) {P : List Hk} (e : rd s = some P) : Wz P := by
  obtain ⟨_, _, w⟩ := rd_wr e
  unfold Wz
  rw [w]
  exact ⟨fun l hl => by have := (sx_lns h l hl).2; omega, by have := lns_len h; omega⟩
theorem ln_sx {s : T} (h : Sx s) : Ln s := ⟨by have := h.1; omega, h.2⟩
abbrev kE (sc : D) (dl : List Nat) (F : List Hk) (k b d w : Option D) : Px.Env := [some sc, some (.lst (dl.map dN)), some (dP F), some (dS (jn (wl F))), k, b, d, w]
theorem bent_step {sc : D} {dl : List Nat} {F : List Hk} (hl : dl.length = 90) (o : Ok F) {i : Nat} (hi : i < 8) (b d w : Option D) :
    B_law_1 (kE sc dl F (some (.int (i : Nat))) b d w) = .next (kE sc dl F none none none w) := by
  have hm : dMul (.int 3) (.int (i : Nat)) = .ok (.int (3 * (i : Int))) := dMul_i _ _ (mulOk_l _ _ (by decide))
  have hc : cut (dl.map dN) (some (50 + 3 * (i : Int))) none = (dl.drop (50 + 3 * i)).map dN := by
    have := cut_lo (dl.map dN) (50 + 3 * i)
    rw [List.map_drop, ← this]
    rfl
  obtain ⟨d0, d1, d2, r, hdr⟩ : ∃ d0 d1 d2 r, dl.drop (50 + 3 * i) = d0 :: d1 :: d2 :: r := by
    have hlen : 3 ≤ (dl.drop (50 + 3 * i)).length := by rw [List.length_drop]; omega
    match dl.drop (50 + 3 * i), hlen with
    | d0 :: d1 :: d2 :: r, _ => exact ⟨d0, d1, d2, r, rfl⟩
  rw [hdr] at hc
  obtain ⟨bt, hs, eb⟩ := bent_ok (s := jn (wl F)) o.sx o.ch (d0 := d0) (d1 := d1) (d2 := d2) (r := r)
  have eb : C__law_bent [dS (jn (wl F)), .lst (dN d0 :: dN d1 :: dN d2 :: r.map dN)] = .ok (dS bt) := eb
  have e1 := lawRead_ok hs
  have e2 := told_ok hs
  have e3 := ne_out hs
  unfold B_law_1
  cases hr : rd bt with
  | none =>
    rw [hr] at e1 e2 e3
    have e3 : dNe .non .non = .ok (.bl false) := e3
    simp only [sSeq_x, x_min2, x_max2, x_eRg1, x_eMeth, x_eMake, x_sSet, x_sIf, x_sRet, x_sRetN, x_sPar, x_sUnp, resF_ok, x_sDrop, x_sNext, x_sBreak, x_sCont, x_sRaise, x_sAug, augK_ok, x_sFor, x_sWhile, sKill_x, x_wipe0, x_wipe1, x_evL0, x_evL1, x_setL0, x_setL1, x_eVar, x_eC, x_eOp, x_eUn, x_eCall, x_eMS, x_asStr, x_aNil, x_aCons, x_eTup, x_eLst, x_eIf, x_eNot, x_eAnd, x_eOr, x_bAnd, x_bOr, x_bNot, x_bYes, x_eSl, x_oNone, x_oSome, asI_int, x_iSeq, x_iCall, x_gfName, x_gfTup, eLc, noX_is, Res.bind_ok, Res.bind_exc, flow_ok, flow_exc, seqK_next, seqK_ret, seqK_exc, seqK_brk, seqK_cont, loopK_next, loopK_cont, loopK_brk, loopK_ret, loopK_exc, must_ok, List.set_cons_succ, List.set_cons_zero, List.getD_cons_succ, List.getD_cons_zero, vD_some, if_true, if_false, Bool.false_eq_true, reduceIte, List.map_cons, List.map_nil, List.length_cons, List.length_nil, List.cons_append, List.nil_append, List.replicate, Nat.reduceSub, Nat.reduceAdd, x_add, x_sub, x_cmp, x_eq_ii, x_ne_ii, x_int_i, x_len_t, x_len_l, x_tup_l, x_tup_t, x_list_l, x_list_t, x_dSl_t, x_dSl_l, x_items_t, x_items_l, x_tru_n, x_tru_b, x_tru_i, x_tru_t, x_tru_l, x_asB, x_is_n, x_isNot_n, isNon_n, isNon_i, isNon_s, isNon_t, isNon_l, isNon_b, Bool.not_true, Bool.not_false, List.length_map, fnE, startE, hm, hc, eb, e1, e2, outD, e3]
  | some P =>
    rw [hr] at e1 e2 e3
    have e3 : dNe (dP P) (dP P) = .ok (.bl false) := e3
    obtain ⟨w1, w2, _⟩ := rd_wr hr
    have e4 := patchText_ok (rd_gk hs hr) w2 (wz_rd hs hr)
    rw [w1] at e4
    have e5 : dNe (dS bt) (dS bt) = .ok (.bl false) := dNe_self (okS (ln_sx hs))
    simp only [sSeq_x, x_min2, x_max2, x_eRg1, x_eMeth, x_eMake, x_sSet, x_sIf, x_sRet, x_sRetN, x_sPar, x_sUnp, resF_ok, x_sDrop, x_sNext, x_sBreak, x_sCont, x_sRaise, x_sAug, augK_ok, x_sFor, x_sWhile, sKill_x, x_wipe0, x_wipe1, x_evL0, x_evL1, x_setL0, x_setL1, x_eVar, x_eC, x_eOp, x_eUn, x_eCall, x_eMS, x_asStr, x_aNil, x_aCons, x_eTup, x_eLst, x_eIf, x_eNot, x_eAnd, x_eOr, x_bAnd, x_bOr, x_bNot, x_bYes, x_eSl, x_oNone, x_oSome, asI_int, x_iSeq, x_iCall, x_gfName, x_gfTup, eLc, noX_is, Res.bind_ok, Res.bind_exc, flow_ok, flow_exc, seqK_next, seqK_ret, seqK_exc, seqK_brk, seqK_cont, loopK_next, loopK_cont, loopK_brk, loopK_ret, loopK_exc, must_ok, List.set_cons_succ, List.set_cons_zero, List.getD_cons_succ, List.getD_cons_zero, vD_some, if_true, if_false, Bool.false_eq_true, reduceIte, List.map_cons, List.map_nil, List.length_cons, List.length_nil, List.cons_append, List.nil_append, List.replicate, Nat.reduceSub, Nat.reduceAdd, x_add, x_sub, x_cmp, x_eq_ii, x_ne_ii, x_int_i, x_len_t, x_len_l, x_tup_l, x_tup_t, x_list_l, x_list_t, x_dSl_t, x_dSl_l, x_items_t, x_items_l, x_tru_n, x_tru_b, x_tru_i, x_tru_t, x_tru_l, x_asB, x_is_n, x_isNot_n, isNon_n, isNon_i, isNon_s, isNon_t, isNon_l, isNon_b, Bool.not_true, Bool.not_false, List.length_map, fnE, startE, hm, hc, eb, e1, e2, outD, e3, e4, e5]
/-! ### the law -/
theorem tn1 : C__law_told [.non] = .ok .non := by kernel_rfl
theorem tn2 : C__law_told [.int 5] = .ok .non := by kernel_rfl
theorem tn3 : C__law_told [.bl true] = .ok .non := by kernel_rfl
theorem tn4 : C__law_told [.lst [.str "@ 0"]] = .ok .non := by kernel_rfl
theorem tn5 : C__law_told [.tup [.str "@ 0"]] = .ok .non := by kernel_rfl
theorem tn6 : C__law_told [.str "@ 0"] = .ok .non := by kernel_rfl
theorem tn7 : C__law_told [.str "@ 0\n"] = .ok .non := by kernel_rfl
theorem tn8 : C__law_told [.str "a"] = .ok .non := by kernel_rfl
theorem tn9 : C__law_told [.str "@ 1\n+a\n-b"] = .ok .non := by kernel_rfl
theorem tn10 : C__law_told [.str "@ 0\n-a\n+a"] = .ok .non := by kernel_rfl
theorem tn11 : C__law_told [.str "\n"] = .ok .non := by kernel_rfl
theorem tl1 : C__law_told [.str ""] = .ok (.tup []) := by kernel_rfl
theorem tl2 : C__law_told [.str "@ 0\n+"] = .ok (.tup [.tup [.int 0, .tup [], .tup [.str ""]]]) := by kernel_rfl
theorem bp1 : C_patch_text [.non] = .exc "BadPatch" := by kernel_rfl
theorem bp2 : C_patch_text [.lst []] = .exc "BadPatch" := by kernel_rfl
theorem bp3 : C_patch_text [.tup [.tup [.int 0, .tup [], .tup []]]] = .exc "BadPatch" := by kernel_rfl
theorem bp4 : C_patch_text [.str "@ 0"] = .exc "BadPatch" := by kernel_rfl
theorem bpm : (Str.ofString "BadPatch") ∈ [Str.ofString "BadPatch", Str.ofString "BadText"] := by decide +kernel
theorem bpm2 : (Str.ofString "BadPatch") ∈ [Str.ofString "BadPatch"] := by decide +kernel
theorem wrong_step {d : D} (h : C_patch_text [d] = .exc "BadPatch") (a b c e f g i : Option D) : B_law_2 [a, b, c, e, f, g, i, some d] = .cont [a, b, c, e, f, g, i, some d] := by
  unfold B_law_2
  simp only [sSeq_x, x_min2, x_max2, x_eRg1, x_eMeth, x_eMake, x_sSet, x_sIf, x_sRet, x_sRetN, x_sPar, x_sUnp, resF_ok, x_sDrop, x_sNext, x_sBreak, x_sCont, x_sRaise, x_sAug, augK_ok, x_sFor, x_sWhile, sKill_x, x_wipe0, x_wipe1, x_evL0, x_evL1, x_setL0, x_setL1, x_eVar, x_eC, x_eOp, x_eUn, x_eCall, x_eMS, x_asStr, x_aNil, x_aCons, x_eTup, x_eLst, x_eIf, x_eNot, x_eAnd, x_eOr, x_bAnd, x_bOr, x_bNot, x_bYes, x_eSl, x_oNone, x_oSome, asI_int, x_iSeq, x_iCall, x_gfName, x_gfTup, eLc, noX_is, Res.bind_ok, Res.bind_exc, flow_ok, flow_exc, seqK_next, seqK_ret, seqK_exc, seqK_brk, seqK_cont, loopK_next, loopK_cont, loopK_brk, loopK_ret, loopK_exc, must_ok, List.set_cons_succ, List.set_cons_zero, List.getD_cons_succ, List.getD_cons_zero, vD_some, if_true, if_false, Bool.false_eq_true, reduceIte, List.map_cons, List.map_nil, List.length_cons, List.length_nil, List.cons_append, List.nil_append, List.replicate, Nat.reduceSub, Nat.reduceAdd, x_add, x_sub, x_cmp, x_eq_ii, x_ne_ii, x_int_i, x_len_t, x_len_l, x_tup_l, x_tup_t, x_list_l, x_list_t, x_dSl_t, x_dSl_l, x_items_t, x_items_l, x_tru_n, x_tru_b, x_tru_i, x_tru_t, x_tru_l, x_asB, x_is_n, x_isNot_n, isNon_n, isNon_i, isNon_s, isNon_t, isNon_l, isNon_b, Bool.not_true, Bool.not_false, List.length_map, fnE, startE, sTry, h, if_pos bpm, pick, if_pos bpm2, sNx]
def wrongs : List D := [.non, .lst [], .tup [.tup [.int 0, .tup [], .tup []]], .str "@ 0"]
theorem wrongs_ok : ∀ d ∈ wrongs, C_patch_text [d] = .exc "BadPatch" := by
  intro d hd
  simp only [wrongs, List.mem_cons, List.not_mem_nil, or_false] at hd
  rcases hd with rfl | rfl | rfl | rfl
  · exact bp1
  · exact bp2
  · exact bp3
  · exact bp4
def nots : List D := [.non, .int 5, .bl true, .lst [.str "@ 0"], .tup [.str "@ 0"], .str "@ 0", .str "@ 0\n", .str "a", .str "@ 1\n+a\n-b", .str "@ 0\n-a\n+a", .str "\n"]
theorem nots_ok : ∀ d ∈ nots, C__law_told [d] = .ok .non := by
  intro d hd
  simp only [nots, List.mem_cons, List.not_mem_nil, or_false] at hd
  rcases hd with rfl | rfl | rfl | rfl | rfl | rfl | rfl | rfl | rfl | rfl | rfl
  · exact tn1
  · exact tn2
  · exact tn3
  · exact tn4
  · exact tn5
  · exact tn6
  · exact tn7
  · exact tn8
  · exact tn9
  · exact tn10
  · exact tn11
def Kend : SF := (sSeq (sIf (bNot (eUn dTru (eCall fAll (aCons (eLc (iSeq (eTup (aCons (eC .non) (aCons (eC (.int 5)) (aCons (eC (.bl true)) (aCons (eLst (aCons (eC (.str "@ 0")) aNil)) (aCons (eTup (aCons (eC (.str "@ 0")) aNil)) (aCons (eC (.str "@ 0")) (aCons (eC (.str "@ 0\n")) (aCons (eC (.str "a")) (aCons (eC (.str "@ 1\n+a\n-b")) (aCons (eC (.str "@ 0\n-a\n+a")) (aCons (eC (.str "\n")) aNil))))))))))))) [7] (gfName 7) bYes (eOp (dIs) (eCall C__law_told (aCons (eVar 7) aNil)) (eC .non))) aNil)))) (sRet (eC (.bl false))) sNext)
  (sSeq (sFor (iSeq (eTup (aCons (eC .non) (aCons (eC (.lst [])) (aCons (eTup (aCons (eTup (aCons (eC (.int 0)) (aCons (eTup aNil) (aCons (eTup aNil) aNil)))) aNil)) (aCons (eC (.str "@ 0")) aNil)))))) (gfName 7)
  B_law_2)
  (sKill [7] (sRet (eAnd (eOp (dEq) (eCall C__law_told (aCons (eC (.str "")) aNil)) (eTup aNil)) (eOp (dEq) (eCall C__law_told (aCons (eC (.str "@ 0\n+")) aNil)) (eTup (aCons (eTup (aCons (eC (.int 0)) (aCons (eTup aNil) (aCons (eTup (aCons (eC (.str "")) aNil)) aNil)))) aNil))))))))
theorem end_ok (a b c d e f g : Option D) : Kend [a, b, c, d, e, f, g, none] = .ret (.bl true) := by
  have key : lcE (gfName 7) bYes (eOp (dIs) (eCall C__law_told (aCons (eVar 7) aNil)) (eC .non)) [a, b, c, d, e, f, g, none] nots = .ok (nots.map fun _ => .bl true) := by
    have := lc_fun (gf := gfName 7) (f := eOp (dIs) (eCall C__law_told (aCons (eVar 7) aNil)) (eC .non)) (ρ := [a, b, c, d, e, f, g, none]) (e := fun d : D => d) (g := fun _ => .bl true) (xs := nots) fun x hx => ⟨_, rfl, by
      simp only [sSeq_x, x_min2, x_max2, x_eRg1, x_eMeth, x_eMake, x_sSet, x_sIf, x_sRet, x_sRetN, x_sPar, x_sUnp, resF_ok, x_sDrop, x_sNext, x_sBreak, x_sCont, x_sRaise, x_sAug, augK_ok, x_sFor, x_sWhile, sKill_x, x_wipe0, x_wipe1, x_evL0, x_evL1, x_setL0, x_setL1, x_eVar, x_eC, x_eOp, x_eUn, x_eCall, x_eMS, x_asStr, x_aNil, x_aCons, x_eTup, x_eLst, x_eIf, x_eNot, x_eAnd, x_eOr, x_bAnd, x_bOr, x_bNot, x_bYes, x_eSl, x_oNone, x_oSome, asI_int, x_iSeq, x_iCall, x_gfName, x_gfTup, eLc, noX_is, Res.bind_ok, Res.bind_exc, flow_ok, flow_exc, seqK_next, seqK_ret, seqK_exc, seqK_brk, seqK_cont, loopK_next, loopK_cont, loopK_brk, loopK_ret, loopK_exc, must_ok, List.set_cons_succ, List.set_cons_zero, List.getD_cons_succ, List.getD_cons_zero, vD_some, if_true, if_false, Bool.false_eq_true, reduceIte, List.map_cons, List.map_nil, List.length_cons, List.length_nil, List.cons_append, List.nil_append, List.replicate, Nat.reduceSub, Nat.reduceAdd, x_add, x_sub, x_cmp, x_eq_ii, x_ne_ii, x_int_i, x_len_t, x_len_l, x_tup_l, x_tup_t, x_list_l, x_list_t, x_dSl_t, x_dSl_l, x_items_t, x_items_l, x_tru_n, x_tru_b, x_tru_i, x_tru_t, x_tru_l, x_asB, x_is_n, x_isNot_n, isNon_n, isNon_i, isNon_s, isNon_t, isNon_l, isNon_b, Bool.not_true, Bool.not_false, List.length_map, fnE, startE, nots_ok x hx]⟩
    rw [List.map_id'] at this
    exact this
  have hall : fAll [.lst (nots.map fun _ => .bl true)] = .ok (.bl true) := by rfl
  have h1 : (bNot (eUn dTru (eCall fAll (aCons (eLc (iSeq (eTup (aCons (eC .non) (aCons (eC (.int 5)) (aCons (eC (.bl true)) (aCons (eLst (aCons (eC (.str "@ 0")) aNil)) (aCons (eTup (aCons (eC (.str "@ 0")) aNil)) (aCons (eC (.str "@ 0")) (aCons (eC (.str "@ 0\n")) (aCons (eC (.str "a")) (aCons (eC (.str "@ 1\n+a\n-b")) (aCons (eC (.str "@ 0\n-a\n+a")) (aCons (eC (.str "\n")) aNil))))))))))))) [7] (gfName 7) bYes (eOp (dIs) (eCall C__law_told (aCons (eVar 7) aNil)) (eC .non))) aNil)))) [a, b, c, d, e, f, g, none] = .ok false := by
    simp only [x_bNot, x_eUn, x_eCall, x_aCons, x_aNil, eLc, x_iSeq, x_eTup, x_eLst, x_eC, Res.bind_ok, x_items_t]
    have key : lcE (gfName 7) bYes (eOp (dIs) (eCall C__law_told (aCons (eVar 7) aNil)) (eC .non)) (wipeE [a, b, c, d, e, f, g, none] [7]) [.non, .int 5, .bl true, .lst [.str "@ 0"], .tup [.str "@ 0"], .str "@ 0", .str "@ 0\n", .str "a", .str "@ 1\n+a\n-b", .str "@ 0\n-a\n+a", .str "\n"] = .ok (nots.map fun _ => .bl true) := key
    rw [key, Res.bind_ok, Res.bind_ok, Res.bind_ok, hall, Res.bind_ok]
    rfl
  obtain ⟨ρ', e1, y, rfl⟩ := for_inv (gf := gfName 7) (F := B_law_2) (ds := wrongs) (n := 0) (ρ := [a, b, c, d, e, f, g, none])
    (P := fun _ ρ => ∃ y, ρ = [a, b, c, d, e, f, g, y]) ⟨none, rfl⟩ fun i x hx ρ hp => by
      obtain ⟨y, rfl⟩ := hp
      exact ⟨_, _, rfl, .inr (wrong_step (wrongs_ok x (List.mem_of_getElem? hx)) a b c d e f g), _, rfl⟩
  have e1 : forE (gfName 7) B_law_2 [.non, .lst [], .tup [.tup [.int 0, .tup [], .tup []]], .str "@ 0"] [a, b, c, d, e, f, g, none] = .next [a, b, c, d, e, f, g, y] := e1
  have q1 : dEq (.tup []) (.tup []) = .ok (.bl true) := by kernel_rfl
  have q2 : dEq (.tup [.tup [.int 0, .tup [], .tup [.str ""]]]) (.tup [.tup [.int 0, .tup [], .tup [.str ""]]]) = .ok (.bl true) := by kernel_rfl
  unfold Kend
  rw [sSeq_x, x_sIf, h1, flow_ok, if_neg Bool.false_ne_true, x_sNext, seqK_next, sSeq_x, x_sFor]
  simp only [x_iSeq, x_eTup, x_aCons, x_aNil, x_eC, Res.bind_ok, x_items_t, flow_ok]
  rw [e1, seqK_next]
  simp only [sSeq_x, x_min2, x_max2, x_eRg1, x_eMeth, x_eMake, x_sSet, x_sIf, x_sRet, x_sRetN, x_sPar, x_sUnp, resF_ok, x_sDrop, x_sNext, x_sBreak, x_sCont, x_sRaise, x_sAug, augK_ok, x_sFor, x_sWhile, sKill_x, x_wipe0, x_wipe1, x_evL0, x_evL1, x_setL0, x_setL1, x_eVar, x_eC, x_eOp, x_eUn, x_eCall, x_eMS, x_asStr, x_aNil, x_aCons, x_eTup, x_eLst, x_eIf, x_eNot, x_eAnd, x_eOr, x_bAnd, x_bOr, x_bNot, x_bYes, x_eSl, x_oNone, x_oSome, asI_int, x_iSeq, x_iCall, x_gfName, x_gfTup, eLc, noX_is, Res.bind_ok, Res.bind_exc, flow_ok, flow_exc, seqK_next, seqK_ret, seqK_exc, seqK_brk, seqK_cont, loopK_next, loopK_cont, loopK_brk, loopK_ret, loopK_exc, must_ok, List.set_cons_succ, List.set_cons_zero, List.getD_cons_succ, List.getD_cons_zero, vD_some, if_true, if_false, Bool.false_eq_true, reduceIte, List.map_cons, List.map_nil, List.length_cons, List.length_nil, List.cons_append, List.nil_append, List.replicate, Nat.reduceSub, Nat.reduceAdd, x_add, x_sub, x_cmp, x_eq_ii, x_ne_ii, x_int_i, x_len_t, x_len_l, x_tup_l, x_tup_t, x_list_l, x_list_t, x_dSl_t, x_dSl_l, x_items_t, x_items_l, x_tru_n, x_tru_b, x_tru_i, x_tru_t, x_tru_l, x_asB, x_is_n, x_isNot_n, isNon_n, isNon_i, isNon_s, isNon_t, isNon_l, isNon_b, Bool.not_true, Bool.not_false, List.length_map, fnE, startE, tl1, tl2, q1, q2]
/-! ### the law's draws -/
theorem dr_inner (sc : D) (many seed : Int) (cell : D) (ds : List Int) (num : Int) (k : D) (hl : ds.length < 16777216) (hd : ∀ d ∈ ds, 0 ≤ d ∧ d < 65521) :
    ∃ (ds' : List Int) (num' : Int), B__law_draws_2 [some sc, some (.int many), some (.lst (ds.map .int)), some (.int seed), some cell, some (.int num), some k] = .next [some sc, some (.int many), some (.lst (ds'.map .int)), some (.int seed), some cell, some (.int num'), none] ∧ ds'.length ≤ ds.length + 1 ∧ ∀ d ∈ ds', 0 ≤ d ∧ d < 65521 := by
  unfold B__law_draws_2
  by_cases h : 0 < num
  · refine ⟨ds ++ [num % 1009], num / 1009, ?_, by simp, ?_⟩
    · simp [h, sAppend, sl_eq, hl]
    · intro d hm
      rcases List.mem_append.mp hm with hm | hm
      · exact hd d hm
      · simp at hm
        omega
  · exact ⟨ds, num, by simp [h], by omega, hd⟩
theorem dr_outer (sc : D) (many seed : Int) (c : Int) (a b k : Option D) (ds : List Int) (hl : ds.length + 60 < 16777216) (hd : ∀ d ∈ ds, 0 ≤ d ∧ d < 65521) :
    ∃ (ds' : List Int) (seed' : Int), B__law_draws_1 [some sc, some (.int many), some (.lst (ds.map .int)), some (.int seed), some (.int c), a, b] = .next [some sc, some (.int many), some (.lst (ds'.map .int)), some (.int seed'), none, none, none] ∧ ds'.length ≤ ds.length + 60 ∧ ∀ d ∈ ds', 0 ≤ d ∧ d < 65521 := by
  unfold B__law_draws_1
  generalize hn : (if c < 0 then -c else c) = num
  by_cases h : 10 ^ 18 ≤ num
  · obtain ⟨ρ', e, p⟩ := for_inv (gf := gfName 6) (F := B__law_draws_2) (ds := (List.range 60).map fun i => .int (i : Nat)) (n := 0)
      (ρ := [some sc, some (.int many), some (.lst (ds.map .int)), some (.int ((seed * 48271 + num + 11) % 2147483647)), some (.int c), some (.int num), b])
      (P := fun m ρ => ∃ (ds' : List Int) (num' : Int) (k : Option D), ρ = [some sc, some (.int many), some (.lst (ds'.map .int)), some (.int ((seed * 48271 + num + 11) % 2147483647)), some (.int c), some (.int num'), k] ∧ ds'.length ≤ ds.length + m ∧ ∀ d ∈ ds', 0 ≤ d ∧ d < 65521)
      ⟨ds, num, b, rfl, by omega, hd⟩ (fun i d hi ρ hp => by
        obtain ⟨ds1, num1, k1, rfl, hl1, hd1⟩ := hp
        have hi2 : i < 60 := by
          have := (List.getElem?_eq_some_iff.mp hi).1
          simpa using this
        obtain ⟨ds2, num2, e2, hl2, hd2⟩ := dr_inner sc many ((seed * 48271 + num + 11) % 2147483647) (.int c) ds1 num1 d (by omega) hd1
        exact ⟨_, _, rfl, .inl e2, ds2, num2, none, rfl, by omega, hd2⟩)
    obtain ⟨ds', num', k', rfl, hl', hd'⟩ := p
    refine ⟨ds', (seed * 48271 + num + 11) % 2147483647, ?_, by simpa using hl', hd'⟩
    have hm : mulOk seed 48271 = true := mulOk_r _ _ (by decide)
    have e0 := dRng1_nat 60 (by omega)
    have e0 : dRng1 [.int 60] = .ok ((List.range 60).map fun i => .int (i : Nat)) := e0
    have h' : (1000000000000000000 : Int) ≤ num := h
    simp [hn, hm, h', x_sFor, e0, e]
  · refine ⟨ds ++ [((seed * 48271 + num + 11) % 2147483647 * 16807 + 5) / 3 % 65521], (seed * 48271 + num + 11) % 2147483647, ?_, by simp, ?_⟩
    · have hm : mulOk seed 48271 = true := mulOk_r _ _ (by decide)
      have hm2 : mulOk ((seed * 48271 + num + 11) % 2147483647) 16807 = true := mulOk_r _ _ (by decide)
      have h' : ¬ (1000000000000000000 : Int) ≤ num := h
      simp [hn, hm, hm2, h', sAppend, sl_eq, show ds.length < 16777216 by omega]
    · intro d hm
      rcases List.mem_append.mp hm with hm | hm
      · exact hd d hm
      · simp at hm
        omega
theorem dr_more (sc : D) (many : Nat) (seed : Int) (j : Nat) (ds : List Int) (hl : ds.length < 16777216) (hd : ∀ d ∈ ds, 0 ≤ d ∧ d < 65521) :
    ∃ (ds' : List Int) (seed' : Int), B__law_draws_3 [some sc, some (.int many), some (.lst (ds.map .int)), some (.int seed), none, none, some (.int (j : Nat))] = .next [some sc, some (.int many), some (.lst (ds'.map .int)), some (.int seed'), none, none, none] ∧ (∀ d ∈ ds', 0 ≤ d ∧ d < 65521) ∧
      (many ≤ ds.length → ds'.length = ds.length) ∧ (ds.length < many → ds'.length = ds.length + 1) := by
  unfold B__law_draws_3
  by_cases h : ds.length < many
  · have hm : mulOk seed 69621 = true := mulOk_r _ _ (by decide)
    refine ⟨ds ++ [(seed * 69621 + j + 1) % 2147483647 / 7 % 65521], (seed * 69621 + j + 1) % 2147483647, ?_, ?_, by omega, by simp⟩
    · simp [h, hm, sAppend, sl_eq, hl]
    · intro d hm
      rcases List.mem_append.mp hm with hm | hm
      · exact hd d hm
      · simp at hm
        omega
  · exact ⟨ds, seed, by simp [h], hd, fun _ => rfl, fun z => absurd z h⟩
theorem draws_ok (ns : List Int) (hn : ns.length ≤ 63) (many : Nat) (hm : many ≤ 1000) : ∃ ds : List Int, ds.length = many ∧ (∀ d ∈ ds, 0 ≤ d ∧ d < 65521) ∧ C__law_draws [.lst (ns.map .int), .int many] = .ok (.lst (ds.map .int)) := by
  obtain ⟨ρ1, e1, ds1, seed1, a1, b1, k1, rfl, hl1, hd1⟩ := for_inv (gf := gfName 4) (F := B__law_draws_1) (ds := (ns.map D.int).take 63) (n := 0)
      (ρ := [some (.lst (ns.map .int)), some (.int many), some (.lst []), some (.int 7), none, none, none])
      (P := fun m ρ => ∃ (ds' : List Int) (seed : Int) (a b c : Option D), ρ = [some (.lst (ns.map .int)), some (.int many), some (.lst (ds'.map .int)), some (.int seed), a, b, c] ∧ ds'.length ≤ 60 * m ∧ ∀ d ∈ ds', 0 ≤ d ∧ d < 65521)
      ⟨[], 7, none, none, none, rfl, by simp, by simp⟩ (fun i d hi ρ hp => by
        obtain ⟨ds1, seed, a, b, c, rfl, hl1, hd1⟩ := hp
        have hi2 := (List.getElem?_eq_some_iff.mp hi).1
        have hmem := List.mem_of_getElem? hi
        obtain ⟨z, hz, rfl⟩ := List.mem_map.mp (List.mem_of_mem_take hmem)
        simp at hi2
        obtain ⟨ds2, seed2, e2, hl2, hd2⟩ := dr_outer (.lst (ns.map .int)) many seed z b c none ds1 (by omega) hd1
        exact ⟨_, _, rfl, .inl e2, ds2, seed2, none, none, none, rfl, by omega, hd2⟩)
  have hl1' : ds1.length ≤ 60 * 63 := by
    simp at hl1
    omega
  obtain ⟨ρ2, e2, ds2, seed2, c2, rfl, hd2, hl2, hg2⟩ := for_inv (gf := gfName 6) (F := B__law_draws_3) (ds := (List.range many).map fun i => .int (i : Nat)) (n := 0)
      (ρ := [some (.lst (ns.map .int)), some (.int many), some (.lst (ds1.map .int)), some (.int seed1), none, none, none])
      (P := fun m ρ => ∃ (ds' : List Int) (seed : Int) (c : Option D), ρ = [some (.lst (ns.map .int)), some (.int many), some (.lst (ds'.map .int)), some (.int seed), none, none, c] ∧ (∀ d ∈ ds', 0 ≤ d ∧ d < 65521) ∧ ds'.length ≤ 60 * 63 + m ∧ (m ≤ ds'.length ∨ many ≤ ds'.length))
      ⟨ds1, seed1, none, rfl, hd1, by omega, .inl (by omega)⟩ (fun i d hi ρ hp => by
        obtain ⟨ds3, seed3, c3, rfl, hd3, hl3, hg3⟩ := hp
        have hi2 := (List.getElem?_eq_some_iff.mp hi).1
        simp at hi2
        have hd : d = .int (i : Nat) := by
          rw [List.getElem?_map, List.getElem?_range hi2] at hi
          exact (Option.some.inj hi).symm
        subst hd
        obtain ⟨ds4, seed4, e4, hd4, n4, y4⟩ := dr_more (.lst (ns.map .int)) many seed3 i ds3 (by omega) hd3
        refine ⟨_, _, rfl, .inl e4, ds4, seed4, none, rfl, hd4, ?_, ?_⟩
        · by_cases q : ds3.length < many
          · rw [y4 q]; omega
          · rw [n4 (by omega)]; omega
        · by_cases q : ds3.length < many
          · rw [y4 q]; omega
          · rw [n4 (by omega)]; omega)
  simp only [List.length_map, List.length_range, Nat.zero_add] at hl2 hg2
  refine ⟨ds2.take many, by simp; omega, fun d h => hd2 d (List.mem_of_mem_take h), ?_⟩
  have e0 := dRng1_nat many (by omega)
  have ec : cut (ns.map D.int) none (some 63) = (ns.map D.int).take 63 := cut_hi _ 63
  simp [C__law_draws, fnE, startE, F__law_draws, x_sFor, ec, e1, e0, e2, cut_hi]
/-- the draws as numbers from nought on -/
theorem drawsN (ns : List Int) (hn : ns.length ≤ 63) (many : Nat) (hm : many ≤ 1000) : ∃ ds : List Nat, ds.length = many ∧ (∀ d ∈ ds, d < 65521) ∧ C__law_draws [.lst (ns.map .int), .int many] = .ok (.lst (ds.map dN)) := by
  obtain ⟨ds, h1, h2, e⟩ := draws_ok ns hn many hm
  refine ⟨ds.map Int.toNat, by rw [List.length_map]; exact h1, fun d h => ?_, ?_⟩
  · obtain ⟨z, hz, rfl⟩ := List.mem_map.mp h
    have := h2 z hz
    omega
  · rw [e, List.map_map]
    congr 2
    refine List.map_congr_left fun z hz => ?_
    have := h2 z hz
    show D.int z = D.int ((z.toNat : Nat) : Int)
    rw [Int.toNat_of_nonneg this.1]
theorem pure_law (ns : List Int) (hn : ns.length ≤ 63) : C_law [.lst (ns.map .int)] = .ok (.bl true) := by
  obtain ⟨dl, hl, hdl, ed⟩ := drawsN ns hn 90 (by omega)
  obtain ⟨t, ht, hto, e1⟩ := ltext_ok dl 0 14 (by omega) (by omega)
  obtain ⟨P, pl, dr, e2⟩ := lpatch_ok dl t hto hdl (by omega) 16 4 (by omega) (by omega)
  have e3 := pt_cv dr.ch
  rw [e3] at e2
  have g2 := gd_cv ht dr
  have h4 : (P.map cv1).length ≤ 4 := by rw [List.length_map]; exact dr.few
  obtain ⟨F, e4, hf, g3⟩ := strange_ok (P := P.map cv1) (ds := dl.drop 40) h4 (by rw [List.length_drop]; omega) g2
  have o : Ok F := ok_of hf (chn_cv (by omega) dr.ch) h4 g3
  have e5 := written_ok o.gk o.wz
  have e6 := lisPatch_ok o.gk
  rw [o.vl] at e6
  have e7 := patchText_ok o.gk o.vl o.wz
  have hS : Sx (jn (wl F)) := ⟨by have := o.sx; omega, o.ch⟩
  have e8 := told_ok hS
  rw [o.rr] at e8
  have e8 : C__law_told [dS (jn (wl F))] = .ok (dP F) := e8
  have e9 : dNe (dS (jn (wl F))) (dS (jn (wl F))) = .ok (.bl false) := dNe_self (okS (ln_sx hS))
  have e10 : dNe (dP F) (dP F) = .ok (.bl false) := dNe_self (okPt o.gk)
  have hc : cut (dl.map dN) (some 40) none = (dl.drop 40).map dN := by
    have := cut_lo (dl.map dN) 40
    rw [List.map_drop, ← this]
    rfl
  have ed : C__law_draws [.lst (ns.map .int), .int 90] = .ok (.lst (dl.map dN)) := ed
  have e1 : C__law_text [.lst (dl.map dN), .int 0, .int 14] = .ok (txD t) := e1
  have e2 : C__law_patch [.lst (dl.map dN), .int 16, txD t, .int 4] = .ok (dP (P.map cv1)) := e2
  have r : dRng1 [.int 8] = .ok ((List.range 8).map fun i => .int (i : Nat)) := dRng1_nat 8 (by omega)
  obtain ⟨ρ', ef, b, d, rfl⟩ := for_inv (gf := gfName 4) (F := B_law_1) (ds := (List.range 8).map fun i => D.int (i : Nat)) (n := 0) (ρ := kE (.lst (ns.map .int)) dl F none none none none)
    (P := fun _ ρ => ∃ b d, ρ = kE (.lst (ns.map .int)) dl F none b d none) ⟨none, none, rfl⟩ fun j x hj ρ hp => by
      obtain ⟨b, d, rfl⟩ := hp
      obtain ⟨i, hi, rfl⟩ := List.mem_map.mp (List.mem_of_getElem? hj)
      exact ⟨_, _, rfl, .inl (bent_step hl o (List.mem_range.mp hi) b d none), _, _, rfl⟩
  have q0 : sSet 1 (eCall C__law_draws (aCons (eVar 0) (aCons (eC (.int 90)) aNil))) [some (.lst (ns.map .int)), none, none, none, none, none, none, none] = .next [some (.lst (ns.map .int)), some (.lst (dl.map dN)), none, none, none, none, none, none] := by
    simp only [x_sSet, x_eCall, x_aCons, x_aNil, x_eVar, x_eC, List.getD_cons_zero, vD_some, Res.bind_ok, ed, flow_ok, List.set_cons_succ, List.set_cons_zero]
  have q1 : sSet 2 (eCall C__law_strange (aCons (eCall C__law_patch (aCons (eVar 1) (aCons (eC (.int 16)) (aCons (eCall C__law_text (aCons (eVar 1) (aCons (eC (.int 0)) (aCons (eC (.int 14)) aNil)))) (aCons (eC (.int 4)) aNil))))) (aCons (eSl (eVar 1) (oSome (eC (.int 40))) oNone) aNil)))
      [some (.lst (ns.map .int)), some (.lst (dl.map dN)), none, none, none, none, none, none] = .next [some (.lst (ns.map .int)), some (.lst (dl.map dN)), some (dP F), none, none, none, none, none] := by
    simp only [x_sSet, x_eCall, x_aCons, x_aNil, x_eVar, x_eC, x_eSl, x_oSome, x_oNone, asI_int, List.getD_cons_zero, List.getD_cons_succ, vD_some, Res.bind_ok, e1, e2, x_dSl_l, hc, e4, flow_ok, List.set_cons_succ, List.set_cons_zero]
  have q2 : sSet 3 (eCall C__law_written (aCons (eVar 2) aNil)) [some (.lst (ns.map .int)), some (.lst (dl.map dN)), some (dP F), none, none, none, none, none] = .next (kE (.lst (ns.map .int)) dl F none none none none) := by
    simp only [x_sSet, x_eCall, x_aCons, x_aNil, x_eVar, List.getD_cons_zero, List.getD_cons_succ, vD_some, Res.bind_ok, e5, flow_ok, List.set_cons_succ, List.set_cons_zero]
  have q3 : (bOr (bNot (eUn dTru (eCall C__law_is_patch (aCons (eVar 2) aNil)))) (bOr (eUn asB (eOp (dNe) (eCall C_patch_text (aCons (eVar 2) aNil)) (eVar 3))) (eUn asB (eOp (dNe) (eCall C__law_told (aCons (eVar 3) aNil)) (eVar 2))))) (kE (.lst (ns.map .int)) dl F none none none none) = .ok false := by
    simp only [x_bOr, x_bNot, x_eUn, x_eOp, x_eCall, x_aCons, x_aNil, x_eVar, List.getD_cons_zero, List.getD_cons_succ, vD_some, Res.bind_ok, e6, x_tru_b, e7, e9, e8, e10, asB, Bool.not_true, Bool.false_eq_true, if_false]
  have hk := end_ok (some (.lst (ns.map .int))) (some (.lst (dl.map dN))) (some (dP F)) (some (dS (jn (wl F)))) none none none
  unfold C_law F_law fnE
  show (match (sSeq _ _) [some (.lst (ns.map .int)), none, none, none, none, none, none, none] with
    | .ret d => Res.ok d
    | .next _ => Res.ok .non
    | .exc c _ => Res.exc c
    | _ => Res.err) = _
  rw [sSeq_x, q0, seqK_next, sSeq_x, q1, seqK_next, sSeq_x, q2, seqK_next, sSeq_x, x_sIf, q3, flow_ok, if_neg Bool.false_ne_true, x_sNext, seqK_next, sSeq_x, x_sFor]
  simp only [x_iCall, x_aCons, x_aNil, x_eC, Res.bind_ok, r, flow_ok]
  rw [ef, seqK_next]
  show (match Kend [some (.lst (ns.map .int)), some (.lst (dl.map dN)), some (dP F), some (dS (jn (wl F))), none, none, none, none] with
    | .ret d => Res.ok d
    | .next _ => Res.ok .non
    | .exc c _ => Res.exc c
    | _ => Res.err) = _
  rw [hk]
end K
theorem PySem.Challenge.cw_patchwright_k02_patches_as_texts_holds : PySem.Challenge.rw_patchwright_k02_patches_as_texts.Holds := by
  exact K.top K.pure_law
