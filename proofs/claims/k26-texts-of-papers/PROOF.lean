import PyProof.Rows.All
import Wide.All
import OpenK.AllK
import Wide.FinOn
import HandS.ForMost
import HandS.Walk
import HandS.TupAny
import HandS.Deep
import HandS.Conv
import HandS.IsInst
import HandS.DictComp
import HandS.More
import HandS.TryOnly
import HandS.Small
import HandS.Iter
import HandS.TupMul
import HandS.SortInts
import HandS.Exc
import HandS.ExcInit
import HandS.ExcField
import HandS.ExcIs
import HandS.ExcOwn
import HandS.WordsExc
import HandS.FStr
import KE.KExcSuper
import KE.KExcIs
import HandS.Zip
import HandS.Rev
import HandS.Text
import HandS.RaiseMore
import PyProof.StrOps2
import PyProof.ReprRoads
import PyProof.CallFns
import HandS.Ends
import PySem.Challenge.RW_eachcellheld_k26_texts_of_papers
import KE.IntTextLaws
import KE.IntTextText
import KE.KIntText
set_option Elab.async false
set_option linter.all false
set_option maxRecDepth 100000
set_option maxHeartbeats 1000000
/-! Y1: values as data (tuples, lists that stand still), a store of what may change; the readings of the hand layer lifted to it. -/
namespace Y
open PySem PySem.Spec PyProof.Rows L2
abbrev Sg := L2.St

/-- a value as data: v x the value itself (an int, a text, the address of something that may change); a tuple, a list that stands still -/
inductive D where
  | v (x : V) | tup (ds : List D) | lst (ds : List D)
instance : Inhabited D := ⟨.v .non⟩
abbrev D.int (i : Int) : D := .v (.int i)
abbrev D.str (x : Str) : D := .v (.str x)
abbrev D.bl (b : Bool) : D := .v (.bl b)
abbrev D.non : D := .v .non
abbrev D.ref (a : Addr) : D := .v (.ref a)

mutual
inductive Rep (K : PySem.W.Frag) (F : Hp) : V → D → Prop
  | v (x : V) : Rep K F x (.v x)
  | tup {a : Addr} {xs : List V} {ds : List D} : SqT K F a xs → RepL K F xs ds → Rep K F (.ref a) (.tup ds)
  | lst {a : Addr} {xs : List V} {ds : List D} : SqL K F a xs → RepL K F xs ds → Rep K F (.ref a) (.lst ds)
inductive RepL (K : PySem.W.Frag) (F : Hp) : List V → List D → Prop
  | nil : RepL K F [] []
  | cons {x : V} {xs : List V} {d : D} {ds : List D} : Rep K F x d → RepL K F xs ds → RepL K F (x :: xs) (d :: ds)
end

/-- F stands within H -/
def Le (F H : Hp) : Prop := ∀ a o, F a = some o → H a = some o
theorem Le.refl (F : Hp) : Le F F := fun _ _ h => h
theorem Le.trans {F G H : Hp} (a : Le F G) (b : Le G H) : Le F H := fun x o h => b x o (a x o h)
theorem Rd.le {F H : Hp} {a : Addr} {u : HO} (e : Le F H) (h : Rd F a u) : Rd H a u := by
  rcases h with h | ⟨o, h⟩
  · exact .inl (e _ _ h)
  · exact .inr ⟨o, e _ _ h⟩
theorem SqL.le {K : PySem.W.Frag} {F H : Hp} {a : Addr} {xs : List V} (e : Le F H) (h : SqL K F a xs) : SqL K H a xs := by
  rcases h with h | h
  · exact .inl (Rd.le e h)
  · exact .inr h
theorem SqT.le {K : PySem.W.Frag} {F H : Hp} {a : Addr} {xs : List V} (e : Le F H) (h : SqT K F a xs) : SqT K H a xs := by
  rcases h with h | h
  · exact .inl (Rd.le e h)
  · exact .inr h
mutual
theorem Rep.le {K : PySem.W.Frag} {F H : Hp} (e : Le F H) : ∀ {x : V} {d : D}, Rep K F x d → Rep K H x d
  | _, _, .v x => .v x
  | _, _, .tup h r => .tup (SqT.le e h) (RepL.le e r)
  | _, _, .lst h r => .lst (SqL.le e h) (RepL.le e r)
theorem RepL.le {K : PySem.W.Frag} {F H : Hp} (e : Le F H) : ∀ {xs : List V} {ds : List D}, RepL K F xs ds → RepL K H xs ds
  | _, _, .nil => .nil
  | _, _, .cons a b => .cons (Rep.le e a) (RepL.le e b)
end
section
variable {K : PySem.W.Frag} {F : Hp}
theorem RepL.length : ∀ {xs : List V} {ds : List D}, RepL K F xs ds → xs.length = ds.length
  | _, _, .nil => rfl
  | _, _, .cons _ r => by simp [RepL.length r]
theorem RepL.get : ∀ {xs : List V} {ds : List D} {i : Nat} {d : D}, RepL K F xs ds → ds[i]? = some d → ∃ x, xs[i]? = some x ∧ Rep K F x d
  | _, _, _, _, .nil, h => by simp at h
  | _, _, 0, _, .cons a b, h => by simp at h; subst h; exact ⟨_, rfl, a⟩
  | _, _, i + 1, _, .cons a b, h => by
    obtain ⟨x, h1, h2⟩ := RepL.get (i := i) b (by simpa using h)
    exact ⟨x, by simpa using h1, h2⟩
theorem RepL.get' : ∀ {xs : List V} {ds : List D} {i : Nat} {x : V}, RepL K F xs ds → xs[i]? = some x → ∃ d, ds[i]? = some d ∧ Rep K F x d
  | _, _, _, _, .nil, h => by simp at h
  | _, _, 0, _, .cons a b, h => by simp at h; subst h; exact ⟨_, rfl, a⟩
  | _, _, i + 1, _, .cons a b, h => by
    obtain ⟨x, h1, h2⟩ := RepL.get' (i := i) b (by simpa using h)
    exact ⟨x, by simpa using h1, h2⟩
theorem RepL.append : ∀ {xs ys : List V} {ds es : List D}, RepL K F xs ds → RepL K F ys es → RepL K F (xs ++ ys) (ds ++ es)
  | _, _, _, _, .nil, r => r
  | _, _, _, _, .cons a b, r => .cons a (RepL.append b r)
theorem RepL.set {x : V} {d : D} (r : Rep K F x d) : ∀ {xs : List V} {ds : List D} (i : Nat), RepL K F xs ds → RepL K F (xs.set i x) (ds.set i d)
  | _, _, _, .nil => .nil
  | _, _, 0, .cons _ b => .cons r b
  | _, _, i + 1, .cons a b => .cons a (RepL.set r i b)
theorem RepL.take : ∀ {xs : List V} {ds : List D} (n : Nat), RepL K F xs ds → RepL K F (xs.take n) (ds.take n)
  | _, _, 0, _ => .nil
  | _, _, _ + 1, .nil => .nil
  | _, _, n + 1, .cons a b => .cons a (RepL.take n b)
theorem RepL.drop : ∀ {xs : List V} {ds : List D} (n : Nat), RepL K F xs ds → RepL K F (xs.drop n) (ds.drop n)
  | _, _, 0, r => r
  | _, _, _ + 1, .nil => .nil
  | _, _, n + 1, .cons _ b => RepL.drop n b
theorem RepL.rev : ∀ {xs : List V} {ds : List D}, RepL K F xs ds → RepL K F xs.reverse ds.reverse
  | _, _, .nil => .nil
  | _, _, .cons a b => by simp only [List.reverse_cons]; exact (RepL.rev b).append (.cons a .nil)
theorem RepL.ints (ns : List Int) : RepL K F (ns.map V.int) (ns.map D.int) := by
  induction ns with
  | nil => exact .nil
  | cons n ns ih => exact .cons (.v _) ih
theorem RepL.strs (ns : List Str) : RepL K F (ns.map V.str) (ns.map D.str) := by
  induction ns with
  | nil => exact .nil
  | cons n ns ih => exact .cons (.v _) ih
theorem RepL.vals (ns : List V) : RepL K F ns (ns.map D.v) := by
  induction ns with
  | nil => exact .nil
  | cons n ns ih => exact .cons (.v _) ih
theorem Rep.int_inv {x : V} {i : Int} (h : Rep K F x (.int i)) : x = .int i := by cases h; rfl
theorem Rep.v_inv {x y : V} (h : Rep K F x (.v y)) : x = y := by cases h; rfl
end

/-- what may change, by its address -/
inductive MO where
  | lst (ds : List D) | dct (kvs : List (Key × D)) | ins (C dx : Addr) (fs : List (Str × D)) | lk (o : Obj) (xs : List (Key × V)) (kvs : List (Key × D)) | raw (o : HO)
abbrev Mm := Addr → Option MO
def put (M : Mm) (a : Addr) (m : MO) : Mm := fun b => if b = a then some m else M b
def drop (M : Mm) (a : Addr) : Mm := fun b => if b = a then none else M b
theorem put_same {M : Mm} {a : Addr} {m : MO} : put M a m a = some m := by unfold put; rw [if_pos rfl]
theorem put_ne {M : Mm} {a b : Addr} {m : MO} (h : b ≠ a) : put M a m b = M b := by unfold put; rw [if_neg h]
theorem put_put {M : Mm} {a : Addr} {m n : MO} : put (put M a m) a n = put M a n := by
  funext b; unfold put; split <;> rfl
theorem drop_same {M : Mm} {a : Addr} : drop M a a = none := by unfold drop; rw [if_pos rfl]
theorem drop_ne {M : Mm} {a b : Addr} (h : b ≠ a) : drop M a b = M b := by unfold drop; rw [if_neg h]
theorem drop_put {M : Mm} {a : Addr} {m : MO} (h : M a = none) : drop (put M a m) a = M := by
  funext b; unfold put drop
  by_cases e : b = a
  · rw [if_pos e, e, h]
  · simp only [if_neg e]
theorem put_comm {M : Mm} {a b : Addr} {m n : MO} (h : a ≠ b) : put (put M a m) b n = put (put M b n) a m := by
  funext c; unfold put; split <;> split <;> simp_all
theorem put_get {M : Mm} {a : Addr} {m : MO} (h : M a = some m) : put M a m = M := by
  funext b; unfold put; split
  · rename_i e; rw [e, h]
  · rfl

def RepKV (K : PySem.W.Frag) (F : Hp) {κ : Type} : List (κ × V) → List (κ × D) → Prop := Paired fun p q => p.1 = q.1 ∧ Rep K F p.2 q.2
theorem RepKV.le {K : PySem.W.Frag} {F G : Hp} {κ : Type} {xs : List (κ × V)} {ds : List (κ × D)} (e : Le F G) (h : RepKV K F xs ds) : RepKV K G xs ds := Paired.mapP h fun _ _ q => ⟨q.1, Rep.le e q.2⟩
theorem RepKV.length {K : PySem.W.Frag} {F : Hp} {κ : Type} {xs : List (κ × V)} {ds : List (κ × D)} (h : RepKV K F xs ds) : xs.length = ds.length := Paired.length h

inductive MRep (K : PySem.W.Frag) (F : Hp) : HO → MO → Prop
  | lst {xs : List V} {ds : List D} : RepL K F xs ds → MRep K F (.lst xs) (.lst ds)
  | dct {xs : List (Key × V)} {ds : List (Key × D)} : RepKV K F xs ds → MRep K F (.dK xs) (.dct ds)
  | ins {C dx : Addr} {xs : List (Str × V)} {ds : List (Str × D)} : RepKV K F xs ds → MRep K F (.ins C dx xs) (.ins C dx ds)
  | lk {o : Obj} {xs : List (Key × V)} {ds : List (Key × D)} : RepKV K F xs ds → MRep K F (.frz o (.dK xs)) (.lk o xs ds)
  | raw (o : HO) : MRep K F o (.raw o)
theorem MRep.le {K : PySem.W.Frag} {F G : Hp} (e : Le F G) {o : HO} {m : MO} (h : MRep K F o m) : MRep K G o m := by
  cases h with
  | lst r => exact .lst (RepL.le e r)
  | dct r => exact .dct (RepKV.le e r)
  | ins r => exact .ins (RepKV.le e r)
  | lk r => exact .lk (RepKV.le e r)
  | raw => exact .raw _

/-- the heap H holds what stands still (F) and what may change (M) -/
structure Stt (K : PySem.W.Frag) (H F : Hp) (M : Mm) : Prop where
  fz : Le F H
  mu : ∀ a m, M a = some m → F a = none ∧ ∃ o, H a = some o ∧ MRep K F o m
section
variable {K : PySem.W.Frag} {H F : Hp} {M : Mm}
theorem Stt.free (S : Stt K H F M) {p : Addr} (h : H p = none) : F p = none ∧ M p = none := by
  constructor
  · cases e : F p with
    | none => rfl
    | some o => rw [S.fz _ _ e] at h; cases h
  · cases e : M p with
    | none => rfl
    | some m =>
      obtain ⟨_, o, h2, _⟩ := S.mu _ _ e
      rw [h2] at h; cases h
theorem le_upd {F : Hp} {p : Addr} {o : HO} (h : F p = none) : Le F (upd F p o) := fun a u e => by
  rw [upd_ne (ne_of_none e h)]; exact e
/-- something new that stands still -/
theorem Stt.still (S : Stt K H F M) {p : Addr} {o : HO} (h : H p = none) : Stt K (upd H p o) (upd F p o) M := by
  obtain ⟨f0, m0⟩ := S.free h
  refine ⟨fun a u e => ?_, fun a m e => ?_⟩
  · by_cases q : a = p
    · subst q; rw [upd_same] at e ⊢; exact e
    · rw [upd_ne q] at e ⊢; exact S.fz _ _ e
  · obtain ⟨h1, u, h2, h3⟩ := S.mu _ _ e
    have q : a ≠ p := fun z => by rw [z, m0] at e; cases e
    exact ⟨by rw [upd_ne q]; exact h1, u, by rw [upd_ne q]; exact h2, h3.le (le_upd f0)⟩
/-- something new that may change -/
theorem Stt.newM (S : Stt K H F M) {p : Addr} {o : HO} {m : MO} (h : H p = none) (r : MRep K F o m) : Stt K (upd H p o) F (put M p m) := by
  obtain ⟨f0, m0⟩ := S.free h
  refine ⟨fun a u e => ?_, fun a n e => ?_⟩
  · rw [upd_ne (ne_of_none e f0)]; exact S.fz _ _ e
  · by_cases q : a = p
    · subst q; rw [put_same] at e; cases e; exact ⟨f0, o, upd_same, r⟩
    · rw [put_ne q] at e
      obtain ⟨h1, u, h2, h3⟩ := S.mu _ _ e
      exact ⟨h1, u, by rw [upd_ne q]; exact h2, h3⟩
/-- what may change is changed -/
theorem Stt.change (S : Stt K H F M) {p : Addr} {o : HO} {m m0 : MO} (h : M p = some m0) (r : MRep K F o m) : Stt K (upd H p o) F (put M p m) := by
  obtain ⟨f0, _⟩ := S.mu _ _ h
  refine ⟨fun a u e => ?_, fun a n e => ?_⟩
  · rw [upd_ne (ne_of_none e f0)]; exact S.fz _ _ e
  · by_cases q : a = p
    · subst q; rw [put_same] at e; cases e; exact ⟨f0, o, upd_same, r⟩
    · rw [put_ne q] at e
      obtain ⟨h1, u, h2, h3⟩ := S.mu _ _ e
      exact ⟨h1, u, by rw [upd_ne q]; exact h2, h3⟩
/-- what may change stands still from here on -/
theorem Stt.freeze (S : Stt K H F M) {p : Addr} {m : MO} (h : M p = some m) : ∃ o, H p = some o ∧ MRep K F o m ∧ Le F (upd F p o) ∧ Stt K H (upd F p o) (drop M p) := by
  obtain ⟨f0, o, h2, h3⟩ := S.mu _ _ h
  refine ⟨o, h2, h3, le_upd f0, fun a u e => ?_, fun a n e => ?_⟩
  · by_cases q : a = p
    · subst q; rw [upd_same] at e; cases e; exact h2
    · rw [upd_ne q] at e; exact S.fz _ _ e
  · by_cases q : a = p
    · subst q; rw [drop_same] at e; cases e
    · rw [drop_ne q] at e
      obtain ⟨k1, u, k2, k3⟩ := S.mu _ _ e
      exact ⟨by rw [upd_ne q]; exact k1, u, k2, k3.le (le_upd f0)⟩
/-- less is told -/
theorem Stt.less (S : Stt K H F M) {M' : Mm} (h : ∀ a m, M' a = some m → M a = some m) : Stt K H F M' := ⟨S.fz, fun a m e => S.mu a m (h a m e)⟩
end

/-- the names' values -/
abbrev Env := List (Option D)
inductive RepS (K : PySem.W.Frag) (F : Hp) : Sg → Env → Prop
  | nil : RepS K F [] []
  | some {x : V} {d : D} {σ : Sg} {δ : Env} : Rep K F x d → RepS K F σ δ → RepS K F (Option.some x :: σ) (Option.some d :: δ)
  | none {σ : Sg} {δ : Env} : RepS K F σ δ → RepS K F (Option.none :: σ) (Option.none :: δ)
section
variable {K : PySem.W.Frag} {F G : Hp}
theorem RepS.le (e : Le F G) : ∀ {σ : Sg} {δ : Env}, RepS K F σ δ → RepS K G σ δ
  | _, _, .nil => .nil
  | _, _, .some r t => .some (r.le e) (RepS.le e t)
  | _, _, .none t => .none (RepS.le e t)
theorem RepS.get : ∀ {σ : Sg} {δ : Env} {i : Nat} {d : D}, RepS K F σ δ → δ[i]? = Option.some (Option.some d) → ∃ x, σ[i]? = Option.some (Option.some x) ∧ Rep K F x d
  | _, _, _, _, .nil, h => by simp at h
  | _, _, 0, _, .some r _, h => by simp at h; subst h; exact ⟨_, rfl, r⟩
  | _, _, 0, _, .none _, h => by simp at h
  | _, _, i + 1, _, .some _ t, h => by
    obtain ⟨x, h1, h2⟩ := RepS.get (i := i) t (by simpa using h)
    exact ⟨x, by simpa using h1, h2⟩
  | _, _, i + 1, _, .none t, h => by
    obtain ⟨x, h1, h2⟩ := RepS.get (i := i) t (by simpa using h)
    exact ⟨x, by simpa using h1, h2⟩
theorem RepS.set {x : V} {d : D} (r : Rep K F x d) : ∀ {σ : Sg} {δ : Env} (i : Nat), RepS K F σ δ → RepS K F (σ.set i (Option.some x)) (δ.set i (Option.some d))
  | _, _, _, .nil => .nil
  | _, _, 0, .some _ t => .some r t
  | _, _, 0, .none t => .some r t
  | _, _, i + 1, .some q t => .some q (RepS.set r i t)
  | _, _, i + 1, .none t => .none (RepS.set r i t)
theorem RepS.unset : ∀ {σ : Sg} {δ : Env} (i : Nat), RepS K F σ δ → RepS K F (σ.set i Option.none) (δ.set i Option.none)
  | _, _, _, .nil => .nil
  | _, _, 0, .some _ t => .none t
  | _, _, 0, .none t => .none t
  | _, _, i + 1, .some q t => .some q (RepS.unset i t)
  | _, _, i + 1, .none t => .none (RepS.unset i t)
theorem RepS.append : ∀ {σ τ : Sg} {δ ε : Env}, RepS K F σ δ → RepS K F τ ε → RepS K F (σ ++ τ) (δ ++ ε)
  | _, _, _, _, .nil, t => t
  | _, _, _, _, .some r t, u => .some r (RepS.append t u)
  | _, _, _, _, .none t, u => .none (RepS.append t u)
theorem RepS.ofL : ∀ {xs : List V} {ds : List D}, RepL K F xs ds → RepS K F (xs.map Option.some) (ds.map Option.some)
  | _, _, .nil => .nil
  | _, _, .cons r t => .some r (RepS.ofL t)
theorem RepS.rep (n : Nat) : RepS K F (List.replicate n Option.none) (List.replicate n Option.none) := by
  induction n with
  | zero => exact .nil
  | succ n ih => exact .none ih
theorem RepS.length : ∀ {σ : Sg} {δ : Env}, RepS K F σ δ → σ.length = δ.length
  | _, _, .nil => rfl
  | _, _, .some _ t => by simp [RepS.length t]
  | _, _, .none t => by simp [RepS.length t]
end

/-! ### the readings -/
abbrev QD := D → Mm → Prop
abbrev DE := Env → Mm → QD → Prop
abbrev DT := Env → Mm → (Bool → Mm → Prop) → Prop
abbrev DA := Env → Mm → (List D → Mm → Prop) → Prop
structure DEnds where
  nx : Env → Mm → Prop
  rt : QD
  bk : Env → Mm → Prop := fun _ _ => False
  ct : Env → Mm → Prop := fun _ _ => False
abbrev DS := DEnds → Env → Mm → Prop

def LQ (K : PySem.W.Frag) (F : Hp) (Q : QD) : VK := fun v H' => ∃ F' M' d, Le F F' ∧ Stt K H' F' M' ∧ Rep K F' v d ∧ Q d M'
def LB (K : PySem.W.Frag) (F : Hp) (Q : Bool → Mm → Prop) : Bool → Hp → Prop := fun b H' => ∃ F' M', Le F F' ∧ Stt K H' F' M' ∧ Q b M'
def LL (K : PySem.W.Frag) (F : Hp) (Q : List D → Mm → Prop) : List V → Hp → Prop := fun vs H' => ∃ F' M' ds, Le F F' ∧ Stt K H' F' M' ∧ RepL K F' vs ds ∧ Q ds M'
def LS (K : PySem.W.Frag) (F : Hp) (R : Env → Mm → Prop) : Sg → Hp → Prop := fun σ' H' => ∃ F' M' δ', Le F F' ∧ Stt K H' F' M' ∧ RepS K F' σ' δ' ∧ R δ' M'
theorem LQ.le {K : PySem.W.Frag} {F G : Hp} {Q : QD} {v : V} {H : Hp} (e : Le F G) (h : LQ K G Q v H) : LQ K F Q v H := let ⟨F', M', d, a, b⟩ := h; ⟨F', M', d, e.trans a, b⟩
theorem LB.le {K : PySem.W.Frag} {F G : Hp} {Q : Bool → Mm → Prop} {v : Bool} {H : Hp} (e : Le F G) (h : LB K G Q v H) : LB K F Q v H := let ⟨F', M', a, b⟩ := h; ⟨F', M', e.trans a, b⟩
theorem LL.le {K : PySem.W.Frag} {F G : Hp} {Q : List D → Mm → Prop} {v : List V} {H : Hp} (e : Le F G) (h : LL K G Q v H) : LL K F Q v H := let ⟨F', M', d, a, b⟩ := h; ⟨F', M', d, e.trans a, b⟩
theorem LS.le {K : PySem.W.Frag} {F G : Hp} {Q : Env → Mm → Prop} {v : Sg} {H : Hp} (e : Le F G) (h : LS K G Q v H) : LS K F Q v H := let ⟨F', M', d, a, b⟩ := h; ⟨F', M', d, e.trans a, b⟩

def up (K : PySem.W.Frag) (B : Hp) (t : DE) : TE := fun σ H Q => ∃ F M δ Q', Le B F ∧ Stt K H F M ∧ RepS K F σ δ ∧ t δ M Q' ∧ ∀ v H', LQ K F Q' v H' → Q v H'
def upT (K : PySem.W.Frag) (B : Hp) (t : DT) : TT := fun σ H Q => ∃ F M δ Q', Le B F ∧ Stt K H F M ∧ RepS K F σ δ ∧ t δ M Q' ∧ ∀ v H', LB K F Q' v H' → Q v H'
def upA (K : PySem.W.Frag) (B : Hp) (t : DA) : TA := fun σ H Q => ∃ F M δ Q', Le B F ∧ Stt K H F M ∧ RepS K F σ δ ∧ t δ M Q' ∧ ∀ v H', LL K F Q' v H' → Q v H'
def upS (K : PySem.W.Frag) (B : Hp) (t : DS) : TS := fun E σ H => ∃ F M δ E', Le B F ∧ Stt K H F M ∧ RepS K F σ δ ∧ t E' δ M ∧ (∀ σ' H', LS K F E'.nx σ' H' → E.nx σ' H') ∧ (∀ v H', LQ K F E'.rt v H' → E.rt v H') ∧
  (∀ σ' H', LS K F E'.bk σ' H' → E.bk σ' H') ∧ (∀ σ' H', LS K F E'.ct σ' H' → E.ct σ' H')

theorem PE.wk {X : Cx} {e : Expr} {t t' : TE} (h : PE X e t) (w : ∀ σ H Q, t' σ H Q → t σ H Q) : PE X e t' := ⟨fun pins s σ H Q I q => h.run pins s σ H Q I (w σ H Q q)⟩
theorem PT.wk {X : Cx} {e : Expr} {t t' : TT} (h : PT X e t) (w : ∀ σ H Q, t' σ H Q → t σ H Q) : PT X e t' := ⟨fun pins s σ H Q I q => h.run pins s σ H Q I (w σ H Q q)⟩
theorem PW.wk {X : Cx} {e : Expr} {t t' : TT} (h : PW X e t) (w : ∀ σ H Q, t' σ H Q → t σ H Q) : PW X e t' := ⟨fun wh pins s σ H Q I q => h.run wh pins s σ H Q I (w σ H Q q)⟩
theorem PA.wk {X : Cx} {es : List Expr} {t t' : TA} (h : PA X es t) (w : ∀ σ H Q, t' σ H Q → t σ H Q) : PA X es t' := ⟨fun pos pins s σ H Q I q => h.run pos pins s σ H Q I (w σ H Q q)⟩
theorem PS.wk {X : Cx} {st : Stmt} {t t' : TS} (h : PS X st t) (w : ∀ E σ H, t' E σ H → t E σ H) : PS X st t' := ⟨fun pins s σ H E I q => h.run pins s σ H E I (w E σ H q)⟩
theorem PSs.wk {X : Cx} {st : List Stmt} {t t' : TS} (h : PSs X st t) (w : ∀ E σ H, t' E σ H → t E σ H) : PSs X st t' := ⟨fun pins s σ H E I q => h.run pins s σ H E I (w E σ H q)⟩

section
variable {X : Cx} {B : Hp}
/-! ### names and constants -/
def dVar (i : Nat) : DE := fun δ M Q => ∃ d, δ[i]? = some (some d) ∧ Q d M
def dC (v : V) : DE := fun _ M Q => Q (.v v) M
theorem q_var (i : Nat) {x : Str} {pos : Pos} (hN : X.N[i]? = some x := by rfl) (hv : Vis X.env.scope x := by first | exact Or.inl rfl | exact Or.inr (Or.inl rfl) | exact Or.inr (Or.inr rfl)) (hd : (x == ("__debug__" : Str)) = false := by decide)
    (hcd : (x == ("__classdict__" : Str)) = false := by decide) : PE X (.Name x pos) (up X.K B (dVar i)) :=
  PE.wk (pe_var hN hv hd hcd) fun σ H Q ⟨F, M, δ, Q', lb, S, r, ⟨d, e, q⟩, k⟩ => by
    obtain ⟨x, h1, h2⟩ := r.get e
    exact ⟨x, h1, k _ _ ⟨F, M, d, Le.refl F, S, h2, q⟩⟩
theorem q_const {e : Expr} {v : V} (h : PE X e (tC v)) : PE X e (up X.K B (dC v)) :=
  PE.wk h fun σ H Q ⟨F, M, δ, Q', lb, S, r, q, k⟩ => k _ _ ⟨F, M, _, Le.refl F, S, .v v, q⟩
theorem q_int {i j pos} : PE X (.Constant (.int i) j pos) (up X.K B (dC (.int i))) := q_const pe_int
theorem q_bl {b j pos} : PE X (.Constant (.bool b) j pos) (up X.K B (dC (.bl b))) := q_const pe_bl
theorem q_non {j pos} : PE X (.Constant .none j pos) (up X.K B (dC .non)) := q_const pe_non
theorem q_str {x j pos} : PE X (.Constant (.str x) j pos) (up X.K B (dC (.str x))) := q_const pe_str

/-! ### operators by values -/
abbrev D2 := D → D → Mm → QD → Prop
/-- a rule of the layer, told of data -/
def Lift2 (K : PySem.W.Frag) (r : R2) (r' : D2) : Prop := ∀ H F M x y d e Q' Q, Stt K H F M → Rep K F x d → Rep K F y e → r' d e M Q' → (∀ v H', LQ K F Q' v H' → Q v H') → r x y H Q
def dOp (r : D2) (ta tb : DE) : DE := fun δ M Q => ta δ M fun x M1 => tb δ M1 fun y M2 => r x y M2 Q
theorem up_bin {K : PySem.W.Frag} {B : Hp} {r : R2} {r' : D2} (L : Lift2 K r r') {ta tb : DE} {σ : Sg} {H : Hp} {Q : VK} (h : up K B (dOp r' ta tb) σ H Q) : tOp r (up K B ta) (up K B tb) σ H Q := by
  obtain ⟨F, M, δ, Q', lb, S, rs, h, k⟩ := h
  refine ⟨F, M, δ, _, lb, S, rs, h, fun x H1 ⟨F1, M1, d, l1, S1, r1, h1⟩ => ?_⟩
  refine ⟨F1, M1, δ, _, lb.trans l1, S1, rs.le l1, h1, fun y H2 ⟨F2, M2, e, l2, S2, r2, h2⟩ => ?_⟩
  exact L H2 F2 M2 x y d e Q' Q S2 (r1.le l2) r2 h2 fun v H' q => k v H' (q.le (l1.trans l2))
variable {a b c : Expr} {ta tb tc : DE} {pos : Pos}
theorem q_op {op : Operator} {r : R2} {r' : D2} (ho : OpR X (binaryOp op) r) (L : Lift2 X.K r r') (ha : PE X a (up X.K B ta)) (hb : PE X b (up X.K B tb)) : PE X (.BinOp a op b pos) (up X.K B (dOp r' ta tb)) :=
  PE.wk (pe_op ho ha hb) fun _ _ _ h => up_bin L h
theorem q_cmp {op : CmpOp} {r : R2} {r' : D2} (ho : OpR X (compareOp op) r) (L : Lift2 X.K r r') (ha : PE X a (up X.K B ta)) (hb : PE X b (up X.K B tb)) (hm : behindInMarks op b = false) : PE X (.Compare a [op] [b] pos) (up X.K B (dOp r' ta tb)) :=
  PE.wk (pe_cmpR ho ha hb hm) fun _ _ _ h => up_bin L h
theorem q_ix {r : R2} {r' : D2} (hr : IxR X r) (L : Lift2 X.K r r') (ha : PE X a (up X.K B ta)) (hb : PE X b (up X.K B tb)) (hs : PlainIx b := by intro _ _; rfl) : PE X (.Subscript a b pos) (up X.K B (dOp r' ta tb)) :=
  PE.wk (pe_ix hr ha hb hs) fun _ _ _ h => up_bin L h
/-- a value as a test -/
def dTest (t : DE) : DT := fun δ M Q => t δ M fun d M1 => ∃ k, d = .bl k ∧ Q k M1
theorem up_test {K : PySem.W.Frag} {B : Hp} {t : DE} {σ : Sg} {H : Hp} {Q : Bool → Hp → Prop} (h : upT K B (dTest t) σ H Q) : tTest (up K B t) σ H Q := by
  obtain ⟨F, M, δ, Q', lb, S, rs, h, k⟩ := h
  refine ⟨F, M, δ, _, lb, S, rs, h, fun v H' ⟨F1, M1, d, l1, S1, r1, b, e, h1⟩ => ?_⟩
  subst e
  cases r1
  exact ⟨b, rfl, k _ _ ⟨F1, M1, l1, S1, h1⟩⟩
theorem qt_cmp {op : CmpOp} {r : R2} {r' : D2} (ho : OpR X (compareOp op) r) (L : Lift2 X.K r r') (ha : PE X a (up X.K B ta)) (hb : PE X b (up X.K B tb)) (hm : behindInMarks op b = false) : PT X (.Compare a [op] [b] pos) (upT X.K B (dTest (dOp r' ta tb))) :=
  PT.wk (pt_cmpR ho ha hb hm) fun _ _ _ h => by
    obtain ⟨F, M, δ, Q', lb, S, rs, h, k⟩ := h
    refine up_bin L (Q := fun x H' => ∃ k, x = .bl k ∧ _) ⟨F, M, δ, _, lb, S, rs, h, fun v H' ⟨F1, M1, d, l1, S1, r1, b, e, h1⟩ => ?_⟩
    subst e
    cases r1
    exact ⟨b, rfl, k _ _ ⟨F1, M1, l1, S1, h1⟩⟩
theorem qt_val {e : Expr} {t : DE} (h : PE X e (up X.K B t)) (he : ∀ whole, isTrue e X.env whole = (do let v ← whole; standAt e.pos; holding [v] (truthy v)) := by intro _; rfl) : PT X e (upT X.K B (dTest t)) :=
  PT.wk (pt_val h he) fun _ _ _ h => up_test h
/-- a chain of two comparisons -/
def dChain (r r' : D2) (ta tb tc : DE) : DE := fun δ M Q => ta δ M fun x M1 => tb δ M1 fun y M2 => r x y M2 fun z M3 => ∃ k, z = .bl k ∧ (if k = true then tc δ M3 fun w' M4 => r' y w' M4 Q else Q (.bl false) M3)
theorem up_chain {K : PySem.W.Frag} {B : Hp} {r s : R2} {r' s' : D2} (L : Lift2 K r r') (L' : Lift2 K s s') {ta tb tc : DE} {σ : Sg} {H : Hp} {Q : VK} (h : up K B (dChain r' s' ta tb tc) σ H Q) : tChain r s (up K B ta) (up K B tb) (up K B tc) σ H Q := by
  obtain ⟨F, M, δ, Q', lb, S, rs, h, k⟩ := h
  refine ⟨F, M, δ, _, lb, S, rs, h, fun x H1 ⟨F1, M1, d, l1, S1, r1, h1⟩ => ?_⟩
  refine ⟨F1, M1, δ, _, lb.trans l1, S1, rs.le l1, h1, fun y H2 ⟨F2, M2, e, l2, S2, r2, h2⟩ => ?_⟩
  refine L H2 F2 M2 x y d e _ _ S2 (r1.le l2) r2 h2 fun z H3 ⟨F3, M3, f, l3, S3, r3, b, eb, h3⟩ => ?_
  subst eb
  cases r3
  refine ⟨b, rfl, ?_⟩
  cases b with
  | false => exact iteF (k _ _ ⟨F3, M3, _, (l1.trans l2).trans l3, S3, .v _, by simpa using h3⟩)
  | true =>
    rw [if_pos rfl] at h3
    refine iteT ⟨F3, M3, δ, _, lb.trans ((l1.trans l2).trans l3), S3, rs.le ((l1.trans l2).trans l3), h3, fun w H4 ⟨F4, M4, g, l4, S4, r4, h4⟩ => ?_⟩
    exact L' H4 F4 M4 y w e g Q' Q S4 (r2.le (l3.trans l4)) r4 h4 fun v H' q => k v H' (q.le (((l1.trans l2).trans l3).trans l4))
theorem q_chain {op op' : CmpOp} {r s : R2} {r' s' : D2} (ho : OpR X (compareOp op) r) (L : Lift2 X.K r r') (ho' : OpR X (compareOp op') s) (L' : Lift2 X.K s s') (ha : PE X a (up X.K B ta)) (hb : PE X b (up X.K B tb)) (hc : PE X c (up X.K B tc))
    (hm : lastMarks [op, op'] [b, c] = false := by with_unfolding_all rfl) : PE X (.Compare a [op, op'] [b, c] pos) (up X.K B (dChain r' s' ta tb tc)) :=
  PE.wk (pe_chain ho ho' ha hb hc hm) fun _ _ _ h => up_chain L L' h
theorem qt_chain {op op' : CmpOp} {r s : R2} {r' s' : D2} (ho : OpR X (compareOp op) r) (L : Lift2 X.K r r') (ho' : OpR X (compareOp op') s) (L' : Lift2 X.K s s') (ha : PE X a (up X.K B ta)) (hb : PE X b (up X.K B tb)) (hc : PE X c (up X.K B tc))
    (hm : lastMarks [op, op'] [b, c] = false := by with_unfolding_all rfl) : PT X (.Compare a [op, op'] [b, c] pos) (upT X.K B (dTest (dChain r' s' ta tb tc))) :=
  PT.wk (pt_chain ho ho' ha hb hc hm) fun _ _ _ h => by
    obtain ⟨F, M, δ, Q', lb, S, rs, h, k⟩ := h
    refine up_chain L L' (Q := fun x H' => ∃ k, x = .bl k ∧ _) ⟨F, M, δ, _, lb, S, rs, h, fun v H' ⟨F1, M1, d, l1, S1, r1, b, e, h1⟩ => ?_⟩
    subst e
    cases r1
    exact ⟨b, rfl, k _ _ ⟨F1, M1, l1, S1, h1⟩⟩

/-! ### and, or, not as tests; a conditional expression -/
variable {tA tB' : DT} {rest : List Expr}
def dAnd (t u : DT) : DT := fun δ M Q => t δ M fun c M1 => if c = true then u δ M1 Q else Q false M1
def dOr (t u : DT) : DT := fun δ M Q => t δ M fun c M1 => if c = true then Q true M1 else u δ M1 Q
def dNot (t : DT) : DT := fun δ M Q => t δ M fun c M1 => Q (!c) M1
theorem qw_and1 (ha : PT X a (upT X.K B tA)) : PW X (.BoolOp .And [a] pos) (upT X.K B tA) := pw_and1 ha
theorem qw_or1 (ha : PT X a (upT X.K B tA)) : PW X (.BoolOp .Or [a] pos) (upT X.K B tA) := pw_or1 ha
theorem qw_and (ha : PT X a (upT X.K B tA)) (hb : PW X (.BoolOp .And (b :: rest) pos) (upT X.K B tB')) : PW X (.BoolOp .And (a :: b :: rest) pos) (upT X.K B (dAnd tA tB')) :=
  PW.wk (pw_and ha hb) fun σ H Q ⟨F, M, δ, Q', lb, S, rs, h, k⟩ => ⟨F, M, δ, _, lb, S, rs, h, fun c H1 ⟨F1, M1, l1, S1, h1⟩ => by
    cases c with
    | true => exact iteT ⟨F1, M1, δ, _, lb.trans l1, S1, rs.le l1, by simpa using h1, fun v H' q => k v H' (q.le l1)⟩
    | false => exact iteF (k _ _ ⟨F1, M1, l1, S1, by simpa using h1⟩)⟩
theorem qw_or (ha : PT X a (upT X.K B tA)) (hb : PW X (.BoolOp .Or (b :: rest) pos) (upT X.K B tB')) : PW X (.BoolOp .Or (a :: b :: rest) pos) (upT X.K B (dOr tA tB')) :=
  PW.wk (pw_or ha hb) fun σ H Q ⟨F, M, δ, Q', lb, S, rs, h, k⟩ => ⟨F, M, δ, _, lb, S, rs, h, fun c H1 ⟨F1, M1, l1, S1, h1⟩ => by
    cases c with
    | false => exact iteF ⟨F1, M1, δ, _, lb.trans l1, S1, rs.le l1, by simpa using h1, fun v H' q => k v H' (q.le l1)⟩
    | true => exact iteT (k _ _ ⟨F1, M1, l1, S1, by simpa using h1⟩)⟩
theorem qt_not (ha : PT X a (upT X.K B tA)) : PT X (.UnaryOp .Not a pos) (upT X.K B (dNot tA)) :=
  PT.wk (pt_not ha) fun σ H Q ⟨F, M, δ, Q', lb, S, rs, h, k⟩ => ⟨F, M, δ, _, lb, S, rs, h, fun c H1 ⟨F1, M1, l1, S1, h1⟩ => k _ _ ⟨F1, M1, l1, S1, h1⟩⟩
def dIf (t : DT) (ta tb : DE) : DE := fun δ M Q => t δ M fun c M1 => if c = true then ta δ M1 Q else tb δ M1 Q
theorem q_ifExp (hc : PT X c (upT X.K B tA)) (ha : PE X a (up X.K B ta)) (hb : PE X b (up X.K B tb)) : PE X (.IfExp c a b pos) (up X.K B (dIf tA ta tb)) :=
  PE.wk (pe_ifExp hc ha hb) fun σ H Q ⟨F, M, δ, Q', lb, S, rs, h, k⟩ => ⟨F, M, δ, _, lb, S, rs, h, fun c H1 ⟨F1, M1, l1, S1, h1⟩ => by
    cases c with
    | true => exact iteT ⟨F1, M1, δ, _, lb.trans l1, S1, rs.le l1, by simpa using h1, fun v H' q => k v H' (q.le l1)⟩
    | false => exact iteF ⟨F1, M1, δ, _, lb.trans l1, S1, rs.le l1, by simpa using h1, fun v H' q => k v H' (q.le l1)⟩⟩
/-! ### and, or, not as values that are True or False -/
def dAndV (ta tb : DE) : DE := fun δ M Q => ta δ M fun x M1 => ∃ c, x = .bl c ∧ if c = true then tb δ M1 Q else Q (.bl false) M1
def dOrV (ta tb : DE) : DE := fun δ M Q => ta δ M fun x M1 => ∃ c, x = .bl c ∧ if c = true then Q (.bl true) M1 else tb δ M1 Q
def dNotV (ta : DE) : DE := fun δ M Q => ta δ M fun x M1 => ∃ c, x = .bl c ∧ Q (.bl (!c)) M1
theorem q_one {op} (h : PE X a (up X.K B ta)) : PE X (.BoolOp op [a] pos) (up X.K B ta) := pe_one h
theorem q_and (ha : PE X a (up X.K B ta)) (hb : PE X (.BoolOp .And (b :: rest) pos) (up X.K B tb)) : PE X (.BoolOp .And (a :: b :: rest) pos) (up X.K B (dAndV ta tb)) :=
  PE.wk (pe_and ha hb) fun σ H Q ⟨F, M, δ, Q', lb, S, rs, h, k⟩ => ⟨F, M, δ, _, lb, S, rs, h, fun v H1 ⟨F1, M1, d, l1, S1, r1, c, e, h1⟩ => by
    subst e
    cases r1
    refine ⟨c, rfl, ?_⟩
    cases c with
    | true => exact iteT ⟨F1, M1, δ, _, lb.trans l1, S1, rs.le l1, by simpa using h1, fun v H' q => k v H' (q.le l1)⟩
    | false => exact iteF (k _ _ ⟨F1, M1, _, l1, S1, .v _, by simpa using h1⟩)⟩
theorem q_or (ha : PE X a (up X.K B ta)) (hb : PE X (.BoolOp .Or (b :: rest) pos) (up X.K B tb)) : PE X (.BoolOp .Or (a :: b :: rest) pos) (up X.K B (dOrV ta tb)) :=
  PE.wk (pe_or ha hb) fun σ H Q ⟨F, M, δ, Q', lb, S, rs, h, k⟩ => ⟨F, M, δ, _, lb, S, rs, h, fun v H1 ⟨F1, M1, d, l1, S1, r1, c, e, h1⟩ => by
    subst e
    cases r1
    refine ⟨c, rfl, ?_⟩
    cases c with
    | false => exact iteF ⟨F1, M1, δ, _, lb.trans l1, S1, rs.le l1, by simpa using h1, fun v H' q => k v H' (q.le l1)⟩
    | true => exact iteT (k _ _ ⟨F1, M1, _, l1, S1, .v _, by simpa using h1⟩)⟩
theorem q_not (ha : PE X a (up X.K B ta)) : PE X (.UnaryOp .Not a pos) (up X.K B (dNotV ta)) :=
  PE.wk (pe_not ha) fun σ H Q ⟨F, M, δ, Q', lb, S, rs, h, k⟩ => ⟨F, M, δ, _, lb, S, rs, h, fun v H1 ⟨F1, M1, d, l1, S1, r1, c, e, h1⟩ => by
    subst e
    cases r1
    exact ⟨c, rfl, k _ _ ⟨F1, M1, _, l1, S1, .v _, h1⟩⟩⟩
end
end Y


set_option Elab.async false
set_option linter.all false
set_option maxRecDepth 100000
set_option maxHeartbeats 1000000
/-! Y2: arguments, displays, calls of defs, statements, loops, comprehensions. -/
namespace Y
open PySem PySem.Spec PyProof.Rows L2
section
variable {X : Cx} {B : Hp} {e : Expr} {es : List Expr} {pos : Pos}
/-! ### arguments, displays -/
def dNil : DA := fun _ M Q => Q [] M
def dCons (t : DE) (u : DA) : DA := fun δ M Q => t δ M fun d M1 => u δ M1 fun ds M2 => Q (d :: ds) M2
theorem qa_nil : PA X [] (upA X.K B dNil) := PA.wk pa_nil fun σ H Q ⟨F, M, δ, Q', lb, S, rs, h, k⟩ => k _ _ ⟨F, M, _, Le.refl F, S, .nil, h⟩
theorem qa_cons {t : DE} {u : DA} (ha : PE X e (up X.K B t)) (hr : PA X es (upA X.K B u)) (hs : starEach (e :: es) X.env = (false, eval e X.env) :: starEach es X.env := by rfl) : PA X (e :: es) (upA X.K B (dCons t u)) :=
  PA.wk (pa_cons ha hr hs) fun σ H Q ⟨F, M, δ, Q', lb, S, rs, h, k⟩ => ⟨F, M, δ, _, lb, S, rs, h, fun x H1 ⟨F1, M1, d, l1, S1, r1, h1⟩ =>
    ⟨F1, M1, δ, _, lb.trans l1, S1, rs.le l1, h1, fun xs H2 ⟨F2, M2, ds, l2, S2, r2, h2⟩ => k _ _ ⟨F2, M2, _, l1.trans l2, S2, .cons (r1.le l2) r2, h2⟩⟩⟩
def dTup (t : DA) : DE := fun δ M Q => t δ M fun ds M1 => ds.length ≤ sizeLine ∧ Q (.tup ds) M1
/-- a list that is to stand still -/
def dLst (t : DA) : DE := fun δ M Q => t δ M fun ds M1 => ds.length ≤ sizeLine ∧ Q (.lst ds) M1
/-- a list that is to change -/
def dLstM (t : DA) : DE := fun δ M Q => t δ M fun ds M1 => ds.length ≤ sizeLine ∧ ∀ p, M1 p = none → Q (.ref p) (Y.put M1 p (.lst ds))
theorem q_tup {x1} {t : DA} (h : PA X es (upA X.K B t)) : PE X (.Tuple es x1 pos) (up X.K B (dTup t)) :=
  PE.wk (pe_tup h) fun σ H Q ⟨F, M, δ, Q', lb, S, rs, h, k⟩ => ⟨F, M, δ, _, lb, S, rs, h, fun xs H1 ⟨F1, M1, ds, l1, S1, r1, hl, h1⟩ => ⟨by rw [r1.length]; exact hl, fun p hp => by
    have f0 := (S1.free hp).1
    exact k _ _ ⟨upd F1 p (.tup xs), M1, _, l1.trans (le_upd f0), S1.still hp, .tup (SqT.of upd_same) (r1.le (le_upd f0)), h1⟩⟩⟩
theorem q_lst {t : DA} (h : PA X es (upA X.K B t)) : PE X (.List es pos) (up X.K B (dLst t)) :=
  PE.wk (pe_lst h) fun σ H Q ⟨F, M, δ, Q', lb, S, rs, h, k⟩ => ⟨F, M, δ, _, lb, S, rs, h, fun xs H1 ⟨F1, M1, ds, l1, S1, r1, hl, h1⟩ => ⟨by rw [r1.length]; exact hl, fun p hp => by
    have f0 := (S1.free hp).1
    exact k _ _ ⟨upd F1 p (.lst xs), M1, _, l1.trans (le_upd f0), S1.still hp, .lst (SqL.of upd_same) (r1.le (le_upd f0)), h1⟩⟩⟩
theorem q_lstM {t : DA} (h : PA X es (upA X.K B t)) : PE X (.List es pos) (up X.K B (dLstM t)) :=
  PE.wk (pe_lst h) fun σ H Q ⟨F, M, δ, Q', lb, S, rs, h, k⟩ => ⟨F, M, δ, _, lb, S, rs, h, fun xs H1 ⟨F1, M1, ds, l1, S1, r1, hl, h1⟩ => ⟨by rw [r1.length]; exact hl, fun p hp => by
    exact k _ _ ⟨F1, Y.put M1 p (.lst ds), _, l1, S1.newM hp (.lst r1), .v _, h1 p (S1.free hp).2⟩⟩⟩
def dDict : DE := fun δ M Q => ∀ p, M p = none → Q (.ref p) (Y.put M p (.dct []))
theorem q_dict : PE X (.Dict [] [] pos) (up X.K B dDict) :=
  PE.wk pe_dnewK fun σ H Q ⟨F, M, δ, Q', lb, S, rs, h, k⟩ p hp => k _ _ ⟨F, Y.put M p (.dct []), _, Le.refl F, S.newM hp (.dct .nil), .v _, h p (S.free hp).2⟩
/-- a list that has been made stands still from here on -/
def dFrz (t : DE) : DE := fun δ M Q => t δ M fun d M1 => ∃ p ds, d = .ref p ∧ M1 p = some (.lst ds) ∧ Q (.lst ds) (Y.drop M1 p)
theorem frz_le {K : PySem.W.Frag} {F : Hp} {Q : QD} {H1 : Hp} {x : V} {d : D} {F1 : Hp} {M1 : Mm} {p : Addr} {ds : List D} (l1 : Le F F1) (S1 : Stt K H1 F1 M1) (r1 : Rep K F1 x d) (e : d = .ref p) (em : M1 p = some (.lst ds)) (h : Q (.lst ds) (Y.drop M1 p)) : LQ K F Q x H1 := by
  subst e
  cases r1
  obtain ⟨o, h1, h2, l2, S2⟩ := S1.freeze em
  cases h2 with
  | lst r => exact ⟨_, _, _, l1.trans l2, S2, .lst (SqL.of upd_same) (r.le l2), h⟩
theorem q_frz {t : DE} (h : PE X e (up X.K B t)) : PE X e (up X.K B (dFrz t)) :=
  PE.wk h fun σ H Q ⟨F, M, δ, Q', lb, S, rs, h, k⟩ => ⟨F, M, δ, _, lb, S, rs, h, fun x H1 ⟨F1, M1, d, l1, S1, r1, p, ds, e, em, h1⟩ => k _ _ (frz_le l1 S1 r1 e em h1)⟩

/-! ### what a def promises, over data -/
/-- of an exception: its class, its fields -/
abbrev DX := Value → List (Str × D) → Mm → Prop
abbrev DSp := List D → Mm → QD → DX → Prop
def LX (K : PySem.W.Frag) (F : Hp) (E : DX) : XK := fun c od H' => ∃ F' M' fs dx vs, Le F F' ∧ Stt K H' F' M' ∧ od = some dx ∧ F' dx = some (.xd vs) ∧ RepKV K F' vs fs ∧ E c fs M'
theorem LX.le {K : PySem.W.Frag} {F G : Hp} {E : DX} {c : Value} {od : Option Addr} {H : Hp} (e : Le F G) (h : LX K G E c od H) : LX K F E c od H := let ⟨F', M', fs, dx, vs, a, b⟩ := h; ⟨F', M', fs, dx, vs, e.trans a, b⟩
def spOf (K : PySem.W.Frag) (s : DSp) : Sp := fun vs H Q E => ∃ F M ds Q' E', Stt K H F M ∧ RepL K F vs ds ∧ s ds M Q' E' ∧ (∀ v H', LQ K F Q' v H' → Q v H') ∧ ∀ c od H', LX K F E' c od H' → E c od H'
abbrev noX : DX := fun _ _ _ => False
def dCall (s : DSp) (t : DA) : DE := fun δ M Q => t δ M fun ds M1 => s ds M1 Q noX
theorem noX_ok {K : PySem.W.Frag} {F : Hp} {E : XK} : ∀ c od H', LX K F noX c od H' → E c od H' := fun _ _ _ ⟨_, _, _, _, _, _, _, _, _, _, q⟩ => q.elim
theorem up_call {K : PySem.W.Frag} {s : DSp} {t : DA} {σ : Sg} {H : Hp} {Q : VK} {E : XK} (h : up K B (dCall s t) σ H Q) : tCall (spOf K s) [] E (upA K B t) σ H Q := by
  obtain ⟨F, M, δ, Q', lb, S, rs, h, k⟩ := h
  refine ⟨F, M, δ, _, lb, S, rs, h, fun vs H1 ⟨F1, M1, ds, l1, S1, r1, h1⟩ => ?_⟩
  show spOf K s (vs ++ []) H1 Q E
  rw [List.append_nil]
  exact ⟨F1, M1, ds, _, _, S1, r1, h1, fun v H' q => k v H' (q.le l1), noX_ok⟩
section
variable {CX : CXT} {k : Nat} {f C : Addr} {fd : FuncData} {ps : List Str} {s : DSp} {x m : Str} {p apos : Pos} {o : Expr} {t : DA}
/-- f(e, ..), nothing raised -/
theorem q_call (F : FnOk X.prog X.w X.K X.mg X.base CX k f fd ps (spOf X.K s)) (hr : Room k X.A) (hg : Gl X x) (hm : X.mg x = some (.ref f)) (hk : PySem.W.keepIn X.K (.ref f) = true) (hb : Binds X.K fd ps []) (hx : Passes CX X E0) (ha : PA X (e :: es) (upA X.K B t))
    (hd : (x == ("__debug__" : Str)) = false := by decide) (he : starEach (e :: es) X.env = (false, eval e X.env) :: starEach es X.env := by rfl) (hpl : (backTo pos (starEach es X.env)).any (·.1) = false := by rfl) : PE X (.Call (.Name x p) (e :: es) [] pos) (up X.K B (dCall s t)) :=
  PE.wk (pe_call F hr hg hm hk hb .nil hx ha (hdb := hd) (he := he) (hpl := hpl)) fun _ _ _ h => up_call h
end

/-! ### targets -/
abbrev DG := D → Env → Mm → (Env → Mm → Prop) → Prop
abbrev DGs := List D → Env → Mm → (Env → Mm → Prop) → Prop
def upG (K : PySem.W.Frag) (B : Hp) (t : DG) : TG := fun v σ H Q => ∃ F M δ d Q', Le B F ∧ Stt K H F M ∧ RepS K F σ δ ∧ Rep K F v d ∧ t d δ M Q' ∧ ∀ σ' H', LS K F Q' σ' H' → Q σ' H'
def upGs (K : PySem.W.Frag) (B : Hp) (t : DGs) : TGs := fun vs σ H Q => ∃ F M δ ds Q', Le B F ∧ Stt K H F M ∧ RepS K F σ δ ∧ RepL K F vs ds ∧ t ds δ M Q' ∧ ∀ σ' H', LS K F Q' σ' H' → Q σ' H'
theorem PG.wk {g : Expr} {t t' : TG} (h : PG X g t) (w : ∀ v σ H Q, t' v σ H Q → t v σ H Q) : PG X g t' := ⟨fun pins s σ H v u Q I r q => h.run pins s σ H v u Q I r (w v σ H Q q)⟩
theorem PGs.wk {g : List Expr} {t t' : TGs} (h : PGs X g t) (w : ∀ v σ H Q, t' v σ H Q → t v σ H Q) : PGs X g t' := ⟨fun pins s σ H v u Q I r q => h.run pins s σ H v u Q I r (w v σ H Q q)⟩
def dgName (i : Nat) : DG := fun d δ M Q => Q (δ.set i (some d)) M
theorem qg_name {i : Nat} {x : Str} (hN : X.N.Nodup) (hi : X.N[i]? = some x) (hx : Loc X.env.scope x) (hf : X.fn x = true ∨ X.env.scope.names.lookup x = some .local := by first | exact .inl rfl | exact .inr rfl | assumption) : PG X (.Name x pos) (upG X.K B (dgName i)) :=
  PG.wk (pg_name hN hi hx hf) fun v σ H Q ⟨F, M, δ, d, Q', lb, S, rs, r, h, k⟩ => k _ _ ⟨F, M, _, Le.refl F, S, rs.set r i, h⟩
def dgNil : DGs := fun ds δ M Q => ds = [] ∧ Q δ M
def dgCons (t : DG) (u : DGs) : DGs := fun ds δ M Q => ∃ d r, ds = d :: r ∧ t d δ M fun δ' M' => u r δ' M' Q
theorem qgs_nil : PGs X [] (upGs X.K B dgNil) := PGs.wk pgs_nil fun v σ H Q ⟨F, M, δ, d, Q', lb, S, rs, r, ⟨e, h⟩, k⟩ => by
  subst e
  cases r
  exact ⟨rfl, k _ _ ⟨F, M, _, Le.refl F, S, rs, h⟩⟩
theorem qgs_cons {t : DG} {u : DGs} (h1 : PG X e (upG X.K B t)) (h2 : PGs X es (upGs X.K B u)) (hs : (assignEach (e :: es) X.env).map (·.2) = assign e X.env :: (assignEach es X.env).map (·.2) := by rfl) : PGs X (e :: es) (upGs X.K B (dgCons t u)) :=
  PGs.wk (pgs_cons h1 h2 hs) fun v σ H Q ⟨F, M, δ, ds, Q', lb, S, rs, r, ⟨d, r', e, h⟩, k⟩ => by
    subst e
    cases r with
    | cons r1 r2 => exact ⟨_, _, rfl, F, M, δ, d, _, lb, S, rs, r1, h, fun σ' H' ⟨F1, M1, δ1, l1, S1, rs1, h1⟩ => ⟨F1, M1, δ1, _, _, lb.trans l1, S1, rs1, r2.le l1, h1, fun σ2 H2 q => k _ _ (q.le l1)⟩⟩
def dgTup (n : Nat) (t : DGs) : DG := fun d δ M Q => ∃ ds, d = .tup ds ∧ ds.length = n ∧ t ds δ M Q
theorem qg_tup {k : Nat} {t : DGs} {n : Nat} (hc : X.calm = true) (h : PGs X es (upGs X.K B t)) (hn : (assignEach es X.env).length = n := by rfl) (hst : (assignEach es X.env).findIdx? (·.1) = none := by rfl) : PG X (.Tuple es k pos) (upG X.K B (dgTup n t)) :=
  PG.wk (pg_tup hc h hn hst) fun v σ H Q ⟨F, M, δ, d, Q', lb, S, rs, r, ⟨ds, e, hl, h⟩, k⟩ => by
    subst e
    cases r with
    | tup hs rl => exact ⟨_, _, rfl, SqT.le S.fz hs, by rw [rl.length]; exact hl, F, M, δ, ds, _, lb, S, rs, rl, h, k⟩

/-! ### statements -/
def dNext : DS := fun E δ M => E.nx δ M
def dSeq (t u : DS) : DS := fun E δ M => t { E with nx := u E } δ M
theorem up_seq {K : PySem.W.Frag} {t u : DS} : ∀ E σ H, upS K B (dSeq t u) E σ H → tSeq (upS K B t) (upS K B u) E σ H := fun E σ H ⟨F, M, δ, E', lb, S, rs, h, k1, k2, k3, k4⟩ =>
  ⟨F, M, δ, { E' with nx := u E' }, lb, S, rs, h, fun σ' H' ⟨F1, M1, δ1, l1, S1, rs1, h1⟩ => ⟨F1, M1, δ1, E', lb.trans l1, S1, rs1, h1, fun _ _ q => k1 _ _ (q.le l1), fun _ _ q => k2 _ _ (q.le l1), fun _ _ q => k3 _ _ (q.le l1), fun _ _ q => k4 _ _ (q.le l1)⟩, k2, k3, k4⟩
variable {st : Stmt} {rest : List Stmt} {t u : DS}
/-- two statements, cut between them by what is known there -/
def dCut (t u : DS) : DS := fun E δ M => ∃ N : Env → Mm → Prop, (∀ δ' M', N δ' M' → u E δ' M') ∧ t { E with nx := N } δ M
theorem up_cut {K : PySem.W.Frag} {t u : DS} : ∀ E σ H, upS K B (dCut t u) E σ H → tSeq (upS K B t) (upS K B u) E σ H := fun E σ H ⟨F, M, δ, E', lb, S, rs, ⟨N, hN, h⟩, k1, k2, k3, k4⟩ =>
  ⟨F, M, δ, { E' with nx := N }, lb, S, rs, h, fun σ' H' ⟨F1, M1, δ1, l1, S1, rs1, h1⟩ => ⟨F1, M1, δ1, E', lb.trans l1, S1, rs1, hN _ _ h1, fun _ _ q => k1 _ _ (q.le l1), fun _ _ q => k2 _ _ (q.le l1), fun _ _ q => k3 _ _ (q.le l1), fun _ _ q => k4 _ _ (q.le l1)⟩, k2, k3, k4⟩
theorem qss_cut (h1 : PS X st (upS X.K B t)) (h2 : PSs X rest (upS X.K B u)) : PSs X (st :: rest) (upS X.K B (dCut t u)) := PSs.wk (pss_cons h1 h2) up_cut
theorem qss_nil : PSs X [] (upS X.K B dNext) := PSs.wk pss_nil fun E σ H ⟨F, M, δ, E', lb, S, rs, h, k1, k2, k3, k4⟩ => k1 _ _ ⟨F, M, δ, Le.refl F, S, rs, h⟩
theorem qss_cons (h1 : PS X st (upS X.K B t)) (h2 : PSs X rest (upS X.K B u)) : PSs X (st :: rest) (upS X.K B (dSeq t u)) := PSs.wk (pss_cons h1 h2) up_seq
theorem qss_one (h1 : PS X st (upS X.K B t)) : PSs X [st] (upS X.K B t) := pss_one h1
theorem qs_pass : PS X (.Pass pos) (upS X.K B dNext) := PS.wk ps_pass fun E σ H ⟨F, M, δ, E', lb, S, rs, h, k1, k2, k3, k4⟩ => k1 _ _ ⟨F, M, δ, Le.refl F, S, rs, h⟩
def dBreak : DS := fun E δ M => E.bk δ M
def dCont : DS := fun E δ M => E.ct δ M
theorem qs_break : PS X (.Break pos) (upS X.K B dBreak) := PS.wk ps_break fun E σ H ⟨F, M, δ, E', lb, S, rs, h, k1, k2, k3, k4⟩ => k3 _ _ ⟨F, M, δ, Le.refl F, S, rs, h⟩
theorem qs_continue : PS X (.Continue pos) (upS X.K B dCont) := PS.wk ps_continue fun E σ H ⟨F, M, δ, E', lb, S, rs, h, k1, k2, k3, k4⟩ => k4 _ _ ⟨F, M, δ, Le.refl F, S, rs, h⟩
def dNever : DS := fun _ _ _ => False
theorem qs_never : PS X st (upS X.K B dNever) := PS.wk ps_never fun E σ H ⟨F, M, δ, E', lb, S, rs, h, _⟩ => h
def dDrop (t : DE) : DS := fun E δ M => t δ M fun _ M1 => E.nx δ M1
theorem qs_expr {t : DE} (he : PE X e (up X.K B t)) (hs : swapsWith e none pos.line X.env = pure false := by rfl) : PS X (.Expr e pos) (upS X.K B (dDrop t)) :=
  PS.wk (ps_expr he hs) fun E σ H ⟨F, M, δ, E', lb, S, rs, h, k1, k2, k3, k4⟩ => ⟨F, M, δ, _, lb, S, rs, h, fun x H1 ⟨F1, M1, d, l1, S1, r1, h1⟩ => k1 _ _ ⟨F1, M1, δ, l1, S1, rs.le l1, h1⟩⟩
def dRet (t : DE) : DS := fun E δ M => t δ M E.rt
theorem qs_ret {t : DE} (he : PE X e (up X.K B t)) : PS X (.Return (some e) pos) (upS X.K B (dRet t)) :=
  PS.wk (ps_ret he) fun E σ H ⟨F, M, δ, E', lb, S, rs, h, k1, k2, k3, k4⟩ => ⟨F, M, δ, _, lb, S, rs, h, k2⟩
def dRetN : DS := fun E _ M => E.rt .non M
theorem qs_retN : PS X (.Return none pos) (upS X.K B dRetN) :=
  PS.wk ps_retN fun E σ H ⟨F, M, δ, E', lb, S, rs, h, k1, k2, k3, k4⟩ => k2 _ _ ⟨F, M, _, Le.refl F, S, .v _, h⟩
def dIfS (c : DT) (t u : DS) : DS := fun E δ M => c δ M fun b M1 => if b = true then t E δ M1 else u E δ M1
theorem qs_if {c : Expr} {a b : List Stmt} {tc : DT} (hc : PT X c (upT X.K B tc)) (ha : PSs X a (upS X.K B t)) (hb : PSs X b (upS X.K B u)) : PS X (.If c a b pos) (upS X.K B (dIfS tc t u)) :=
  PS.wk (ps_if hc ha hb) fun E σ H ⟨F, M, δ, E', lb, S, rs, h, k1, k2, k3, k4⟩ => ⟨F, M, δ, _, lb, S, rs, h, fun c H1 ⟨F1, M1, l1, S1, h1⟩ => by
    cases c with
    | true => exact iteT ⟨F1, M1, δ, E', lb.trans l1, S1, rs.le l1, by simpa using h1, fun _ _ q => k1 _ _ (q.le l1), fun _ _ q => k2 _ _ (q.le l1), fun _ _ q => k3 _ _ (q.le l1), fun _ _ q => k4 _ _ (q.le l1)⟩
    | false => exact iteF ⟨F1, M1, δ, E', lb.trans l1, S1, rs.le l1, by simpa using h1, fun _ _ q => k1 _ _ (q.le l1), fun _ _ q => k2 _ _ (q.le l1), fun _ _ q => k3 _ _ (q.le l1), fun _ _ q => k4 _ _ (q.le l1)⟩⟩
def dAsg (t : DE) (g : DG) : DS := fun E δ M => t δ M fun d M1 => g d δ M1 E.nx
theorem up_asg {K : PySem.W.Frag} {t : DE} {g : DG} : ∀ E σ H, upS K B (dAsg t g) E σ H → tAsg (up K B t) (upG K B g) E σ H := fun E σ H ⟨F, M, δ, E', lb, S, rs, h, k1, k2, k3, k4⟩ =>
  ⟨F, M, δ, _, lb, S, rs, h, fun x H1 ⟨F1, M1, d, l1, S1, r1, h1⟩ => ⟨F1, M1, δ, d, _, lb.trans l1, S1, rs.le l1, r1, h1, fun σ' H' q => k1 _ _ (q.le l1)⟩⟩
theorem qs_asg {tg : Expr} {t : DE} {g : DG} (he : PE X e (up X.K B t)) (hg : PG X tg (upG X.K B g)) (hs : swapsWithSole [tg] e pos.line X.env = pure false := by rfl) (hw : swappedStores [tg] e X.env = pure none := by rfl)
    (h1 : (assignEach [tg] X.env).map (·.2) = [assign tg X.env] := by rfl) : PS X (.Assign [tg] e pos) (upS X.K B (dAsg t g)) := PS.wk (ps_asg he hg hs hw h1) up_asg
theorem qs_set {i : Nat} {x : Str} {t : DE} {pos' : Pos} (hN : X.N.Nodup) (hi : X.N[i]? = some x) (hx : Loc X.env.scope x) (he : PE X e (up X.K B t)) (hs : swapsWith e (some (.Name x pos')) pos.line X.env = pure false := by rfl)
    (hf : X.fn x = true ∨ X.env.scope.names.lookup x = some .local := by first | exact .inl rfl | exact .inr rfl | assumption) : PS X (.Assign [.Name x pos'] e pos) (upS X.K B (dAsg t (dgName i))) :=
  PS.wk (ps_set hN hi hx he hs hf) fun E σ H ⟨F, M, δ, E', lb, S, rs, h, k1, k2, k3, k4⟩ => ⟨F, M, δ, _, lb, S, rs, h, fun x H1 ⟨F1, M1, d, l1, S1, r1, h1⟩ => k1 _ _ ⟨F1, M1, _, l1, S1, (rs.le l1).set r1 i, h1⟩⟩
def dPar (i j : Nat) (ta : DA) : DS := fun E δ M => ta δ M fun ds M1 => ∃ v w, ds = [v, w] ∧ E.nx ((δ.set i (some v)).set j (some w)) M1
theorem qs_par {i j : Nat} {x y : Str} {a b : Expr} {ta : DA} {px py pt : Pos} {kt k2 pt2} (hc : X.calm = true) (hN : X.N.Nodup) (hi : X.N[i]? = some x) (hj : X.N[j]? = some y) (hij : i ≠ j)
    (hx : X.env.scope.names.lookup x = some .local) (hy : X.env.scope.names.lookup y = some .local) (ha : PA X [a, b] (upA X.K B ta)) (hw : swappedStores [.Tuple [.Name x px, .Name y py] kt pt] (.Tuple [a, b] k2 pt2) X.env = pure (some [x, y]) := by rfl) (hs : swapsWithSole [.Tuple [.Name x px, .Name y py] kt pt] (.Tuple [a, b] k2 pt2) pos.line X.env = pure false := by rfl) :
    PS X (.Assign [.Tuple [.Name x px, .Name y py] kt pt] (.Tuple [a, b] k2 pt2) pos) (upS X.K B (dPar i j ta)) :=
  PS.wk (ps_par hc hN hi hj hij hx hy ha hw hs) fun E σ H ⟨F, M, δ, E', lb, S, rs, h, k1, k2, k3, k4⟩ => ⟨F, M, δ, _, lb, S, rs, h, fun vs H1 ⟨F1, M1, ds, l1, S1, r1, v, w, e, h1⟩ => by
    subst e
    cases r1 with
    | cons ra rb =>
      cases rb with
      | cons rb rc =>
        cases rc
        exact ⟨_, _, rfl, k1 _ _ ⟨F1, M1, _, l1, S1, ((rs.le l1).set ra i).set rb j, h1⟩⟩⟩
/-- x op= e, a local -/
def dAug (i : Nat) (t : DE) (r : D2) : DS := fun E δ M => ∃ x, δ[i]? = some (some x) ∧ t δ M fun y M1 => r x y M1 fun z M2 => E.nx (δ.set i (some z)) M2
theorem qs_aug {i : Nat} {x : Str} {t : DE} {op : Operator} {r : TIp} {r' : D2} {pos' : Pos} (hN : X.N.Nodup) (hi : X.N[i]? = some x) (hx : Loc X.env.scope x) (he : PE X e (up X.K B t)) (ho : PIp X op r) (L : Lift2 X.K r r')
    (hf : X.fn x = true ∨ X.env.scope.names.lookup x = some .local := by first | exact .inl rfl | exact .inr rfl | assumption) : PS X (.AugAssign (.Name x pos') op e pos) (upS X.K B (dAug i t r')) :=
  PS.wk (ps_aug hN hi hx he ho hf) fun E σ H ⟨F, M, δ, E', lb, S, rs, ⟨d, ed, h⟩, k1, k2, k3, k4⟩ => by
    obtain ⟨v, h1, h2⟩ := rs.get ed
    refine ⟨v, h1, F, M, δ, _, lb, S, rs, h, fun y H1 ⟨F1, M1, e, l1, S1, r1, h3⟩ => ?_⟩
    exact L H1 F1 M1 v y d e _ _ S1 (h2.le l1) r1 h3 fun z H2 ⟨F2, M2, f, l2, S2, r2, h4⟩ => k1 _ _ ⟨F2, M2, _, l1.trans l2, S2, (rs.le (l1.trans l2)).set r2 i, h4⟩

/-! ### while -/
def whileD (c : DT) (tb : DS) (E : DEnds) : Nat → Env → Mm → Prop
  | 0, _, _ => False
  | n + 1, δ, M => ∃ N : Env → Mm → Prop, (∀ δ' M', N δ' M' → whileD c tb E n δ' M') ∧ c δ M fun b M1 => if b = true then tb { E with nx := N, ct := N, bk := E.nx } δ M1 else E.nx δ M1
def dWhile (c : DT) (tb : DS) : DS := fun E δ M => ∃ n, whileD c tb E n δ M
theorem qs_while {c : Expr} {body : List Stmt} {tc : DT} {tb : DS} (hp : PassesOwn (model X.prog X.w) X.A X.env X.xe) (hc : PT X c (upT X.K B tc)) (hb : PSs X body (upS X.K B tb)) : PS X (.While c body [] pos) (upS X.K B (dWhile tc tb)) :=
  PS.wk (ps_while hp hc hb) fun E σ H ⟨F, M, δ, E', lb, S, rs, ⟨n, h⟩, k1, k2, k3, k4⟩ => by
    refine ⟨fun m σ H => ∃ F1 M1 δ1, Le F F1 ∧ Stt X.K H F1 M1 ∧ RepS X.K F1 σ δ1 ∧ whileD tc tb E' m δ1 M1, ⟨n, F, M, δ, Le.refl F, S, rs, h⟩, ?_⟩
    rintro m σ1 H1 ⟨F1, M1, δ1, l1, S1, rs1, h1⟩
    cases m with
    | zero => exact h1.elim
    | succ m =>
      obtain ⟨N, hN, h1⟩ := h1
      refine ⟨F1, M1, δ1, _, lb.trans l1, S1, rs1, h1, fun b H2 ⟨F2, M2, l2, S2, h2⟩ => ?_⟩
      cases b with
      | false => exact iteF (k1 _ _ ⟨F2, M2, δ1, l1.trans l2, S2, rs1.le l2, by simpa using h2⟩)
      | true =>
        rw [if_pos rfl] at h2
        refine iteT ⟨fun σ' H' => ∃ F1 M1 δ1, Le F F1 ∧ Stt X.K H' F1 M1 ∧ RepS X.K F1 σ' δ1 ∧ whileD tc tb E' m δ1 M1, fun σ' H' q => ⟨m, Nat.lt_succ_self m, q⟩, ?_⟩
        refine ⟨F2, M2, δ1, _, lb.trans (l1.trans l2), S2, rs1.le l2, h2, fun σ' H' ⟨F3, M3, δ3, l3, S3, r3, h3⟩ => ⟨F3, M3, δ3, (l1.trans l2).trans l3, S3, r3, hN _ _ h3⟩, fun v H' q => k2 _ _ (q.le (l1.trans l2)),
          fun σ' H' q => k1 _ _ (q.le (l1.trans l2)), fun σ' H' ⟨F3, M3, δ3, l3, S3, r3, h3⟩ => ⟨F3, M3, δ3, (l1.trans l2).trans l3, S3, r3, hN _ _ h3⟩⟩

/-! ### for -/
/-- what is walked: its items, what must stay meanwhile -/
abbrev DI := Env → Mm → (List D → (Mm → Prop) → Mm → Prop) → Prop
structure Yl (K : PySem.W.Frag) (J : It) (F0 : Hp) (ds : List D) (G : Mm → Prop) : Prop where
  go : ∀ i H F M, Le F0 F → Stt K H F M → G M → i < ds.length → J.go i H
  stop : ∀ H F M, Le F0 F → Stt K H F M → G M → J.stop ds.length H
  yld : ∀ i H F M x H', Le F0 F → Stt K H F M → G M → i < ds.length → J.yld i H x H' → ∃ F' d, Le F F' ∧ Stt K H' F' M ∧ ds[i]? = some d ∧ Rep K F' x d
def upI (K : PySem.W.Frag) (B : Hp) (t : DI) : TI := fun σ H R => ∃ F M δ R', Le B F ∧ Stt K H F M ∧ RepS K F σ δ ∧ t δ M R' ∧ ∀ J H', (∃ F' M' ds G, Le F F' ∧ Stt K H' F' M' ∧ Yl K J F' ds G ∧ R' ds G M') → R J H'
theorem PI.wk {tg it : Expr} {t t' : TI} (h : PI X tg it t) (w : ∀ σ H R, t' σ H R → t σ H R) : PI X tg it t' := ⟨fun pins s σ H R I q => h.run pins s σ H R I (w σ H R q)⟩
def forD (G : Mm → Prop) (g : DG) (tb : DS) (E : DEnds) : List D → Env → Mm → Prop
  | [], δ, M => G M ∧ E.nx δ M
  | d :: ds, δ, M => G M ∧ ∃ N : Env → Mm → Prop, (∀ δ' M', N δ' M' → forD G g tb E ds δ' M') ∧ g d δ M fun δ' M' => tb { E with nx := N, ct := N, bk := E.nx } δ' M'
def dFor (wi : DI) (g : DG) (tb : DS) : DS := fun E δ M => wi δ M fun ds G M1 => forD G g tb E ds δ M1
theorem forD_G {G : Mm → Prop} {g : DG} {tb : DS} {E : DEnds} {ds : List D} {δ : Env} {M : Mm} (h : forD G g tb E ds δ M) : G M := by
  cases ds with
  | nil => exact h.1
  | cons d ds => exact h.1
theorem qs_for {iter tg : Expr} {body : List Stmt} {wi : DI} {g : DG} {tb : DS} (hp : PassesOwn (model X.prog X.w) X.A X.env X.xe) (hc : X.calm = true) (hi : PI X tg iter (upI X.K B wi)) (hg : PG X tg (upG X.K B g)) (hb : PSs X body (upS X.K B tb))
    (hs : ∀ x, foldedSetIterable iter X.env x = pure x := by intro _; rfl) : PS X (.For tg iter body [] pos) (upS X.K B (dFor wi g tb)) :=
  PS.wk (ps_for hp hc hi hg hb hs) fun E σ H ⟨F, M, δ, E', lb, S, rs, h, k1, k2, k3, k4⟩ => by
    refine ⟨F, M, δ, _, lb, S, rs, h, fun J H1 ⟨F1, M1, ds, G, l1, S1, Yw, h1⟩ => ?_⟩
    let P : Nat → Sg → Hp → Prop := fun i σ H => ∃ F2 M2 δ2, Le F1 F2 ∧ Stt X.K H F2 M2 ∧ RepS X.K F2 σ δ2 ∧ forD G g tb E' (ds.drop i) δ2 M2
    refine ⟨fun i m σ H => m = ds.length - i ∧ i ≤ ds.length ∧ P i σ H, ⟨ds.length, by simp, Nat.zero_le _, F1, M1, δ, Le.refl F1, S1, rs.le l1, by simpa using h1⟩, ?_⟩
    rintro i m σ2 H2 ⟨rfl, hi, F2, M2, δ2, l2, S2, rs2, h2⟩
    have gm := forD_G h2
    by_cases hlt : i < ds.length
    · refine .inr ⟨Yw.go i H2 F2 M2 l2 S2 gm hlt, P (i + 1), fun σ' H' q => ⟨ds.length - (i + 1), by omega, rfl, hlt, q⟩, fun x H3 y => ?_⟩
      obtain ⟨F3, d, l3, S3, e3, r3⟩ := Yw.yld i H2 F2 M2 x H3 l2 S2 gm hlt y
      rw [List.drop_eq_getElem_cons hlt] at h2
      have ed : ds[i] = d := by
        rw [List.getElem?_eq_getElem hlt] at e3
        exact Option.some.inj e3
      rw [ed] at h2
      obtain ⟨_, N, hN, h2⟩ := h2
      refine ⟨F3, M2, δ2, d, _, lb.trans ((l1.trans l2).trans l3), S3, rs2.le l3, r3, h2, fun σ4 H4 ⟨F4, M4, δ4, l4, S4, rs4, h4⟩ => ?_⟩
      have l14 : Le F1 F4 := (l2.trans l3).trans l4
      have l04 : Le F F4 := l1.trans l14
      exact ⟨F4, M4, δ4, _, lb.trans l04, S4, rs4, h4, fun σ' H' ⟨F5, M5, δ5, l5, S5, r5, h5⟩ => ⟨F5, M5, δ5, l14.trans l5, S5, r5, hN _ _ h5⟩, fun v H' q => k2 _ _ (q.le l04), fun σ' H' q => k1 _ _ (q.le l04), fun σ' H' ⟨F5, M5, δ5, l5, S5, r5, h5⟩ => ⟨F5, M5, δ5, l14.trans l5, S5, r5, hN _ _ h5⟩⟩
    · have e : i = ds.length := by omega
      subst e
      rw [List.drop_eq_nil_of_le (Nat.le_refl _)] at h2
      exact .inl ⟨Yw.stop H2 F2 M2 l2 S2 gm, k1 _ _ ⟨F2, M2, δ2, l1.trans l2, S2, rs2, h2.2⟩⟩
abbrev GT : Mm → Prop := fun _ => True
/-- over a list or tuple that stands still -/
def diSeq (t : DE) : DI := fun δ M R => t δ M fun d M1 => ∃ ds, (d = .tup ds ∨ d = .lst ds) ∧ R ds GT M1
def diLst (t : DE) : DI := fun δ M R => t δ M fun d M1 => ∃ ds, d = .lst ds ∧ R ds GT M1
def diTup (t : DE) : DI := fun δ M R => t δ M fun d M1 => ∃ ds, d = .tup ds ∧ R ds GT M1
theorem qi_lst {tg l : Expr} {t : DE} (h : PE X l (up X.K B t)) : PI X tg l (upI X.K B (diLst t)) :=
  PI.wk (pi_list h) fun σ H R ⟨F, M, δ, R', lb, S, rs, h, k⟩ => ⟨F, M, δ, _, lb, S, rs, h, fun v H1 ⟨F1, M1, d, l1, S1, r1, ds, e, h1⟩ => by
    subst e
    cases r1 with
    | @lst a xs _ hs rl =>
      refine ⟨a, rfl, ⟨xs, SqL.le S1.fz hs⟩, k _ _ ⟨F1, M1, ds, GT, l1, S1, ⟨fun i H F M l S _ hi => ?_, fun H F M l S _ => ?_, fun i H F M x H' l S _ hi y => ?_⟩, h1⟩⟩
      · exact walk_list.goes i H (by rw [rl.length]; exact hi) (SqL.le S.fz (SqL.le l hs))
      · rw [← rl.length]; exact walk_list.stops H (SqL.le S.fz (SqL.le l hs))
      · obtain ⟨e1, e2⟩ := walk_list.yields i H x H' (by rw [rl.length]; exact hi) (SqL.le S.fz (SqL.le l hs)) y
        subst e1
        obtain ⟨d, h3, h4⟩ := rl.get' e2
        exact ⟨F, d, Le.refl F, S, h3, h4.le l⟩⟩
theorem qi_tup {tg l : Expr} {t : DE} (h : PE X l (up X.K B t)) : PI X tg l (upI X.K B (diTup t)) :=
  PI.wk (pi_tup h) fun σ H R ⟨F, M, δ, R', lb, S, rs, h, k⟩ => ⟨F, M, δ, _, lb, S, rs, h, fun v H1 ⟨F1, M1, d, l1, S1, r1, ds, e, h1⟩ => by
    subst e
    cases r1 with
    | @tup a xs _ hs rl =>
      refine ⟨a, rfl, ⟨xs, SqT.le S1.fz hs⟩, k _ _ ⟨F1, M1, ds, GT, l1, S1, ⟨fun i H F M l S _ hi => ?_, fun H F M l S _ => ?_, fun i H F M x H' l S _ hi y => ?_⟩, h1⟩⟩
      · exact walk_tup.goes i H (by rw [rl.length]; exact hi) (SqT.le S.fz (SqT.le l hs))
      · rw [← rl.length]; exact walk_tup.stops H (SqT.le S.fz (SqT.le l hs))
      · obtain ⟨e1, e2⟩ := walk_tup.yields i H x H' (by rw [rl.length]; exact hi) (SqT.le S.fz (SqT.le l hs)) y
        subst e1
        obtain ⟨d, h3, h4⟩ := rl.get' e2
        exact ⟨F, d, Le.refl F, S, h3, h4.le l⟩⟩
/-- range(n), range(a, b) -/
def rngD (lo : Int) (n : Nat) : List D := (List.range n).map fun i => .int (lo + (i : Nat))
def diRng1 (ta : DA) : DI := fun δ M R => ta δ M fun ds M1 => ∃ j : Int, ds = [.int j] ∧ -(2 ^ 62) ≤ j ∧ j < 2 ^ 62 ∧ R (rngD 0 j.toNat) GT M1
def diRng2 (ta : DA) : DI := fun δ M R => ta δ M fun ds M1 => ∃ i j : Int, ds = [.int i, .int j] ∧ (-(2 ^ 62) ≤ i ∧ i < 2 ^ 62 ∧ -(2 ^ 62) ≤ j ∧ j < 2 ^ 62) ∧ R (rngD i (j - i).toNat) GT M1
theorem yl_rng {K : PySem.W.Frag} {F0 : Hp} (lo : Int) (n : Nat) : Yl K (Itr lo n) F0 (rngD lo n) GT := by
  have hl : (rngD lo n).length = n := by simp [rngD]
  refine ⟨fun i H F M _ _ _ hi => (walk_range (lo := lo) (n := n)).goes i H (by rw [← hl]; exact hi) trivial, fun H F M _ _ _ => by rw [hl]; exact (walk_range (lo := lo) (n := n)).stops H trivial, fun i H F M x H' l S _ hi y => ?_⟩
  obtain ⟨e1, e2⟩ := (walk_range (lo := lo) (n := n)).yields i H x H' (by rw [← hl]; exact hi) trivial y
  subst e1 e2
  rw [hl] at hi
  exact ⟨F, .int (lo + (i : Nat)), Le.refl F, S, by simp [rngD, hi], .v _⟩
theorem qi_rng1 {tg a : Expr} {ta : DA} {p : Pos} (hg : Gl X "range") (hm : X.mg "range" = none) (ha : PA X [a] (upA X.K B ta)) (hs : starEach [a] X.env = [(false, eval a X.env)] := by rfl) : PI X tg (.Call (.Name "range" p) [a] [] pos) (upI X.K B (diRng1 ta)) :=
  PI.wk (pi_range1 hg hm ha hs) fun σ H R ⟨F, M, δ, R', lb, S, rs, h, k⟩ => ⟨F, M, δ, _, lb, S, rs, h, fun vs H1 ⟨F1, M1, ds, l1, S1, r1, j, e, h2, h3, h4⟩ => by
    subst e
    cases r1 with
    | cons ra rb => cases rb; cases ra; exact ⟨j, rfl, h2, h3, k _ _ ⟨F1, M1, _, GT, l1, S1, yl_rng 0 j.toNat, h4⟩⟩⟩
theorem qi_rng2 {tg a b : Expr} {ta : DA} {p : Pos} (hg : Gl X "range") (hm : X.mg "range" = none) (ha : PA X [a, b] (upA X.K B ta)) (hs : starEach [a, b] X.env = [(false, eval a X.env), (false, eval b X.env)] := by rfl) (hs2 : starEach [b] X.env = [(false, eval b X.env)] := by rfl) :
    PI X tg (.Call (.Name "range" p) [a, b] [] pos) (upI X.K B (diRng2 ta)) :=
  PI.wk (pi_range2 hg hm ha hs hs2) fun σ H R ⟨F, M, δ, R', lb, S, rs, h, k⟩ => ⟨F, M, δ, _, lb, S, rs, h, fun vs H1 ⟨F1, M1, ds, l1, S1, r1, i, j, e, h2, h4⟩ => by
    subst e
    cases r1 with
    | cons ra rb =>
      cases rb with
      | cons rb rc => cases rc; cases rb; cases ra; exact ⟨i, j, rfl, h2, k _ _ ⟨F1, M1, _, GT, l1, S1, yl_rng i (j - i).toNat, h4⟩⟩⟩
end
end Y


set_option Elab.async false
set_option linter.all false
set_option maxRecDepth 100000
set_option maxHeartbeats 1000000
/-! Y3: operators by values, subscripts, slices, comparisons, truth, len. -/
namespace Y
open PySem PySem.Spec PyProof.Rows L2

/-! ### what is a list, a tuple, by data -/
def lsD (d : D) (M : Mm) : Option (List D) := match d with
  | .lst ds => some ds
  | .v (.ref a) => (match M a with | some (.lst ds) => some ds | _ => none)
  | _ => none
theorem lsD_lst {ds : List D} {M : Mm} : lsD (.lst ds) M = some ds := rfl
theorem lsD_ref {a : Addr} {ds : List D} {M : Mm} (h : M a = some (.lst ds)) : lsD (.ref a) M = some ds := by simp [lsD, h]
section
variable {K : PySem.W.Frag} {H F : Hp} {M : Mm} {x y : V} {d e : D} {ds : List D}
theorem lsD_at (S : Stt K H F M) (r : Rep K F x d) (h : lsD d M = some ds) : ∃ a xs, x = .ref a ∧ SqL K H a xs ∧ RepL K F xs ds := by
  cases r with
  | v =>
    cases x with
    | ref a =>
      unfold lsD at h
      simp only at h
      cases e : M a with
      | none => rw [e] at h; cases h
      | some m =>
        rw [e] at h
        cases m with
        | lst es =>
          simp only [Option.some.injEq] at h
          subst h
          obtain ⟨_, o, h2, h3⟩ := S.mu _ _ e
          cases h3 with
          | lst r => exact ⟨a, _, rfl, SqL.of h2, r⟩
        | _ => simp at h
    | _ => simp [lsD] at h
  | tup => simp [lsD] at h
  | lst hs rl =>
    simp only [lsD, Option.some.injEq] at h
    subst h
    exact ⟨_, _, rfl, SqL.le S.fz hs, rl⟩
/-- a list that may change, at its address -/
theorem muL (S : Stt K H F M) {a : Addr} (h : M a = some (.lst ds)) : ∃ xs, H a = some (.lst xs) ∧ RepL K F xs ds := by
  obtain ⟨_, o, h2, h3⟩ := S.mu _ _ h
  cases h3 with
  | lst r => exact ⟨_, h2, r⟩
theorem muD (S : Stt K H F M) {a : Addr} {kvs : List (Key × D)} (h : M a = some (.dct kvs)) : ∃ xs, H a = some (.dK xs) ∧ RepKV K F xs kvs := by
  obtain ⟨_, o, h2, h3⟩ := S.mu _ _ h
  cases h3 with
  | dct r => exact ⟨_, h2, r⟩
theorem muI (S : Stt K H F M) {a : Addr} {C dx : Addr} {fs : List (Str × D)} (h : M a = some (.ins C dx fs)) : ∃ xs, H a = some (.ins C dx xs) ∧ RepKV K F xs fs := by
  obtain ⟨_, o, h2, h3⟩ := S.mu _ _ h
  cases h3 with
  | ins r => exact ⟨_, h2, r⟩
/-- a dict's pairs: one that may change, or one that is walked -/
def dkD (d : D) (M : Mm) : Option (List (Key × D)) := match d with
  | .v (.ref a) => (match M a with | some (.dct kvs) => some kvs | some (.lk _ _ kvs) => some kvs | _ => none)
  | _ => none
theorem dkD_at (S : Stt K H F M) (r : Rep K F x d) {kvs : List (Key × D)} (h : dkD d M = some kvs) : ∃ a xs, x = .ref a ∧ Rd H a (.dK xs) ∧ RepKV K F xs kvs := by
  cases r with
  | v =>
    cases x with
    | ref a =>
      unfold dkD at h
      simp only at h
      cases e : M a with
      | none => rw [e] at h; cases h
      | some m =>
        rw [e] at h
        cases m with
        | dct es =>
          simp only [Option.some.injEq] at h
          subst h
          obtain ⟨_, o, h2, h3⟩ := S.mu _ _ e
          cases h3 with
          | dct r => exact ⟨a, _, rfl, .inl h2, r⟩
        | lk ob ys es =>
          simp only [Option.some.injEq] at h
          subst h
          obtain ⟨_, o, h2, h3⟩ := S.mu _ _ e
          cases h3 with
          | lk r => exact ⟨a, _, rfl, .inr ⟨_, h2⟩, r⟩
        | _ => simp at h
    | _ => simp [dkD] at h
  | tup => simp [dkD] at h
  | lst => simp [dkD] at h
end

/-! ### a dict's pairs -/
section
variable {κ : Type} [DecidableEq κ]
def valD (kvs : List (κ × D)) (k : κ) : Option D := (kvs.find? fun kv => decide (kv.1 = k)).map (·.2)
def putKD (kvs : List (κ × D)) (k : κ) (v : D) : List (κ × D) :=
  if (kvs.any fun kv => decide (kv.1 = k)) = true then kvs.map (fun kv => if kv.1 = k then (kv.1, v) else kv) else kvs ++ [(k, v)]
def dropKD (kvs : List (κ × D)) (k : κ) : List (κ × D) := kvs.filter fun kv => decide (kv.1 ≠ k)
variable {K : PySem.W.Frag} {F : Hp} {xs : List (κ × V)} {ds : List (κ × D)} {k : κ}
theorem valD_rep (r : RepKV K F xs ds) : (valV xs k = none ∧ valD ds k = none) ∨ ∃ v d, valV xs k = some v ∧ valD ds k = some d ∧ Rep K F v d := by
  unfold RepKV at r
  induction r with
  | nil => exact .inl ⟨rfl, rfl⟩
  | @cons p q ps qs h _ ih =>
    obtain ⟨h1, h2⟩ := h
    by_cases e : p.1 = k
    · exact .inr ⟨p.2, q.2, valV_pos e, by simp [valD, List.find?_cons, ← h1, e], h2⟩
    · rw [valV_neg e, show valD (q :: qs) k = valD qs k by simp [valD, List.find?_cons, ← h1, e]]
      exact ih
theorem putKD_rep {v : V} {d : D} (r : RepKV K F xs ds) (rv : Rep K F v d) : RepKV K F (putK xs k v) (putKD ds k d) := by
  have ea : (xs.any fun kv => decide (kv.1 = k)) = (ds.any fun kv => decide (kv.1 = k)) := by
    unfold RepKV at r
    induction r with
    | nil => rfl
    | cons h _ ih => simp only [List.any_cons, ih, h.1]
  unfold putK putKD
  rw [ea]
  unfold RepKV at r ⊢
  split
  · clear ea
    rename_i hz
    clear hz
    induction r with
    | nil => exact .nil
    | @cons p q ps qs h _ ih =>
      refine .cons ?_ ih
      obtain ⟨h1, h2⟩ := h
      by_cases e : p.1 = k
      · show (if p.1 = k then (p.1, v) else p).1 = (if q.1 = k then (q.1, d) else q).1 ∧ Rep K F (if p.1 = k then (p.1, v) else p).2 (if q.1 = k then (q.1, d) else q).2
        rw [if_pos e, if_pos (h1 ▸ e)]; exact ⟨h1, rv⟩
      · show (if p.1 = k then (p.1, v) else p).1 = (if q.1 = k then (q.1, d) else q).1 ∧ Rep K F (if p.1 = k then (p.1, v) else p).2 (if q.1 = k then (q.1, d) else q).2
        rw [if_neg e, if_neg (h1 ▸ e)]; exact ⟨h1, h2⟩
  · clear ea
    rename_i hz
    clear hz
    induction r with
    | nil => exact .cons ⟨rfl, rv⟩ .nil
    | cons h _ ih => exact .cons h ih
theorem dropKD_rep (r : RepKV K F xs ds) : RepKV K F (dropK xs k) (dropKD ds k) := by
  unfold RepKV at r
  induction r with
  | nil => exact .nil
  | @cons p q ps qs h t ih =>
    obtain ⟨h1, h2⟩ := h
    by_cases e : p.1 = k
    · rw [show dropK (p :: ps) k = dropK ps k by simp [dropK, e], show dropKD (q :: qs) k = dropKD qs k by simp [dropKD, ← h1, e]]; exact ih
    · rw [show dropK (p :: ps) k = p :: dropK ps k by simp [dropK, e], show dropKD (q :: qs) k = q :: dropKD qs k by simp [dropKD, ← h1, e]]; exact .cons ⟨h1, h2⟩ ih
end

/-! ### arithmetic -/
section
variable {X : Cx} {B : Hp} {K : PySem.W.Frag}
def dI (C : Int → Int → Prop) (g : Int → Int → V) : D2 := fun x y M Q => ∃ i j, x = .int i ∧ y = .int j ∧ C i j ∧ Q (.v (g i j)) M
def dI0 (g : Int → Int → V) : D2 := fun x y M Q => ∃ i j, x = .int i ∧ y = .int j ∧ Q (.v (g i j)) M
theorem l_I {C : Int → Int → Prop} {g : Int → Int → V} : Lift2 K (rI C g) (dI C g) := fun H F M x y d e Q' Q S rx ry ⟨i, j, e1, e2, c, q⟩ k => by
  subst e1 e2; cases rx; cases ry
  exact ⟨i, j, rfl, rfl, c, k _ _ ⟨F, M, _, Le.refl F, S, .v _, q⟩⟩
theorem l_I0 {g : Int → Int → V} : Lift2 K (rI0 g) (dI0 g) := fun H F M x y d e Q' Q S rx ry ⟨i, j, e1, e2, q⟩ k => by
  subst e1 e2; cases rx; cases ry
  exact ⟨i, j, rfl, rfl, k _ _ ⟨F, M, _, Le.refl F, S, .v _, q⟩⟩
theorem Lift2.or {r s : R2} {r' s' : D2} (L : Lift2 K r r') (L' : Lift2 K s s') : Lift2 K (fun x y H Q => r x y H Q ∨ s x y H Q) (fun x y M Q => r' x y M Q ∨ s' x y M Q) := fun H F M x y d e Q' Q S rx ry h k =>
  h.elim (fun h => .inl (L H F M x y d e Q' Q S rx ry h k)) fun h => .inr (L' H F M x y d e Q' Q S rx ry h k)
/-- a rule told of data, by less -/
theorem Lift2.wk {r : R2} {r' s' : D2} (L : Lift2 K r r') (w : ∀ x y M Q, s' x y M Q → r' x y M Q) : Lift2 K r s' := fun H F M x y d e Q' Q S rx ry h k => L H F M x y d e Q' Q S rx ry (w _ _ _ _ h) k
/-- a + b of ints, texts, tuples, lists (the sum stands still) -/
def addD (x y : D) (M : Mm) (Q : QD) : Prop := match x, y with
  | .v (.int i), .v (.int j) => Q (.int (i + j)) M
  | .v (.str a), .v (.str b) => a.length + b.length ≤ sizeLine ∧ Q (.str (a ++ b)) M
  | .tup a, .tup b => a.length + b.length ≤ sizeLine ∧ Q (.tup (a ++ b)) M
  | _, _ => False
def dStr2 (C : Str → Str → Prop) (g : Str → Str → V) : D2 := fun x y M Q => ∃ i j, x = .str i ∧ y = .str j ∧ C i j ∧ Q (.v (g i j)) M
theorem l_str2 {C : Str → Str → Prop} {g : Str → Str → V} : Lift2 K (fun x y H Q => ∃ i j, x = .str i ∧ y = .str j ∧ C i j ∧ Q (g i j) H) (dStr2 C g) := fun H F M x y d e Q' Q S rx ry ⟨i, j, e1, e2, c, q⟩ k => by
  subst e1 e2; cases rx; cases ry
  exact ⟨i, j, rfl, rfl, c, k _ _ ⟨F, M, _, Le.refl F, S, .v _, q⟩⟩
def dCatT : D2 := fun x y M Q => ∃ a b, x = .tup a ∧ y = .tup b ∧ a.length + b.length ≤ sizeLine ∧ Q (.tup (a ++ b)) M
theorem l_catT : Lift2 K (rCatA K) dCatT := fun H F M x y d e Q' Q S rx ry ⟨a, b, e1, e2, c, q⟩ k => by
  subst e1 e2
  cases rx with
  | @tup p xs _ hp ra =>
  cases ry with
  | @tup p' ys _ hp' rb =>
  refine ⟨p, p', xs, ys, rfl, rfl, SqT.le S.fz hp, SqT.le S.fz hp', by rw [ra.length, rb.length]; exact c, fun z => ?_, fun _ z => ?_, fun _ _ t ht => ?_⟩
  · subst z
    cases ra
    exact k _ _ ⟨F, M, _, Le.refl F, S, .tup hp' rb, q⟩
  · subst z
    cases rb
    rw [List.append_nil] at q
    exact k _ _ ⟨F, M, _, Le.refl F, S, .tup hp ra, q⟩
  · have f0 := (S.free ht).1
    exact k _ _ ⟨_, M, _, le_upd f0, S.still ht, .tup (SqT.of upd_same) ((ra.append rb).le (le_upd f0)), q⟩
def addR (K : PySem.W.Frag) : R2 := fun x y H Q => rI0 (fun i j => .int (i + j)) x y H Q ∨ ((∃ i j, x = .str i ∧ y = .str j ∧ i.length + j.length ≤ sizeLine ∧ Q (.str (i ++ j)) H) ∨ rCatA K x y H Q)
theorem op_addA : OpR X (binaryOp .Add) (addR X.K) := OpR.or op_add (OpR.or op_add_str op_catA)
theorem l_add : Lift2 K (addR K) addD := (l_I0.or (l_str2.or l_catT)).wk fun x y M Q h => by
  unfold addD at h
  split at h
  · exact .inl ⟨_, _, rfl, rfl, h⟩
  · exact .inr (.inl ⟨_, _, rfl, rfl, h⟩)
  · exact .inr (.inr ⟨_, _, rfl, rfl, h⟩)
  · exact h.elim
/-! lists: a + b, a new one that is to stand still -/
def rCatL (K : PySem.W.Frag) : R2 := fun x y H Q => ∃ l b xs zs, x = .ref l ∧ y = .ref b ∧ SqL K H l xs ∧ SqL K H b zs ∧ xs.length + zs.length ≤ sizeLine ∧ ∀ p, H p = none → Q (.ref p) (upd H p (.lst (xs ++ zs)))
theorem op_catL : OpR X (binaryOp .Add) (rCatL X.K) := by
  intro pins s σ H x y v u Q I rx ry h
  obtain ⟨l, b, xs, zs, rfl, rfl, hH, hB, hz, q⟩ := h
  cases rx
  cases ry
  obtain ⟨its, r1, p1, z1⟩ := I.list hH
  obtain ⟨jts, r2, p2, z2⟩ := I.list hB
  obtain ⟨⟨cls, dd, data, sl⟩, n, ho, hc, hdd, hd⟩ := id p1
  obtain ⟨⟨cls2, dd2, data2, sl2⟩, n2, ho2, hc2, hdd2, hd2⟩ := id p2
  simp only at hc hd hc2 hd2
  subst hc hd hc2 hd2
  have e : its.toArray ++ jts.toArray = (its ++ jts).toArray := by simp
  have hz' : its.toArray.size + jts.toArray.size ≤ sizeLine := by rw [List.size_toArray, List.size_toArray, ← r1.length, ← r2.length]; exact hz
  refine concat_meets ⟨_, ho, rfl⟩ ⟨_, ho2, rfl⟩ noFill_list_add seq_list_add PySem.F.slot_list_add PySem.F.entry_list_add (PySem.F.args_list_add_2 _ _) (list_addW l b its.toArray jts.toArray n n2 dd dd2 sl sl2 hz') ⟨ho, ho2, ?_⟩
  rw [e]
  exact ⟨.ref _, _, I.lnew (t' := s.toks) (r1.append r2) (by rw [List.length_append]; omega), rfl, q _ I.fresh⟩
end
end Y


set_option Elab.async false
set_option linter.all false
set_option maxRecDepth 100000
set_option maxHeartbeats 1000000
/-! Y4: sums, comparisons, membership, subscripts, slices, calls of built-ins by data. -/
namespace Y
open PySem PySem.Spec PyProof.Rows L2

section
variable {K : PySem.W.Frag} {H F : Hp} {M : Mm} {x y : V} {d e : D} {ds : List D}
/-! ### data that == tells apart -/
/-! plain data: no addresses, texts that are texts -/
mutual
def pln : D → Bool
  | .v .non => true
  | .v (.bl _) => true
  | .v (.int _) => true
  | .v (.str x) => PyData.strOk x
  | .v _ => false
  | .tup ds => plnL ds
  | .lst ds => plnL ds
def plnL : List D → Bool
  | [] => true
  | d :: ds => pln d && plnL ds
end
mutual
def dep : D → Nat
  | .v _ => 0
  | .tup ds => depL ds + 1
  | .lst ds => depL ds + 1
def depL : List D → Nat
  | [] => 0
  | d :: ds => max (dep d) (depL ds)
end
mutual
def pyD : D → PyData
  | .v .non => .none
  | .v (.bl b) => .bool b
  | .v (.int i) => .int i
  | .v (.str x) => .str x
  | .v _ => .none
  | .tup ds => .tuple (pyL ds)
  | .lst ds => .list (pyL ds)
def pyL : List D → List PyData
  | [] => []
  | d :: ds => pyD d :: pyL ds
end
/-! == of data -/
mutual
def deq : D → D → Bool
  | .v a, .v b => eqV a b
  | .tup a, .tup b => deqL a b
  | .lst a, .lst b => deqL a b
  | .v _, .tup _ => false
  | .v _, .lst _ => false
  | .tup _, .v _ => false
  | .lst _, .v _ => false
  | .tup _, .lst _ => false
  | .lst _, .tup _ => false
def deqL : List D → List D → Bool
  | [], [] => true
  | d :: ds, e :: es => deq d e && deqL ds es
  | [], _ :: _ => false
  | _ :: _, [] => false
end
mutual
theorem py_eqv : ∀ d e : D, pln d = true → pln e = true → PyData.eqv (pyD d) (pyD e) = deq d e
  | .v a, .v b, h1, h2 => by
    cases a <;> cases b <;> simp_all [pln, pyD, PyData.eqv, deq, eqV]
  | .tup a, .tup b, h1, h2 => by
    simp only [pyD, PyData.eqv, deq]
    exact py_eqvL a b (by simpa [pln] using h1) (by simpa [pln] using h2)
  | .lst a, .lst b, h1, h2 => by
    simp only [pyD, PyData.eqv, deq]
    exact py_eqvL a b (by simpa [pln] using h1) (by simpa [pln] using h2)
  | .v a, .tup _, h1, _ => by cases a <;> simp_all [pln, pyD, PyData.eqv, deq]
  | .v a, .lst _, h1, _ => by cases a <;> simp_all [pln, pyD, PyData.eqv, deq]
  | .tup _, .v a, _, h1 => by cases a <;> simp_all [pln, pyD, PyData.eqv, deq]
  | .lst _, .v a, _, h1 => by cases a <;> simp_all [pln, pyD, PyData.eqv, deq]
  | .tup _, .lst _, _, _ => by simp [pyD, PyData.eqv, deq]
  | .lst _, .tup _, _, _ => by simp [pyD, PyData.eqv, deq]
theorem py_eqvL : ∀ d e : List D, plnL d = true → plnL e = true → PyData.eqvAll (pyL d) (pyL e) = deqL d e
  | [], [], _, _ => by simp [pyL, PyData.eqvAll, deqL]
  | d :: ds, e :: es, h1, h2 => by
    have h1' : pln d = true ∧ plnL ds = true := by simpa [plnL] using h1
    have h2' : pln e = true ∧ plnL es = true := by simpa [plnL] using h2
    simp only [pyL, PyData.eqvAll, deqL, py_eqv d e h1'.1 h2'.1, py_eqvL ds es h1'.2 h2'.2]
  | [], _ :: _, _, _ => by simp [pyL, PyData.eqvAll, deqL]
  | _ :: _, [], _, _ => by simp [pyL, PyData.eqvAll, deqL]
end
mutual
theorem py_lay : ∀ d : D, pln d = true → (pyD d).canLay0 = true
  | .v a, h => by cases a <;> simp_all [pln, pyD, PyData.canLay0]
  | .tup a, h => by
    simp only [pyD, PyData.canLay0]
    exact py_layL a (by simpa [pln] using h)
  | .lst a, h => by
    simp only [pyD, PyData.canLay0]
    exact py_layL a (by simpa [pln] using h)
theorem py_layL : ∀ d : List D, plnL d = true → PyData.canLayAll0 (pyL d) = true
  | [], _ => by simp [pyL, PyData.canLayAll0]
  | d :: ds, h => by
    have h' : pln d = true ∧ plnL ds = true := by simpa [plnL] using h
    simp only [pyL, PyData.canLayAll0, py_lay d h'.1, py_layL ds h'.2, Bool.and_self]
end
mutual
theorem py_dep : ∀ d : D, (pyD d).depth = dep d
  | .v a => by cases a <;> simp [pyD, PyData.depth, dep]
  | .tup a => by simp [pyD, PyData.depth, dep, py_depL a]
  | .lst a => by simp [pyD, PyData.depth, dep, py_depL a]
theorem py_depL : ∀ d : List D, PyData.depthAll (pyL d) = depL d
  | [] => by simp [pyL, PyData.depthAll, depL]
  | d :: ds => by simp [pyL, PyData.depthAll, depL, py_dep d, py_depL ds]
end
theorem py_shaped (h : pln d = true) (h2 : dep d ≤ 64) : SeqAt.shaped (pyD d) = true := by
  unfold SeqAt.shaped
  rw [py_lay d h, py_dep]
  simpa using h2
mutual
theorem py_dp (S : Stt K H F M) : ∀ (d : D) (x : V), Rep K F x d → pln d = true → Dp K H x (pyD d)
  | .v a, x, r, h => by
    cases r
    cases a with
    | non => exact .non
    | bl b => exact .bl b
    | int i => exact .int i
    | str z => exact .str z
    | _ => simp [pln] at h
  | .tup a, _, .tup hs rl, h => .tup (SqT.le S.fz hs) (py_dpL S a _ rl (by simpa [pln] using h))
  | .lst a, _, .lst hs rl, h => .lst (SqL.le S.fz hs) (py_dpL S a _ rl (by simpa [pln] using h))
theorem py_dpL (S : Stt K H F M) : ∀ (ds : List D) (xs : List V), RepL K F xs ds → plnL ds = true → DpAll K H xs (pyL ds)
  | [], _, .nil, _ => .nil
  | d :: ds, _, .cons r rl, h => by
    have h' : pln d = true ∧ plnL ds = true := by simpa [plnL] using h
    exact .cons (py_dp S d _ r h'.1) (py_dpL S ds _ rl h'.2)
end
mutual
theorem deq_refl : ∀ d : D, pln d = true → deq d d = true
  | .v a, h => by cases a <;> simp_all [pln, deq, eqV]
  | .tup a, h => by simp only [deq]; exact deqL_refl a (by simpa [pln] using h)
  | .lst a, h => by simp only [deq]; exact deqL_refl a (by simpa [pln] using h)
theorem deqL_refl : ∀ d : List D, plnL d = true → deqL d d = true
  | [], _ => by simp [deqL]
  | d :: ds, h => by
    have h' : pln d = true ∧ plnL ds = true := by simpa [plnL] using h
    simp only [deqL, deq_refl d h'.1, deqL_refl ds h'.2, Bool.and_self]
end
/-- a list that may change, as data -/
def rsv (d : D) (M : Mm) : D := match d with
  | .v (.ref a) => (match M a with | some (.lst ds) => .lst ds | _ => d)
  | _ => d
theorem rsv_dp (S : Stt K H F M) (r : Rep K F x d) (h : pln (rsv d M) = true) : Dp K H x (pyD (rsv d M)) := by
  by_cases z : ∃ a ds, d = .ref a ∧ M a = some (.lst ds)
  · obtain ⟨a, ds, e1, e2⟩ := z
    subst e1
    cases r
    have e3 : rsv (.ref a) M = .lst ds := by simp [rsv, e2]
    rw [e3] at h ⊢
    obtain ⟨xs, h1, h2⟩ := muL S e2
    exact .lst (SqL.of h1) (py_dpL S ds xs h2 (by simpa [pln] using h))
  · have e : rsv d M = d := by
      unfold rsv
      split
      · rename_i a
        split
        · rename_i ds e2
          exact absurd ⟨a, ds, rfl, e2⟩ z
        · rfl
      · rfl
    rw [e] at h ⊢
    exact py_dp S d x r h
end

section
variable {X : Cx} {B : Hp} {K : PySem.W.Frag}
/-! ### ==, != -/
def eqDeep (neg : Bool) (x y : D) (M : Mm) (Q : QD) : Prop := pln (rsv x M) = true ∧ pln (rsv y M) = true ∧ dep (rsv x M) ≤ 64 ∧ dep (rsv y M) ≤ 64 ∧ Q (.bl (neg ^^ deq (rsv x M) (rsv y M))) M
def eqD (neg : Bool) (x y : D) (M : Mm) (Q : QD) : Prop := match x, y with
  | .v a, .v b => if scal a b = true then Q (.bl (neg ^^ decide (a = b))) M else eqDeep neg x y M Q
  | _, _ => eqDeep neg x y M Q
theorem l_eqS : Lift2 K rEq (fun x y M Q => ∃ a b, x = .v a ∧ y = .v b ∧ scal a b = true ∧ Q (.bl (decide (a = b))) M) := fun H F M x y d e Q' Q S rx ry ⟨a, b, e1, e2, s, q⟩ k => by
  subst e1 e2; cases rx; cases ry
  exact ⟨s, k _ _ ⟨F, M, _, Le.refl F, S, .v _, q⟩⟩
theorem l_neS : Lift2 K rNe (fun x y M Q => ∃ a b, x = .v a ∧ y = .v b ∧ scal a b = true ∧ Q (.bl (!decide (a = b))) M) := fun H F M x y d e Q' Q S rx ry ⟨a, b, e1, e2, s, q⟩ k => by
  subst e1 e2; cases rx; cases ry
  exact ⟨s, k _ _ ⟨F, M, _, Le.refl F, S, .v _, q⟩⟩
theorem l_eqP : Lift2 K (rEqD K) (eqDeep false) := fun H F M x y d e Q' Q S rx ry ⟨p1, p2, d1, d2, q⟩ k => by
  refine ⟨_, _, rsv_dp S rx p1, rsv_dp S ry p2, py_shaped p1 d1, py_shaped p2 d2, k _ _ ⟨F, M, _, Le.refl F, S, .v _, ?_⟩⟩
  rw [py_eqv _ _ p1 p2]
  simpa using q
theorem l_neP : Lift2 K (rNeD K) (eqDeep true) := fun H F M x y d e Q' Q S rx ry ⟨p1, p2, d1, d2, q⟩ k => by
  refine ⟨_, _, rsv_dp S rx p1, rsv_dp S ry p2, py_shaped p1 d1, py_shaped p2 d2, k _ _ ⟨F, M, _, Le.refl F, S, .v _, ?_⟩⟩
  rw [py_eqv _ _ p1 p2]
  simpa using q
theorem op_eqA (hu : X.A.units + 64 < cLine) : OpR X (compareOp .Eq) (fun x y H Q => rEq x y H Q ∨ rEqD X.K x y H Q) := OpR.or op_eq (op_eqD hu)
theorem op_neA (hu : X.A.units + 64 < cLine) : OpR X (compareOp .NotEq) (fun x y H Q => rNe x y H Q ∨ rNeD X.K x y H Q) := OpR.or op_ne (op_neD hu)
theorem eqD_cases {neg : Bool} {x y : D} {M : Mm} {Q : QD} (h : eqD neg x y M Q) : (∃ a b, x = .v a ∧ y = .v b ∧ scal a b = true ∧ Q (.bl (neg ^^ decide (a = b))) M) ∨ eqDeep neg x y M Q := by
  unfold eqD at h
  split at h
  · rename_i a b
    by_cases s : scal a b = true
    · rw [if_pos s] at h; exact .inl ⟨a, b, rfl, rfl, s, h⟩
    · rw [if_neg s] at h; exact .inr h
  · exact .inr h
theorem l_eq : Lift2 K (fun x y H Q => rEq x y H Q ∨ rEqD K x y H Q) (eqD false) := (l_eqS.or l_eqP).wk fun x y M Q h => by
  simpa using eqD_cases h
theorem l_ne : Lift2 K (fun x y H Q => rNe x y H Q ∨ rNeD K x y H Q) (eqD true) := (l_neS.or l_neP).wk fun x y M Q h => by
  simpa using eqD_cases h
/-! ### is None -/
def nonD : D → Bool
  | .v .non => true
  | _ => false
def isN (neg : Bool) (x y : D) (M : Mm) (Q : QD) : Prop := y = .non ∧ Q (.bl (neg ^^ nonD x)) M
theorem isN_of {K : PySem.W.Frag} {F : Hp} {x : V} {d : D} (r : Rep K F x d) : decide (x = .non) = nonD d := by
  cases r with
  | v => cases x <;> simp [nonD]
  | tup => simp [nonD]
  | lst => simp [nonD]
theorem l_isN : Lift2 K (fun x y H Q => y = .non ∧ Q (.bl (decide (x = .non))) H) (isN false) := fun H F M x y d e Q' Q S rx ry ⟨e1, q⟩ k => by
  subst e1; cases ry
  refine ⟨rfl, k _ _ ⟨F, M, _, Le.refl F, S, .v _, ?_⟩⟩
  rw [isN_of rx]; simpa using q
theorem l_notN : Lift2 K (fun x y H Q => y = .non ∧ Q (.bl (!decide (x = .non))) H) (isN true) := fun H F M x y d e Q' Q S rx ry ⟨e1, q⟩ k => by
  subst e1; cases ry
  refine ⟨rfl, k _ _ ⟨F, M, _, Le.refl F, S, .v _, ?_⟩⟩
  rw [isN_of rx]; simpa using q
/-! ### lists put together -/
theorem l_catL : Lift2 K (rCatL K) (fun x y M Q => ∃ a b, lsD x M = some a ∧ lsD y M = some b ∧ a.length + b.length ≤ sizeLine ∧ Q (.lst (a ++ b)) M) := fun H F M x y d e Q' Q S rx ry ⟨a, b, e1, e2, c, q⟩ k => by
  obtain ⟨p, xs, rfl, h1, r1⟩ := lsD_at S rx e1
  obtain ⟨p', ys, rfl, h2, r2⟩ := lsD_at S ry e2
  refine ⟨p, p', xs, ys, rfl, rfl, h1, h2, by rw [r1.length, r2.length]; exact c, fun t ht => ?_⟩
  have f0 := (S.free ht).1
  exact k _ _ ⟨_, M, _, le_upd f0, S.still ht, .lst (SqL.of upd_same) ((r1.append r2).le (le_upd f0)), q⟩
theorem l_catLM : Lift2 K (rCatL K) (fun x y M Q => ∃ a b, lsD x M = some a ∧ lsD y M = some b ∧ a.length + b.length ≤ sizeLine ∧ ∀ p, M p = none → Q (.ref p) (Y.put M p (.lst (a ++ b)))) := fun H F M x y d e Q' Q S rx ry ⟨a, b, e1, e2, c, q⟩ k => by
  obtain ⟨p, xs, rfl, h1, r1⟩ := lsD_at S rx e1
  obtain ⟨p', ys, rfl, h2, r2⟩ := lsD_at S ry e2
  refine ⟨p, p', xs, ys, rfl, rfl, h1, h2, by rw [r1.length, r2.length]; exact c, fun t ht => ?_⟩
  exact k _ _ ⟨F, _, _, Le.refl F, S.newM ht (.lst (r1.append r2)), .v _, q t (S.free ht).2⟩
/-- a + b -/
def plusD (x y : D) (M : Mm) (Q : QD) : Prop := match x, y with
  | .v (.int i), .v (.int j) => Q (.int (i + j)) M
  | .v (.str a), .v (.str b) => a.length + b.length ≤ sizeLine ∧ Q (.str (a ++ b)) M
  | .tup a, .tup b => a.length + b.length ≤ sizeLine ∧ Q (.tup (a ++ b)) M
  | x, y => ∃ a b, lsD x M = some a ∧ lsD y M = some b ∧ a.length + b.length ≤ sizeLine ∧ Q (.lst (a ++ b)) M
theorem op_plus : OpR X (binaryOp .Add) (fun x y H Q => addR X.K x y H Q ∨ rCatL X.K x y H Q) := OpR.or op_addA op_catL
theorem l_plus : Lift2 K (fun x y H Q => addR K x y H Q ∨ rCatL K x y H Q) plusD := (l_add.or l_catL).wk fun x y M Q h => by
  unfold plusD at h
  split at h
  · exact .inl h
  · exact .inl h
  · exact .inl h
  · exact .inr h
/-- a + b of lists, the sum to be changed -/
def plusM : D2 := fun x y M Q => ∃ a b, lsD x M = some a ∧ lsD y M = some b ∧ a.length + b.length ≤ sizeLine ∧ ∀ p, M p = none → Q (.ref p) (Y.put M p (.lst (a ++ b)))

/-! ### a[i] -/
def rIxDict : R2 := fun x y H Q => ∃ a v, x = .ref a ∧ DGet H a y (some v) ∧ Q v H
theorem ix_dict (hu : X.A.units + 1 < cLine) : IxR X rIxDict := by
  intro value slice pins s σ H x y v u Q I rx ry h hs
  obtain ⟨a, w, rfl, g, q⟩ := h
  cases rx
  exact tail_any (dict_typeIs I g) PySem.F.slot_dict_getitem.lookup (d_getItem hu I g ry fun w' s3 I3 rw' => ⟨w, H, I3, rw', q⟩) hs
theorem atI_rep {F : Hp} {xs : List V} {ds : List D} {i : Int} {d : D} (r : RepL K F xs ds) (h : atI ds i = some d) : ∃ x, atI xs i = some x ∧ Rep K F x d := by
  unfold atI at h ⊢
  rw [r.length]
  cases e : ixN ds.length i with
  | none => rw [e] at h; cases h
  | some j =>
    rw [e] at h
    exact r.get h
def keyD : D → Option Key
  | .v (.int i) => some (.inl i)
  | .v (.str x) => some (.inr x)
  | _ => none
theorem keyD_at {F : Hp} {x : V} {d : D} {k : Key} (r : Rep K F x d) (h : keyD d = some k) : x = kV k := by
  cases r with
  | v => cases x <;> simp [keyD] at h <;> subst h <;> rfl
  | tup => simp [keyD] at h
  | lst => simp [keyD] at h
/-- a[i]: of a tuple, a list, a text, a dict -/
def subD (x y : D) (M : Mm) (Q : QD) : Prop := match x with
  | .tup ds => ∃ i d, y = .int i ∧ atI ds i = some d ∧ Q d M
  | .v (.str z) => ∃ i c, y = .int i ∧ z.length ≤ sizeLine ∧ atI z.cps.toList i = some c ∧ Q (.str ⟨#[c]⟩) M
  | x => (∃ ds i d, lsD x M = some ds ∧ y = .int i ∧ atI ds i = some d ∧ Q d M) ∨ ∃ kvs k d, dkD x M = some kvs ∧ keyD y = some k ∧ valD kvs k = some d ∧ Q d M
theorem l_ixT : Lift2 K (rIxT K) (fun x y M Q => ∃ ds i d, x = .tup ds ∧ y = .int i ∧ atI ds i = some d ∧ Q d M) := fun H F M x y d e Q' Q S rx ry ⟨ds, i, f, e1, e2, h, q⟩ k => by
  subst e1 e2; cases ry
  cases rx with
  | tup hs rl =>
    obtain ⟨v, h1, h2⟩ := atI_rep rl h
    exact ⟨_, _, i, v, rfl, rfl, SqT.le S.fz hs, h1, k _ _ ⟨F, M, f, Le.refl F, S, h2, q⟩⟩
theorem l_ixL : Lift2 K (rIxL K) (fun x y M Q => ∃ ds i d, lsD x M = some ds ∧ y = .int i ∧ atI ds i = some d ∧ Q d M) := fun H F M x y d e Q' Q S rx ry ⟨ds, i, f, e1, e2, h, q⟩ k => by
  subst e2; cases ry
  obtain ⟨a, xs, rfl, h3, rl⟩ := lsD_at S rx e1
  obtain ⟨v, h1, h2⟩ := atI_rep rl h
  exact ⟨_, _, i, v, rfl, rfl, h3, h1, k _ _ ⟨F, M, f, Le.refl F, S, h2, q⟩⟩
theorem l_ixS : Lift2 K rIxS (fun x y M Q => ∃ z i c, x = .str z ∧ y = .int i ∧ z.length ≤ sizeLine ∧ atI z.cps.toList i = some c ∧ Q (.str ⟨#[c]⟩) M) := fun H F M x y d e Q' Q S rx ry ⟨z, i, c, e1, e2, h, h1, q⟩ k => by
  subst e1 e2; cases ry; cases rx
  exact ⟨z, i, c, rfl, rfl, h, h1, k _ _ ⟨F, M, _, Le.refl F, S, .v _, q⟩⟩
theorem l_ixD : Lift2 K rIxDict (fun x y M Q => ∃ kvs k d, dkD x M = some kvs ∧ keyD y = some k ∧ valD kvs k = some d ∧ Q d M) := fun H F M x y d e Q' Q S rx ry ⟨kvs, k, f, e1, e2, h, q⟩ kk => by
  obtain ⟨a, xs, rfl, h3, rl⟩ := dkD_at S rx e1
  have ey := keyD_at ry e2
  subst ey
  rcases valD_rep (k := k) rl with ⟨_, z⟩ | ⟨v, d', h1, h2, h4⟩
  · rw [z] at h; cases h
  · rw [h2] at h; cases h
    exact ⟨a, v, rfl, .inl ⟨xs, k, h3, rfl, h1.symm⟩, kk _ _ ⟨F, M, f, Le.refl F, S, h4, q⟩⟩
theorem ix_all (hu : X.A.units + 1 < cLine) : IxR X (fun x y H Q => rIxT X.K x y H Q ∨ (rIxS x y H Q ∨ (rIxL X.K x y H Q ∨ rIxDict x y H Q))) := IxR.or ix_tup (IxR.or ix_str (IxR.or ix_list (ix_dict hu)))
theorem l_sub : Lift2 K (fun x y H Q => rIxT K x y H Q ∨ (rIxS x y H Q ∨ (rIxL K x y H Q ∨ rIxDict x y H Q))) subD := (l_ixT.or (l_ixS.or (l_ixL.or l_ixD))).wk fun x y M Q h => by
  unfold subD at h
  split at h
  · obtain ⟨i, d, e, h, q⟩ := h; exact .inl ⟨_, i, d, rfl, e, h, q⟩
  · obtain ⟨i, c, e, h, h1, q⟩ := h; exact .inr (.inl ⟨_, i, c, rfl, e, h, h1, q⟩)
  · exact .inr (.inr h)

/-! ### in -/
def rInDict (neg : Bool) : R2 := fun y x H Q => ∃ a o, x = .ref a ∧ DGet H a y o ∧ Q (.bl (neg ^^ o.isSome)) H
theorem op_inDict (hu : X.A.units + 1 < cLine) : OpR X (compareOp .In) (rInDict false) := by
  intro pins s σ H x y v u Q I rx ry h
  obtain ⟨a, o, rfl, g, q⟩ := h
  cases ry
  exact d_in hu I g rx fun s3 I3 => ⟨.bl o.isSome, H, I3, rfl, by simpa using q⟩
theorem op_notInDict (hu : X.A.units + 1 < cLine) : OpR X (compareOp .NotIn) (rInDict true) := by
  intro pins s σ H x y v u Q I rx ry h
  obtain ⟨a, o, rfl, g, q⟩ := h
  cases ry
  exact d_notIn hu I g rx fun s3 I3 => ⟨.bl (!o.isSome), H, I3, rfl, by simpa using q⟩
def flatD : D → Bool
  | .v a => flatV a
  | _ => false
/-- x among items of flat data -/
def memD (x : D) (ds : List D) : Bool := ds.any fun y => match y, x with | .v b, .v a => eqV b a | _, _ => false
theorem flat_rep {F : Hp} {x : V} {d : D} (r : Rep K F x d) (h : flatD d = true) : d = .v x ∧ flatV x = true := by
  cases r with
  | v => exact ⟨rfl, h⟩
  | tup => simp [flatD] at h
  | lst => simp [flatD] at h
theorem flatL_rep {F : Hp} {xs : List V} {ds : List D} (r : RepL K F xs ds) (h : ds.all flatD = true) : ds = xs.map D.v ∧ xs.all flatV = true := by
  match r with
  | .nil => exact ⟨rfl, rfl⟩
  | .cons r rl =>
    simp only [List.all_cons, Bool.and_eq_true] at h
    obtain ⟨e1, f1⟩ := flat_rep r h.1
    obtain ⟨e2, f2⟩ := flatL_rep rl h.2
    exact ⟨by rw [List.map_cons, ← e2, ← e1], by simp [f1, f2]⟩
theorem memD_rep {x : V} {xs : List V} : memD (.v x) (xs.map D.v) = inV x xs := by
  unfold memD inV
  rw [List.any_map]
  rfl
/-- x in y: of a tuple or list of flat items, of a text (one sign), of a dict -/
def inD (neg : Bool) (x y : D) (M : Mm) (Q : QD) : Prop := match y with
  | .tup ds => flatD x = true ∧ ds.all flatD = true ∧ Q (.bl (neg ^^ memD x ds)) M
  | .v (.str z) => ∃ c, x = .str ⟨#[c]⟩ ∧ Q (.bl (neg ^^ decide (c ∈ z.cps.toList))) M
  | y => (∃ ds, lsD y M = some ds ∧ flatD x = true ∧ ds.all flatD = true ∧ Q (.bl (neg ^^ memD x ds)) M) ∨ ∃ kvs k, dkD y M = some kvs ∧ keyD x = some k ∧ Q (.bl (neg ^^ (valD kvs k).isSome)) M
theorem l_inSeq (neg : Bool) : Lift2 K (rIn K neg) (fun x y M Q => ∃ ds, (y = .tup ds ∨ lsD y M = some ds) ∧ flatD x = true ∧ ds.all flatD = true ∧ Q (.bl (neg ^^ memD x ds)) M) := fun H F M x y d e Q' Q S rx ry ⟨ds, hy, fx, fs, q⟩ k => by
  obtain ⟨ex, fx'⟩ := flat_rep rx fx
  subst ex
  have fin : ∀ (xs : List V), RepL K F xs ds → Q (.bl (if neg = true then !inV x xs else inV x xs)) H := fun xs rl => by
    obtain ⟨e1, _⟩ := flatL_rep rl fs
    subst e1
    refine k _ _ ⟨F, M, _, Le.refl F, S, .v _, ?_⟩
    rw [memD_rep] at q
    cases neg <;> simpa using q
  rcases hy with hy | hy
  · subst hy
    cases ry with
    | tup hs rl => exact ⟨_, _, rfl, .inr (SqT.le S.fz hs), fx', (flatL_rep rl fs).2, fin _ rl⟩
  · obtain ⟨a, xs, rfl, h3, rl⟩ := lsD_at S ry hy
    exact ⟨_, _, rfl, .inl h3, fx', (flatL_rep rl fs).2, fin xs rl⟩
theorem l_inSign : Lift2 K (fun x y H Q => ∃ (c : Nat) (z : Str), x = .str ⟨#[c]⟩ ∧ y = .str z ∧ Q (.bl (decide (c ∈ z.cps.toList))) H) (fun x y M Q => ∃ c z, x = .str ⟨#[c]⟩ ∧ y = .str z ∧ Q (.bl (decide (c ∈ z.cps.toList))) M) := fun H F M x y d e Q' Q S rx ry ⟨c, z, e1, e2, q⟩ k => by
  subst e1 e2; cases rx; cases ry
  exact ⟨c, z, rfl, rfl, k _ _ ⟨F, M, _, Le.refl F, S, .v _, q⟩⟩
theorem l_notInSign : Lift2 K (fun x y H Q => ∃ (c : Nat) (z : Str), x = .str ⟨#[c]⟩ ∧ y = .str z ∧ Q (.bl (!decide (c ∈ z.cps.toList))) H) (fun x y M Q => ∃ c z, x = .str ⟨#[c]⟩ ∧ y = .str z ∧ Q (.bl (!decide (c ∈ z.cps.toList))) M) := fun H F M x y d e Q' Q S rx ry ⟨c, z, e1, e2, q⟩ k => by
  subst e1 e2; cases rx; cases ry
  exact ⟨c, z, rfl, rfl, k _ _ ⟨F, M, _, Le.refl F, S, .v _, q⟩⟩
theorem l_inDict (neg : Bool) : Lift2 K (rInDict neg) (fun x y M Q => ∃ kvs k, dkD y M = some kvs ∧ keyD x = some k ∧ Q (.bl (neg ^^ (valD kvs k).isSome)) M) := fun H F M x y d e Q' Q S rx ry ⟨kvs, k, e1, e2, q⟩ kk => by
  obtain ⟨a, xs, rfl, h3, rl⟩ := dkD_at S ry e1
  have ex := keyD_at rx e2
  subst ex
  refine ⟨a, valV xs k, rfl, .inl ⟨xs, k, h3, rfl, rfl⟩, kk _ _ ⟨F, M, _, Le.refl F, S, .v _, ?_⟩⟩
  rcases valD_rep (k := k) rl with ⟨z1, z2⟩ | ⟨v, d', h1, h2, h4⟩
  · rw [z2] at q; rw [z1]; exact q
  · rw [h2] at q; rw [h1]; exact q
theorem inD_cases {neg : Bool} {x y : D} {M : Mm} {Q : QD} (h : inD neg x y M Q) : (∃ ds, (y = .tup ds ∨ lsD y M = some ds) ∧ flatD x = true ∧ ds.all flatD = true ∧ Q (.bl (neg ^^ memD x ds)) M) ∨ ((∃ c z, x = .str ⟨#[c]⟩ ∧ y = .str z ∧ Q (.bl (neg ^^ decide (c ∈ z.cps.toList))) M) ∨
    ∃ kvs k, dkD y M = some kvs ∧ keyD x = some k ∧ Q (.bl (neg ^^ (valD kvs k).isSome)) M) := by
  unfold inD at h
  split at h
  · exact .inl ⟨_, .inl rfl, h⟩
  · obtain ⟨c, e, q⟩ := h; exact .inr (.inl ⟨c, _, e, rfl, q⟩)
  · rcases h with ⟨ds, h⟩ | h
    · exact .inl ⟨ds, .inr h.1, h.2⟩
    · exact .inr (.inr h)
theorem op_inA (hu : X.A.units + 1 < cLine) : OpR X (compareOp .In) (fun x y H Q => rIn X.K false x y H Q ∨ ((∃ (c : Nat) (z : Str), x = .str ⟨#[c]⟩ ∧ y = .str z ∧ Q (.bl (decide (c ∈ z.cps.toList))) H) ∨ rInDict false x y H Q)) := OpR.or op_in_seq (OpR.or op_in_sign (op_inDict hu))
theorem op_notInA (hu : X.A.units + 1 < cLine) : OpR X (compareOp .NotIn) (fun x y H Q => rIn X.K true x y H Q ∨ ((∃ (c : Nat) (z : Str), x = .str ⟨#[c]⟩ ∧ y = .str z ∧ Q (.bl (!decide (c ∈ z.cps.toList))) H) ∨ rInDict true x y H Q)) := OpR.or op_notIn_seq (OpR.or op_notIn_sign (op_notInDict hu))
theorem l_in : Lift2 K (fun x y H Q => rIn K false x y H Q ∨ ((∃ (c : Nat) (z : Str), x = .str ⟨#[c]⟩ ∧ y = .str z ∧ Q (.bl (decide (c ∈ z.cps.toList))) H) ∨ rInDict false x y H Q)) (inD false) :=
  ((l_inSeq false).or (l_inSign.or (l_inDict false))).wk fun x y M Q h => by simpa using inD_cases h
theorem l_notIn : Lift2 K (fun x y H Q => rIn K true x y H Q ∨ ((∃ (c : Nat) (z : Str), x = .str ⟨#[c]⟩ ∧ y = .str z ∧ Q (.bl (!decide (c ∈ z.cps.toList))) H) ∨ rInDict true x y H Q)) (inD true) :=
  ((l_inSeq true).or (l_notInSign.or (l_inDict true))).wk fun x y M Q h => by simpa using inD_cases h
end
end Y


set_option Elab.async false
set_option linter.all false
set_option maxRecDepth 100000
set_option maxHeartbeats 1000000
/-! Y5: slices, truth, len, calls of built-ins, comprehensions, dicts, methods of lists and dicts, fields. -/
namespace Y
open PySem PySem.Spec PyProof.Rows L2

section
variable {X : Cx} {B : Hp} {K : PySem.W.Frag}
/-! ### slices -/
def cut {α : Type} (xs : List α) (lo hi : Option Int) : List α := (xs.drop (HT.sIx xs.length 0 lo)).take (HT.sIx xs.length xs.length hi - HT.sIx xs.length 0 lo)
theorem cut_rep {F : Hp} {xs : List V} {ds : List D} (r : RepL K F xs ds) (lo hi : Option Int) : RepL K F (cutV xs lo hi) (cut ds lo hi) := by
  unfold cutV cut
  rw [r.length]
  exact (r.drop _).take _
theorem cut_whole {α : Type} {xs : List α} {lo hi : Option Int} (h : HT.sIx xs.length 0 lo = 0 ∧ HT.sIx xs.length xs.length hi = xs.length) : cut xs lo hi = xs := by
  unfold cut
  rw [h.1, h.2]
  simp
abbrev DO := Env → Mm → (Option Int → Mm → Prop) → Prop
def LO (K : PySem.W.Frag) (F : Hp) (Q : Option Int → Mm → Prop) : Option Int → Hp → Prop := fun b H' => ∃ F' M', Le F F' ∧ Stt K H' F' M' ∧ Q b M'
def upO (K : PySem.W.Frag) (B : Hp) (t : DO) : TO := fun σ H Q => ∃ F M δ Q', Le B F ∧ Stt K H F M ∧ RepS K F σ δ ∧ t δ M Q' ∧ ∀ v H', LO K F Q' v H' → Q v H'
def doNone : DO := fun _ M Q => Q none M
def doSome (t : DE) : DO := fun δ M Q => t δ M fun d M1 => ∃ i, d = .int i ∧ Q (some i) M1
theorem PO.wk {e : Option Expr} {t t' : TO} (h : PO X e t) (w : ∀ σ H Q, t' σ H Q → t σ H Q) : PO X e t' := ⟨fun pins s σ H Q I q => h.run pins s σ H Q I (w σ H Q q)⟩
theorem qo_none : PO X none (upO X.K B doNone) := PO.wk po_none fun σ H Q ⟨F, M, δ, Q', lb, S, rs, h, k⟩ => k _ _ ⟨F, M, Le.refl F, S, h⟩
theorem qo_some {e : Expr} {t : DE} (h : PE X e (up X.K B t)) : PO X (some e) (upO X.K B (doSome t)) := PO.wk (po_some h) fun σ H Q ⟨F, M, δ, Q', lb, S, rs, h, k⟩ => ⟨F, M, δ, _, lb, S, rs, h, fun x H1 ⟨F1, M1, d, l1, S1, r1, i, e, h1⟩ => by
  subst e; cases r1
  exact ⟨i, rfl, k _ _ ⟨F1, M1, l1, S1, h1⟩⟩⟩
/-- x[lo:hi]: of a tuple, a list (the part stands still), a text -/
def sliceD (x : D) (lo hi : Option Int) (M : Mm) (Q : QD) : Prop := match x with
  | .tup ds => Q (.tup (cut ds lo hi)) M
  | .v (.str z) => z.length ≤ sizeLine ∧ Q (.str (cutS z lo hi)) M
  | x => ∃ ds, lsD x M = some ds ∧ Q (.lst (cut ds lo hi)) M
def dSlice (te : DE) (tl th : DO) : DE := fun δ M Q => te δ M fun x M1 => tl δ M1 fun l M2 => th δ M2 fun u M3 => sliceD x l u M3 Q
def slAll (K : PySem.W.Frag) : V → Option Int → Option Int → Hp → VK → Prop := fun x lo hi H Q => rSlA K x lo hi H Q ∨ (rSlS x lo hi H Q ∨ rSlL K x lo hi H Q)
theorem sl_all : SlR X (slAll X.K) := SlR.or sl_tupA (SlR.or sl_str sl_list)
theorem slice_lift {H F : Hp} {M : Mm} {x : V} {d : D} {lo hi : Option Int} {Q' : QD} {Q : VK} (S : Stt K H F M) (rx : Rep K F x d) (h : sliceD d lo hi M Q') (k : ∀ v H', LQ K F Q' v H' → Q v H') : slAll K x lo hi H Q := by
  unfold sliceD at h
  split at h
  · rename_i ds
    cases rx with
    | @tup a xs _ hs rl =>
      refine .inl ⟨a, xs, rfl, SqT.le S.fz hs, fun z => ?_, fun _ p hp => ?_⟩
      · rw [rl.length] at z
        rw [cut_whole z] at h
        exact k _ _ ⟨F, M, _, Le.refl F, S, .tup hs rl, h⟩
      · have f0 := (S.free hp).1
        exact k _ _ ⟨_, M, _, le_upd f0, S.still hp, .tup (SqT.of upd_same) ((cut_rep rl lo hi).le (le_upd f0)), h⟩
  · cases rx
    exact .inr (.inl ⟨_, rfl, h.1, k _ _ ⟨F, M, _, Le.refl F, S, .v _, h.2⟩⟩)
  · obtain ⟨ds, e, h⟩ := h
    obtain ⟨a, xs, rfl, h3, rl⟩ := lsD_at S rx e
    refine .inr (.inr ⟨a, xs, rfl, h3, fun p hp => ?_⟩)
    have f0 := (S.free hp).1
    exact k _ _ ⟨_, M, _, le_upd f0, S.still hp, .lst (SqL.of upd_same) ((cut_rep rl lo hi).le (le_upd f0)), h⟩
theorem q_slice {e : Expr} {lo hi : Option Expr} {te : DE} {tl th : DO} {pos p2 : Pos} (he : PE X e (up X.K B te)) (hl : PO X lo (upO X.K B tl)) (hu : PO X hi (upO X.K B th)) : PE X (.Subscript e (.Slice lo hi none p2) pos) (up X.K B (dSlice te tl th)) :=
  PE.wk (pe_slice sl_all he hl hu) fun σ H Q ⟨F, M, δ, Q', lb, S, rs, h, k⟩ => ⟨F, M, δ, _, lb, S, rs, h, fun x H1 ⟨F1, M1, d, l1, S1, r1, h1⟩ =>
    ⟨F1, M1, δ, _, lb.trans l1, S1, rs.le l1, h1, fun l H2 ⟨F2, M2, l2, S2, h2⟩ => ⟨F2, M2, δ, _, lb.trans (l1.trans l2), S2, rs.le (l1.trans l2), h2, fun u H3 ⟨F3, M3, l3, S3, h3⟩ =>
      slice_lift S3 (r1.le (l2.trans l3)) h3 fun v H' q => k v H' (q.le ((l1.trans l2).trans l3))⟩⟩⟩

/-! ### truth -/
def truD (d : D) (M : Mm) : Option Bool := match d with
  | .v .non => some false
  | .v (.bl b) => some b
  | .v (.int i) => some (i != 0)
  | .v (.str z) => if z.length ≤ sizeLine then some ((z.length : Int) != 0) else none
  | .tup ds => some (!ds.isEmpty)
  | .lst ds => some (!ds.isEmpty)
  | .v (.ref a) => (match M a with | some (.lst ds) => some (!ds.isEmpty) | some (.dct kvs) => some (!kvs.isEmpty) | _ => none)
  | _ => none
theorem empty_rep {F : Hp} {xs : List V} {ds : List D} (r : RepL K F xs ds) : xs.isEmpty = ds.isEmpty := by cases r <;> rfl
theorem truD_at {H F : Hp} {M : Mm} {x : V} {d : D} {b : Bool} (S : Stt K H F M) (r : Rep K F x d) (h : truD d M = some b) : TruV K x H b := by
  cases r with
  | v =>
    cases x with
    | non => simp [truD] at h; subst h; rfl
    | bl c => simp [truD] at h; subst h; rfl
    | int i => simp only [truD, Option.some.injEq] at h; exact h.symm
    | str z =>
      simp only [truD] at h
      split at h
      · rename_i hz
        exact ⟨hz, (Option.some.inj h).symm⟩
      · cases h
    | ref a =>
      simp only [truD] at h
      cases e : M a with
      | none => rw [e] at h; cases h
      | some m =>
        rw [e] at h
        cases m with
        | lst ds =>
          obtain ⟨xs, h1, h2⟩ := muL S e
          exact .inl ⟨xs, SqL.of h1, by rw [empty_rep h2]; exact (Option.some.inj h).symm⟩
        | dct ds =>
          obtain ⟨xs, h1, h2⟩ := muD S e
          refine .inr (.inr ⟨xs, h1, ?_⟩)
          rw [show xs.isEmpty = ds.isEmpty from by unfold RepKV at h2; cases h2 <;> rfl]
          exact (Option.some.inj h).symm
        | _ => simp at h
    | _ => simp [truD] at h
  | tup hs rl => exact .inr (.inl ⟨_, SqT.le S.fz hs, by rw [empty_rep rl]; exact (Option.some.inj h).symm⟩)
  | lst hs rl => exact .inl ⟨_, SqL.le S.fz hs, by rw [empty_rep rl]; exact (Option.some.inj h).symm⟩
def dTru (t : DE) : DT := fun δ M Q => t δ M fun d M1 => ∃ b, truD d M1 = some b ∧ Q b M1
theorem qt_truth {a : Expr} {t : DE} (ha : PE X a (up X.K B t)) (he : ∀ whole, isTrue a X.env whole = (do let v ← whole; standAt a.pos; holding [v] (truthy v)) := by intro _; rfl) : PT X a (upT X.K B (dTru t)) :=
  PT.wk (pt_truth ha he) fun σ H Q ⟨F, M, δ, Q', lb, S, rs, h, k⟩ => ⟨F, M, δ, _, lb, S, rs, h, fun x H1 ⟨F1, M1, d, l1, S1, r1, b, e, h1⟩ => ⟨b, truD_at S1 r1 e, k _ _ ⟨F1, M1, l1, S1, h1⟩⟩⟩

/-! ### calls of built-ins -/
abbrev DC := List D → Mm → QD → Prop
def LiftC (K : PySem.W.Frag) (r : List V → Hp → VK → Prop) (r' : DC) : Prop := ∀ H F M xs ds Q' Q, Stt K H F M → RepL K F xs ds → r' ds M Q' → (∀ v H', LQ K F Q' v H' → Q v H') → r xs H Q
def dCB (r : DC) (t : DA) : DE := fun δ M Q => t δ M fun ds M1 => r ds M1 Q
theorem up_cb {r : List V → Hp → VK → Prop} {r' : DC} (L : LiftC K r r') {t : DA} {σ : Sg} {H : Hp} {Q : VK} (h : up K B (dCB r' t) σ H Q) : tCB r (upA K B t) σ H Q := by
  obtain ⟨F, M, δ, Q', lb, S, rs, h, k⟩ := h
  exact ⟨F, M, δ, _, lb, S, rs, h, fun vs H1 ⟨F1, M1, ds, l1, S1, r1, h1⟩ => L H1 F1 M1 vs ds Q' Q S1 r1 h1 fun v H' q => k v H' (q.le l1)⟩
section
variable {x : Str} {p pos : Pos} {e : Expr} {es : List Expr} {t : DA} {id T : String} {r : List V → Hp → VK → Prop} {r' : DC}
theorem q_callB (hc : CallR X (.builtin id) r) (L : LiftC X.K r r') (hg : Gl X x) (hm : X.mg x = none) (hv : bootBuiltins x = some (.builtin id)) (ha : PA X (e :: es) (upA X.K B t)) (hn : x ≠ "__name__" := by decide) (hdb : (x == ("__debug__" : Str)) = false := by decide)
    (he : starEach (e :: es) X.env = (false, eval e X.env) :: starEach es X.env := by rfl) (hpl : (backTo pos (starEach es X.env)).any (·.1) = false := by rfl) : PE X (.Call (.Name x p) (e :: es) [] pos) (up X.K B (dCB r' t)) :=
  PE.wk (pe_callB hc hg hm hv ha hn hdb he hpl) fun _ _ _ h => up_cb L h
theorem q_callTy (hc : CallR X (.type T) r) (L : LiftC X.K r r') (hg : Gl X x) (hm : X.mg x = none) (hv : bootBuiltins x = some (.type T)) (ha : PA X (e :: es) (upA X.K B t)) (hn : x ≠ "__name__" := by decide) (hdb : (x == ("__debug__" : Str)) = false := by decide)
    (he : starEach (e :: es) X.env = (false, eval e X.env) :: starEach es X.env := by rfl) (hpl : (backTo pos (starEach es X.env)).any (·.1) = false := by rfl) : PE X (.Call (.Name x p) (e :: es) [] pos) (up X.K B (dCB r' t)) :=
  PE.wk (pe_callTy hc hg hm hv ha hn hdb he hpl) fun _ _ _ h => up_cb L h
end
theorem rep1 {F : Hp} {xs : List V} {d : D} (r : RepL K F xs [d]) : ∃ x, xs = [x] ∧ Rep K F x d := by
  cases r with
  | cons a b => cases b; exact ⟨_, rfl, a⟩
theorem rep2 {F : Hp} {xs : List V} {d e : D} (r : RepL K F xs [d, e]) : ∃ x y, xs = [x, y] ∧ Rep K F x d ∧ Rep K F y e := by
  cases r with
  | cons a b =>
    obtain ⟨y, rfl, h⟩ := rep1 b
    exact ⟨_, _, rfl, a, h⟩
/-- len -/
def lenD (d : D) (M : Mm) : Option Nat := match d with
  | .v (.str z) => if z.length ≤ sizeLine then some z.length else none
  | .tup ds => some ds.length
  | .lst ds => some ds.length
  | .v (.ref a) => (match M a with | some (.lst ds) => some ds.length | some (.dct kvs) => some kvs.length | _ => none)
  | _ => none
def cLen : DC := fun ds M Q => ∃ d n, ds = [d] ∧ lenD d M = some n ∧ Q (.int (n : Int)) M
def rLenA (K : PySem.W.Frag) : List V → Hp → VK → Prop := fun xs H Q => (∃ x n, xs = [x] ∧ LenV K x H n ∧ Q (.int n) H) ∨ (∃ a kvs, xs = [.ref a] ∧ H a = some (.dK kvs) ∧ Q (.int kvs.length) H)
theorem call_lenA : CallR X (.builtin "len") (rLenA X.K) := CallR.or call_len (by
  intro pins s σ H xs us Q I r h
  obtain ⟨a, kvs, e, ea, q⟩ := h
  exact call_lenD pins s σ H xs us Q I r ⟨a, kvs, e, ea, q⟩)
theorem l_len : LiftC K (rLenA K) cLen := fun H F M xs ds Q' Q S r ⟨d, n, e, h, q⟩ k => by
  subst e
  obtain ⟨x, rfl, rx⟩ := rep1 r
  have fin : ∀ m : Nat, m = n → Q (.int (m : Int)) H := fun m hm => by subst hm; exact k _ _ ⟨F, M, _, Le.refl F, S, .v _, q⟩
  cases rx with
  | v =>
    cases x with
    | str z =>
      simp only [lenD] at h
      split at h
      · rename_i hz; exact .inl ⟨_, z.length, rfl, ⟨hz, rfl⟩, fin _ (Option.some.inj h)⟩
      · cases h
    | ref a =>
      simp only [lenD] at h
      cases e : M a with
      | none => rw [e] at h; cases h
      | some m =>
        rw [e] at h
        cases m with
        | lst ds =>
          obtain ⟨xs, h1, h2⟩ := muL S e
          exact .inl ⟨_, xs.length, rfl, .inl ⟨xs, SqL.of h1, rfl⟩, fin _ (by rw [h2.length]; exact Option.some.inj h)⟩
        | dct ds =>
          obtain ⟨xs, h1, h2⟩ := muD S e
          exact .inr ⟨a, xs, rfl, h1, fin _ (by rw [h2.length]; exact Option.some.inj h)⟩
        | _ => simp at h
    | _ => simp [lenD] at h
  | tup hs rl => exact .inl ⟨_, _, rfl, .inr ⟨_, SqT.le S.fz hs, rfl⟩, fin _ (by rw [rl.length]; exact Option.some.inj h)⟩
  | lst hs rl => exact .inl ⟨_, _, rfl, .inl ⟨_, SqL.le S.fz hs, rfl⟩, fin _ (by rw [rl.length]; exact Option.some.inj h)⟩
/-- int(n), abs(n), str(n) -/
def cInt : DC := fun ds M Q => ∃ i, ds = [.int i] ∧ Q (.int i) M
theorem l_int : LiftC K (fun xs H Q => (∃ i, xs = [.int i] ∧ Q (.int i) H) ∨ ∃ k, xs = [.bl k] ∧ Q (.int (if k then 1 else 0)) H) cInt := fun H F M xs ds Q' Q S r ⟨i, e, q⟩ k => by
  subst e
  obtain ⟨x, rfl, rx⟩ := rep1 r
  cases rx
  exact .inl ⟨i, rfl, k _ _ ⟨F, M, _, Le.refl F, S, .v _, q⟩⟩
def cAbs : DC := fun ds M Q => ∃ i, ds = [.int i] ∧ Q (.int (if i < 0 then -i else i)) M
theorem l_abs : LiftC K (fun xs H Q => ∃ i, xs = [.int i] ∧ Q (.int (if i < 0 then -i else i)) H) cAbs := fun H F M xs ds Q' Q S r ⟨i, e, q⟩ k => by
  subst e
  obtain ⟨x, rfl, rx⟩ := rep1 r
  cases rx
  exact ⟨i, rfl, k _ _ ⟨F, M, _, Le.refl F, S, .v _, q⟩⟩
def cStrI : DC := fun ds M Q => ∃ i, ds = [.int i] ∧ i.natAbs.log2 < 1920 ∧ Q (.str (Str.ofString (toString i))) M
theorem l_strI : LiftC K (fun xs H Q => ∃ i, xs = [.int i] ∧ i.natAbs.log2 < 1920 ∧ Q (.str (Str.ofString (toString i))) H) cStrI := fun H F M xs ds Q' Q S r ⟨i, e, h, q⟩ k => by
  subst e
  obtain ⟨x, rfl, rx⟩ := rep1 r
  cases rx
  exact ⟨i, rfl, h, k _ _ ⟨F, M, _, Le.refl F, S, .v _, q⟩⟩
/-- list(x) of a list or tuple: a new one; tuple(x) -/
def itD (d : D) (M : Mm) : Option (List D) := match d with
  | .tup ds => some ds
  | d => lsD d M
theorem itD_at {H F : Hp} {M : Mm} {x : V} {d : D} {ds : List D} (S : Stt K H F M) (r : Rep K F x d) (h : itD d M = some ds) : ∃ a xs, x = .ref a ∧ (SqL K H a xs ∨ SqT K H a xs) ∧ RepL K F xs ds := by
  unfold itD at h
  split at h
  · cases h
    cases r with
    | tup hs rl => exact ⟨_, _, rfl, .inr (SqT.le S.fz hs), rl⟩
  · obtain ⟨a, xs, e, h1, h2⟩ := lsD_at S r h
    exact ⟨a, xs, e, .inl h1, h2⟩
def cList : DC := fun ds M Q => ∃ d es, ds = [d] ∧ itD d M = some es ∧ Q (.lst es) M
def cListM : DC := fun ds M Q => ∃ d es, ds = [d] ∧ itD d M = some es ∧ ∀ p, M p = none → Q (.ref p) (Y.put M p (.lst es))
def rListOf (K : PySem.W.Frag) : List V → Hp → VK → Prop := fun xs H Q => ∃ p ys, xs = [.ref p] ∧ (SqL K H p ys ∨ SqT K H p ys) ∧ ∀ l, H l = none → Q (.ref l) (upd H l (.lst ys))
theorem l_list : LiftC K (rListOf K) cList := fun H F M xs ds Q' Q S r ⟨d, es, e, h, q⟩ k => by
  subst e
  obtain ⟨x, rfl, rx⟩ := rep1 r
  obtain ⟨a, ys, rfl, h1, rl⟩ := itD_at S rx h
  refine ⟨a, ys, rfl, h1, fun l hl => ?_⟩
  have f0 := (S.free hl).1
  exact k _ _ ⟨_, M, _, le_upd f0, S.still hl, .lst (SqL.of upd_same) (rl.le (le_upd f0)), q⟩
theorem l_listM : LiftC K (rListOf K) cListM := fun H F M xs ds Q' Q S r ⟨d, es, e, h, q⟩ k => by
  subst e
  obtain ⟨x, rfl, rx⟩ := rep1 r
  obtain ⟨a, ys, rfl, h1, rl⟩ := itD_at S rx h
  exact ⟨a, ys, rfl, h1, fun l hl => k _ _ ⟨F, _, _, Le.refl F, S.newM hl (.lst rl), .v _, q l (S.free hl).2⟩⟩
def cTuple : DC := fun ds M Q => ∃ d es, ds = [d] ∧ itD d M = some es ∧ Q (.tup es) M
theorem l_tuple : LiftC K (fun xs H Q => ∃ p ys, xs = [.ref p] ∧ ((SqL K H p ys ∧ ∀ l, H l = none → Q (.ref l) (upd H l (.tup ys))) ∨ (SqT K H p ys ∧ Q (.ref p) H))) cTuple := fun H F M xs ds Q' Q S r ⟨d, es, e, h, q⟩ k => by
  subst e
  obtain ⟨x, rfl, rx⟩ := rep1 r
  by_cases z : ∃ fs, d = .tup fs
  · obtain ⟨fs, rfl⟩ := z
    cases h
    cases rx with
    | tup hs rl => exact ⟨_, _, rfl, .inr ⟨SqT.le S.fz hs, k _ _ ⟨F, M, _, Le.refl F, S, .tup hs rl, q⟩⟩⟩
  · have h' : lsD d M = some es := by
      unfold itD at h
      split at h
      · exact absurd ⟨_, rfl⟩ z
      · exact h
    obtain ⟨a, ys, rfl, h1, rl⟩ := lsD_at S rx h'
    refine ⟨a, ys, rfl, .inl ⟨h1, fun l hl => ?_⟩⟩
    have f0 := (S.free hl).1
    exact k _ _ ⟨_, M, _, le_upd f0, S.still hl, .tup (SqT.of upd_same) (rl.le (le_upd f0)), q⟩
/-- all, any over a list of bools -/
def blsD : List D → Option (List Bool)
  | [] => some []
  | .v (.bl b) :: ds => (blsD ds).map (b :: ·)
  | _ :: _ => none
theorem blsD_at {F : Hp} : ∀ {xs : List V} {ds : List D} {bs : List Bool}, RepL K F xs ds → blsD ds = some bs → xs = bs.map V.bl
  | _, [], _, .nil, h => by simp [blsD] at h; subst h; rfl
  | x :: xs, d :: ds, bs, .cons r rl, h => by
    cases d with
    | v z =>
      have ez := Rep.v_inv r
      subst ez
      clear r
      cases x with
      | bl b =>
        cases e : blsD ds with
        | none => simp [blsD, e] at h
        | some cs =>
          simp [blsD, e] at h
          subst h
          rw [blsD_at rl e]
          rfl
      | _ => simp [blsD] at h
    | tup => simp [blsD] at h
    | lst => simp [blsD] at h
def cAll : DC := fun ds M Q => ∃ d es bs, ds = [d] ∧ lsD d M = some es ∧ blsD es = some bs ∧ Q (.bl (bs.all id)) M
def cAny : DC := fun ds M Q => ∃ d es bs, ds = [d] ∧ lsD d M = some es ∧ blsD es = some bs ∧ Q (.bl (bs.any id)) M
theorem l_all : LiftC K (rAll K) cAll := fun H F M xs ds Q' Q S r ⟨d, es, bs, e, h, hb, q⟩ k => by
  subst e
  obtain ⟨x, rfl, rx⟩ := rep1 r
  obtain ⟨a, ys, rfl, h1, rl⟩ := lsD_at S rx h
  have e := blsD_at rl hb
  subst e
  exact ⟨a, bs, rfl, h1, k _ _ ⟨F, M, _, Le.refl F, S, .v _, q⟩⟩
theorem l_any : LiftC K (rAny K) cAny := fun H F M xs ds Q' Q S r ⟨d, es, bs, e, h, hb, q⟩ k => by
  subst e
  obtain ⟨x, rfl, rx⟩ := rep1 r
  obtain ⟨a, ys, rfl, h1, rl⟩ := lsD_at S rx h
  have e := blsD_at rl hb
  subst e
  exact ⟨a, bs, rfl, h1, k _ _ ⟨F, M, _, Le.refl F, S, .v _, q⟩⟩
/-- isinstance(x, T), T a built-in class -/
def typD (d : D) (M : Mm) : Option String := match d with
  | .v .non => some "NoneType"
  | .v (.bl _) => some "bool"
  | .v (.int _) => some "int"
  | .v (.str _) => some "str"
  | .tup _ => some "tuple"
  | .v (.ref a) => (match M a with | some (.lst _) => some "list" | some (.dct _) => some "dict" | _ => none)
  | _ => none
theorem typD_at {H F : Hp} {M : Mm} {x : V} {d : D} {t : String} (S : Stt K H F M) (r : Rep K F x d) (h : typD d M = some t) : TyX K H x (.type t) := by
  cases r with
  | v =>
    cases x with
    | non => cases h; exact .base .non
    | bl c => cases h; exact .base (.bl _)
    | int i => cases h; exact .base (.int _)
    | str z => cases h; exact .base (.str _)
    | ref a =>
      simp only [typD] at h
      cases e : M a with
      | none => rw [e] at h; cases h
      | some m =>
        rw [e] at h
        cases m with
        | lst ds => cases h; obtain ⟨xs, h1, h2⟩ := muL S e; exact .base (.lst h1)
        | dct ds => cases h; obtain ⟨xs, h1, h2⟩ := muD S e; exact .base (.dK h1)
        | _ => simp at h
    | _ => simp [typD] at h
  | tup hs rl =>
    cases h
    rcases SqT.le S.fz hs with (z | ⟨o, z⟩) | ⟨o, its, n, h1, h2, _⟩
    · exact .base (.tup z)
    · exact .fTuple z
    · exact .kTuple h1 h2
  | lst => simp [typD] at h
def cIsi : DC := fun ds M Q => ∃ d t n b, ds = [d, .v (.ty n)] ∧ typD d M = some t ∧ kitB t n = some b ∧ Q (.bl b) M
theorem l_isi : LiftC K (rIsi K) cIsi := fun H F M xs ds Q' Q S r ⟨d, t, n, b, e, h, hb, q⟩ k => by
  subst e
  obtain ⟨x, y, rfl, rx, ry⟩ := rep2 r
  cases ry
  exact ⟨x, _, _, _, b, rfl, .ty n, typD_at S rx h, kit_ty hb, k _ _ ⟨F, M, _, Le.refl F, S, .v _, q⟩⟩
end
end Y


set_option Elab.async false
set_option linter.all false
set_option maxRecDepth 100000
set_option maxHeartbeats 1000000
/-! Y6: comprehensions, dicts, methods of lists and dicts, stores, fields, objects, bodies of defs. -/
namespace Y
open PySem PySem.Spec PyProof.Rows L2

section
variable {X : Cx} {B : Hp} {K : PySem.W.Frag}
/-! ### the slots of a block forgotten -/
def wipeD (δ : Env) : List Nat → Env
  | [] => δ
  | v :: vs => (wipeD δ vs).set v none
theorem RepS.wipe {F : Hp} {σ : Sg} {δ : Env} (r : RepS K F σ δ) : ∀ vs : List Nat, RepS K F (L2.wipe σ vs) (wipeD δ vs)
  | [] => r
  | v :: vs => RepS.unset v (RepS.wipe r vs)
theorem wipe_get (σ : Sg) : ∀ (vs : List Nat) (j : Nat), (L2.wipe σ vs)[j]? = if j ∈ vs then (σ[j]?).map (fun _ => none) else σ[j]?
  | [], j => by simp [L2.wipe]
  | v :: vs, j => by
    unfold L2.wipe
    by_cases e : v = j
    · subst e
      rw [List.getElem?_set_self', wipe_get σ vs v, if_pos List.mem_cons_self]
      split <;> simp [Option.map_map] <;> cases σ[v]? <;> rfl
    · rw [List.getElem?_set_ne e, wipe_get σ vs j]
      have : (j ∈ v :: vs) ↔ j ∈ vs := by simp [List.mem_cons, Ne.symm e]
      by_cases h : j ∈ vs
      · rw [if_pos h, if_pos (this.mpr h)]
      · rw [if_neg h, if_neg fun z => h (this.mp z)]
theorem wipe_set {σ : Sg} {vs : List Nat} {i : Nat} {x : Option V} (h : i ∈ vs) : L2.wipe (σ.set i x) vs = L2.wipe σ vs := by
  apply List.ext_getElem?
  intro j
  rw [wipe_get, wipe_get]
  by_cases e : j = i
  · subst e
    rw [if_pos h, if_pos h]
    rw [List.getElem?_set_self']
    cases σ[j]? <;> rfl
  · rw [List.getElem?_set_ne (Ne.symm e)]
theorem wipe_wipe {σ : Sg} {vs : List Nat} : L2.wipe (L2.wipe σ vs) vs = L2.wipe σ vs := by
  apply List.ext_getElem?
  intro j
  rw [wipe_get, wipe_get]
  by_cases h : j ∈ vs
  · rw [if_pos h, if_pos h]; cases σ[j]? <;> rfl
  · rw [if_neg h, if_neg h]
/-- a target of a block: it stores into the block's own slots alone -/
def LiftG (K : PySem.W.Frag) (vs : List Nat) (g : TG) (g' : DG) : Prop := ∀ H F M δ d v σ Q' Q, Stt K H F M → RepS K F σ δ → Rep K F v d → g' d δ M Q' → (∀ σ' H', L2.wipe σ' vs = L2.wipe σ vs → LS K F Q' σ' H' → Q σ' H') → g v σ H Q
def LiftGs (K : PySem.W.Frag) (vs : List Nat) (g : TGs) (g' : DGs) : Prop := ∀ H F M δ ds xs σ Q' Q, Stt K H F M → RepS K F σ δ → RepL K F xs ds → g' ds δ M Q' → (∀ σ' H', L2.wipe σ' vs = L2.wipe σ vs → LS K F Q' σ' H' → Q σ' H') → g xs σ H Q
theorem lg_name {vs : List Nat} {i : Nat} (h : i ∈ vs) : LiftG K vs (gName i) (dgName i) := fun H F M δ d v σ Q' Q S rs r q k => k _ _ (wipe_set h) ⟨F, M, _, Le.refl F, S, rs.set r i, q⟩
theorem lgs_nil {vs : List Nat} : LiftGs K vs gNil dgNil := fun H F M δ ds xs σ Q' Q S rs r ⟨e, q⟩ k => by
  subst e; cases r
  exact ⟨rfl, k _ _ rfl ⟨F, M, _, Le.refl F, S, rs, q⟩⟩
theorem lgs_cons {vs : List Nat} {g : TG} {g' : DG} {u : TGs} {u' : DGs} (h1 : LiftG K vs g g') (h2 : LiftGs K vs u u') : LiftGs K vs (gCons g u) (dgCons g' u') := fun H F M δ ds xs σ Q' Q S rs r ⟨d, r', e, q⟩ k => by
  subst e
  cases r with
  | cons ra rb =>
    refine ⟨_, _, rfl, h1 H F M δ d _ σ _ _ S rs ra q fun σ1 H1 w1 ⟨F1, M1, δ1, l1, S1, rs1, q1⟩ => ?_⟩
    exact h2 H1 F1 M1 δ1 r' _ σ1 Q' Q S1 rs1 (rb.le l1) q1 fun σ2 H2 w2 q2 => k _ _ (w2.trans w1) (q2.le l1)
theorem lg_tup {vs : List Nat} {n : Nat} {u : TGs} {u' : DGs} (h : LiftGs K vs u u') : LiftG K vs (gTup K n u) (dgTup n u') := fun H F M δ d v σ Q' Q S rs r ⟨ds, e, hl, q⟩ k => by
  subst e
  cases r with
  | tup hs rl => exact ⟨_, _, rfl, SqT.le S.fz hs, by rw [rl.length]; exact hl, h H F M δ ds _ σ Q' Q S rs rl q k⟩
/-- (a, b) = a list of that length -/
def dgLst (n : Nat) (t : DGs) : DG := fun d δ M Q => ∃ ds, lsD d M = some ds ∧ ds.length = n ∧ t ds δ M Q
theorem qg_lst {es : List Expr} {k : Nat} {t : DGs} {n : Nat} {pos : Pos} (hc : X.calm = true) (h : PGs X es (upGs X.K B t)) (hn : (assignEach es X.env).length = n := by rfl) (hst : (assignEach es X.env).findIdx? (·.1) = none := by rfl) : PG X (.Tuple es k pos) (upG X.K B (dgLst n t)) :=
  PG.wk (pg_lst hc h hn hst) fun v σ H Q ⟨F, M, δ, d, Q', lb, S, rs, r, ⟨ds, e, hl, h⟩, k⟩ => by
    obtain ⟨a, xs, rfl, h1, rl⟩ := lsD_at S r e
    exact ⟨_, _, rfl, h1, by rw [rl.length]; exact hl, F, M, δ, ds, _, lb, S, rs, rl, h, k⟩

/-! ### list comprehensions -/
def tYesD : DT := fun _ M Q => Q true M
theorem qts_nil : PTs X [] (upT X.K B tYesD) := ⟨fun pins s σ H Q I ⟨F, M, δ, Q', lb, S, rs, h, k⟩ => pts_nil.run pins s σ H Q I (k _ _ ⟨F, M, Le.refl F, S, h⟩)⟩
theorem qts_one {c : Expr} {t : DT} (h : PT X c (upT X.K B t)) : PTs X [c] (upT X.K B t) := pts_one h
def lcD (G : Mm → Prop) (g : DG) (tt : DT) (te : DE) (δ0 : Env) (p : Addr) (Q : Mm → Prop) : List D → Mm → Prop
  | [], M => G M ∧ Q M
  | d :: ds, M => G M ∧ ∃ N : Mm → Prop, (∀ M', N M' → lcD G g tt te δ0 p Q ds M') ∧ g d δ0 M fun δ' M1 => tt δ' M1 fun b M2 => if b = true then te δ' M2 fun e M3 => ∃ acc, M3 p = some (.lst acc) ∧ acc.length < sizeLine ∧ N (Y.put M3 p (.lst (acc ++ [e]))) else N M2
theorem lcD_G {G : Mm → Prop} {g : DG} {tt : DT} {te : DE} {δ0 : Env} {p : Addr} {Q : Mm → Prop} {ds : List D} {M : Mm} (h : lcD G g tt te δ0 p Q ds M) : G M := by
  cases ds with
  | nil => exact h.1
  | cons d ds => exact h.1
def dLc (wi : DI) (g : DG) (tt : DT) (te : DE) (vs : List Nat) : DE := fun δ M Q => wi δ M fun ds G M1 => ∀ p, M1 p = none → lcD G g tt te (wipeD δ vs) p (fun M' => Q (.ref p) M') ds (Y.put M1 p (.lst []))
theorem up_lc {wi : DI} {g : TG} {g' : DG} {tt : DT} {te : DE} {vs : List Nat} (L : LiftG K vs g g') {σ : Sg} {H : Hp} {Q : VK} (h : up K B (dLc wi g' tt te vs) σ H Q) : tLc (upI K B wi) g (upT K B tt) (up K B te) vs σ H Q := by
  obtain ⟨F, M, δ, Q', lb, S, rs, h, k⟩ := h
  refine ⟨F, M, δ, _, lb, S, rs, h, fun J H1 ⟨F1, M1, ds, G, l1, S1, Yw, h1⟩ p hp => ?_⟩
  have h1 := h1 p (S1.free hp).2
  have S2 := S1.newM (o := .lst []) hp (.lst .nil)
  refine ⟨fun i m H => m = ds.length - i ∧ i ≤ ds.length ∧ ∃ F2 M2, Le F1 F2 ∧ Stt K H F2 M2 ∧ lcD G g' tt te (wipeD δ vs) p (fun M' => Q' (.ref p) M') (ds.drop i) M2, ⟨ds.length, by simp, Nat.zero_le _, F1, _, Le.refl F1, S2, by simpa using h1⟩, ?_⟩
  rintro i m H2 ⟨rfl, hi, F2, M2, l2, S3, h2⟩
  have gm := lcD_G h2
  have l02 := l1.trans l2
  by_cases hlt : i < ds.length
  · refine .inr ⟨Yw.go i H2 F2 M2 l2 S3 gm hlt, fun H' => i + 1 ≤ ds.length ∧ ∃ F2 M2, Le F1 F2 ∧ Stt K H' F2 M2 ∧ lcD G g' tt te (wipeD δ vs) p (fun M' => Q' (.ref p) M') (ds.drop (i + 1)) M2, fun H' q => ⟨ds.length - (i + 1), by omega, rfl, q⟩, fun x H3 y => ?_⟩
    obtain ⟨F3, d, l3, S4, e3, r3⟩ := Yw.yld i H2 F2 M2 x H3 l2 S3 gm hlt y
    rw [List.drop_eq_getElem_cons hlt] at h2
    have ed : ds[i] = d := by
      rw [List.getElem?_eq_getElem hlt] at e3
      exact Option.some.inj e3
    rw [ed] at h2
    obtain ⟨_, N, hN, h2⟩ := h2
    refine L H3 F3 M2 (wipeD δ vs) d x (L2.wipe σ vs) _ _ S4 ((rs.wipe vs).le (l02.trans l3)) r3 h2 fun σ4 H4 w4 ⟨F4, M4, δ4, l4, S5, rs4, h4⟩ => ?_
    refine ⟨w4.trans wipe_wipe, F4, M4, δ4, _, lb.trans ((l02.trans l3).trans l4), S5, rs4, h4, fun b H5 ⟨F5, M5, l5, S6, h5⟩ => ?_⟩
    have l15 : Le F1 F5 := ((l2.trans l3).trans l4).trans l5
    cases b with
    | false => exact iteF ⟨hlt, F5, M5, l15, S6, hN _ (by simpa using h5)⟩
    | true =>
      rw [if_pos rfl] at h5
      refine iteT ⟨F5, M5, δ4, _, lb.trans (l1.trans l15), S6, rs4.le l5, h5, fun y H6 ⟨F6, M6, e, l6, S7, r6, acc, ea, hz, h6⟩ => ?_⟩
      obtain ⟨xs, hx, rx⟩ := muL S7 ea
      exact ⟨xs, hx, by rw [rx.length]; exact hz, hlt, F6, _, l15.trans l6, S7.change ea (.lst (rx.append (.cons r6 .nil))), hN _ h6⟩
  · have e : i = ds.length := by omega
    subst e
    rw [List.drop_eq_nil_of_le (Nat.le_refl _)] at h2
    exact .inl ⟨Yw.stop H2 F2 M2 l2 S3 gm, k _ _ ⟨F2, M2, _, l02, S3, .v _, h2.2⟩⟩
variable {elt tg iter : Expr} {ifs : List Expr} {scope : Scope} {own : List (Str × Nat)} {pos spos : Pos} {wi : DI} {g : TG} {g' : DG} {tt : DT} {te : DE}
theorem q_lc (hc : X.calm = true) (hN : X.N.Nodup) (hi : PI X tg iter (upI X.K B wi)) (ok : BlkOk X.N X.env.scope scope own)
    (hg : ∀ (s : Shared) (H : Hp) (C : Addr) (cl : List (Str × Addr)) (fp : List Addr), PG (X.blk s H scope (compEnvC scope cl C X.env) fp) tg g) (L : LiftG X.K (own.map (·.2)) g g')
    (ht : ∀ (s : Shared) (H : Hp) (C : Addr) (cl : List (Str × Addr)) (fp : List Addr), PTs (X.blk s H scope (compEnvC scope cl C X.env) fp) ifs (upT X.K B tt))
    (he : ∀ (s : Shared) (H : Hp) (C : Addr) (cl : List (Str × Addr)) (fp : List Addr), PE (X.blk s H scope (compEnvC scope cl C X.env) fp) elt (up X.K B te)) (hs : ∀ x, foldedSetIterable iter X.env x = pure x := by intro _; rfl) :
    PE X (.ListComp elt [⟨tg, iter, ifs, 0⟩] scope pos) (up X.K B (dLc wi g' tt te (own.map (·.2)))) :=
  PE.wk (pe_lc hc hN hi ok hg ht he hs) fun _ _ _ h => up_lc L h
theorem qs_setLc {i : Nat} {y : Str} {py : Pos} (hc : X.calm = true) (hN : X.N.Nodup) (hy : X.N[i]? = some y) (hyl : X.env.scope.names.lookup y = some .local)
    (hsw : swapsWith (.ListComp elt [⟨tg, iter, ifs, 0⟩] scope pos) (some (.Name y py)) spos.line X.env = pure true) (hi : PI X tg iter (upI X.K B wi)) (ok : BlkOk X.N X.env.scope scope own)
    (hg : ∀ (s : Shared) (H : Hp) (C : Addr) (cl : List (Str × Addr)) (fp : List Addr), PG (X.blk s H scope (compEnvC scope cl C X.env) fp) tg g) (L : LiftG X.K (own.map (·.2)) g g')
    (ht : ∀ (s : Shared) (H : Hp) (C : Addr) (cl : List (Str × Addr)) (fp : List Addr), PTs (X.blk s H scope (compEnvC scope cl C X.env) fp) ifs (upT X.K B tt))
    (he : ∀ (s : Shared) (H : Hp) (C : Addr) (cl : List (Str × Addr)) (fp : List Addr), PE (X.blk s H scope (compEnvC scope cl C X.env) fp) elt (up X.K B te)) (hs : ∀ x, foldedSetIterable iter X.env x = pure x := by intro _; rfl) :
    PS X (.Assign [.Name y py] (.ListComp elt [⟨tg, iter, ifs, 0⟩] scope pos) spos) (upS X.K B (dAsg (dLc wi g' tt te (own.map (·.2))) (dgName i))) :=
  PS.wk (ps_setLc hc hN hy hyl hsw hi ok hg ht he hs) fun E σ H h => by
    have h := up_asg E σ H h
    obtain ⟨F, M, δ, E', lb, S, rs, h, k⟩ := h
    exact up_lc L ⟨F, M, δ, _, lb, S, rs, h, fun v H' q => by
      obtain ⟨F1, M1, δ1, d1, Q1, _, S1, rs1, r1, q1, k1⟩ := k v H' q
      exact k1 _ _ ⟨F1, M1, _, Le.refl F1, S1, rs1.set r1 i, q1⟩⟩

/-! ### dict comprehensions -/
def dcD (G : Mm → Prop) (g : DG) (tt : DT) (tk te : DE) (δ0 : Env) (p : Addr) (Q : Mm → Prop) : List D → Mm → Prop
  | [], M => G M ∧ Q M
  | d :: ds, M => G M ∧ ∃ N : Mm → Prop, (∀ M', N M' → dcD G g tt tk te δ0 p Q ds M') ∧ g d δ0 M fun δ' M1 => tt δ' M1 fun b M2 => if b = true then tk δ' M2 fun y M3 => te δ' M3 fun e M4 => ∃ kvs k, keyD y = some k ∧ M4 p = some (.dct kvs) ∧ kvs.length < sizeLine ∧ N (Y.put M4 p (.dct (putKD kvs k e))) else N M2
theorem dcD_G {G : Mm → Prop} {g : DG} {tt : DT} {tk te : DE} {δ0 : Env} {p : Addr} {Q : Mm → Prop} {ds : List D} {M : Mm} (h : dcD G g tt tk te δ0 p Q ds M) : G M := by
  cases ds with
  | nil => exact h.1
  | cons d ds => exact h.1
def dDc (wi : DI) (g : DG) (tt : DT) (tk te : DE) (vs : List Nat) : DE := fun δ M Q => wi δ M fun ds G M1 => ∀ p, M1 p = none → dcD G g tt tk te (wipeD δ vs) p (fun M' => Q (.ref p) M') ds (Y.put M1 p (.dct []))
theorem up_dc {wi : DI} {g : TG} {g' : DG} {tt : DT} {tk te : DE} {vs : List Nat} (L : LiftG K vs g g') {σ : Sg} {H : Hp} {Q : VK} (h : up K B (dDc wi g' tt tk te vs) σ H Q) : tDc (upI K B wi) g (upT K B tt) (up K B tk) (up K B te) vs σ H Q := by
  obtain ⟨F, M, δ, Q', lb, S, rs, h, k⟩ := h
  refine ⟨F, M, δ, _, lb, S, rs, h, fun J H1 ⟨F1, M1, ds, G, l1, S1, Yw, h1⟩ p hp => ?_⟩
  have h1 := h1 p (S1.free hp).2
  have S2 := S1.newM (o := .dK []) (m := .dct []) hp (.dct .nil)
  refine ⟨fun i m H => m = ds.length - i ∧ i ≤ ds.length ∧ ∃ F2 M2, Le F1 F2 ∧ Stt K H F2 M2 ∧ dcD G g' tt tk te (wipeD δ vs) p (fun M' => Q' (.ref p) M') (ds.drop i) M2, ⟨ds.length, by simp, Nat.zero_le _, F1, _, Le.refl F1, S2, by simpa using h1⟩, ?_⟩
  rintro i m H2 ⟨rfl, hi, F2, M2, l2, S3, h2⟩
  have gm := dcD_G h2
  have l02 := l1.trans l2
  by_cases hlt : i < ds.length
  · refine .inr ⟨Yw.go i H2 F2 M2 l2 S3 gm hlt, fun H' => i + 1 ≤ ds.length ∧ ∃ F2 M2, Le F1 F2 ∧ Stt K H' F2 M2 ∧ dcD G g' tt tk te (wipeD δ vs) p (fun M' => Q' (.ref p) M') (ds.drop (i + 1)) M2, fun H' q => ⟨ds.length - (i + 1), by omega, rfl, q⟩, fun x H3 y => ?_⟩
    obtain ⟨F3, d, l3, S4, e3, r3⟩ := Yw.yld i H2 F2 M2 x H3 l2 S3 gm hlt y
    rw [List.drop_eq_getElem_cons hlt] at h2
    have ed : ds[i] = d := by
      rw [List.getElem?_eq_getElem hlt] at e3
      exact Option.some.inj e3
    rw [ed] at h2
    obtain ⟨_, N, hN, h2⟩ := h2
    refine L H3 F3 M2 (wipeD δ vs) d x (L2.wipe σ vs) _ _ S4 ((rs.wipe vs).le (l02.trans l3)) r3 h2 fun σ4 H4 w4 ⟨F4, M4, δ4, l4, S5, rs4, h4⟩ => ?_
    refine ⟨w4.trans wipe_wipe, F4, M4, δ4, _, lb.trans ((l02.trans l3).trans l4), S5, rs4, h4, fun b H5 ⟨F5, M5, l5, S6, h5⟩ => ?_⟩
    have l15 : Le F1 F5 := ((l2.trans l3).trans l4).trans l5
    cases b with
    | false => exact iteF ⟨hlt, F5, M5, l15, S6, hN _ (by simpa using h5)⟩
    | true =>
      rw [if_pos rfl] at h5
      refine iteT ⟨F5, M5, δ4, _, lb.trans (l1.trans l15), S6, rs4.le l5, h5, fun y H6 ⟨F6, M6, dk, l6, S7, r6, h6⟩ => ?_⟩
      refine ⟨F6, M6, δ4, _, lb.trans ((l1.trans l15).trans l6), S7, rs4.le (l5.trans l6), h6, fun z H7 ⟨F7, M7, e, l7, S8, r7, kvs, kk, ek, ea, hz, h7⟩ => ?_⟩
      obtain ⟨xs, hx, rx⟩ := muD S8 ea
      exact ⟨xs, kk, keyD_at r6 ek, hx, by rw [rx.length]; exact hz, hlt, F7, _, (l15.trans l6).trans l7, S8.change ea (.dct (putKD_rep rx r7)), hN _ h7⟩
  · have e : i = ds.length := by omega
    subst e
    rw [List.drop_eq_nil_of_le (Nat.le_refl _)] at h2
    exact .inl ⟨Yw.stop H2 F2 M2 l2 S3 gm, k _ _ ⟨F2, M2, _, l02, S3, .v _, h2.2⟩⟩
theorem q_dc {kx vx : Expr} {tk : DE} (hc : X.calm = true) (hN : X.N.Nodup) (hi : PI X tg iter (upI X.K B wi)) (ok : BlkOk X.N X.env.scope scope own)
    (hg : ∀ (s : Shared) (H : Hp) (C : Addr) (cl : List (Str × Addr)) (fp : List Addr), PG (X.blk s H scope (compEnvC scope cl C X.env) fp) tg g) (L : LiftG X.K (own.map (·.2)) g g')
    (ht : ∀ (s : Shared) (H : Hp) (C : Addr) (cl : List (Str × Addr)) (fp : List Addr), PTs (X.blk s H scope (compEnvC scope cl C X.env) fp) ifs (upT X.K B tt))
    (hk : ∀ (s : Shared) (H : Hp) (C : Addr) (cl : List (Str × Addr)) (fp : List Addr), PE (X.blk s H scope (compEnvC scope cl C X.env) fp) kx (up X.K B tk))
    (he : ∀ (s : Shared) (H : Hp) (C : Addr) (cl : List (Str × Addr)) (fp : List Addr), PE (X.blk s H scope (compEnvC scope cl C X.env) fp) vx (up X.K B te)) (hs : ∀ x, foldedSetIterable iter X.env x = pure x := by intro _; rfl) :
    PE X (.DictComp kx vx [⟨tg, iter, ifs, 0⟩] scope pos) (up X.K B (dDc wi g' tt tk te (own.map (·.2)))) :=
  PE.wk (pe_dc hc hN hi ok hg ht hk he hs) fun _ _ _ h => up_dc L h

/-! ### a name's list stands still from here on -/
def dFrzS (i : Nat) (u : DS) : DS := fun E δ M => ∃ p ds, δ[i]? = some (some (.ref p)) ∧ M p = some (.lst ds) ∧ u E (δ.set i (some (.lst ds))) (Y.drop M p)
theorem RepS.turn {F : Hp} {i : Nat} {x : V} {d : D} (r : Rep K F x d) : ∀ {σ : Sg} {δ : Env} {j : Nat}, RepS K F σ δ → σ[j]? = Option.some (Option.some x) → RepS K F σ (δ.set j (Option.some d))
  | _, _, _, .nil, h => .nil
  | _, _, 0, .some _ t, h => by
    simp at h
    subst h
    exact .some r t
  | _, _, 0, .none _, h => by simp at h
  | _, _, j + 1, .some q t, h => .some q (RepS.turn (i := i) r t (by simpa using h))
  | _, _, j + 1, .none t, h => .none (RepS.turn (i := i) r t (by simpa using h))
theorem qss_frz (i : Nat) {sts : List Stmt} {u : DS} (h : PSs X sts (upS X.K B u)) : PSs X sts (upS X.K B (dFrzS i u)) := PSs.wk h fun E σ H ⟨F, M, δ, E', lb, S, rs, ⟨p, ds, e1, e2, h⟩, k1, k2, k3, k4⟩ => by
  obtain ⟨x, h1, h2⟩ := rs.get e1
  cases h2
  obtain ⟨o, g1, g2, l2, S2⟩ := S.freeze e2
  cases g2 with
  | lst r => exact ⟨_, _, _, E', lb.trans l2, S2, (RepS.turn (i := i) (.lst (SqL.of upd_same) (r.le l2)) (rs.le l2) h1), h, fun _ _ q => k1 _ _ (q.le l2), fun _ _ q => k2 _ _ (q.le l2), fun _ _ q => k3 _ _ (q.le l2), fun _ _ q => k4 _ _ (q.le l2)⟩
end
end Y


set_option Elab.async false
set_option linter.all false
set_option maxRecDepth 100000
set_option maxHeartbeats 1000000
/-! Y7: stores, methods of lists and dicts, fields, objects, bodies of defs, dicts walked. -/
namespace Y
open PySem PySem.Spec PyProof.Rows L2

section
variable {X : Cx} {B : Hp} {K : PySem.W.Frag}
/-! ### o[i] = e -/
def setD (o i v : D) (M : Mm) (Q : Mm → Prop) : Prop := match o with
  | .v (.ref a) => (match M a with
    | some (.lst ds) => ∃ k j, i = .int k ∧ ixN ds.length k = some j ∧ Q (Y.put M a (.lst (ds.set j v)))
    | some (.dct kvs) => ∃ k, keyD i = some k ∧ kvs.length < sizeLine ∧ Q (Y.put M a (.dct (putKD kvs k v)))
    | _ => False)
  | _ => False
def rSetA : TSet := fun o i v H Q => rSetL o i v H Q ∨ rSetD o i v H Q
theorem set_all (hu : X.A.units + 1 < cLine) : PSet X rSetA := by
  intro pins s σ H o i v ov iv u Q I ro ri rv h
  rcases h with h | h
  · exact set_list pins s σ H o i v ov iv u Q I ro ri rv h
  · exact set_dict hu pins s σ H o i v ov iv u Q I ro ri rv h
theorem set_lift {H F : Hp} {M : Mm} {o i v : V} {od id vd : D} {Q' : Mm → Prop} {Q : Hp → Prop} (S : Stt K H F M) (ro : Rep K F o od) (ri : Rep K F i id) (rv : Rep K F v vd) (h : setD od id vd M Q') (k : ∀ H' M', Stt K H' F M' → Q' M' → Q H') : rSetA o i v H Q := by
  unfold setD at h
  split at h
  · rename_i a
    cases ro
    split at h
    · rename_i ds e
      obtain ⟨n, j, rfl, hj, q⟩ := h
      cases ri
      obtain ⟨xs, h1, r1⟩ := muL S e
      exact .inl ⟨a, xs, n, j, rfl, rfl, h1, by rw [r1.length]; exact hj, k _ _ (S.change e (.lst (RepL.set rv j r1))) q⟩
    · rename_i kvs e
      obtain ⟨n, hk, hz, q⟩ := h
      have ei := keyD_at ri hk
      subst ei
      obtain ⟨xs, h1, r1⟩ := muD S e
      exact .inr ⟨a, _, rfl, DPut.k h1 (by rw [r1.length]; exact hz), k _ _ (S.change e (.dct (putKD_rep r1 rv))) q⟩
    · exact h.elim
  · exact h.elim
def dgSub (to ti : DE) : DG := fun v δ M Q => to δ M fun o M1 => ti δ M1 fun i M2 => setD o i v M2 fun M3 => Q δ M3
theorem qg_sub {o i : Expr} {to ti : DE} {pos : Pos} (hu : X.A.units + 1 < cLine) (ho : PE X o (up X.K B to)) (hi : PE X i (up X.K B ti))
    (ha : ∀ v, assign (.Subscript o i pos) X.env v = (do
      let ov ← holding [v] (eval o X.env)
      let iv ← holding [v, ov] (eval i X.env)
      standAt pos
      holding [v, ov, iv] (setItem ov iv v)
      release [v, ov, iv] []) := by intro _; rfl) : PG X (.Subscript o i pos) (upG X.K B (dgSub to ti)) :=
  PG.wk (pg_sub ho hi (set_all hu) ha) fun v σ H Q ⟨F, M, δ, d, Q', lb, S, rs, r, h, k⟩ => ⟨F, M, δ, _, lb, S, rs, h, fun x H1 ⟨F1, M1, d1, l1, S1, r1, h1⟩ =>
    ⟨F1, M1, δ, _, lb.trans l1, S1, rs.le l1, h1, fun y H2 ⟨F2, M2, d2, l2, S2, r2, h2⟩ => set_lift S2 (r1.le l2) r2 (r.le (l1.trans l2)) h2 fun H3 M3 S3 q => k _ _ ⟨F2, M3, δ, l1.trans l2, S3, rs.le (l1.trans l2), q⟩⟩⟩
/-! ### del d[k] -/
def dDel (to ti : DE) : DS := fun E δ M => to δ M fun o M1 => ti δ M1 fun i M2 => ∃ a kvs k, o = .ref a ∧ M2 a = some (.dct kvs) ∧ keyD i = some k ∧ (valD kvs k).isSome = true ∧ E.nx δ (Y.put M2 a (.dct (dropKD kvs k)))
theorem qs_del {o i : Expr} {to ti : DE} {tpos pos : Pos} (ho : PE X o (up X.K B to)) (hi : PE X i (up X.K B ti)) : PS X (.Delete [.Subscript o i tpos] pos) (upS X.K B (dDel to ti)) :=
  PS.wk (ps_ddel ho hi) fun E σ H ⟨F, M, δ, E', lb, S, rs, h, k1, k2, k3, k4⟩ => ⟨F, M, δ, _, lb, S, rs, h, fun x H1 ⟨F1, M1, d1, l1, S1, r1, h1⟩ =>
    ⟨F1, M1, δ, _, lb.trans l1, S1, rs.le l1, h1, fun y H2 ⟨F2, M2, d2, l2, S2, r2, a, kvs, k, e, em, ek, hs, h2⟩ => by
      subst e
      cases r1
      obtain ⟨xs, hx, rx⟩ := muD S2 em
      have ey := keyD_at r2 ek
      subst ey
      refine ⟨a, xs, k, rfl, hx, rfl, ?_, k1 _ _ ⟨F2, _, δ, l1.trans l2, S2.change em (.dct (dropKD_rep rx)), rs.le (l1.trans l2), h2⟩⟩
      rcases valD_rep (k := k) rx with ⟨_, z⟩ | ⟨v, d, z, _, _⟩
      · rw [z] at hs; cases hs
      · rw [z]; rfl⟩⟩

/-! ### methods of built-in types, by values -/
abbrev DM := D → List D → Mm → QD → Prop
def LiftM (K : PySem.W.Frag) (r : V → List V → Hp → VK → Prop) (r' : DM) : Prop := ∀ H F M x d xs ds Q' Q, Stt K H F M → Rep K F x d → RepL K F xs ds → r' d ds M Q' → (∀ v H', LQ K F Q' v H' → Q v H') → r x xs H Q
/-- what stands ahead of the dot, by its type -/
def tyD (T : String) (d : D) (M : Mm) : Prop := match d with
  | .v (.str _) => T = "str"
  | .lst _ => T = "list"
  | .v (.ref a) => (match M a with | some (.lst _) => T = "list" | some (.dct _) => T = "dict" | _ => False)
  | _ => False
theorem tyD_at {H F : Hp} {M : Mm} {x : V} {d : D} {T : String} (S : Stt K H F M) (r : Rep K F x d) (h : tyD T d M) : tyV K T x H := by
  cases r with
  | v =>
    cases x with
    | str z => exact h
    | ref a =>
      simp only [tyD] at h
      cases e : M a with
      | none => rw [e] at h; exact h.elim
      | some m =>
        rw [e] at h
        cases m with
        | lst ds => obtain ⟨xs, h1, h2⟩ := muL S e; exact .inl ⟨h, xs, SqL.of h1⟩
        | dct ds => obtain ⟨xs, h1, h2⟩ := muD S e; exact .inr (.inr (.inl ⟨h, .inl ⟨xs, h1⟩⟩))
        | _ => exact h.elim
    | _ => exact h.elim
  | tup => exact h.elim
  | lst hs rl => exact .inl ⟨h, _, SqL.le S.fz hs⟩
def dBM0 (T : String) (r : DM) (to : DE) : DE := fun δ M Q => to δ M fun x M1 => tyD T x M1 ∧ r x [] M1 Q
def dBM (T : String) (r : DM) (to : DE) (t : DA) : DE := fun δ M Q => to δ M fun x M1 => tyD T x M1 ∧ t δ M1 fun xs M2 => r x xs M2 Q
section
variable {o e : Expr} {es : List Expr} {to : DE} {t : DA} {name : Str} {apos cpos : Pos} {T id : String} {r : V → List V → Hp → VK → Prop} {r' : DM}
theorem q_bm0 (pa : PlainAttrs T) (slot : Slot T name id) (hty : typeOf (.builtin id) = pure (.type "method_descriptor")) (hm : MtR X id r) (L : LiftM X.K r r') (ho : PE X o (up X.K B to))
    (hbase : attributeBase o name X.env (eval o X.env) = eval o X.env := by rfl) (hline : (apos.endLine == cpos.line) = true := by rfl) : PE X (.Call (.Attribute o name apos) [] [] cpos) (up X.K B (dBM0 T r' to)) :=
  PE.wk (pe_bm0 pa slot hty hm ho hbase hline) fun σ H Q ⟨F, M, δ, Q', lb, S, rs, h, k⟩ => ⟨F, M, δ, _, lb, S, rs, h, fun x H1 ⟨F1, M1, d1, l1, S1, r1, ty, h1⟩ => ⟨tyD_at S1 r1 ty, L H1 F1 M1 x d1 [] [] Q' Q S1 r1 .nil h1 fun v H' q => k v H' (q.le l1)⟩⟩
theorem q_bm (pa : PlainAttrs T) (slot : Slot T name id) (hty : typeOf (.builtin id) = pure (.type "method_descriptor")) (hm : MtR X id r) (L : LiftM X.K r r') (ho : PE X o (up X.K B to)) (ha : PA X (e :: es) (upA X.K B t))
    (hbase : attributeBase o name X.env (eval o X.env) = eval o X.env := by rfl)
    (hfew : ((backTo cpos (starEach (e :: es) X.env)).all (fun x => !x.1) && (backToKw cpos (keywordEach [] X.env)).all (fun x => x.1.isSome)
      && decide ((e :: es).length + ([] : List Keyword).length + (if ([] : List Keyword).isEmpty then 0 else 1) < 30)) = true := by rfl)
    (hline : (apos.endLine == cpos.line) = true := by rfl) (hs : starEach (e :: es) X.env = (false, eval e X.env) :: starEach es X.env := by rfl) (hplain : (backTo cpos (starEach es X.env)).any (·.1) = false := by rfl) :
    PE X (.Call (.Attribute o name apos) (e :: es) [] cpos) (up X.K B (dBM T r' to t)) :=
  PE.wk (pe_bm pa slot hty hm ho ha hbase hfew hline hs hplain) fun σ H Q ⟨F, M, δ, Q', lb, S, rs, h, k⟩ => ⟨F, M, δ, _, lb, S, rs, h, fun x H1 ⟨F1, M1, d1, l1, S1, r1, ty, h1⟩ => ⟨tyD_at S1 r1 ty, F1, M1, δ, _, lb.trans l1, S1, rs.le l1, h1,
    fun xs H2 ⟨F2, M2, ds, l2, S2, r2, h2⟩ => L H2 F2 M2 x d1 xs ds Q' Q S2 (r1.le l2) r2 h2 fun v H' q => k v H' (q.le (l1.trans l2))⟩⟩
end
def mAppend : DM := fun x vs M Q => ∃ a ds d, x = .ref a ∧ vs = [d] ∧ M a = some (.lst ds) ∧ ds.length < sizeLine ∧ Q .non (Y.put M a (.lst (ds ++ [d])))
theorem l_append : LiftM K rAppend mAppend := fun H F M x d xs ds Q' Q S r rl ⟨a, es, e, e1, e2, em, hz, q⟩ k => by
  subst e1 e2
  cases r
  obtain ⟨y, rfl, ry⟩ := rep1 rl
  obtain ⟨ys, hy, rys⟩ := muL S em
  exact ⟨a, ys, y, rfl, rfl, hy, by rw [rys.length]; exact hz, k _ _ ⟨F, _, _, Le.refl F, S.change em (.lst (rys.append (.cons ry .nil))), .v _, q⟩⟩
def mPop : DM := fun x vs M Q => ∃ a ds d, x = .ref a ∧ vs = [] ∧ M a = some (.lst ds) ∧ ds[ds.length - 1]? = some d ∧ Q d (Y.put M a (.lst ds.dropLast))
theorem RepL.dropLast {F : Hp} {xs : List V} {ds : List D} (r : RepL K F xs ds) : RepL K F xs.dropLast ds.dropLast := by
  rw [List.dropLast_eq_take, List.dropLast_eq_take, r.length]
  exact r.take _
theorem l_pop : LiftM K rPop mPop := fun H F M x d xs ds Q' Q S r rl ⟨a, es, e, e1, e2, em, hz, q⟩ k => by
  subst e1 e2
  cases r
  cases rl
  obtain ⟨ys, hy, rys⟩ := muL S em
  obtain ⟨y, h1, h2⟩ := rys.get hz
  exact ⟨a, ys, y, rfl, rfl, hy, by rw [rys.length]; exact h1, k _ _ ⟨F, _, _, Le.refl F, S.change em (.lst rys.dropLast), h2, q⟩⟩
/-- texts' methods -/
def strsD : List D → Option (List Str)
  | [] => some []
  | .v (.str x) :: ds => (strsD ds).map (x :: ·)
  | _ :: _ => none
theorem strsD_at {F : Hp} : ∀ {xs : List V} {ds : List D} {bs : List Str}, RepL K F xs ds → strsD ds = some bs → xs = bs.map V.str
  | _, [], _, .nil, h => by simp [strsD] at h; subst h; rfl
  | x :: xs, d :: ds, bs, .cons r rl, h => by
    cases d with
    | v z =>
      have ez := Rep.v_inv r
      subst ez
      clear r
      cases x with
      | str b =>
        cases e : strsD ds with
        | none => simp [strsD, e] at h
        | some cs =>
          simp [strsD, e] at h
          subst h
          rw [strsD_at rl e]
          rfl
      | _ => simp [strsD] at h
    | tup => simp [strsD] at h
    | lst => simp [strsD] at h
theorem strsD_map (xs : List Str) : strsD (xs.map D.str) = some xs := by
  induction xs with
  | nil => rfl
  | cons x xs ih => simp [strsD, ih]
def mJoin : DM := fun x vs M Q => ∃ a d ds ys, x = .str a ∧ vs = [d] ∧ itD d M = some ds ∧ strsD ds = some ys ∧ (ys.map (·.length)).sum + ys.length * a.length ≤ 16777216 ∧ Q (.str (Txt.join a ys)) M
theorem l_join : LiftM K (fun x xs H Q => ∃ a p, ∃ ys : List Str, x = .str a ∧ xs = [.ref p] ∧ (SqL K H p (ys.map V.str) ∨ SqT K H p (ys.map V.str)) ∧
    (ys.map (·.length)).sum + ys.length * a.length ≤ 16777216 ∧ Q (.str (Txt.join a ys)) H) mJoin := fun H F M x d xs ds Q' Q S r rl ⟨a, e, es, ys, e1, e2, h1, h2, hz, q⟩ k => by
  subst e1 e2
  cases r
  obtain ⟨y, rfl, ry⟩ := rep1 rl
  obtain ⟨p, zs, rfl, h3, r3⟩ := itD_at S ry h1
  have ez := strsD_at r3 h2
  subst ez
  exact ⟨a, p, ys, rfl, rfl, h3, hz, k _ _ ⟨F, M, _, Le.refl F, S, .v _, q⟩⟩

/-! ### d.get(k), d.get(k, x), d.pop(k, x) -/
def isDk (d : D) (M : Mm) : Prop := ∃ kvs, dkD d M = some kvs
theorem isDk_at {H F : Hp} {M : Mm} {x : V} {d : D} (S : Stt K H F M) (r : Rep K F x d) (h : isDk d M) : ∃ a, x = .ref a ∧ IsD H a := by
  obtain ⟨kvs, h⟩ := h
  obtain ⟨a, xs, e, h1, _⟩ := dkD_at S r h
  exact ⟨a, e, .inl ⟨xs, h1⟩⟩
def dGet1 (td ty : DE) : DE := fun δ M Q => td δ M fun x M1 => isDk x M1 ∧ ty δ M1 fun y M2 => ∃ kvs k, dkD x M2 = some kvs ∧ keyD y = some k ∧ Q ((valD kvs k).getD .non) M2
def dGet2 (td ty tx : DE) : DE := fun δ M Q => td δ M fun x M1 => isDk x M1 ∧ ty δ M1 fun y M2 => tx δ M2 fun z M3 => ∃ kvs k, dkD x M3 = some kvs ∧ keyD y = some k ∧ Q ((valD kvs k).getD z) M3
theorem q_get1 {o e : Expr} {td ty : DE} {apos cpos : Pos} (hu : X.A.units + 1 < cLine) (ho : PE X o (up X.K B td)) (he : PE X e (up X.K B ty)) (m : M1 X o "get" apos e cpos := by exact ⟨rfl, rfl, rfl, rfl⟩) : PE X (.Call (.Attribute o "get" apos) [e] [] cpos) (up X.K B (dGet1 td ty)) :=
  PE.wk (pe_dget1 hu ho he m) fun σ H Q ⟨F, M, δ, Q', lb, S, rs, h, k⟩ => ⟨F, M, δ, _, lb, S, rs, h, fun x H1 ⟨F1, M1, d1, l1, S1, r1, hd, h1⟩ => by
    obtain ⟨a, rfl, ha⟩ := isDk_at S1 r1 hd
    refine ⟨a, rfl, ha, F1, M1, δ, _, lb.trans l1, S1, rs.le l1, h1, fun y H2 ⟨F2, M2, d2, l2, S2, r2, kvs, kk, h3, h4, h5⟩ => ?_⟩
    obtain ⟨a', xs, e, h6, r6⟩ := dkD_at S2 (r1.le l2) h3
    cases e
    have ey := keyD_at r2 h4
    subst ey
    refine ⟨valV xs kk, .inl ⟨xs, kk, h6, rfl, rfl⟩, ?_⟩
    rcases valD_rep (k := kk) r6 with ⟨z1, z2⟩ | ⟨v, d, z1, z2, z3⟩
    · rw [z2] at h5; rw [z1]; exact k _ _ ⟨F2, M2, _, l1.trans l2, S2, .v _, h5⟩
    · rw [z2] at h5; rw [z1]; exact k _ _ ⟨F2, M2, _, l1.trans l2, S2, z3, h5⟩⟩
theorem q_get2 {o e f : Expr} {td ty tx : DE} {apos cpos : Pos} (hu : X.A.units + 1 < cLine) (ho : PE X o (up X.K B td)) (he : PE X e (up X.K B ty)) (hf : PE X f (up X.K B tx)) (m : M2 X o "get" apos e f cpos := by exact ⟨rfl, rfl, rfl, rfl⟩) : PE X (.Call (.Attribute o "get" apos) [e, f] [] cpos) (up X.K B (dGet2 td ty tx)) :=
  PE.wk (pe_dget2 hu ho he hf m) fun σ H Q ⟨F, M, δ, Q', lb, S, rs, h, k⟩ => ⟨F, M, δ, _, lb, S, rs, h, fun x H1 ⟨F1, M1, d1, l1, S1, r1, hd, h1⟩ => by
    obtain ⟨a, rfl, ha⟩ := isDk_at S1 r1 hd
    refine ⟨a, rfl, ha, F1, M1, δ, _, lb.trans l1, S1, rs.le l1, h1, fun y H2 ⟨F2, M2, d2, l2, S2, r2, h2⟩ => ?_⟩
    refine ⟨F2, M2, δ, _, lb.trans (l1.trans l2), S2, rs.le (l1.trans l2), h2, fun z H3 ⟨F3, M3, d3, l3, S3, r3, kvs, kk, h3, h4, h5⟩ => ?_⟩
    obtain ⟨a', xs, e, h6, r6⟩ := dkD_at S3 (r1.le (l2.trans l3)) h3
    cases e
    have ey := keyD_at r2 h4
    subst ey
    refine ⟨valV xs kk, .inl ⟨xs, kk, h6, rfl, rfl⟩, ?_⟩
    have l13 := (l1.trans l2).trans l3
    rcases valD_rep (k := kk) r6 with ⟨z1, z2⟩ | ⟨v, d, z1, z2, z3⟩
    · rw [z2] at h5; rw [z1]; exact k _ _ ⟨F3, M3, _, l13, S3, r3, h5⟩
    · rw [z2] at h5; rw [z1]; exact k _ _ ⟨F3, M3, _, l13, S3, z3, h5⟩⟩

/-! ### a display of a dict -/
def dPairs : List (DE × DE) → Env → Mm → (List (D × D) → Mm → Prop) → Prop
  | [], _, M, Q => Q [] M
  | (tk, tv) :: r, δ, M, Q => tk δ M fun x M1 => tv δ M1 fun y M2 => dPairs r δ M2 fun ps M3 => Q ((x, y) :: ps) M3
def keysD : List (D × D) → Option (List (Key × D))
  | [] => some []
  | (x, y) :: r => (keyD x).bind fun k => (keysD r).map ((k, y) :: ·)
def mergeD (kvs : List (Key × D)) : List (Key × D) := kvs.foldl (fun acc kv => putKD acc kv.1 kv.2) []
def upP (K : PySem.W.Frag) (B : Hp) (l : List (DE × DE)) : List (TE × TE) := l.map fun p => (up K B p.1, up K B p.2)
def RepP (K : PySem.W.Frag) (F : Hp) : List (V × V) → List (D × D) → Prop := Paired fun p q => Rep K F p.1 q.1 ∧ Rep K F p.2 q.2
theorem RepP.le {F G : Hp} {xs : List (V × V)} {ds : List (D × D)} (e : Le F G) (h : RepP K F xs ds) : RepP K G xs ds := Paired.mapP h fun _ _ q => ⟨q.1.le e, q.2.le e⟩
theorem up_pairs : ∀ (l : List (DE × DE)) {σ : Sg} {H F : Hp} {M : Mm} {δ : Env} {Q' : List (D × D) → Mm → Prop} {Q : List (V × V) → Hp → Prop}, Le B F → Stt K H F M → RepS K F σ δ → dPairs l δ M Q' →
    (∀ ps H', (∃ F' M' ds, Le F F' ∧ Stt K H' F' M' ∧ RepP K F' ps ds ∧ Q' ds M') → Q ps H') → tPairs (upP K B l) σ H Q
  | [], σ, H, F, M, δ, Q', Q, lb, S, rs, h, k => k _ _ ⟨F, M, [], Le.refl F, S, .nil, h⟩
  | (tk, tv) :: r, σ, H, F, M, δ, Q', Q, lb, S, rs, h, k => by
    refine ⟨F, M, δ, _, lb, S, rs, h, fun x H1 ⟨F1, M1, d1, l1, S1, r1, h1⟩ => ?_⟩
    refine ⟨F1, M1, δ, _, lb.trans l1, S1, rs.le l1, h1, fun y H2 ⟨F2, M2, d2, l2, S2, r2, h2⟩ => ?_⟩
    exact up_pairs r (lb.trans (l1.trans l2)) S2 (rs.le (l1.trans l2)) h2 fun ps H3 ⟨F3, M3, ds, l3, S3, r3, h3⟩ => k _ _ ⟨F3, M3, _, (l1.trans l2).trans l3, S3, .cons ⟨r1.le (l2.trans l3), r2.le l3⟩ r3, h3⟩
theorem keysD_at {F : Hp} : ∀ {ps : List (V × V)} {ds : List (D × D)} {kvs : List (Key × D)}, RepP K F ps ds → keysD ds = some kvs → ∃ xs : List (Key × V), ps = xs.map (fun kv => (kV kv.1, kv.2)) ∧ RepKV K F xs kvs := by
  intro ps ds kvs r
  unfold RepP at r
  induction r generalizing kvs with
  | nil => intro h; cases h; exact ⟨[], rfl, .nil⟩
  | @cons p q ps qs h _ ih =>
    intro hk
    obtain ⟨x, y⟩ := q
    cases ek : keyD x with
    | none => simp [keysD, ek] at hk
    | some k =>
      cases er : keysD qs with
      | none => simp [keysD, ek, er] at hk
      | some rs =>
        simp [keysD, ek, er] at hk
        subst hk
        obtain ⟨xs, e1, r1⟩ := ih er
        have e2 := keyD_at h.1 ek
        exact ⟨(k, p.2) :: xs, by rw [List.map_cons, ← e1, ← e2], .cons ⟨rfl, h.2⟩ r1⟩
theorem merge_rep {F : Hp} {xs : List (Key × V)} {kvs : List (Key × D)} (r : RepKV K F xs kvs) : RepKV K F (mergeK [] xs) (mergeD kvs) := by
  have : ∀ (a : List (Key × V)) (b : List (Key × D)), RepKV K F a b → RepKV K F (mergeK a xs) (kvs.foldl (fun acc kv => putKD acc kv.1 kv.2) b) := by
    unfold RepKV at r
    induction r with
    | nil => intro a b h; exact h
    | @cons p q ps qs h _ ih =>
      intro a b hab
      have h1 : p.1 = q.1 := h.1
      show RepKV K F (mergeK (putK a p.1 p.2) ps) (qs.foldl _ (putKD b q.1 q.2))
      rw [h1]
      exact ih _ _ (putKD_rep hab h.2)
  exact this [] [] .nil
def dDisp (l : List (DE × DE)) : DE := fun δ M Q => ∀ p, M p = none → dPairs l δ (Y.put M p (.dct [])) fun ps M2 => M2 p = some (.dct []) ∧ ∃ kvs, keysD ps = some kvs ∧ kvs.length ≤ 15 ∧ Q (.ref p) (Y.put M2 p (.dct (mergeD kvs)))
theorem q_disp {pos : Pos} {keys : List (Option Expr)} {values : List Expr} {l : List (DE × DE)} (h : PPs X pos keys values (upP X.K B l)) (hall : keys.all (·.isSome) = true := by rfl) (hl : keys.length = values.length := by rfl) (h0 : keys ≠ [] := by exact fun z => nomatch z)
    (h15 : keys.length ≤ 15 := by decide) : PE X (.Dict keys values pos) (up X.K B (dDisp l)) :=
  PE.wk (pe_disp h hall hl h0 h15) fun σ H Q ⟨F, M, δ, Q', lb, S, rs, h, k⟩ p hp => by
    have S1 := S.newM (o := .dK []) (m := .dct []) hp (.dct .nil)
    refine up_pairs l lb S1 rs (h p (S.free hp).2) fun ps H2 ⟨F2, M2, ds, l2, S2, r2, em, kvs, ek, hz, q⟩ => ?_
    obtain ⟨xs, hx, rx⟩ := muD S2 em
    cases rx
    obtain ⟨ys, ey, ry⟩ := keysD_at r2 ek
    exact ⟨hx, ys, ey, by rw [ry.length]; exact hz, k _ _ ⟨F2, _, _, l2, S2.change em (.dct (merge_rep ry)), .v _, q⟩⟩
theorem qps_nil {pos : Pos} : PPs X pos [] [] (upP X.K B []) := pps_nil
theorem qps_cons {pos : Pos} {k v : Expr} {ks : List (Option Expr)} {vs : List Expr} {tk tv : DE} {l : List (DE × DE)} (hk : PE X k (up X.K B tk)) (hv : PE X v (up X.K B tv)) (hr : PPs X pos ks vs (upP X.K B l)) : PPs X pos (some k :: ks) (v :: vs) (upP X.K B ((tk, tv) :: l)) := pps_cons hk hv hr

/-! ### a dict walked -/
theorem lk_at {H F : Hp} {M : Mm} {a : Addr} {o : Obj} {xs : List (Key × V)} {kvs : List (Key × D)} (S : Stt K H F M) (h : M a = some (.lk o xs kvs)) : H a = some (.frz o (.dK xs)) ∧ RepKV K F xs kvs := by
  obtain ⟨_, u, h2, h3⟩ := S.mu _ _ h
  cases h3 with
  | lk r => exact ⟨h2, r⟩
def lkEnd (a : Addr) (od : Obj) (xs : List (Key × V)) (kvs : List (Key × D)) (R : Mm → Prop) : Mm → Prop := fun M' => M' a = some (.lk od xs kvs) ∧ R (Y.put M' a (.dct kvs))
def dLock (t : DS) : DS := fun E δ M => ∃ a kvs, M a = some (.dct kvs) ∧ ∀ od xs, t ⟨fun δ' => lkEnd a od xs kvs (E.nx δ'), fun v => lkEnd a od xs kvs (E.rt v), fun δ' => lkEnd a od xs kvs (E.bk δ'), fun δ' => lkEnd a od xs kvs (E.ct δ')⟩ δ (Y.put M a (.lk od xs kvs))
def dLockE (t : DE) : DE := fun δ M Q => ∃ a kvs, M a = some (.dct kvs) ∧ ∀ od xs, t δ (Y.put M a (.lk od xs kvs)) fun v => lkEnd a od xs kvs (Q v)
theorem qs_lock {st : Stmt} {t : DS} (h : PS X st (upS X.K B t)) : PS X st (upS X.K B (dLock t)) := PS.wk (ps_lock h) fun E σ H ⟨F, M, δ, E', lb, S, rs, ⟨a, kvs, em, h⟩, k1, k2, k3, k4⟩ => by
  obtain ⟨xs, hx, rx⟩ := muD S em
  refine ⟨a, .dK xs, hx, trivial, fun od => ?_⟩
  refine ⟨F, _, δ, _, lb, S.change em (.lk rx), rs, h od xs, fun σ' H' ⟨F1, M1, δ1, l1, S1, rs1, e1, q⟩ => ?_, fun v H' ⟨F1, M1, d1, l1, S1, r1, e1, q⟩ => ?_, fun σ' H' ⟨F1, M1, δ1, l1, S1, rs1, e1, q⟩ => ?_, fun σ' H' ⟨F1, M1, δ1, l1, S1, rs1, e1, q⟩ => ?_⟩
  · exact ⟨(lk_at S1 e1).1, k1 _ _ ⟨F1, _, δ1, l1, S1.change e1 (.dct (RepKV.le l1 rx)), rs1, q⟩⟩
  · exact ⟨(lk_at S1 e1).1, k2 _ _ ⟨F1, _, d1, l1, S1.change e1 (.dct (RepKV.le l1 rx)), r1, q⟩⟩
  · exact ⟨(lk_at S1 e1).1, k3 _ _ ⟨F1, _, δ1, l1, S1.change e1 (.dct (RepKV.le l1 rx)), rs1, q⟩⟩
  · exact ⟨(lk_at S1 e1).1, k4 _ _ ⟨F1, _, δ1, l1, S1.change e1 (.dct (RepKV.le l1 rx)), rs1, q⟩⟩
theorem q_lock {e : Expr} {t : DE} (h : PE X e (up X.K B t)) : PE X e (up X.K B (dLockE t)) := PE.wk (pe_lock h) fun σ H Q ⟨F, M, δ, Q', lb, S, rs, ⟨a, kvs, em, h⟩, k⟩ => by
  obtain ⟨xs, hx, rx⟩ := muD S em
  refine ⟨a, .dK xs, hx, trivial, fun od => ?_⟩
  exact ⟨F, _, δ, _, lb, S.change em (.lk rx), rs, h od xs, fun v H' ⟨F1, M1, d1, l1, S1, r1, e1, q⟩ => ⟨(lk_at S1 e1).1, k _ _ ⟨F1, _, d1, l1, S1.change e1 (.dct (RepKV.le l1 rx)), r1, q⟩⟩⟩
def kD : Key → D
  | .inl i => .int i
  | .inr x => .str x
/-- the keys of a dict that is walked -/
def diKeys (t : DE) : DI := fun δ M R => t δ M fun d M1 => ∃ a o xs kvs, d = .ref a ∧ M1 a = some (.lk o xs kvs) ∧ R (kvs.map fun kv => kD kv.1) (fun M => M a = some (.lk o xs kvs)) M1
theorem qi_keys {tg e : Expr} {t : DE} (h : PE X e (up X.K B t)) : PI X tg e (upI X.K B (diKeys t)) :=
  PI.wk (pi_keys h) fun σ H R ⟨F, M, δ, R', lb, S, rs, h, k⟩ => ⟨F, M, δ, _, lb, S, rs, h, fun v H1 ⟨F1, M1, d, l1, S1, r1, a, o, xs, kvs, e, em, h1⟩ => by
    subst e
    cases r1
    obtain ⟨hx, rx⟩ := lk_at S1 em
    have hl := rx.length
    refine ⟨a, o, rfl, .inl ⟨xs, hx, k _ _ ⟨F1, M1, _, _, l1, S1, ⟨fun i H F M l S g hi => ?_, fun H F M l S g => ?_, fun i H F M x H' l S g hi y => ?_⟩, h1⟩⟩⟩
    · exact walk_keys.goes i H (by rw [hl]; simpa using hi) (lk_at S g).1
    · rw [List.length_map, ← hl]; exact walk_keys.stops H (lk_at S g).1
    · obtain ⟨e1, kk, v, e2, e3⟩ := walk_keys.yields i H x H' (by rw [hl]; simpa using hi) (lk_at S g).1 y
      subst e1 e3
      have hi' : i < kvs.length := by simpa using hi
      refine ⟨F, kD kk, Le.refl F, S, ?_, by cases kk <;> exact .v _⟩
      have hk : ∀ {l1 : List (Key × V)} {l2 : List (Key × D)} {i : Nat}, RepKV X.K F1 l1 l2 → l1[i]? = some (kk, v) → (l2.map fun kv => kD kv.1)[i]? = some (kD kk) := by
        intro l1 l2 i r
        unfold RepKV at r
        induction r generalizing i with
        | nil => intro z; simp at z
        | @cons p q ps qs h _ ih =>
          intro z
          cases i with
          | zero => simp at z; subst z; simp [← h.1]
          | succ i => simpa using ih (by simpa using z)
      exact hk rx e2⟩

/-! ### fields, objects -/
def putFD (f : Str) (v : D) : List (Str × D) → List (Str × D)
  | [] => [(f, v)]
  | (g, x) :: r => if g = f then (g, v) :: r else (g, x) :: putFD f v r
theorem lookup_rep {F : Hp} {xs : List (Str × V)} {ds : List (Str × D)} {f : Str} {d : D} (r : RepKV K F xs ds) (h : ds.lookup f = some d) : ∃ v, xs.lookup f = some v ∧ Rep K F v d := by
  unfold RepKV at r
  induction r with
  | nil => simp at h
  | @cons p q ps qs hh _ ih =>
    obtain ⟨p1, p2⟩ := p
    obtain ⟨q1, q2⟩ := q
    obtain ⟨h1, h2⟩ := hh
    have h1 : p1 = q1 := h1
    subst h1
    by_cases e : f = p1
    · subst e
      simp only [List.lookup_cons, beq_self_eq_true, Option.some.injEq] at h ⊢
      subst h
      exact ⟨p2, rfl, h2⟩
    · have eb : (f == p1) = false := by simpa using e
      simp only [List.lookup_cons, eb] at h ⊢
      exact ih h
theorem lookup_none {F : Hp} {xs : List (Str × V)} {ds : List (Str × D)} {f : Str} (r : RepKV K F xs ds) (h : ds.lookup f = none) : xs.lookup f = none := by
  unfold RepKV at r
  induction r with
  | nil => rfl
  | @cons p q ps qs hh _ ih =>
    obtain ⟨p1, p2⟩ := p
    obtain ⟨q1, q2⟩ := q
    obtain ⟨h1, h2⟩ := hh
    have h1 : p1 = q1 := h1
    subst h1
    by_cases e : f = p1
    · subst e
      simp at h
    · have eb : (f == p1) = false := by simpa using e
      simp only [List.lookup_cons, eb] at h ⊢
      exact ih h
theorem putFD_rep {F : Hp} {xs : List (Str × V)} {ds : List (Str × D)} {f : Str} {v : V} {d : D} (r : RepKV K F xs ds) (rv : Rep K F v d) : RepKV K F (putF f v xs) (putFD f d ds) := by
  unfold RepKV at r
  induction r with
  | nil => exact .cons ⟨rfl, rv⟩ .nil
  | @cons p q ps qs hh t ih =>
    obtain ⟨p1, p2⟩ := p
    obtain ⟨q1, q2⟩ := q
    obtain ⟨h1, h2⟩ := hh
    have h1 : p1 = q1 := h1
    subst h1
    show RepKV K F (if p1 = f then (p1, v) :: ps else (p1, p2) :: putF f v ps) (if p1 = f then (p1, d) :: qs else (p1, q2) :: putFD f d qs)
    by_cases e : p1 = f
    · rw [if_pos e, if_pos e]; exact .cons ⟨rfl, rv⟩ t
    · rw [if_neg e, if_neg e]; exact .cons ⟨rfl, h2⟩ ih
def dFld (K : PySem.W.Frag) (f : Str) (ta : DE) : DE := fun δ M Q => ta δ M fun x M1 => ∃ a C dx fs d, x = .ref a ∧ M1 a = some (.ins C dx fs) ∧ Cls K C ∧ NoAttr K C f ∧ fs.lookup f = some d ∧ Q d M1
theorem q_fld {e : Expr} {f : Str} {ta : DE} {pos : Pos} (he : PE X e (up X.K B ta)) (hb : attributeBase e f X.env (eval e X.env) = eval e X.env := by rfl) : PE X (.Attribute e f pos) (up X.K B (dFld X.K f ta)) :=
  PE.wk (pe_fld he hb) fun σ H Q ⟨F, M, δ, Q', lb, S, rs, h, k⟩ => ⟨F, M, δ, _, lb, S, rs, h, fun x H1 ⟨F1, M1, d1, l1, S1, r1, a, C, dx, fs, d, e, em, c, n, hl, h1⟩ => by
    subst e
    cases r1
    obtain ⟨xs, hx, rx⟩ := muI S1 em
    obtain ⟨v, h2, h3⟩ := lookup_rep rx hl
    exact ⟨a, C, dx, xs, v, rfl, hx, c, n, h2, k _ _ ⟨F1, M1, d, l1, S1, h3, h1⟩⟩⟩
def dsFld (K : PySem.W.Frag) (f : Str) (ta tv : DE) : DS := fun E δ M => tv δ M fun y M1 => ta δ M1 fun x M2 => ∃ a C dx fs, x = .ref a ∧ M2 a = some (.ins C dx fs) ∧ Cls K C ∧ NoAttr K C f ∧ fs.length < 1000 ∧ E.nx δ (Y.put M2 a (.ins C dx (putFD f y fs)))
theorem qs_fld {o value : Expr} {f : Str} {ta tv : DE} {pos pos' : Pos} (ha : PE X o (up X.K B ta)) (hv : PE X value (up X.K B tv)) (hs : swapsWith value (some (.Attribute o f pos')) pos.line X.env = pure false := by rfl) : PS X (.Assign [.Attribute o f pos'] value pos) (upS X.K B (dsFld X.K f ta tv)) :=
  PS.wk (ps_fld ha hv hs) fun E σ H ⟨F, M, δ, E', lb, S, rs, h, k1, k2, k3, k4⟩ => ⟨F, M, δ, _, lb, S, rs, h, fun y H1 ⟨F1, M1, d1, l1, S1, r1, h1⟩ =>
    ⟨F1, M1, δ, _, lb.trans l1, S1, rs.le l1, h1, fun x H2 ⟨F2, M2, d2, l2, S2, r2, a, C, dx, fs, e, em, c, n, hz, h2⟩ => by
      subst e
      cases r2
      obtain ⟨xs, hx, rx⟩ := muI S2 em
      exact ⟨a, C, dx, xs, rfl, hx, c, n, by rw [rx.length]; exact hz, k1 _ _ ⟨F2, _, δ, l1.trans l2, S2.change em (.ins (putFD_rep rx (r1.le l2))), rs.le (l1.trans l2), h2⟩⟩⟩⟩
def dsFldAug (K : PySem.W.Frag) (f : Str) (ta tv : DE) (r : D2) : DS := fun E δ M => ta δ M fun x M1 => ∃ a C dx fs d, x = .ref a ∧ M1 a = some (.ins C dx fs) ∧ Cls K C ∧ NoAttr K C f ∧ fs.lookup f = some d ∧
  tv δ M1 fun y M2 => r d y M2 fun z M3 => ∃ dx' fs', M3 a = some (.ins C dx' fs') ∧ fs'.length < 1000 ∧ E.nx δ (Y.put M3 a (.ins C dx' (putFD f z fs')))
theorem qs_fldaug {op : Operator} {o value : Expr} {f : Str} {ta tv : DE} {pos tpos : Pos} {rd : V → V → Hp → VK → Prop} {r' : D2} (ha : PE X o (up X.K B ta)) (hv : PE X value (up X.K B tv)) (hop : InOp X op rd) (L : Lift2 X.K rd r') : PS X (.AugAssign (.Attribute o f tpos) op value pos) (upS X.K B (dsFldAug X.K f ta tv r')) :=
  PS.wk (ps_fldaug ha hv hop) fun E σ H ⟨F, M, δ, E', lb, S, rs, h, k1, k2, k3, k4⟩ => ⟨F, M, δ, _, lb, S, rs, h, fun x H1 ⟨F1, M1, d1, l1, S1, r1, a, C, dx, fs, d, e, em, c, n, hl, h1⟩ => by
    subst e
    cases r1
    obtain ⟨xs, hx, rx⟩ := muI S1 em
    obtain ⟨v, h2, h3⟩ := lookup_rep rx hl
    refine ⟨a, C, dx, xs, v, rfl, hx, c, n, h2, F1, M1, δ, _, lb.trans l1, S1, rs.le l1, h1, fun y H2 ⟨F2, M2, d2, l2, S2, r2, h4⟩ => ?_⟩
    refine L H2 F2 M2 v y d d2 _ _ S2 (h3.le l2) r2 h4 fun z H3 ⟨F3, M3, d3, l3, S3, r3, dx', fs', em', hz, h5⟩ => ?_
    obtain ⟨xs', hx', rx'⟩ := muI S3 em'
    have l13 := (l1.trans l2).trans l3
    exact ⟨dx', xs', hx', by rw [rx'.length]; exact hz, k1 _ _ ⟨F3, _, δ, l13, S3.change em' (.ins (putFD_rep rx' r3)), rs.le l13, h5⟩⟩⟩
theorem l_fadd : Lift2 K rAdd (dI0 fun i j => .int (i + j)) := fun H F M x y d e Q' Q S rx ry ⟨i, j, e1, e2, q⟩ k => by
  subst e1 e2; cases rx; cases ry
  exact ⟨i, j, rfl, rfl, k _ _ ⟨F, M, _, Le.refl F, S, .v _, q⟩⟩
theorem l_fsub : Lift2 K rSub (dI0 fun i j => .int (i - j)) := fun H F M x y d e Q' Q S rx ry ⟨i, j, e1, e2, q⟩ k => by
  subst e1 e2; cases rx; cases ry
  exact ⟨i, j, rfl, rfl, k _ _ ⟨F, M, _, Le.refl F, S, .v _, q⟩⟩
section
variable {CX : CXT} {k : Nat} {f C : Addr} {fd : FuncData} {ps : List Str} {s : DSp} {x m : Str} {p pos apos : Pos} {o e : Expr} {es : List Expr} {t : DA} {ta : DE}
def dMeth (C : Addr) (m : Str) (s : DSp) (ta : DE) (t : DA) : DE := fun δ M Q => ta δ M fun x M1 => ∃ a dx fs, x = .ref a ∧ M1 a = some (.ins C dx fs) ∧ fs.lookup m = none ∧ t δ M1 fun ds M2 => s (x :: ds) M2 Q noX
theorem q_meth {pl : Sem Bool} (he : PE X o (up X.K B ta)) (c : Cls X.K C) (hm : Meth X.K C m f) (F : FnOk X.prog X.w X.K X.mg X.base CX k f fd ps (spOf X.K s)) (hr : Room k X.A) (hb : Binds X.K fd ps []) (hx : Passes CX X E0) (ha : PA X (e :: es) (upA X.K B t))
    (hst : starEach (e :: es) X.env = (false, eval e X.env) :: starEach es X.env := by rfl) (hpl : (backTo pos (starEach es X.env)).any (·.1) = false := by rfl)
    (ht : eval (.Call (.Attribute o m apos) (e :: es) [] pos) X.env = (do
      let ov ← eval o X.env
      standAt apos.atName
      let (f, first) ← holding [ov] (getMethod ov m pl)
      callWith pos f first (backTo pos (starEach (e :: es) X.env)) (backToKw pos (keywordEach [] X.env))) := by rfl) :
    PE X (.Call (.Attribute o m apos) (e :: es) [] pos) (up X.K B (dMeth C m s ta t)) :=
  PE.wk (pe_meth he c hm F hr hb .nil hx ha hst hpl ht) fun σ H Q ⟨F, M, δ, Q', lb, S, rs, h, k⟩ => ⟨F, M, δ, _, lb, S, rs, h, fun x H1 ⟨F1, M1, d1, l1, S1, r1, a, dx, fs, e, em, hl, h1⟩ => by
    subst e
    cases r1
    obtain ⟨xs, hx, rx⟩ := muI S1 em
    refine ⟨a, dx, xs, rfl, hx, lookup_none rx hl, F1, M1, δ, _, lb.trans l1, S1, rs.le l1, h1, fun vs H2 ⟨F2, M2, ds, l2, S2, r2, h2⟩ => ?_⟩
    show spOf X.K s (_ :: (vs ++ [])) H2 Q E0
    rw [List.append_nil]
    exact ⟨F2, M2, _, _, _, S2, .cons (.v _) r2, h2, fun v H' q => k v H' (q.le (l1.trans l2)), noX_ok⟩⟩
theorem q_meth0 {pl : Sem Bool} (he : PE X o (up X.K B ta)) (c : Cls X.K C) (hm : Meth X.K C m f) (F : FnOk X.prog X.w X.K X.mg X.base CX k f fd ps (spOf X.K s)) (hr : Room k X.A) (hb : Binds X.K fd ps []) (hx : Passes CX X E0)
    (ht : eval (.Call (.Attribute o m apos) [] [] pos) X.env = (do
      let ov ← eval o X.env
      standAt apos.atName
      let (f, first) ← holding [ov] (getMethod ov m pl)
      callWith pos f first (backTo pos (starEach [] X.env)) (backToKw pos (keywordEach [] X.env))) := by rfl) :
    PE X (.Call (.Attribute o m apos) [] [] pos) (up X.K B (dMeth C m s ta dNil)) :=
  PE.wk (pe_meth0 he c hm F hr hb .nil hx ht) fun σ H Q ⟨F, M, δ, Q', lb, S, rs, h, k⟩ => ⟨F, M, δ, _, lb, S, rs, h, fun x H1 ⟨F1, M1, d1, l1, S1, r1, a, dx, fs, e, em, hl, h1⟩ => by
    subst e
    cases r1
    obtain ⟨xs, hx, rx⟩ := muI S1 em
    exact ⟨a, dx, xs, rfl, hx, lookup_none rx hl, F1, M1, _, _, _, S1, .cons (.v _) .nil, h1, fun v H' q => k v H' (q.le l1), noX_ok⟩⟩
theorem Stt.bury {H F : Hp} {M : Mm} (S : Stt K H F M) {p : Addr} {o : HO} (h : H p = none) : Stt K (upd H p o) F M := by
  obtain ⟨f0, m0⟩ := S.free h
  refine ⟨fun a u e => ?_, fun a n e => ?_⟩
  · rw [upd_ne (ne_of_none e f0)]; exact S.fz _ _ e
  · obtain ⟨h1, u, h2, h3⟩ := S.mu _ _ e
    have q : a ≠ p := fun z => by rw [z, m0] at e; cases e
    exact ⟨h1, u, by rw [upd_ne q]; exact h2, h3⟩
def dMake (C : Addr) (s : DSp) (t : DA) : DE := fun δ M Q => t δ M fun ds M1 => ∀ x dx, M1 x = none → s (.ref x :: ds) (Y.put M1 x (.ins C dx [])) (fun d M2 => d = .non ∧ Q (.ref x) M2) noX
theorem q_make (Mk_ : Mk X.K C f) (F : FnOk X.prog X.w X.K X.mg X.base CX k f fd ps (spOf X.K s)) (hr : Room (k + 1) X.A) (hg : Gl X x) (hm : X.mg x = some (.ref C)) (hb : Binds X.K fd ps []) (hx : Passes CX X E0) (ha : PA X (e :: es) (upA X.K B t))
    (hdb : (x == ("__debug__" : Str)) = false := by decide) (he : starEach (e :: es) X.env = (false, eval e X.env) :: starEach es X.env := by rfl) (hpl : (backTo pos (starEach es X.env)).any (·.1) = false := by rfl) : PE X (.Call (.Name x p) (e :: es) [] pos) (up X.K B (dMake C s t)) :=
  PE.wk (pe_make Mk_ F hr hg hm hb .nil hx ha hdb he hpl) fun σ H Q ⟨F, M, δ, Q', lb, S, rs, h, k⟩ => ⟨F, M, δ, _, lb, S, rs, h, fun vs H1 ⟨F1, M1, ds, l1, S1, r1, h1⟩ y dx hy hd nyd => by
    show spOf X.K s (_ :: (vs ++ [])) _ _ E0
    rw [List.append_nil]
    have hy' : upd H1 dx (.own y) y = none := by rw [upd_ne (Ne.symm nyd)]; exact hy
    have S2 := (S1.bury (o := .own y) hd).newM (o := .ins C dx []) (m := .ins C dx []) hy' (.ins .nil)
    exact ⟨F1, _, _, _, _, S2, .cons (.v _) r1, h1 y dx (S1.free hy).2, fun v H' ⟨F2, M2, d, l2, S3, r2, e, q⟩ => by
      subst e
      cases r2
      exact ⟨rfl, k _ _ ⟨F2, M2, _, l1.trans l2, S3, .v _, q⟩⟩, noX_ok⟩⟩
theorem q_make0 (Mk_ : Mk X.K C f) (F : FnOk X.prog X.w X.K X.mg X.base CX k f fd ps (spOf X.K s)) (hr : Room (k + 1) X.A) (hg : Gl X x) (hm : X.mg x = some (.ref C)) (hb : Binds X.K fd ps []) (hx : Passes CX X E0)
    (hdb : (x == ("__debug__" : Str)) = false := by decide) : PE X (.Call (.Name x p) [] [] pos) (up X.K B (dMake C s dNil)) :=
  PE.wk (pe_make0 Mk_ F hr hg hm hb .nil hx hdb) fun σ H Q ⟨F1, M1, δ, Q', lb, S1, rs, h1, k⟩ y dx hy hd nyd => by
    have hy' : upd H dx (.own y) y = none := by rw [upd_ne (Ne.symm nyd)]; exact hy
    have S2 := (S1.bury (o := .own y) hd).newM (o := .ins C dx []) (m := .ins C dx []) hy' (.ins .nil)
    exact ⟨F1, _, _, _, _, S2, .cons (.v _) .nil, h1 y dx (S1.free hy).2, fun v H' ⟨F2, M2, d, l2, S3, r2, e, q⟩ => by
      subst e
      cases r2
      exact ⟨rfl, k _ _ ⟨F2, M2, _, l2, S3, .v _, q⟩⟩, noX_ok⟩
end
end

/-! ### a def's body -/
def startD (n : Nat) (ds : List D) : Env := ds.map some ++ List.replicate (n - ds.length) none
theorem startD_rep {K : PySem.W.Frag} {F : Hp} {N : List Str} {xs : List V} {ds : List D} (r : RepL K F xs ds) : RepS K F (L2.start N xs) (startD N.length ds) := by
  unfold L2.start startD
  rw [r.length]
  exact (RepS.ofL r).append (RepS.rep _)
section
variable {P : Program} {w : World} {K : PySem.W.Frag} {mg : Str → Option Value} {base : Heap}
/-- less is told of what may change -/
def Sub (M' M : Mm) : Prop := ∀ a m, M' a = some m → M a = some m
theorem Sub.refl (M : Mm) : Sub M M := fun _ _ h => h
/-- what a def has made for itself is forgotten where it hands back -/
def less (Q : QD) : QD := fun d M => ∃ M', Sub M' M ∧ Q d M'
theorem LQ_less {K : PySem.W.Frag} {F : Hp} {Q : QD} {v : V} {H : Hp} (h : LQ K F (less Q) v H) : LQ K F Q v H :=
  let ⟨F', M', d, l, S, r, M2, hs, q⟩ := h; ⟨F', M2, d, l, S.less hs, r, q⟩
abbrev B0 : Hp := fun _ => none
theorem B0_le (F : Hp) : Le B0 F := fun _ _ h => by cases h
/-- a def from which nothing is raised -/
theorem okD {x qual : Str} {st : Stmt} {f : Addr} {fd : FuncData} {N ps : List Str} {k : Nat} {s : DSp} (F : Fun K x qual st f fd) (S : FnScope N ps (defScope st)) (len : ∀ ds M Q E, s ds M Q E → ds.length = ps.length)
    (hbody : ∀ (cdv : Value) (A : Around) (outer : List PySem.Env) (s0 : Shared) (H : Hp) (E : XK), Room k (A.deeper (envOfC qual (defScope st) s0.heap.objs.size f cdv)) →
      ∃ t : DS, PSs (cxOf CX0 P w K mg base N qual (defScope st) f cdv A outer s0 H E).nox (defBody st) (upS K B0 t) ∧ ∀ ds M Q E', s ds M Q E' → t { nx := fun _ M' => less Q .non M', rt := less Q } (startD N.length ds) M) : FnOk P w K mg base CX0 (k + 1) f fd ps (spOf K s) := by
  refine F.ok S (fun vs H Q E h => ?_) (fun cdv A outer s0 H vs Q E hr h => ?_)
  · obtain ⟨F, M, ds, Q', E', S, r, h, _⟩ := h
    rw [r.length]
    exact len _ _ _ _ h
  · obtain ⟨t, ht, hq⟩ := hbody cdv A outer s0 H E hr
    obtain ⟨F, M, ds, Q', E', S, r, h, k1, k2⟩ := h
    exact ⟨_, ht, F, M, _, _, B0_le F, S, startD_rep r, hq ds M Q' E' h, fun σ' H' ⟨F1, M1, δ1, l1, S1, r1, q⟩ => k1 _ _ (LQ_less ⟨F1, M1, _, l1, S1, .v _, q⟩), fun v H' q => k1 _ _ (LQ_less q), fun _ _ ⟨_, _, _, _, _, _, q⟩ => q.elim, fun _ _ ⟨_, _, _, _, _, _, q⟩ => q.elim⟩
end
end Y


set_option Elab.async false
set_option linter.all false
set_option maxRecDepth 100000
set_option maxHeartbeats 1000000
/-! Y8: calls by name, what a for walks, constants of the module. -/
namespace Y
open PySem PySem.Spec PyProof.Rows L2

/-! ### a def by its name -/
structure GD (K : PySem.W.Frag) (mg : Str → Option Value) (x : Str) (st : Stmt) (ps : List Str) (f : Addr) (fd : FuncData) : Prop where
  fn : Fun K x x st f fd
  mg : mg x = some (.ref f)
  kp : PySem.W.keepIn K (.ref f) = true
  bd : L2.Binds K fd ps []
structure Cal (P : Program) (w : World) (K : PySem.W.Frag) (mg : Str → Option Value) (base : Heap) (CX : CXT) (k : Nat) (x : Str) (ps : List Str) (s : DSp) : Prop where
  ex : ∃ f fd, mg x = some (.ref f) ∧ PySem.W.keepIn K (.ref f) = true ∧ L2.Binds K fd ps [] ∧ FnOk P w K mg base CX k f fd ps (spOf K s)
section
variable {P : Program} {w : World} {K : PySem.W.Frag} {mg : Str → Option Value} {base : Heap}
theorem GD.cal {CX : CXT} {x : Str} {st : Stmt} {ps : List Str} {f : Addr} {fd : FuncData} {k : Nat} {s : DSp} (G : GD K mg x st ps f fd) (h : FnOk P w K mg base CX k f fd ps (spOf K s)) : Cal P w K mg base CX k x ps s := ⟨f, fd, G.mg, G.kp, G.bd, h⟩
theorem Cal.mono {CX : CXT} {x : Str} {ps : List Str} {j k : Nat} {s : DSp} (c : Cal P w K mg base CX j x ps s) (h : j ≤ k) : Cal P w K mg base CX k x ps s := let ⟨f, fd, a, b, d, F⟩ := c; ⟨f, fd, a, b, d, F.mono h⟩
end
/-- a weaker promise -/
theorem spOf_imp {K : PySem.W.Frag} {s s' : DSp} (h : ∀ ds M Q E, s' ds M Q E → s ds M Q E) : ∀ vs H Q E, spOf K s' vs H Q E → spOf K s vs H Q E := fun vs H Q E ⟨F, M, ds, Q', E', S, r, q, k1, k2⟩ => ⟨F, M, ds, Q', E', S, r, h _ _ _ _ q, k1, k2⟩
theorem Cal.imp {P : Program} {w : World} {K : PySem.W.Frag} {mg : Str → Option Value} {base : Heap} {CX : CXT} {x : Str} {ps : List Str} {k : Nat} {s s' : DSp} (c : Cal P w K mg base CX k x ps s) (h : ∀ ds M Q E, s' ds M Q E → s ds M Q E) : Cal P w K mg base CX k x ps s' :=
  let ⟨f, fd, a, b, d, F⟩ := c; ⟨f, fd, a, b, d, F.imp (spOf_imp h)⟩
/-- a class, a method of it -/
structure CD (K : PySem.W.Frag) (mg : Str → Option Value) (x : Str) (C : Addr) : Prop where
  cl : Cls K C
  mg : mg x = some (.ref C)
structure Mcal (P : Program) (w : World) (K : PySem.W.Frag) (mg : Str → Option Value) (base : Heap) (CX : CXT) (k : Nat) (C : Addr) (m : Str) (ps : List Str) (s : DSp) : Prop where
  ex : ∃ f fd, Meth K C m f ∧ L2.Binds K fd ps [] ∧ FnOk P w K mg base CX k f fd ps (spOf K s)
structure Kcal (P : Program) (w : World) (K : PySem.W.Frag) (mg : Str → Option Value) (base : Heap) (CX : CXT) (k : Nat) (x : Str) (C : Addr) (ps : List Str) (s : DSp) : Prop where
  ex : ∃ f fd, Mk K C f ∧ mg x = some (.ref C) ∧ L2.Binds K fd ps [] ∧ FnOk P w K mg base CX k f fd ps (spOf K s)
theorem Mcal.mono {P : Program} {w : World} {K : PySem.W.Frag} {mg : Str → Option Value} {base : Heap} {CX : CXT} {C : Addr} {m : Str} {ps : List Str} {j k : Nat} {s : DSp} (c : Mcal P w K mg base CX j C m ps s) (h : j ≤ k) : Mcal P w K mg base CX k C m ps s := let ⟨f, fd, a, b, F⟩ := c; ⟨f, fd, a, b, F.mono h⟩

section
variable {X : Cx} {B : Hp} {x m : Str} {p pos apos : Pos} {e o : Expr} {es : List Expr} {t : DA} {ta : DE} {j k : Nat} {ps : List Str} {s : DSp}
theorem q_c (c : Cal X.prog X.w X.K X.mg X.base CX0 j x ps s) (hr : Room k X.A) (hk : j ≤ k) (hg : Gl X x) (ha : PA X (e :: es) (upA X.K B t))
    (hd : (x == ("__debug__" : Str)) = false := by decide) (he : starEach (e :: es) X.env = (false, eval e X.env) :: starEach es X.env := by rfl) (hpl : (backTo pos (starEach es X.env)).any (·.1) = false := by rfl) : PE X (.Call (.Name x p) (e :: es) [] pos) (up X.K B (dCall s t)) :=
  let ⟨_, _, a, b, d, F⟩ := c.ex
  q_call F (hr.mono hk) hg a b d pass0 ha hd he hpl
theorem q_mc {C : Addr} {pl : Sem Bool} (he : PE X o (up X.K B ta)) (c : Mcal X.prog X.w X.K X.mg X.base CX0 j C m ps s) (cl : Cls X.K C) (hr : Room k X.A) (hk : j ≤ k) (ha : PA X (e :: es) (upA X.K B t))
    (hst : starEach (e :: es) X.env = (false, eval e X.env) :: starEach es X.env := by rfl) (hpl : (backTo pos (starEach es X.env)).any (·.1) = false := by rfl)
    (ht : eval (.Call (.Attribute o m apos) (e :: es) [] pos) X.env = (do
      let ov ← eval o X.env
      standAt apos.atName
      let (f, first) ← holding [ov] (getMethod ov m pl)
      callWith pos f first (backTo pos (starEach (e :: es) X.env)) (backToKw pos (keywordEach [] X.env))) := by rfl) :
    PE X (.Call (.Attribute o m apos) (e :: es) [] pos) (up X.K B (dMeth C m s ta t)) :=
  let ⟨_, _, a, b, F⟩ := c.ex
  q_meth (pl := pl) he cl a F (hr.mono hk) b pass0 ha hst hpl ht
theorem q_mc0 {C : Addr} {pl : Sem Bool} (he : PE X o (up X.K B ta)) (c : Mcal X.prog X.w X.K X.mg X.base CX0 j C m ps s) (cl : Cls X.K C) (hr : Room k X.A) (hk : j ≤ k)
    (ht : eval (.Call (.Attribute o m apos) [] [] pos) X.env = (do
      let ov ← eval o X.env
      standAt apos.atName
      let (f, first) ← holding [ov] (getMethod ov m pl)
      callWith pos f first (backTo pos (starEach [] X.env)) (backToKw pos (keywordEach [] X.env))) := by rfl) :
    PE X (.Call (.Attribute o m apos) [] [] pos) (up X.K B (dMeth C m s ta dNil)) :=
  let ⟨_, _, a, b, F⟩ := c.ex
  q_meth0 (pl := pl) he cl a F (hr.mono hk) b pass0 ht
theorem q_kc {C : Addr} (c : Kcal X.prog X.w X.K X.mg X.base CX0 j x C ps s) (hr : Room k X.A) (hk : j + 1 ≤ k) (hg : Gl X x) (ha : PA X (e :: es) (upA X.K B t))
    (hdb : (x == ("__debug__" : Str)) = false := by decide) (he : starEach (e :: es) X.env = (false, eval e X.env) :: starEach es X.env := by rfl) (hpl : (backTo pos (starEach es X.env)).any (·.1) = false := by rfl) : PE X (.Call (.Name x p) (e :: es) [] pos) (up X.K B (dMake C s t)) :=
  let ⟨_, _, a, b, d, F⟩ := c.ex
  q_make a F (hr.mono hk) hg b d pass0 ha hdb he hpl

/-! ### constants of the module -/
def dCD (d : D) : DE := fun _ M Q => Q d M
theorem q_gl {v : V} {u : Value} {d : D} (hg : Gl X x) (hm : X.mg x = some u) (r : RelV v u) (rd : ∀ F, Rep X.K F v d) (hd : (x == ("__debug__" : Str)) = false := by decide) : PE X (.Name x pos) (up X.K B (dCD d)) :=
  PE.wk (pe_glob hg hm r hd) fun σ H Q ⟨F, M, δ, Q', lb, S, rs, h, k⟩ => k _ _ ⟨F, M, d, Le.refl F, S, rd F, h⟩
theorem q_bltn {v : V} {u : Value} (hg : Gl X x) (hm : X.mg x = none) (hv : bootBuiltins x = some u) (r : RelV v u) (hn : x ≠ "__name__" := by decide) (hd : (x == ("__debug__" : Str)) = false := by decide) : PE X (.Name x pos) (up X.K B (dC v)) := q_const (pe_bltn hg hm hv r hn hd)
def dU (g : Int → Int) (ta : DE) : DE := fun δ M Q => ta δ M fun x M1 => ∃ i, x = .int i ∧ Q (.int (g i)) M1
theorem q_un {op : UnaryOp} {g : Int → Int} {a : Expr} (ho : UnR X (unaryOp op) (rU fun i => .int (g i))) (ha : PE X a (up X.K B ta)) : PE X (.UnaryOp op a pos) (up X.K B (dU g ta)) :=
  PE.wk (pe_un ho ha) fun σ H Q ⟨F, M, δ, Q', lb, S, rs, h, k⟩ => ⟨F, M, δ, _, lb, S, rs, h, fun y H1 ⟨F1, M1, d1, l1, S1, r1, i, e, h1⟩ => by
    subst e; cases r1
    exact ⟨i, rfl, k _ _ ⟨F1, M1, _, l1, S1, .v _, h1⟩⟩⟩
theorem q_neg {a : Expr} (ha : PE X a (up X.K B ta)) : PE X (.UnaryOp .USub a pos) (up X.K B (dU (fun i => -i) ta)) := q_un un_neg ha

/-! ### what a for walks: a list, a tuple, a text's signs -/
def signs (z : Str) : List D := z.cps.toList.map fun c => .str ⟨#[c]⟩
def itsD (d : D) (M : Mm) : Option (List D) := match d with
  | .tup ds => some ds
  | .lst ds => some ds
  | .v (.str z) => some (signs z)
  | _ => none
def iAny (K : PySem.W.Frag) (tl : TE) : TI := fun σ H R => tl σ H fun x H1 => (∃ a, x = .ref a ∧ (∃ xs, SqL K H1 a xs) ∧ R (Itl K a) H1) ∨ ((∃ a, x = .ref a ∧ (∃ xs, SqT K H1 a xs) ∧ R (Itt K a) H1) ∨ ∃ z, x = .str z ∧ R (Its z) H1)
theorem pi_any {tg l : Expr} {tl : TE} (hl : PE X l tl) : PI X tg l (iAny X.K tl) := by
  refine ⟨fun pins s σ H R I h => ?_⟩
  refine thn (hl.run pins s σ H _ I h) fun v s1 ⟨x, H1, I1, r1, q1⟩ => ?_
  rcases q1 with ⟨a, e, ⟨xs, hq⟩, q⟩ | ⟨a, e, ⟨xs, hq⟩, q⟩ | ⟨z, e, q⟩
  · subst e
    cases r1
    obtain ⟨its, rv, p, hz⟩ := I1.list hq
    refine wpAny_pyIter_list p.isList ?_
    refine ⟨s1.heap.objs.size, [s1.heap.objs.size], _, _, H1, rfl, I1.kept (t' := s1.toks) fun b o e => Heap.get?_push_of_some _ e, turn_list a _, ⟨_, Heap.get?_push_size _ rfl, rfl, rfl⟩, fun b hb => ?_, q⟩
    have e : b = s1.heap.objs.size := by simpa using hb
    subst e
    exact I1.fpOk (Nat.le_refl _) (I1.hok.fresh (Nat.le_refl _))
  · subst e
    cases r1
    obtain ⟨its, rv, p, hz⟩ := I1.tuple hq
    refine wpAny_pyIter_tuple (show s1.heap.IsTuple a its.toArray from p) ?_
    refine ⟨s1.heap.objs.size, [s1.heap.objs.size], _, _, H1, rfl, I1.kept (t' := s1.toks) fun b o e => Heap.get?_push_of_some _ e, turn_tuple a _, ⟨_, Heap.get?_push_size _ rfl, rfl, rfl⟩, fun b hb => ?_, q⟩
    have e : b = s1.heap.objs.size := by simpa using hb
    subst e
    exact I1.fpOk (Nat.le_refl _) (I1.hok.fresh (Nat.le_refl _))
  · subst e
    obtain ⟨t, rfl⟩ := r1
    cases ha : z.cps.all (· < 128)
    · exact wpAny_pyIter_wide ha (pi_one (tk := s1.toks) I1 _ (turn_str _ z t "str_iterator" (.inr rfl)) ⟨_, Heap.get?_push_size _ rfl, rfl, rfl⟩ q)
    · exact wpAny_pyIter_ascii ha (pi_one (tk := s1.toks) I1 _ (turn_str _ z t "str_ascii_iterator" (.inl rfl)) ⟨_, Heap.get?_push_size _ rfl, rfl, rfl⟩ q)
def diIt (t : DE) : DI := fun δ M R => t δ M fun d M1 => ∃ ds, itsD d M1 = some ds ∧ R ds GT M1
theorem yl_lst {K : PySem.W.Frag} {F1 : Hp} {a : Addr} {xs : List V} {ds : List D} (hs : SqL K F1 a xs) (rl : RepL K F1 xs ds) : Yl K (Itl K a) F1 ds GT := by
  refine ⟨fun i H F M l S _ hi => ?_, fun H F M l S _ => ?_, fun i H F M x H' l S _ hi y => ?_⟩
  · exact walk_list.goes i H (by rw [rl.length]; exact hi) (SqL.le S.fz (SqL.le l hs))
  · rw [← rl.length]; exact walk_list.stops H (SqL.le S.fz (SqL.le l hs))
  · obtain ⟨e1, e2⟩ := walk_list.yields i H x H' (by rw [rl.length]; exact hi) (SqL.le S.fz (SqL.le l hs)) y
    subst e1
    obtain ⟨d, h3, h4⟩ := rl.get' e2
    exact ⟨F, d, Le.refl F, S, h3, h4.le l⟩
theorem yl_tup {K : PySem.W.Frag} {F1 : Hp} {a : Addr} {xs : List V} {ds : List D} (hs : SqT K F1 a xs) (rl : RepL K F1 xs ds) : Yl K (Itt K a) F1 ds GT := by
  refine ⟨fun i H F M l S _ hi => ?_, fun H F M l S _ => ?_, fun i H F M x H' l S _ hi y => ?_⟩
  · exact walk_tup.goes i H (by rw [rl.length]; exact hi) (SqT.le S.fz (SqT.le l hs))
  · rw [← rl.length]; exact walk_tup.stops H (SqT.le S.fz (SqT.le l hs))
  · obtain ⟨e1, e2⟩ := walk_tup.yields i H x H' (by rw [rl.length]; exact hi) (SqT.le S.fz (SqT.le l hs)) y
    subst e1
    obtain ⟨d, h3, h4⟩ := rl.get' e2
    exact ⟨F, d, Le.refl F, S, h3, h4.le l⟩
theorem yl_str {K : PySem.W.Frag} {F1 : Hp} {z : Str} : Yl K (Its z) F1 (signs z) GT := by
  have hl : (signs z).length = z.cps.size := by simp [signs]
  refine ⟨fun i H F M l S _ hi => walk_str.goes i H (by rw [← hl]; exact hi) trivial, fun H F M l S _ => by rw [hl]; exact walk_str.stops H trivial, fun i H F M x H' l S _ hi y => ?_⟩
  obtain ⟨e1, c, e2, e3⟩ := walk_str.yields i H x H' (by rw [← hl]; exact hi) trivial y
  subst e1 e3
  refine ⟨F, .str ⟨#[c]⟩, Le.refl F, S, ?_, .v _⟩
  simp [signs, e2]
theorem qi_it {tg l : Expr} {t : DE} (h : PE X l (up X.K B t)) : PI X tg l (upI X.K B (diIt t)) :=
  PI.wk (pi_any h) fun σ H R ⟨F, M, δ, R', lb, S, rs, h, k⟩ => ⟨F, M, δ, _, lb, S, rs, h, fun v H1 ⟨F1, M1, d, l1, S1, r1, ds, e, h1⟩ => by
    cases r1 with
    | v =>
      cases v with
      | str z =>
        simp only [itsD, Option.some.injEq] at e
        subst e
        exact .inr (.inr ⟨z, rfl, k _ _ ⟨F1, M1, _, GT, l1, S1, yl_str, h1⟩⟩)
      | _ => simp [itsD] at e
    | @tup a xs _ hs rl =>
      simp only [itsD, Option.some.injEq] at e
      subst e
      exact .inr (.inl ⟨a, rfl, ⟨xs, SqT.le S1.fz hs⟩, k _ _ ⟨F1, M1, _, GT, l1, S1, yl_tup hs rl, h1⟩⟩)
    | @lst a xs _ hs rl =>
      simp only [itsD, Option.some.injEq] at e
      subst e
      exact .inl ⟨a, rfl, ⟨xs, SqL.le S1.fz hs⟩, k _ _ ⟨F1, M1, _, GT, l1, S1, yl_lst hs rl, h1⟩⟩⟩
end
/-- a list that may change, but does not while it is walked -/
def diMut (t : DE) : DI := fun δ M R => t δ M fun d M1 => ∃ a ds, d = .ref a ∧ M1 a = some (.lst ds) ∧ R ds (fun M => M a = some (.lst ds)) M1
theorem qi_mut {X : Cx} {B : Hp} {tg l : Expr} {t : DE} (h : PE X l (up X.K B t)) : PI X tg l (upI X.K B (diMut t)) :=
  PI.wk (pi_any h) fun σ H R ⟨F, M, δ, R', lb, S, rs, h, k⟩ => ⟨F, M, δ, _, lb, S, rs, h, fun v H1 ⟨F1, M1, d, l1, S1, r1, a, ds, e, em, h1⟩ => by
    subst e
    cases r1
    obtain ⟨xs, hx, rx⟩ := muL S1 em
    refine .inl ⟨a, rfl, ⟨xs, .inl (.inl hx)⟩, k _ _ ⟨F1, M1, ds, _, l1, S1, ⟨fun i H F M l S g hi => ?_, fun H F M l S g => ?_, fun i H F M x H' l S g hi y => ?_⟩, h1⟩⟩
    · obtain ⟨ys, hy, ry⟩ := muL S g
      exact walk_list.goes i H (by rw [ry.length]; exact hi) (.inl (.inl hy))
    · obtain ⟨ys, hy, ry⟩ := muL S g
      rw [← ry.length]; exact walk_list.stops H (.inl (.inl hy))
    · obtain ⟨ys, hy, ry⟩ := muL S g
      obtain ⟨e1, e2⟩ := walk_list.yields i H x H' (by rw [ry.length]; exact hi) (.inl (.inl hy)) y
      subst e1
      obtain ⟨d, h3, h4⟩ := ry.get' e2
      exact ⟨F, d, Le.refl F, S, h3, h4⟩⟩
theorem cx_K {CX : CXT} {P : Program} {w : World} {K : PySem.W.Frag} {mg : Str → Option Value} {base : Heap} {N : List Str} {qual : Str} {scope : Scope} {f : Addr} {cd : Value} {A : Around} {outer : List PySem.Env} {s : Shared} {H : Hp} {E : XK} : (cxOf CX P w K mg base N qual scope f cd A outer s H E).nox.K = K := rfl
end Y


set_option Elab.async false
set_option linter.all false
set_option maxRecDepth 100000
set_option maxHeartbeats 1000000
/-! Y9: the readings step by step: one lemma for each word, to be applied from the outside. -/
namespace Y
open PySem PySem.Spec PyProof.Rows L2
section
variable {E : DEnds} {δ : Env} {M : Mm} {Q : QD} {QB : Bool → Mm → Prop} {QL : List D → Mm → Prop} {QO : Option Int → Mm → Prop} {t u : DS} {te ta tb tc : DE} {g : DG} {r r' : D2} {c c' : DT} {a b : Addr} {ds es : List D} {d e : D} {R : Env → Mm → Prop}
theorem i_seq (h : t { E with nx := u E } δ M) : dSeq t u E δ M := h
theorem i_next (h : E.nx δ M) : dNext E δ M := h
theorem i_asg (h : te δ M fun d M1 => g d δ M1 E.nx) : dAsg te g E δ M := h
theorem i_ret (h : te δ M E.rt) : dRet te E δ M := h
theorem i_retN (h : E.rt .non M) : dRetN E δ M := h
theorem i_drop (h : te δ M fun _ M1 => E.nx δ M1) : dDrop te E δ M := h
theorem i_cont (h : E.ct δ M) : dCont E δ M := h
theorem i_break (h : E.bk δ M) : dBreak E δ M := h
theorem i_ifs (h : c δ M fun b M1 => if b = true then t E δ M1 else u E δ M1) : dIfS c t u E δ M := h
theorem i_if (h : c δ M fun b M1 => if b = true then ta δ M1 Q else tb δ M1 Q) : dIf c ta tb δ M Q := h
theorem i_and (h : c δ M fun b M1 => if b = true then c' δ M1 QB else QB false M1) : dAnd c c' δ M QB := h
theorem i_or (h : c δ M fun b M1 => if b = true then QB true M1 else c' δ M1 QB) : dOr c c' δ M QB := h
theorem i_not (h : c δ M fun b M1 => QB (!b) M1) : dNot c δ M QB := h
theorem i_test (h : te δ M fun d M1 => ∃ k, d = .bl k ∧ QB k M1) : dTest te δ M QB := h
theorem i_tru (h : te δ M fun d M1 => ∃ b, truD d M1 = some b ∧ QB b M1) : dTru te δ M QB := h
theorem i_andV (h : ta δ M fun x M1 => ∃ c, x = .bl c ∧ if c = true then tb δ M1 Q else Q (.bl false) M1) : dAndV ta tb δ M Q := h
theorem i_orV (h : ta δ M fun x M1 => ∃ c, x = .bl c ∧ if c = true then Q (.bl true) M1 else tb δ M1 Q) : dOrV ta tb δ M Q := h
theorem i_notV (h : ta δ M fun x M1 => ∃ c, x = .bl c ∧ Q (.bl (!c)) M1) : dNotV ta δ M Q := h
theorem i_bl {P : Bool → Prop} {k : Bool} (h : P k) : ∃ c, D.bl k = .bl c ∧ P c := ⟨k, rfl, h⟩
theorem i_op (h : ta δ M fun x M1 => tb δ M1 fun y M2 => r x y M2 Q) : dOp r ta tb δ M Q := h
theorem i_chain (h : ta δ M fun x M1 => tb δ M1 fun y M2 => r x y M2 fun z M3 => ∃ k, z = .bl k ∧ (if k = true then tc δ M3 fun w' M4 => r' y w' M4 Q else Q (.bl false) M3)) : dChain r r' ta tb tc δ M Q := h
theorem i_var {i : Nat} (e : δ[i]? = some (some d)) (h : Q d M) : dVar i δ M Q := ⟨d, e, h⟩
theorem i_c {v : V} (h : Q (.v v) M) : dC v δ M Q := h
theorem i_cd (h : Q d M) : dCD d δ M Q := h
theorem i_nil (h : QL [] M) : dNil δ M QL := h
theorem i_cons {u : DA} (h : te δ M fun d M1 => u δ M1 fun ds M2 => QL (d :: ds) M2) : dCons te u δ M QL := h
theorem i_call {s : DSp} {t : DA} (h : t δ M fun ds M1 => s ds M1 Q noX) : dCall s t δ M Q := h
theorem i_cb {r : DC} {t : DA} (h : t δ M fun ds M1 => r ds M1 Q) : dCB r t δ M Q := h
theorem i_tup {t : DA} (h : t δ M fun ds M1 => ds.length ≤ sizeLine ∧ Q (.tup ds) M1) : dTup t δ M Q := h
theorem i_lst {t : DA} (h : t δ M fun ds M1 => ds.length ≤ sizeLine ∧ Q (.lst ds) M1) : dLst t δ M Q := h
theorem i_lstM {t : DA} (h : t δ M fun ds M1 => ds.length ≤ sizeLine ∧ ∀ p, M1 p = none → Q (.ref p) (put M1 p (.lst ds))) : dLstM t δ M Q := h
theorem i_dict (h : ∀ p, M p = none → Q (.ref p) (put M p (.dct []))) : dDict δ M Q := h
theorem i_frz (h : te δ M fun d M1 => ∃ p ds, d = .ref p ∧ M1 p = some (.lst ds) ∧ Q (.lst ds) (drop M1 p)) : dFrz te δ M Q := h
theorem i_frzd {p : Addr} (e : M p = some (.lst ds)) (h : Q (.lst ds) (drop M p)) : ∃ q es, D.ref p = .ref q ∧ M q = some (.lst es) ∧ Q (.lst es) (drop M q) := ⟨p, ds, rfl, e, h⟩
theorem i_name {i : Nat} (h : R (δ.set i (some d)) M) : dgName i d δ M R := h
theorem i_gtup {n : Nat} {t : DGs} (hl : ds.length = n) (h : t ds δ M R) : dgTup n t (.tup ds) δ M R := ⟨ds, rfl, hl, h⟩
theorem i_glst {n : Nat} {t : DGs} (e : lsD d M = some ds) (hl : ds.length = n) (h : t ds δ M R) : dgLst n t d δ M R := ⟨ds, e, hl, h⟩
theorem i_glst' {n : Nat} {t : DGs} (hl : ds.length = n) (h : t ds δ M R) : dgLst n t (.lst ds) δ M R := ⟨ds, rfl, hl, h⟩
theorem i_gcons {t : DGs} (h : g d δ M fun δ' M' => t ds δ' M' R) : dgCons g t (d :: ds) δ M R := ⟨d, ds, rfl, h⟩
theorem i_gnil (h : R δ M) : dgNil [] δ M R := ⟨rfl, h⟩
theorem i_gsub (h : ta δ M fun o M1 => tb δ M1 fun i M2 => setD o i d M2 fun M3 => R δ M3) : dgSub ta tb d δ M R := h
theorem i_par {i j : Nat} {t : DA} (h : t δ M fun ds M1 => ∃ v w, ds = [v, w] ∧ E.nx ((δ.set i (some v)).set j (some w)) M1) : dPar i j t E δ M := h
theorem i_par2 {P : D → D → Prop} (h : P d e) : ∃ v w, [d, e] = [v, w] ∧ P v w := ⟨d, e, rfl, h⟩
theorem i_un {f : Int → Int} (h : te δ M fun x M1 => ∃ i, x = .int i ∧ Q (.int (f i)) M1) : dU f te δ M Q := h
theorem i_int {P : Int → Prop} {i : Int} (h : P i) : ∃ j, D.int i = .int j ∧ P j := ⟨i, rfl, h⟩
theorem i_slice {tl th : DO} (h : te δ M fun x M1 => tl δ M1 fun l M2 => th δ M2 fun u M3 => sliceD x l u M3 Q) : dSlice te tl th δ M Q := h
theorem i_onone (h : QO none M) : doNone δ M QO := h
theorem i_osome (h : te δ M fun d M1 => ∃ i, d = .int i ∧ QO (some i) M1) : doSome te δ M QO := h
theorem i_bm {T : String} {r : DM} {t : DA} (h : te δ M fun x M1 => tyD T x M1 ∧ t δ M1 fun xs M2 => r x xs M2 Q) : dBM T r te t δ M Q := h
theorem i_bm0 {T : String} {r : DM} (h : te δ M fun x M1 => tyD T x M1 ∧ r x [] M1 Q) : dBM0 T r te δ M Q := h
theorem i_get1 (h : ta δ M fun x M1 => isDk x M1 ∧ tb δ M1 fun y M2 => ∃ kvs k, dkD x M2 = some kvs ∧ keyD y = some k ∧ Q ((valD kvs k).getD .non) M2) : dGet1 ta tb δ M Q := h
theorem i_get2 (h : ta δ M fun x M1 => isDk x M1 ∧ tb δ M1 fun y M2 => tc δ M2 fun z M3 => ∃ kvs k, dkD x M3 = some kvs ∧ keyD y = some k ∧ Q ((valD kvs k).getD z) M3) : dGet2 ta tb tc δ M Q := h
theorem i_del (h : ta δ M fun o M1 => tb δ M1 fun i M2 => ∃ a kvs k, o = .ref a ∧ M2 a = some (.dct kvs) ∧ keyD i = some k ∧ (valD kvs k).isSome = true ∧ E.nx δ (put M2 a (.dct (dropKD kvs k)))) : dDel ta tb E δ M := h
theorem i_for {wi : DI} (h : wi δ M fun ds G M1 => forD G g t E ds δ M1) : dFor wi g t E δ M := h
theorem i_lc {wi : DI} {vs : List Nat} (h : wi δ M fun ds G M1 => ∀ p, M1 p = none → lcD G g c te (wipeD δ vs) p (fun M' => Q (.ref p) M') ds (put M1 p (.lst []))) : dLc wi g c te vs δ M Q := h
theorem i_dc {wi : DI} {vs : List Nat} (h : wi δ M fun ds G M1 => ∀ p, M1 p = none → dcD G g c ta te (wipeD δ vs) p (fun M' => Q (.ref p) M') ds (put M1 p (.dct []))) : dDc wi g c ta te vs δ M Q := h
theorem i_yes (h : QB true M) : tYesD δ M QB := h
theorem i_it {RI : List D → (Mm → Prop) → Mm → Prop} (h : te δ M fun d M1 => ∃ ds, itsD d M1 = some ds ∧ RI ds GT M1) : diIt te δ M RI := h
theorem i_its {P : List D → Prop} (e : itsD d M = some ds) (h : P ds) : ∃ es, itsD d M = some es ∧ P es := ⟨ds, e, h⟩
theorem i_rng1 {t : DA} {RI : List D → (Mm → Prop) → Mm → Prop} (h : t δ M fun ds M1 => ∃ j : Int, ds = [.int j] ∧ -(2 ^ 62) ≤ j ∧ j < 2 ^ 62 ∧ RI (rngD 0 j.toNat) GT M1) : diRng1 t δ M RI := h
theorem i_rng1d {j : Int} {P : Int → Prop} (h1 : -(2 ^ 62) ≤ j ∧ j < 2 ^ 62) (h : P j) : ∃ k : Int, [D.int j] = [.int k] ∧ -(2 ^ 62) ≤ k ∧ k < 2 ^ 62 ∧ P k := ⟨j, rfl, h1.1, h1.2, h⟩
theorem i_frzS {i : Nat} {p : Addr} (e : δ[i]? = some (some (.ref p))) (em : M p = some (.lst ds)) (h : t E (δ.set i (some (.lst ds))) (drop M p)) : dFrzS i t E δ M := ⟨p, ds, e, em, h⟩
theorem i_fld {K : PySem.W.Frag} {f : Str} (h : te δ M fun x M1 => ∃ a C dx fs d, x = .ref a ∧ M1 a = some (.ins C dx fs) ∧ Cls K C ∧ NoAttr K C f ∧ fs.lookup f = some d ∧ Q d M1) : dFld K f te δ M Q := h
theorem i_sfld {K : PySem.W.Frag} {f : Str} (h : tb δ M fun y M1 => ta δ M1 fun x M2 => ∃ a C dx fs, x = .ref a ∧ M2 a = some (.ins C dx fs) ∧ Cls K C ∧ NoAttr K C f ∧ fs.length < 1000 ∧ E.nx δ (put M2 a (.ins C dx (putFD f y fs)))) : dsFld K f ta tb E δ M := h
theorem i_meth {C : Addr} {m : Str} {s : DSp} {t : DA} (h : te δ M fun x M1 => ∃ a dx fs, x = .ref a ∧ M1 a = some (.ins C dx fs) ∧ fs.lookup m = none ∧ t δ M1 fun ds M2 => s (x :: ds) M2 Q noX) : dMeth C m s te t δ M Q := h
theorem i_make {C : Addr} {s : DSp} {t : DA} (h : t δ M fun ds M1 => ∀ x dx, M1 x = none → s (.ref x :: ds) (put M1 x (.ins C dx [])) (fun d M2 => d = .non ∧ Q (.ref x) M2) noX) : dMake C s t δ M Q := h
/-! values -/
theorem v_I0 {f : Int → Int → V} {i j : Int} (h : Q (.v (f i j)) M) : dI0 f (.int i) (.int j) M Q := ⟨i, j, rfl, rfl, h⟩
theorem v_I {C : Int → Int → Prop} {f : Int → Int → V} {i j : Int} (hc : C i j) (h : Q (.v (f i j)) M) : dI C f (.int i) (.int j) M Q := ⟨i, j, rfl, rfl, hc, h⟩
theorem v_plusI {i j : Int} (h : Q (.int (i + j)) M) : plusD (.int i) (.int j) M Q := h
theorem v_plusS {x y : Str} (hl : x.length + y.length ≤ sizeLine) (h : Q (.str (x ++ y)) M) : plusD (.str x) (.str y) M Q := ⟨hl, h⟩
theorem v_plusT (hl : ds.length + es.length ≤ sizeLine) (h : Q (.tup (ds ++ es)) M) : plusD (.tup ds) (.tup es) M Q := ⟨hl, h⟩
theorem v_plusL (h1 : lsD d M = some ds) (h2 : lsD e M = some es) (hl : ds.length + es.length ≤ sizeLine) (h : Q (.lst (ds ++ es)) M) : plusD d e M Q := by
  unfold plusD
  split
  · simp [lsD] at h1
  · simp [lsD] at h1
  · simp [lsD] at h1
  · exact ⟨ds, es, h1, h2, hl, h⟩
theorem v_subT {i : Int} (e : atI ds i = some d) (h : Q d M) : subD (.tup ds) (.int i) M Q := ⟨i, d, rfl, e, h⟩
theorem v_subL {i : Int} (e : atI ds i = some d) (h : Q d M) : subD (.lst ds) (.int i) M Q := .inl ⟨ds, i, d, rfl, rfl, e, h⟩
theorem v_subM {i : Int} (em : M a = some (.lst ds)) (e : atI ds i = some d) (h : Q d M) : subD (.ref a) (.int i) M Q := .inl ⟨ds, i, d, lsD_ref em, rfl, e, h⟩
theorem v_subK {kvs : List (Key × D)} {k : Key} (em : M a = some (.dct kvs)) (ek : keyD e = some k) (ev : valD kvs k = some d) (h : Q d M) : subD (.ref a) e M Q := .inr ⟨kvs, k, d, by simp [dkD, em], ek, ev, h⟩
theorem v_eqI {neg : Bool} {i j : Int} (h : Q (.bl (neg ^^ decide (i = j))) M) : eqD neg (.int i) (.int j) M Q := by
  unfold eqD
  simpa [scal] using h
theorem v_eqS {neg : Bool} {i j : Str} (h : Q (.bl (neg ^^ decide (i = j))) M) : eqD neg (.str i) (.str j) M Q := by
  unfold eqD
  simpa [scal] using h
theorem v_isN {neg : Bool} (h : Q (.bl (neg ^^ nonD d)) M) : isN neg d .non M Q := ⟨rfl, h⟩
theorem itD_ref (em : M a = some (.lst ds)) : itD (.ref a) M = some ds := lsD_ref em
theorem lenD_ref (em : M a = some (.lst ds)) : lenD (.ref a) M = some ds.length := by simp [lenD, em]
theorem v_len {n : Nat} (e : lenD d M = some n) (h : Q (.int (n : Int)) M) : cLen [d] M Q := ⟨d, n, rfl, e, h⟩
theorem v_int {i : Int} (h : Q (.int i) M) : cInt [.int i] M Q := ⟨i, rfl, h⟩
theorem v_abs {i : Int} (h : Q (.int (if i < 0 then -i else i)) M) : cAbs [.int i] M Q := ⟨i, rfl, h⟩
theorem v_list (e : itD d M = some es) (h : Q (.lst es) M) : cList [d] M Q := ⟨d, es, rfl, e, h⟩
theorem v_listM (e : itD d M = some es) (h : ∀ p, M p = none → Q (.ref p) (put M p (.lst es))) : cListM [d] M Q := ⟨d, es, rfl, e, h⟩
theorem v_tuple (e : itD d M = some es) (h : Q (.tup es) M) : cTuple [d] M Q := ⟨d, es, rfl, e, h⟩
theorem v_setL {RM : Mm → Prop} {k : Int} {j : Nat} (em : M a = some (.lst ds)) (hj : ixN ds.length k = some j) (h : RM (put M a (.lst (ds.set j d)))) : setD (.ref a) (.int k) d M RM := by
  show (match M a with | some (.lst ds) => _ | some (.dct kvs) => _ | _ => False)
  rw [em]
  exact ⟨k, j, rfl, hj, h⟩
theorem v_setK {RM : Mm → Prop} {k : Key} {kvs : List (Key × D)} (em : M a = some (.dct kvs)) (ek : keyD e = some k) (hl : kvs.length < sizeLine) (h : RM (put M a (.dct (putKD kvs k d)))) : setD (.ref a) e d M RM := by
  show (match M a with | some (.lst ds) => _ | some (.dct kvs) => _ | _ => False)
  rw [em]
  exact ⟨k, ek, hl, h⟩
theorem v_append (em : M a = some (.lst ds)) (hl : ds.length < sizeLine) (h : Q .non (put M a (.lst (ds ++ [d])))) : tyD "list" (.ref a) M ∧ mAppend (.ref a) [d] M Q := ⟨by simp [tyD, em], a, ds, d, rfl, rfl, em, hl, h⟩
theorem i_tyL {P : Prop} (em : M a = some (.lst ds)) (h : P) : tyD "list" (.ref a) M ∧ P := ⟨by simp [tyD, em], h⟩
theorem i_tyl {P : Prop} (h : P) : tyD "list" (.lst ds) M ∧ P := ⟨by simp [tyD], h⟩
theorem v_app (em : M a = some (.lst ds)) (hl : ds.length < sizeLine) (h : Q .non (put M a (.lst (ds ++ [d])))) : mAppend (.ref a) [d] M Q := ⟨a, ds, d, rfl, rfl, em, hl, h⟩
theorem v_sliceT {lo hi : Option Int} (h : Q (.tup (cut ds lo hi)) M) : sliceD (.tup ds) lo hi M Q := h
theorem v_sliceL {lo hi : Option Int} (h : Q (.lst (cut ds lo hi)) M) : sliceD (.lst ds) lo hi M Q := ⟨ds, rfl, h⟩
theorem v_sliceM {lo hi : Option Int} (em : M a = some (.lst ds)) (h : Q (.lst (cut ds lo hi)) M) : sliceD (.ref a) lo hi M Q := ⟨ds, lsD_ref em, h⟩
theorem v_inT {neg : Bool} (h1 : flatD d = true ∧ ds.all flatD = true) (h : Q (.bl (neg ^^ memD d ds)) M) : inD neg d (.tup ds) M Q := ⟨h1.1, h1.2, h⟩
/-! tests -/
theorem b_dec {p : Prop} [Decidable p] {A C : Prop} (h1 : p → A) (h2 : ¬ p → C) : if decide p = true then A else C := by
  by_cases h : p
  · rw [decide_eq_true h]; exact h1 h
  · rw [decide_eq_false h, if_neg Bool.false_ne_true]; exact h2 h
theorem b_ndec {p : Prop} [Decidable p] {A C : Prop} (h1 : ¬ p → A) (h2 : p → C) : if (!decide p) = true then A else C := by
  by_cases h : p
  · rw [decide_eq_true h]; exact iteF (h2 h)
  · rw [decide_eq_false h]; exact iteT (h1 h)
theorem b_fx {p A C : Prop} [Decidable p] (h : if decide p = true then A else C) : if (false ^^ decide p) = true then A else C := by simpa using h
theorem b_tx {p A C : Prop} [Decidable p] (h : if (!decide p) = true then A else C) : if (true ^^ decide p) = true then A else C := by simpa using h
theorem b_var {k : Bool} {A C : Prop} (h1 : k = true → A) (h2 : k = false → C) : if k = true then A else C := by
  cases k with
  | true => exact iteT (h1 rfl)
  | false => exact iteF (h2 rfl)
end
theorem atI_nn {α : Type} (xs : List α) (n : Nat) : atI xs (n : Int) = xs[n]? := by
  unfold atI ixN
  by_cases h : n < xs.length
  · simp [h]
  · simp [h]
theorem put_none {M : Mm} {a p : Addr} {m : MO} (h : put M a m p = none) : p ≠ a ∧ M p = none := by
  by_cases e : p = a
  · subst e; rw [put_same] at h; cases h
  · exact ⟨e, by rwa [put_ne e] at h⟩
theorem ne_none {M : Mm} {a p : Addr} {m : MO} (h1 : M a = some m) (h2 : M p = none) : a ≠ p := fun e => by subst e; rw [h1] at h2; cases h2
/-- all but what S names is as it was -/
def Fr (M M' : Mm) (S : List Addr) : Prop := ∀ b, b ∉ S → M' b = M b
theorem Fr.refl (M : Mm) (S : List Addr) : Fr M M S := fun _ _ => rfl
theorem Fr.put {M M' : Mm} {S : List Addr} {a : Addr} {m : MO} (h : Fr M M' S) (ha : a ∈ S) : Fr M (Y.put M' a m) S := fun b hb => by
  rw [put_ne (show b ≠ a from fun e => hb (by rw [e]; exact ha))]; exact h b hb
theorem Fr.drop {M M' : Mm} {S : List Addr} {a : Addr} (h : Fr M M' S) (ha : a ∈ S) : Fr M (Y.drop M' a) S := fun b hb => by
  rw [drop_ne (show b ≠ a from fun e => hb (by rw [e]; exact ha))]; exact h b hb
theorem Fr.more {M M' : Mm} {S T : List Addr} (h : Fr M M' S) (ht : ∀ a ∈ S, a ∈ T) : Fr M M' T := fun b hb => h b fun z => hb (ht b z)
theorem less_of {Q : QD} {d : D} {M M' : Mm} (h : Q d M') (e : M = M') : less Q d M := ⟨M', by rw [e]; exact Sub.refl _, h⟩
/-- at a return: what was made here is forgotten, a holds m -/
theorem less_fr {Q : QD} {d : D} {M M' : Mm} {a : Addr} {m : MO} {L : List Addr} (k : Q d (Y.put M a m)) (ea : M' a = some m) (h : Fr M M' (a :: L)) (hL : ∀ p ∈ L, M p = none) : less Q d M' := by
  refine ⟨Y.put M a m, fun b n hb => ?_, k⟩
  by_cases e : b = a
  · subst e; rw [put_same] at hb; rw [ea]; exact hb
  · rw [put_ne e] at hb
    rw [h b]
    · exact hb
    · intro z
      rcases List.mem_cons.mp z with z | z
      · exact e z
      · rw [hL b z] at hb; cases hb
theorem less_fr0 {Q : QD} {d : D} {M M' : Mm} {L : List Addr} (k : Q d M) (h : Fr M M' L) (hL : ∀ p ∈ L, M p = none) : less Q d M' := by
  refine ⟨M, fun b n hb => ?_, k⟩
  rw [h b]
  · exact hb
  · intro z
    rw [hL b z] at hb; cases hb
/-! plain data by its depth -/
def Pl (k : Nat) (d : D) : Prop := pln d = true ∧ dep d ≤ k
def PlL (k : Nat) (ds : List D) : Prop := ∀ d ∈ ds, Pl k d
theorem Pl.mono {j k : Nat} {d : D} (h : Pl j d) (hk : j ≤ k) : Pl k d := ⟨h.1, Nat.le_trans h.2 hk⟩
theorem Pl.int {k : Nat} (i : Int) : Pl k (.int i) := ⟨rfl, Nat.zero_le _⟩
theorem Pl.non {k : Nat} : Pl k .non := ⟨rfl, Nat.zero_le _⟩
theorem Pl.bl {k : Nat} (b : Bool) : Pl k (.bl b) := ⟨rfl, Nat.zero_le _⟩
theorem Pl.str {k : Nat} {x : Str} (h : PyData.strOk x = true) : Pl k (.str x) := ⟨h, Nat.zero_le _⟩
theorem PlL.pln : ∀ {k : Nat} {ds : List D}, PlL k ds → plnL ds = true ∧ depL ds ≤ k
  | _, [], _ => ⟨rfl, Nat.zero_le _⟩
  | k, d :: ds, h => by
    have h1 := h d List.mem_cons_self
    have h2 := PlL.pln (k := k) (ds := ds) fun e he => h e (List.mem_cons_of_mem _ he)
    exact ⟨by simp [plnL, h1.1, h2.1], by simp only [depL]; exact Nat.max_le.mpr ⟨h1.2, h2.2⟩⟩
theorem Pl.tup {k : Nat} {ds : List D} (h : PlL k ds) : Pl (k + 1) (.tup ds) := ⟨by simpa [Y.pln] using h.pln.1, by simp only [dep]; exact Nat.succ_le_succ h.pln.2⟩
theorem Pl.lst {k : Nat} {ds : List D} (h : PlL k ds) : Pl (k + 1) (.lst ds) := ⟨by simpa [Y.pln] using h.pln.1, by simp only [dep]; exact Nat.succ_le_succ h.pln.2⟩
theorem PlL.nil {k : Nat} : PlL k [] := fun _ h => by cases h
theorem PlL.cons {k : Nat} {d : D} {ds : List D} (h : Pl k d) (t : PlL k ds) : PlL k (d :: ds) := fun e he => by
  rcases List.mem_cons.mp he with rfl | he
  · exact h
  · exact t e he
theorem PlL.append {k : Nat} {ds es : List D} (h : PlL k ds) (t : PlL k es) : PlL k (ds ++ es) := fun e he => (List.mem_append.mp he).elim (h e) (t e)
theorem PlL.mono {j k : Nat} {ds : List D} (h : PlL j ds) (hk : j ≤ k) : PlL k ds := fun d hd => (h d hd).mono hk
theorem i_sz {P : Prop} {ds : List D} (hl : ds.length ≤ sizeLine) (h : P) : ds.length ≤ sizeLine ∧ P := ⟨hl, h⟩
theorem i_szl {P : Prop} {ds : List D} (hl : ds.length < sizeLine) (h : P) : ds.length < sizeLine ∧ P := ⟨hl, h⟩
/-- something new: where it lies, nothing lay -/
theorem i_new {P : Addr → Prop} {M : Mm} (h : ∀ p, M p = none → P p) : ∀ p, M p = none → P p := h
/-- a for by a word that holds between the turns -/
theorem for_word {g : DG} {tb : DS} {E : DEnds} {ds : List D} {δ : Env} {M : Mm} (I : Nat → Env → Mm → Prop) (h0 : I 0 δ M) (hs : ∀ i d δ M, ds[i]? = some d → I i δ M → g d δ M fun δ' M' => tb { E with nx := I (i + 1), ct := I (i + 1), bk := E.nx } δ' M')
    (hd : ∀ δ M, I ds.length δ M → E.nx δ M) : forD GT g tb E ds δ M := by
  induction ds generalizing I δ M with
  | nil => exact ⟨trivial, hd _ _ h0⟩
  | cons d ds ih =>
    refine ⟨trivial, I 1, fun δ' M' h => ?_, hs 0 d δ M rfl h0⟩
    exact ih (fun i => I (i + 1)) h (fun i d δ M e h => hs (i + 1) d δ M (by simpa using e) h) hd
theorem b_emp {ds : List D} {A C : Prop} (h1 : 0 < ds.length → A) (h2 : ds = [] → C) : if (!ds.isEmpty) = true then A else C := by
  cases ds with
  | nil => exact iteF (h2 rfl)
  | cons d ds => exact iteT (h1 (by simp))
theorem i_trul {ds : List D} {M : Mm} {QB : Bool → Prop} (h : QB (!ds.isEmpty)) : ∃ b, truD (.lst ds) M = some b ∧ QB b := ⟨_, rfl, h⟩
theorem i_trut {ds : List D} {M : Mm} {QB : Bool → Prop} (h : QB (!ds.isEmpty)) : ∃ b, truD (.tup ds) M = some b ∧ QB b := ⟨_, rfl, h⟩
theorem i_trub {c : Bool} {M : Mm} {QB : Bool → Prop} (h : QB c) : ∃ b, truD (.bl c) M = some b ∧ QB b := ⟨_, rfl, h⟩
theorem pl_rsv {k : Nat} {d : D} {M : Mm} (h : Pl k d) : rsv d M = d := by
  cases d with
  | v x => cases x <;> first | rfl | (have := h.1; simp [pln] at this)
  | tup ds => rfl
  | lst ds => rfl
theorem v_eqP {neg : Bool} {x y : D} {M : Mm} {Q : QD} (hx : Pl 64 x) (hy : Pl 64 y) (h : ∀ b, Q (.bl b) M) : eqD neg x y M Q := by
  have e : eqDeep neg x y M Q := ⟨by rw [pl_rsv hx]; exact hx.1, by rw [pl_rsv hy]; exact hy.1, by rw [pl_rsv hx]; exact hx.2, by rw [pl_rsv hy]; exact hy.2, h _⟩
  unfold eqD
  split
  · split
    · exact h _
    · exact e
  · exact e
end Y


set_option Elab.async false
set_option linter.all false
set_option maxRecDepth 100000
set_option maxHeartbeats 1000000
/-! Y10: sorted over keys, copies of dicts. -/
namespace Y
open PySem PySem.Spec PyProof.Rows L2
section
variable {K : PySem.W.Frag}
theorem keys_rep {F : Hp} {xs : List (Key × V)} {ds : List (Key × D)} (r : RepKV K F xs ds) : xs.map (·.1) = ds.map (·.1) := by
  unfold RepKV at r
  induction r with
  | nil => rfl
  | cons h _ ih => simp only [List.map_cons, ih, h.1]
theorem rep_ints {F : Hp} : ∀ ns : List Int, RepL K F (ns.map V.int) (ns.map D.int)
  | [] => .nil
  | n :: ns => .cons (.v _) (rep_ints ns)
theorem rep_strs {F : Hp} : ∀ ns : List Str, RepL K F (ns.map V.str) (ns.map D.str)
  | [] => .nil
  | n :: ns => .cons (.v _) (rep_strs ns)
def cSortDI : DC := fun ds M Q => ∃ (a : Addr) (kvs : List (Key × D)) (ks : List Int), ds = [.ref a] ∧ M a = some (.dct kvs) ∧ kvs.map (·.1) = ks.map Sum.inl ∧ ks.length < 64 ∧ ∀ ys : List Int, ys.Perm ks → ys.Pairwise (· ≤ ·) → Q (.lst (ys.map D.int)) M
def cSortDS : DC := fun ds M Q => ∃ (a : Addr) (kvs : List (Key × D)) (ks : List Str), ds = [.ref a] ∧ M a = some (.dct kvs) ∧ kvs.map (·.1) = ks.map Sum.inr ∧ ks.length < 64 ∧ ∀ ys : List Str, ys.Perm ks → sortedS ys = true → Q (.lst (ys.map D.str)) M
def cDictD : DC := fun ds M Q => ∃ (a : Addr) (kvs : List (Key × D)), ds = [.ref a] ∧ M a = some (.dct kvs) ∧ ∀ p, M p = none → Q (.ref p) (Y.put M p (.dct kvs))
theorem l_sortDI : LiftC K (fun xs H Q => ∃ (a : Addr) (kvs : List (Key × V)) (ks : List Int), xs = [.ref a] ∧ Rd H a (.dK kvs) ∧ kvs.map (·.1) = ks.map Sum.inl ∧ ks.length < 64 ∧
    ∀ (ys : List Int) (p : Addr), ys.Perm ks → ys.Pairwise (· ≤ ·) → H p = none → Q (.ref p) (upd H p (.lst (ys.map V.int)))) cSortDI := fun H F M xs ds Q' Q S r ⟨a, kvs, ks, e, em, hk, hl, q⟩ k => by
  subst e
  obtain ⟨x, rfl, rx⟩ := rep1 r
  cases rx
  obtain ⟨ws, hx, rw'⟩ := muD S em
  refine ⟨a, ws, ks, rfl, .inl hx, (keys_rep rw').trans hk, hl, fun ys p hp hs hn => ?_⟩
  have f0 := (S.free hn).1
  exact k _ _ ⟨_, M, _, le_upd f0, S.still hn, .lst (SqL.of upd_same) (rep_ints ys), q ys hp hs⟩
theorem l_sortDS : LiftC K (fun xs H Q => ∃ (a : Addr) (kvs : List (Key × V)) (ks : List Str), xs = [.ref a] ∧ Rd H a (.dK kvs) ∧ kvs.map (·.1) = ks.map Sum.inr ∧ ks.length < 64 ∧
    ∀ ys p, ys.Perm ks → sortedS ys = true → H p = none → Q (.ref p) (upd H p (.lst (ys.map V.str)))) cSortDS := fun H F M xs ds Q' Q S r ⟨a, kvs, ks, e, em, hk, hl, q⟩ k => by
  subst e
  obtain ⟨x, rfl, rx⟩ := rep1 r
  cases rx
  obtain ⟨ws, hx, rw'⟩ := muD S em
  refine ⟨a, ws, ks, rfl, .inl hx, (keys_rep rw').trans hk, hl, fun ys p hp hs hn => ?_⟩
  have f0 := (S.free hn).1
  exact k _ _ ⟨_, M, _, le_upd f0, S.still hn, .lst (SqL.of upd_same) (rep_strs ys), q ys hp hs⟩
theorem l_dictD : LiftC K (fun xs H Q => ∃ (a : Addr) (kvs : List (Key × V)), xs = [.ref a] ∧ Rd H a (.dK kvs) ∧ ∀ p, H p = none → Q (.ref p) (upd H p (.dK kvs))) cDictD := fun H F M xs ds Q' Q S r ⟨a, kvs, e, em, q⟩ k => by
  subst e
  obtain ⟨x, rfl, rx⟩ := rep1 r
  cases rx
  obtain ⟨ws, hx, rw'⟩ := muD S em
  exact ⟨a, ws, rfl, .inl hx, fun p hn => k _ _ ⟨F, _, _, Le.refl F, S.newM hn (.dct rw'), .v _, q p (S.free hn).2⟩⟩
end
end Y


set_option Elab.async false
set_option linter.all false
set_option maxRecDepth 100000
set_option maxHeartbeats 2000000
/-! YX1: an own exception's __init__ that says super().__init__(f'..') first, then stores its fields. -/
namespace Y
open PySem PySem.Spec PyProof.Rows L2

/-- the context of such an __init__'s body -/
def cxS (CX : CXT) (P : Program) (w : World) (K : PySem.W.Frag) (mg : Str → Option Value) (base : Heap) (N : List Str) (qual : Str) (scope : Scope) (f : Addr) (cd : Value) (cc : Addr) (A : Around) (outer : List PySem.Env) (s : Shared) (H : Hp) (E : XK) : Cx where
  prog := P
  w := w
  K := K
  mg := mg
  base := base
  A := A.deeper (PySem.W.ksEnv qual scope s.heap.objs.size f cd cc)
  N := N
  s_0 := s
  H_0 := H
  env := PySem.W.ksEnv qual scope s.heap.objs.size f cd cc
  outer := outer
  stack := PySem.W.ksEnv qual scope s.heap.objs.size f cd cc :: outer
  ex := []
  calm := true
  fn := fun _ => false
  pn := []
  xe := fun e s' => wpAny (model P w) (A.deeper (PySem.W.ksEnv qual scope s.heap.objs.size f cd cc)) (leaving (PySem.W.ksEnv qual scope s.heap.objs.size f cd cc) e) (fun _ s'' => CX outer H s E e s'') (fun e' s'' => CX outer H s E e' s'') s'

/-- the scope of such an __init__ -/
structure SupScope (ps : List Str) (sc : Scope) : Prop where
  kind : sc.kind = .function
  co : sc.isCoroutine = false
  gen : sc.isGenerator = false
  nd : ps.Nodup
  par : ∀ x ∈ ps, sc.names.lookup x = some .local
  nocell : ∀ y ∈ sc.names, y.2 ≠ .cell
  free : ∀ y ∈ sc.names, y.2 = .free → y.1 = ("__class__" : Str)
  sup : sc.names.lookup ("super" : Str) = some .globalImplicit
  cls : sc.names.lookup ("__class__" : Str) = some .free

theorem rev_lookup {ps : List Str} {us : List Value} {i : Nat} {x : Str} {u : Value} (nd : ps.Nodup) (hx : ps[i]? = some x) (hu : us[i]? = some u) : (ps.zip us).reverse.lookup x = some u := by
  have hz : (ps.zip us)[i]? = some (x, u) := by rw [List.getElem?_zip_eq_some]; exact ⟨hx, hu⟩
  have key : ∀ (l : List (Str × Value)), (l.map (·.1)).Nodup → (x, u) ∈ l → l.lookup x = some u := by
    intro l
    induction l with
    | nil => intro _ h; cases h
    | cons p l ih =>
      intro hn hm
      obtain ⟨y, v⟩ := p
      simp only [List.map_cons, List.nodup_cons] at hn
      rcases List.mem_cons.mp hm with e | e
      · cases e; simp [List.lookup]
      · have ne : x ≠ y := fun z => hn.1 (by rw [← z]; exact List.mem_map.mpr ⟨(x, u), e, rfl⟩)
        have eb : (x == y) = false := by simpa using ne
        simp only [List.lookup, eb]
        exact ih hn.2 e
  refine key _ ?_ (List.mem_reverse.mpr (List.mem_of_getElem? hz))
  rw [List.map_reverse]
  refine (List.reverse_perm _).nodup_iff.mpr ?_
  have : (ps.zip us).map (·.1) = ps.take us.length := by
    clear hx hu hz key nd
    induction ps generalizing us with
    | nil => simp
    | cons p ps ih => cases us with
      | nil => simp
      | cons v us => simp [ih]
  rw [this]
  exact nd.sublist (List.take_sublist _ _)

section
variable {CX : CXT} {P : Program} {w : World} {K : PySem.W.Frag} {mg : Str → Option Value} {base : Heap} {ps : List Str} {qual : Str} {scope : Scope} {f cc C : Addr} {cd : Value} {A : Around} {outer : List PySem.Env} {s : Shared} {H : Hp} {E : XK} {us : List Value} {vs : List V}
theorem invS_start {clv : Value} {cld : Option Addr} {csl : Array (Option Value)} (S : SupScope ps scope) (hd : A.handled = none) (e0 : Env0 P w K mg base A outer s H) (hl : vs.length = ps.length) (r : Vals vs us) (hcell : K.lookup cc = some ⟨clv, cld, .cell (some (.ref C)), csl⟩)
    {h1 : Heap} {tk : Nat} (hns : h1.Ns s.heap.objs.size (fun x => (ps.zip us).reverse.lookup x)) (hk : ∀ b o, s.heap.get? b = some o → h1.get? b = some o) :
    Inv (cxS CX P w K mg base ps qual scope f cd cc A outer s H E) [] (L2.start ps vs) H { s with heap := h1, toks := tk } := by
  have noA : ∀ b : Addr, b ∉ (cxS CX P w K mg base ps qual scope f cd cc A outer s H E).ex := fun b z => absurd (show b ∈ ([] : List Addr) from z) (by simp)
  have one : ∀ {x : Str} {c : Addr}, (cxS CX P w K mg base ps qual scope f cd cc A outer s H E).env.cells.lookup x = some c → x = "__class__" ∧ c = cc := fun {x c} h => by
    have h : List.lookup x [(("__class__" : Str), cc)] = some c := h
    simp only [List.lookup] at h
    split at h
    · rename_i e
      cases h
      exact ⟨by simpa using e, rfl⟩
    · cases h
  have hb := e0.bs cc _ (e0.mod.kin _ _ hcell)
  refine ⟨⟨e0.mod, S.kind, rfl, rfl, Nat.le_refl _, fun y z c h1 h2 => by rw [(one h1).1, (one h2).1], fun y hy => ?_, fun y c h _ => ?_, fun _ => hd, Around.frames_deeper e0.frames, .inr ⟨rfl, rfl⟩, fun b z => absurd z (noA b), e0.bs, e0.bsz, fun b _ _ => noA b, fun b z => absurd z (noA b), e0.funs, e0.frf⟩,
    rfl, e0.bare, Un.kept hk, ⟨_, hns, fun i y v h1 h2 h3 => ?_⟩, fun y c h => ?_, e0.hok.fresh (Nat.le_refl _), fun y c h => ?_, fun p hp => absurd (show p ∈ ([] : List (Addr × Obj)) from hp) (by simp), e0.hok.kept hk, ?_⟩
  · have hy : scope.names.lookup y = some .cell ∨ scope.names.lookup y = some .free := hy
    rcases hy with hy | hy
    · exact absurd rfl (S.nocell _ (PySem.mem_of_lookup hy))
    · have e := S.free _ (PySem.mem_of_lookup hy) rfl
      have e : y = "__class__" := e
      subst e
      exact ⟨cc, by show List.lookup _ [(("__class__" : Str), cc)] = some cc; simp [List.lookup]⟩
  · have h : false = true := h
    cases h
  · have hi : i < vs.length := by
      unfold L2.start at h2
      by_cases hi : i < vs.length
      · exact hi
      · rw [List.getElem?_append_right (by simpa using hi)] at h2
        rw [List.getElem?_replicate] at h2
        split at h2 <;> cases h2
    have ha : vs[i]? = some v := by
      unfold L2.start at h2
      rw [List.getElem?_append_left (by simpa using hi), List.getElem?_map] at h2
      cases e : vs[i]? with
      | none => rw [e] at h2; cases h2
      | some a => rw [e] at h2; cases h2; rfl
    obtain ⟨u, hu, rv⟩ := r.get ha
    have h1 : ps[i]? = some y := h1
    exact ⟨u, rv, .inl ⟨S.par y (List.mem_of_getElem? h1), rev_lookup S.nd h1 hu⟩⟩
  · rw [(one h).2]
    exact ⟨_, _, hk _ _ hb.1, rfl⟩
  · rw [(one h).2]
    exact hb.2
  · unfold L2.start
    show _ = ps.length
    rw [List.length_append, List.length_map, List.length_replicate]
    omega
end
end Y


set_option Elab.async false
set_option linter.all false
set_option maxRecDepth 100000
set_option maxHeartbeats 4000000
/-! YX2: such an __init__ keeps its promise. -/
namespace Y
open PySem PySem.Spec PyProof.Rows L2
/-- what the written part says of such a class and its __init__ -/
structure SupC (P : Program) (K : PySem.W.Frag) (mg : Str → Option Value) (C fI cc cda : Addr) : Prop where
  ex : OexC K C
  cell : ∃ clv cld csl, K.lookup cc = some ⟨clv, cld, .cell (some (.ref C)), csl⟩
  code : ∃ ccl cdd vs ccs file tf, K.lookup cda = some ⟨ccl, cdd, .fields vs, ccs⟩ ∧ vs[2]? = some (.str file tf) ∧ ((P.main.file : Str) == file) = true
  cls : PySem.W.isClsIn K C = true
  sub : PySem.W.mroIn K C (.ref C) = some true
  sup : mg "super" = none
  top : (P.main.scope.names.lookup ("super" : Str)).isSome = false
  any : PySem.W.nsIn K cStatics "thirdparty.any" = some none
  ini : PySem.W.ks_superIn K C C "__init__" = some (some (.builtin "ValueError.__init__"))
  isVE : PySem.W.subIn K (.ref C) (.type "ValueError") = some true
/-- the wrapper of the built-in __init__ is called: the exception's args are laid anew -/
theorem sup_call {X : Cx} {pins : List (Addr × Obj)} {σ : L2.St} {H : Hp} {s : Shared} {u a C : Addr} {us : List Value} {Q : Value → Shared → Prop} (T : OexC X.K C) (I : Inv X pins σ H s) (e : H a = some (exo a C none)) (hu : s.heap.get? u = some (PySem.W.kxs_mw "ValueError.__init__" a)) (hl : us.length ≤ sizeLine)
    (h : ∀ s', Inv X pins σ H s' → Q .none s') : wpAny (model X.prog X.w) X.A (call (.ref u) us) Q X.xe s := by
  obtain ⟨nm, q, N, bs, bm, sn, sub, ab, col, dd, k0, k1, k2, k3, k5, hC, hbm⟩ := T.cls
  obtain ⟨t1, ho⟩ := exo_at I.hok e
  have hCC := I.kIn _ _ hC
  have FB := F.excBase_ValueError
  obtain ⟨hp, g, d, t, os⟩ := s
  refine wpAny_call (codeAny_of_tree ?_)
  show wpAny _ X.A.in1 (callAny (.ref u) ⟨us, []⟩) _ _ _
  simp only [callAny]
  refine wpAny_bind (wpAny_load hu ?_)
  simp only [PySem.W.kxs_mw, show (Value.type "method-wrapper" == Value.type "method" || Value.type "method-wrapper" == Value.type "builtin_function_or_method" || Value.type "method-wrapper" == Value.type "method-wrapper") = true by decide, if_true]
  refine PySem.W.KFB.if_so (by decide) ?_
  refine wpAny_bind (PySem.W.check_bound_init FB.toExcCallFacts hCC ho rfl ?_)
  refine wpAny_bind (wpAny_pure (wpAny_pure ?_))
  refine ⟨plainId_quiet FB.init.plain _, codeAny_builtin FB.initEntry ?_⟩
  refine PySem.W.exc_init_tree (cls := .ref C) (t0 := t1) (dv := none) (c2 := .none) (c3 := .none) (b4 := .bool false) ho hl fun h' k hx ht => ?_
  have J := I.write (t' := t) (x := a) (e := a) (o := exo a C none) (by rw [e]; exact True.intro) (.inl rfl) k ⟨_, hx⟩ (exo_ok hx)
  have eu : upd H a (exo a C none) = H := by
    funext b
    by_cases hb : b = a
    · rw [hb, upd_same, e]
    · rw [upd_ne hb]
  rw [eu] at J
  exact h _ J
section
variable {CX : CXT} {P : Program} {w : World} {K : PySem.W.Frag} {mg : Str → Option Value} {base : Heap} {k : Nat} {ps : List Str} {name qual : Str} {params : Arguments} {scope : Scope} {fI cc cda C : Addr} {dV kV doc pm ct oc : Value} {an od : Option Addr} {osl : Array (Option Value)} {sp : Sp}
  {e : Expr} {rest : List Stmt} {p0 p1 p2 p4 p5 : Pos} {ta : TA}
theorem init_ok (T : SupC P K mg C fI cc cda)
    (lk : K.lookup fI = some ⟨oc, od, .func (PySem.W.ksFn name qual params (.Expr (.Call (.Attribute (.Call (.Name "super" p0) [] [] p1) "__init__" p2) [e] [] p4) p5 :: rest) scope dV kV doc pm an (.ref cda) ct cc), osl⟩) (hcd : PySem.W.codeIn K (.ref cda) qual = true)
    (S : SupScope ((("self" : Str)) :: ps) scope) (hpar : ∃ ar, (params.posonlyargs ++ params.args).head? = some ar ∧ ar.arg = "self")
    (len : ∀ vs H Q E, sp vs H Q E → vs.length = ((("self" : Str)) :: ps).length)
    (ha : ∀ A outer s H E, PA (cxS CX P w K mg base ((("self" : Str)) :: ps) qual scope fI (.ref cda) cc A outer s H E) [e] ta)
    (hbody : ∀ (A : Around) (outer : List PySem.Env) (s : Shared) (H : Hp) (vs : List V) (Q : VK) (E : XK), sp vs H Q E → ∃ a xs, vs = .ref a :: xs ∧ H a = some (exo a C none) ∧
      ∃ t, PSs (cxS CX P w K mg base ((("self" : Str)) :: ps) qual scope fI (.ref cda) cc A outer s H E) rest t ∧ ta (L2.start ((("self" : Str)) :: ps) vs) H fun us H1 => us.length ≤ 1000 ∧ H1 a = some (exo a C none) ∧ t { nx := fun _ H' => Q .non H', rt := Q } (L2.start ((("self" : Str)) :: ps) vs) H1)
    (hs : ∀ env, swapsWith (.Call (.Attribute (.Call (.Name "super" p0) [] [] p1) "__init__" p2) [e] [] p4) none p5.line env = pure false)
    (hev : ∀ env, ∃ pl, eval (.Call (.Attribute (.Call (.Name "super" p0) [] [] p1) "__init__" p2) [e] [] p4) env = (do
      let ov ← attributeBase (.Call (.Name "super" p0) [] [] p1) "__init__" env (eval (.Call (.Name "super" p0) [] [] p1) env)
      standAt p2.atName
      let (f, first) ← holding [ov] (getMethod ov "__init__" pl)
      callWith p4 f first (backTo p4 (starEach [e] env)) []))
    (hst : ∀ env, starEach (e :: []) env = (false, eval e env) :: starEach [] env) :
    FnOk P w K mg base CX (k + 1) fI (PySem.W.ksFn name qual params (.Expr (.Call (.Attribute (.Call (.Name "super" p0) [] [] p1) "__init__" p2) [e] [] p4) p5 :: rest) scope dV kV doc pm an (.ref cda) ct cc) ((("self" : Str)) :: ps) sp := by
  refine ⟨len, fun A outer s H args us vs Q E hr e0 hb r hsp => ?_⟩
  have hl := len _ _ _ _ hsp
  have KX : K.In s.heap := e0.mod.kin.keeps fun b o e => (e0.bs b o e).1
  have lim : s.heap.NoLimit := e0.mod.nolimit.keeps fun b o e => (e0.bs b o e).1
  obtain ⟨clv, cld, csl, hcell⟩ := T.cell
  obtain ⟨ccl, cdd, cvs, ccs, file, tf, hcode, hvs, hfile⟩ := T.code
  obtain ⟨ar, hp, har⟩ := hpar
  obtain ⟨cdC, hcdC⟩ : ∃ cdC, PySem.W.clsIn K C = some cdC := by
    have := T.cls
    unfold PySem.W.isClsIn at this
    exact Option.isSome_iff_exists.mp this
  have hloc : ∀ y ∈ ((("self" : Str)) :: ps).zip us, scope.names.lookup y.1 = some .local := fun ⟨n, v⟩ hy => S.par n (List.of_mem_zip hy).1
  refine PySem.ks_codeAny_call_defAt (binds := ((("self" : Str)) :: ps).zip us) (body := .Expr (.Call (.Attribute (.Call (.Name "super" p0) [] [] p1) "__init__" p2) [e] [] p4) p5 :: rest) hr.depth (KX _ _ lk) rfl lim (PySem.W.codeRec_of KX hcd) rfl hb S.nocell hloc (fun h₀ hns hk => ?_) S.co S.gen S.kind
  have I : Inv (cxS CX P w K mg base ((("self" : Str)) :: ps) qual scope fI (.ref cda) cc A outer s H E) [] (L2.start ((("self" : Str)) :: ps) vs) H { s with heap := h₀, toks := s.toks + (((("self" : Str)) :: ps).zip us).length } := invS_start S hr.hd e0 hl r hcell hns hk
  obtain ⟨a, xs, rfl, hHa, t, ht, hq⟩ := hbody A outer s H vs Q E hsp
  have ha := ha A outer s H E
  obtain ⟨t1, ho⟩ := exo_at I.hok hHa
  obtain ⟨mb, hb1, hb2⟩ := I.mod.blt
  have kIn0 : K.In h₀ := KX.keeps hk
  have IA0 : PySem.W.InstAt h₀ a { cls := .ref C, dict := none, data := .fields #[.ref t1, .none, .none, .none, .bool false, .none] } C none := ⟨ho, rfl, rfl, trivial⟩
  have hxC : a ≠ C := PySem.W.ks_ne kIn0 IA0 hcdC
  obtain ⟨oD, hD1, hD2⟩ : ∃ oD, h₀.get? C = some oD ∧ oD.data = .cls cdC := by
    unfold PySem.W.clsIn at hcdC
    split at hcdC
    · rename_i c d cd' sl hoo
      cases hcdC
      exact ⟨_, kIn0 _ _ hoo, rfl⟩
    · cases hcdC
  have hini := T.ini
  unfold PySem.W.ks_superIn at hini
  rw [hcdC] at hini
  have hself : ∃ u0 us', us = u0 :: us' ∧ u0 = .ref a := by
    cases r with
    | cons rv rn => exact ⟨_, _, rfl, rv⟩
  obtain ⟨u0, us', rfl, rfl⟩ := hself
  refine PySem.ks_wpAt_execs_cons (PySem.ks_wpAt_Expr_any ?_ (by show interactive _ = false; simp [interactive, PySem.W.ksEnv, PySem.W.envX, callEnv, newEnv, S.kind]) (hs _))
  obtain ⟨pl, hev⟩ := hev (PySem.W.ksEnv qual scope s.heap.objs.size fI (.ref cda) cc)
  refine PySem.ks_wpAt_MethodCall (pl := pl) (PySem.ks_wpAt_super_base (env := PySem.W.ksEnv qual scope s.heap.objs.size fI (.ref cda) cc) S.sup S.cls (by decide) rfl (hk _ _ (KX _ _ lk)) rfl hp rfl (hk _ _ (KX _ _ hcode)) rfl hvs hfile T.top ?_) hev
  refine PySem.W.ks_loadName_global S.kind S.sup (Calls.loadGlobal_builtin (I.mod.glob.keeps I.bk) T.sup (hb1.keeps I.bk) ((hb2 _ (by decide)).trans (show bootBuiltins "super" = some (.type "super") from (by decide +kernel))) ⟨rfl, ?_⟩)
  refine wpAny_loadName_free S.kind S.cls (c := cc) rfl ⟨_, kIn0 _ _ hcell, rfl⟩ ?_
  rw [har]
  refine wpAny_loadName_local (v := .ref a) S.kind (S.par "self" List.mem_cons_self) hns (rev_lookup (i := 0) S.nd rfl rfl) ?_
  refine PySem.ks_wpAny_isType_cls hD1 hD2 ⟨rfl, ?_⟩
  refine PySem.ks_wpAny_call_super hD1 hD2 ho rfl (fun c z => by cases z) (PySem.W.looks_mroIn kIn0 T.sub) (fun h2 e2 k2 => ?_)
  have kIn2 : K.In h2 := kIn0.keeps k2
  have IA2 : PySem.W.InstAt h2 a { cls := .ref C, dict := none, data := .fields #[.ref t1, .none, .none, .none, .bool false, .none] } C none := ⟨k2 _ _ ho, rfl, rfl, trivial⟩
  refine PySem.W.kxs_getMethod PySem.W.kxs_ValueError e2 (PySem.W.looks_opaque kIn2 T.any) (l₀ := cdC.mro) (fun A Q E s k q => wpAny_bind ((PySem.W.looks_clsIn kIn2 hcdC) A _ E s k (wpAny_pure q))) rfl kIn2 hini (IA2.type.andThen (PySem.W.looks_subIn kIn2 T.isVE)) hxC (by decide) ?_
  have k3 : ∀ b o, h₀.get? b = some o → (h2.push (PySem.W.kxs_mw "ValueError.__init__" a)).get? b = some o := fun b o z => Heap.get?_push_of_some _ (k2 b o z)
  have I2 := I.kept (h' := h2) (t' := s.toks + (((("self" : Str)) :: ps).zip (Value.ref a :: us')).length + 1) k2
  have I3 := I2.kept (h' := h2.push (PySem.W.kxs_mw "ValueError.__init__" a)) (t' := s.toks + (((("self" : Str)) :: ps).zip (Value.ref a :: us')).length + 1) fun b o z => Heap.get?_push_of_some _ z
  have hu : (h2.push (PySem.W.kxs_mw "ValueError.__init__" a)).get? h2.objs.size = some (PySem.W.kxs_mw "ValueError.__init__" a) := Heap.get?_push_at rfl rfl
  have I4 := I3.pins_of (pins' := [(h2.objs.size, PySem.W.kxs_mw "ValueError.__init__" a)]) fun p hp => by
    rw [List.mem_singleton.mp hp]
    exact ⟨hu, I2.hok.fresh (Nat.le_refl _), Nat.ne_of_gt I2.lt, I2.nofs (Nat.le_refl _), fun v z => by cases z⟩
  rw [hst]
  refine PySem.W.kxs_callWith (i := "ValueError.__init__") (x := a) rfl (Calls.evalArgs_plain ?_)
  have hrun := ha.run p4 [(h2.objs.size, PySem.W.kxs_mw "ValueError.__init__" a)] _ _ _ _ I4 hq
  rw [show starEach [e] (cxS CX P w K mg base ((("self" : Str)) :: ps) qual scope fI (.ref cda) cc A outer s H E).env = (false, eval e _) :: starEach [] _ from hst _] at hrun
  refine wpAny_mono hrun (fun vs4 s4 ⟨ws, H4, J4, rv4, hl4, he4, q4⟩ => ?_) fun _ _ z => z
  have hu4 := (J4.pin (h2.objs.size, PySem.W.kxs_mw "ValueError.__init__" a) (List.mem_append_right _ List.mem_cons_self)).1
  refine ⟨hu4, ?_⟩
  have hlen : vs4.length ≤ sizeLine := by
    rw [← Paired.length rv4, sizeLine_eq]
    omega
  refine sup_call (X := cxS CX P w K mg base ((("self" : Str)) :: ps) qual scope fI (.ref cda) cc A outer s H E) (us := [] ++ vs4) T.ex J4 he4 hu4 hlen fun s5 J5 => ?_
  refine wpAt_of_wpAny ?_
  have J6 : Inv (cxS CX P w K mg base ((("self" : Str)) :: ps) qual scope fI (.ref cda) cc A outer s H E) [] (L2.start ((("self" : Str)) :: ps) (V.ref a :: xs)) H4 s5 := J5.pins_of fun p hp => absurd hp (by simp)
  refine wpAny_mono (ht.run [] s5 _ H4 _ J6 q4) (fun fl s' hs => ?_) fun e s' hs => hs
  have fin : ∀ {σ' : L2.St} {H' : Hp} {v : V} {u : Value}, Inv (cxS CX P w K mg base ((("self" : Str)) :: ps) qual scope fI (.ref cda) cc A outer s H E) [] σ' H' s' → RelV v u → Q v H' → CE outer P w H s Q u s' :=
    fun {σ' H' v u} J rv q => ⟨v, H', J.os, J.bare, J.base, J.hok, rv, q⟩
  cases fl with
  | ret u =>
    obtain ⟨v, σ', H', J, rv, q⟩ := hs
    exact fin J rv q
  | next =>
    obtain ⟨σ', H', J, q⟩ := hs
    exact fin (v := V.non) (u := Value.none) J rfl q
  | brk =>
    obtain ⟨_, _, _, q⟩ := hs
    exact False.elim q
  | cont =>
    obtain ⟨_, _, _, q⟩ := hs
    exact False.elim q
end
end Y


set_option Elab.async false
set_option linter.all false
set_option maxRecDepth 100000
set_option maxHeartbeats 4000000
/-! YX3: the exceptions of the program: InputError(code), TextError(code, at), Refused(name, place, why): made. -/
namespace Y
open PySem PySem.Spec PyProof.Rows L2
/-- a part of the text that super().__init__ is told -/
def okx : V → Prop
  | .str y => y.length ≤ 1000
  | .int i => i.natAbs < 10 ^ 100
  | _ => False
theorem okx_int {i : Int} (h : i.natAbs < 10 ^ 100) : i.natAbs.log2 < 1920 := by
  by_cases hz : i.natAbs = 0
  · rw [hz]; decide
  · refine (Nat.log2_lt hz).mpr (Nat.lt_of_lt_of_le h ?_)
    decide +kernel
/-- the parts of the f-string: told texts and parameters -/
inductive FPart where
  | lit (x : Str) | par (i : Nat)
def txtOf (x : V) : Str := match x with
  | .str y => y
  | .int i => toString i
  | _ => Str.empty
theorem txt_len {x : V} (h : okx x) : (txtOf x).length ≤ 1000 := by
  cases x with
  | str y => exact h
  | int i =>
    have := int_text_length_le10 (a := i) (k := 100) (by decide) h
    show (Str.ofString (toString i)).length ≤ _
    rw [PySem.ofString_length]
    omega
  | _ => exact h.elim
def Near (a dx : Addr) (H H' : Hp) : Prop := ∀ b, b ≠ a → b ≠ dx → H' b = H b
/-- an exception that is made: the fields of its dict -/
def spSup (C : Addr) (ps : List Str) : Sp := fun vs H Q _ => ∃ a xs, vs = .ref a :: xs ∧ xs.length = ps.length ∧ (∀ x ∈ xs, okx x) ∧ H a = some (exo a C none) ∧
  ∀ dx H', dx ≠ a → H dx = none → H' a = some (exo a C (some dx)) → H' dx = some (exd dx (ps.zip xs).reverse) → Near a dx H H' → Q .non H'
section
variable {X : Cx} {x1 x2 x3 : V} {z1 z2 : Str}
theorem fmt_at {i : Nat} {σ : L2.St} {H : Hp} {x : V} {R : V → Hp → Prop} (e : σ[i]? = some (some x)) (h : okx x) (q : R (.str (txtOf x)) H) : tFmt (tVar i) σ H R := by
  refine ⟨x, e, ?_⟩
  cases x with
  | str y => exact .inl ⟨y, rfl, by rw [sizeLine_eq]; exact Nat.le_trans h (by decide), q⟩
  | int i => exact .inr ⟨i, rfl, okx_int h, q⟩
  | _ => exact h.elim
end

section
variable {CX : CXT} {P : Program} {w : World} {K : PySem.W.Frag} {mg : Str → Option Value} {base : Heap} {k : Nat} {name qual : Str} {params : Arguments} {scope : Scope} {fI cc cda C : Addr} {dV kV doc pm ct oc : Value} {an od : Option Addr} {osl : Array (Option Value)}
theorem ka_var {N : List Str} {f : Addr} {cd : Value} {A : Around} {outer : List PySem.Env} {s : Shared} {H : Hp} {E : XK} {x : Str} {pos : Pos} (i : Nat) (S : SupScope N scope) (h : N[i]? = some x) (hd : (x == ("__debug__" : Str)) = false) (hcd : (x == ("__classdict__" : Str)) = false) : PE (cxS CX P w K mg base N qual scope f cd cc A outer s H E) (.Name x pos) (tVar i) :=
  pe_var (X := cxS CX P w K mg base N qual scope f cd cc A outer s H E) h (.inl (S.par x (List.mem_of_getElem? h))) hd hcd

theorem sup1_ok {f1 z1 : Str} {p0 p1 p2 p4 p5 q0 q01 q02 q03 r01 r02 r03 r04 : Pos} {j0 : Nat} (T : SupC P K mg C fI cc cda)
    (lk : K.lookup fI = some ⟨oc, od, .func (PySem.W.ksFn name qual params (.Expr (.Call (.Attribute (.Call (.Name "super" p0) [] [] p1) "__init__" p2) [.JoinedStr [.Constant (.str z1) j0 q01, .FormattedValue (.Name f1 q02) (-1) none q03] q0] [] p4) p5 :: [.Assign [.Attribute (.Name "self" r01) f1 r02] (.Name f1 r03) r04]) scope dV kV doc pm an (.ref cda) ct cc), osl⟩) (hcd : PySem.W.codeIn K (.ref cda) qual = true)
    (S : SupScope [("self" : Str), f1] scope) (hpar : ∃ ar, (params.posonlyargs ++ params.args).head? = some ar ∧ ar.arg = ("self" : Str)) (d0 : (f1 == ("__debug__" : Str)) = false) (e0 : (f1 == ("__classdict__" : Str)) = false) (n0 : PySem.W.findIn K (.ref C) f1 = some none) (l0 : z1.length ≤ 100)
    (hev : ∀ env, ∃ pl, eval (.Call (.Attribute (.Call (.Name "super" p0) [] [] p1) "__init__" p2) [.JoinedStr [.Constant (.str z1) j0 q01, .FormattedValue (.Name f1 q02) (-1) none q03] q0] [] p4) env = (do
      let ov ← attributeBase (.Call (.Name "super" p0) [] [] p1) "__init__" env (eval (.Call (.Name "super" p0) [] [] p1) env)
      standAt p2.atName
      let (f, first) ← holding [ov] (getMethod ov "__init__" pl)
      callWith p4 f first (backTo p4 (starEach [.JoinedStr [.Constant (.str z1) j0 q01, .FormattedValue (.Name f1 q02) (-1) none q03] q0] env)) [])) :
    FnOk P w K mg base CX (k + 1) fI (PySem.W.ksFn name qual params (.Expr (.Call (.Attribute (.Call (.Name "super" p0) [] [] p1) "__init__" p2) [.JoinedStr [.Constant (.str z1) j0 q01, .FormattedValue (.Name f1 q02) (-1) none q03] q0] [] p4) p5 :: [.Assign [.Attribute (.Name "self" r01) f1 r02] (.Name f1 r03) r04]) scope dV kV doc pm an (.ref cda) ct cc) [("self" : Str), f1] (spSup C [f1]) := by
  refine init_ok (ps := [f1]) (ta := tCons (fun σ H Q => tJs [tC (.str z1), tFmt (tVar 1)] Str.empty σ H fun out H1 => Q (.str out) H1) tNil) T lk hcd S hpar ?_ (fun A outer s H E => pa_cons (pe_joined (.cons pe_str (.cons (pe_fmt (ka_var 1 S rfl d0 e0)) PJ.nil))) pa_nil) ?_ (fun env => by rfl) hev (fun env => by rfl)
  · rintro vs H Q E ⟨a, xs, rfl, hl, _⟩
    simp [hl]
  · rintro A outer s H vs Q E ⟨a, xs, rfl, hl, hx, hH, kk⟩
    obtain ⟨x1, rfl⟩ : ∃ x1, xs = [x1] := by
      match xs, hl with
      | [x1], _ => exact ⟨x1, rfl⟩
    have g1 : okx x1 := hx _ (by simp)
    have t1 := txt_len g1
    refine ⟨a, [x1], rfl, hH, _, (pss_one (ps_ost (ka_var 0 S rfl (by decide) (by decide)) (ka_var 1 S rfl d0 e0) (by rfl))), ?_⟩
    have zl : (16777216 : Nat) = sizeLine := sizeLine_eq.symm
    have ze : Str.empty.length = 0 := rfl
    refine ⟨z1, rfl, by simp only [Str.length_append, ze]; omega, ?_⟩
    refine fmt_at (x := x1) rfl g1 ⟨_, rfl, by simp only [Str.length_append, ze]; omega, ?_⟩
    refine ⟨by simp, hH, ?_⟩
    refine ⟨x1, rfl, .ref a, rfl, a, C, rfl, T.ex, n0, .inl ⟨hH, fun dx hd hne => ?_⟩⟩
    have ea : ∀ (H2 : Hp), upd H2 a (exo a C (some dx)) a = some (exo a C (some dx)) := fun H2 => upd_same
    refine kk dx _ hne hd (by exact upd_same) (by rw [upd_ne hne]; exact upd_same) ?_
    intro b h1 h2
    exact (upd_ne h1).trans (upd_ne h2)

theorem sup2_ok {f1 f2 z1 z2 : Str} {p0 p1 p2 p4 p5 q0 q01 q02 q03 q11 q12 q13 r01 r02 r03 r04 r11 r12 r13 r14 : Pos} {j0 j1 : Nat} (T : SupC P K mg C fI cc cda)
    (lk : K.lookup fI = some ⟨oc, od, .func (PySem.W.ksFn name qual params (.Expr (.Call (.Attribute (.Call (.Name "super" p0) [] [] p1) "__init__" p2) [.JoinedStr [.Constant (.str z1) j0 q01, .FormattedValue (.Name f1 q02) (-1) none q03, .Constant (.str z2) j1 q11, .FormattedValue (.Name f2 q12) (-1) none q13] q0] [] p4) p5 :: [.Assign [.Attribute (.Name "self" r01) f1 r02] (.Name f1 r03) r04, .Assign [.Attribute (.Name "self" r11) f2 r12] (.Name f2 r13) r14]) scope dV kV doc pm an (.ref cda) ct cc), osl⟩) (hcd : PySem.W.codeIn K (.ref cda) qual = true)
    (S : SupScope [("self" : Str), f1, f2] scope) (hpar : ∃ ar, (params.posonlyargs ++ params.args).head? = some ar ∧ ar.arg = ("self" : Str)) (d0 : (f1 == ("__debug__" : Str)) = false) (e0 : (f1 == ("__classdict__" : Str)) = false) (n0 : PySem.W.findIn K (.ref C) f1 = some none) (l0 : z1.length ≤ 100) (d1 : (f2 == ("__debug__" : Str)) = false) (e1 : (f2 == ("__classdict__" : Str)) = false) (n1 : PySem.W.findIn K (.ref C) f2 = some none) (l1 : z2.length ≤ 100)
    (hev : ∀ env, ∃ pl, eval (.Call (.Attribute (.Call (.Name "super" p0) [] [] p1) "__init__" p2) [.JoinedStr [.Constant (.str z1) j0 q01, .FormattedValue (.Name f1 q02) (-1) none q03, .Constant (.str z2) j1 q11, .FormattedValue (.Name f2 q12) (-1) none q13] q0] [] p4) env = (do
      let ov ← attributeBase (.Call (.Name "super" p0) [] [] p1) "__init__" env (eval (.Call (.Name "super" p0) [] [] p1) env)
      standAt p2.atName
      let (f, first) ← holding [ov] (getMethod ov "__init__" pl)
      callWith p4 f first (backTo p4 (starEach [.JoinedStr [.Constant (.str z1) j0 q01, .FormattedValue (.Name f1 q02) (-1) none q03, .Constant (.str z2) j1 q11, .FormattedValue (.Name f2 q12) (-1) none q13] q0] env)) [])) :
    FnOk P w K mg base CX (k + 1) fI (PySem.W.ksFn name qual params (.Expr (.Call (.Attribute (.Call (.Name "super" p0) [] [] p1) "__init__" p2) [.JoinedStr [.Constant (.str z1) j0 q01, .FormattedValue (.Name f1 q02) (-1) none q03, .Constant (.str z2) j1 q11, .FormattedValue (.Name f2 q12) (-1) none q13] q0] [] p4) p5 :: [.Assign [.Attribute (.Name "self" r01) f1 r02] (.Name f1 r03) r04, .Assign [.Attribute (.Name "self" r11) f2 r12] (.Name f2 r13) r14]) scope dV kV doc pm an (.ref cda) ct cc) [("self" : Str), f1, f2] (spSup C [f1, f2]) := by
  refine init_ok (ps := [f1, f2]) (ta := tCons (fun σ H Q => tJs [tC (.str z1), tFmt (tVar 1), tC (.str z2), tFmt (tVar 2)] Str.empty σ H fun out H1 => Q (.str out) H1) tNil) T lk hcd S hpar ?_ (fun A outer s H E => pa_cons (pe_joined (.cons pe_str (.cons (pe_fmt (ka_var 1 S rfl d0 e0)) (.cons pe_str (.cons (pe_fmt (ka_var 2 S rfl d1 e1)) PJ.nil))))) pa_nil) ?_ (fun env => by rfl) hev (fun env => by rfl)
  · rintro vs H Q E ⟨a, xs, rfl, hl, _⟩
    simp [hl]
  · rintro A outer s H vs Q E ⟨a, xs, rfl, hl, hx, hH, kk⟩
    obtain ⟨x1, x2, rfl⟩ : ∃ x1 x2, xs = [x1, x2] := by
      match xs, hl with
      | [x1, x2], _ => exact ⟨x1, x2, rfl⟩
    have g1 : okx x1 := hx _ (by simp)
    have t1 := txt_len g1
    have g2 : okx x2 := hx _ (by simp)
    have t2 := txt_len g2
    refine ⟨a, [x1, x2], rfl, hH, _, (pss_cons (ps_ost (ka_var 0 S rfl (by decide) (by decide)) (ka_var 1 S rfl d0 e0) (by rfl)) (pss_one (ps_ost (ka_var 0 S rfl (by decide) (by decide)) (ka_var 2 S rfl d1 e1) (by rfl)))), ?_⟩
    have zl : (16777216 : Nat) = sizeLine := sizeLine_eq.symm
    have ze : Str.empty.length = 0 := rfl
    refine ⟨z1, rfl, by simp only [Str.length_append, ze]; omega, ?_⟩
    refine fmt_at (x := x1) rfl g1 ⟨_, rfl, by simp only [Str.length_append, ze]; omega, ?_⟩
    refine ⟨z2, rfl, by simp only [Str.length_append, ze]; omega, ?_⟩
    refine fmt_at (x := x2) rfl g2 ⟨_, rfl, by simp only [Str.length_append, ze]; omega, ?_⟩
    refine ⟨by simp, hH, ?_⟩
    refine ⟨x1, rfl, .ref a, rfl, a, C, rfl, T.ex, n0, .inl ⟨hH, fun dx hd hne => ?_⟩⟩
    have ea : ∀ (H2 : Hp), upd H2 a (exo a C (some dx)) a = some (exo a C (some dx)) := fun H2 => upd_same
    refine ⟨x2, rfl, .ref a, rfl, a, C, rfl, T.ex, n1, .inr ⟨dx, _, upd_same, (by rw [upd_ne hne]; exact upd_same), by simp, ?_⟩⟩
    refine kk dx _ hne hd (by rw [upd_ne (Ne.symm hne)]; exact upd_same) upd_same ?_
    intro b h1 h2
    rw [upd_ne h2]; exact (upd_ne h1).trans (upd_ne h2)

theorem sup3_ok {f1 f2 f3 z1 z2 z3 : Str} {p0 p1 p2 p4 p5 q0 q01 q02 q03 q11 q12 q13 q21 q22 q23 r01 r02 r03 r04 r11 r12 r13 r14 r21 r22 r23 r24 : Pos} {j0 j1 j2 : Nat} (T : SupC P K mg C fI cc cda)
    (lk : K.lookup fI = some ⟨oc, od, .func (PySem.W.ksFn name qual params (.Expr (.Call (.Attribute (.Call (.Name "super" p0) [] [] p1) "__init__" p2) [.JoinedStr [.Constant (.str z1) j0 q01, .FormattedValue (.Name f1 q02) (-1) none q03, .Constant (.str z2) j1 q11, .FormattedValue (.Name f2 q12) (-1) none q13, .Constant (.str z3) j2 q21, .FormattedValue (.Name f3 q22) (-1) none q23] q0] [] p4) p5 :: [.Assign [.Attribute (.Name "self" r01) f1 r02] (.Name f1 r03) r04, .Assign [.Attribute (.Name "self" r11) f2 r12] (.Name f2 r13) r14, .Assign [.Attribute (.Name "self" r21) f3 r22] (.Name f3 r23) r24]) scope dV kV doc pm an (.ref cda) ct cc), osl⟩) (hcd : PySem.W.codeIn K (.ref cda) qual = true)
    (S : SupScope [("self" : Str), f1, f2, f3] scope) (hpar : ∃ ar, (params.posonlyargs ++ params.args).head? = some ar ∧ ar.arg = ("self" : Str)) (d0 : (f1 == ("__debug__" : Str)) = false) (e0 : (f1 == ("__classdict__" : Str)) = false) (n0 : PySem.W.findIn K (.ref C) f1 = some none) (l0 : z1.length ≤ 100) (d1 : (f2 == ("__debug__" : Str)) = false) (e1 : (f2 == ("__classdict__" : Str)) = false) (n1 : PySem.W.findIn K (.ref C) f2 = some none) (l1 : z2.length ≤ 100) (d2 : (f3 == ("__debug__" : Str)) = false) (e2 : (f3 == ("__classdict__" : Str)) = false) (n2 : PySem.W.findIn K (.ref C) f3 = some none) (l2 : z3.length ≤ 100)
    (hev : ∀ env, ∃ pl, eval (.Call (.Attribute (.Call (.Name "super" p0) [] [] p1) "__init__" p2) [.JoinedStr [.Constant (.str z1) j0 q01, .FormattedValue (.Name f1 q02) (-1) none q03, .Constant (.str z2) j1 q11, .FormattedValue (.Name f2 q12) (-1) none q13, .Constant (.str z3) j2 q21, .FormattedValue (.Name f3 q22) (-1) none q23] q0] [] p4) env = (do
      let ov ← attributeBase (.Call (.Name "super" p0) [] [] p1) "__init__" env (eval (.Call (.Name "super" p0) [] [] p1) env)
      standAt p2.atName
      let (f, first) ← holding [ov] (getMethod ov "__init__" pl)
      callWith p4 f first (backTo p4 (starEach [.JoinedStr [.Constant (.str z1) j0 q01, .FormattedValue (.Name f1 q02) (-1) none q03, .Constant (.str z2) j1 q11, .FormattedValue (.Name f2 q12) (-1) none q13, .Constant (.str z3) j2 q21, .FormattedValue (.Name f3 q22) (-1) none q23] q0] env)) [])) :
    FnOk P w K mg base CX (k + 1) fI (PySem.W.ksFn name qual params (.Expr (.Call (.Attribute (.Call (.Name "super" p0) [] [] p1) "__init__" p2) [.JoinedStr [.Constant (.str z1) j0 q01, .FormattedValue (.Name f1 q02) (-1) none q03, .Constant (.str z2) j1 q11, .FormattedValue (.Name f2 q12) (-1) none q13, .Constant (.str z3) j2 q21, .FormattedValue (.Name f3 q22) (-1) none q23] q0] [] p4) p5 :: [.Assign [.Attribute (.Name "self" r01) f1 r02] (.Name f1 r03) r04, .Assign [.Attribute (.Name "self" r11) f2 r12] (.Name f2 r13) r14, .Assign [.Attribute (.Name "self" r21) f3 r22] (.Name f3 r23) r24]) scope dV kV doc pm an (.ref cda) ct cc) [("self" : Str), f1, f2, f3] (spSup C [f1, f2, f3]) := by
  refine init_ok (ps := [f1, f2, f3]) (ta := tCons (fun σ H Q => tJs [tC (.str z1), tFmt (tVar 1), tC (.str z2), tFmt (tVar 2), tC (.str z3), tFmt (tVar 3)] Str.empty σ H fun out H1 => Q (.str out) H1) tNil) T lk hcd S hpar ?_ (fun A outer s H E => pa_cons (pe_joined (.cons pe_str (.cons (pe_fmt (ka_var 1 S rfl d0 e0)) (.cons pe_str (.cons (pe_fmt (ka_var 2 S rfl d1 e1)) (.cons pe_str (.cons (pe_fmt (ka_var 3 S rfl d2 e2)) PJ.nil))))))) pa_nil) ?_ (fun env => by rfl) hev (fun env => by rfl)
  · rintro vs H Q E ⟨a, xs, rfl, hl, _⟩
    simp [hl]
  · rintro A outer s H vs Q E ⟨a, xs, rfl, hl, hx, hH, kk⟩
    obtain ⟨x1, x2, x3, rfl⟩ : ∃ x1 x2 x3, xs = [x1, x2, x3] := by
      match xs, hl with
      | [x1, x2, x3], _ => exact ⟨x1, x2, x3, rfl⟩
    have g1 : okx x1 := hx _ (by simp)
    have t1 := txt_len g1
    have g2 : okx x2 := hx _ (by simp)
    have t2 := txt_len g2
    have g3 : okx x3 := hx _ (by simp)
    have t3 := txt_len g3
    refine ⟨a, [x1, x2, x3], rfl, hH, _, (pss_cons (ps_ost (ka_var 0 S rfl (by decide) (by decide)) (ka_var 1 S rfl d0 e0) (by rfl)) (pss_cons (ps_ost (ka_var 0 S rfl (by decide) (by decide)) (ka_var 2 S rfl d1 e1) (by rfl)) (pss_one (ps_ost (ka_var 0 S rfl (by decide) (by decide)) (ka_var 3 S rfl d2 e2) (by rfl))))), ?_⟩
    have zl : (16777216 : Nat) = sizeLine := sizeLine_eq.symm
    have ze : Str.empty.length = 0 := rfl
    refine ⟨z1, rfl, by simp only [Str.length_append, ze]; omega, ?_⟩
    refine fmt_at (x := x1) rfl g1 ⟨_, rfl, by simp only [Str.length_append, ze]; omega, ?_⟩
    refine ⟨z2, rfl, by simp only [Str.length_append, ze]; omega, ?_⟩
    refine fmt_at (x := x2) rfl g2 ⟨_, rfl, by simp only [Str.length_append, ze]; omega, ?_⟩
    refine ⟨z3, rfl, by simp only [Str.length_append, ze]; omega, ?_⟩
    refine fmt_at (x := x3) rfl g3 ⟨_, rfl, by simp only [Str.length_append, ze]; omega, ?_⟩
    refine ⟨by simp, hH, ?_⟩
    refine ⟨x1, rfl, .ref a, rfl, a, C, rfl, T.ex, n0, .inl ⟨hH, fun dx hd hne => ?_⟩⟩
    have ea : ∀ (H2 : Hp), upd H2 a (exo a C (some dx)) a = some (exo a C (some dx)) := fun H2 => upd_same
    refine ⟨x2, rfl, .ref a, rfl, a, C, rfl, T.ex, n1, .inr ⟨dx, _, upd_same, (by rw [upd_ne hne]; exact upd_same), by simp, ?_⟩⟩
    refine ⟨x3, rfl, .ref a, rfl, a, C, rfl, T.ex, n2, .inr ⟨dx, _, (by rw [upd_ne (Ne.symm hne)]; exact upd_same), upd_same, by simp, ?_⟩⟩
    refine kk dx _ hne hd (by rw [upd_ne (Ne.symm hne)]; rw [upd_ne (Ne.symm hne)]; exact upd_same) upd_same ?_
    intro b h1 h2
    rw [upd_ne h2]; rw [upd_ne h2]; exact (upd_ne h1).trans (upd_ne h2)
end
end Y


set_option Elab.async false
set_option linter.all false
set_option maxRecDepth 100000
set_option maxHeartbeats 4000000
/-! YX4: raise, try, calls that may raise: the readings. -/
namespace Y
open PySem PySem.Spec PyProof.Rows L2
/-- what is wanted of an exception, at the names' values -/
abbrev DW := Env → DX
def upX (K : PySem.W.Frag) (B : Hp) (W : DW) : WX := fun cls d σ H => ∃ F M δ fs dx vs, Le B F ∧ Stt K H F M ∧ RepS K F σ δ ∧ d = some dx ∧ F dx = some (.xd vs) ∧ RepKV K F vs fs ∧ W δ cls fs M
/-- a call's exception, at the caller's names -/
theorem LX.up {K : PySem.W.Frag} {B F : Hp} {W : DW} {σ : Sg} {δ : Env} (lb : Le B F) (rs : RepS K F σ δ) : ∀ c od H', LX K F (W δ) c od H' → upX K B W c od σ H' := fun c od H' ⟨F', M', fs, dx, vs, l, S, e, h, r, w⟩ => ⟨F', M', δ, fs, dx, vs, lb.trans l, S, rs.le l, e, h, r, w⟩

section
variable {X : Cx} {B : Hp} {W : DW} {x m : Str} {p pos apos : Pos} {e o : Expr} {es : List Expr} {t : DA} {ta : DE} {j k : Nat} {ps : List Str} {s : DSp}
/-- f(..), f may raise -/
def dCallX (W : DW) (s : DSp) (t : DA) : DE := fun δ M Q => t δ M fun ds M1 => s ds M1 Q (W δ)
theorem up_callX {K : PySem.W.Frag} {σ : Sg} {H : Hp} {Q : VK} (h : up K B (dCallX W s t) σ H Q) : tCallS (spOf K s) (WE (upX K B W)) (upA K B t) σ H Q := by
  obtain ⟨F, M, δ, Q', lb, S, rs, h, kk⟩ := h
  refine ⟨F, M, δ, _, lb, S, rs, h, fun vs H1 ⟨F1, M1, ds, l1, S1, r1, h1⟩ => ?_⟩
  exact ⟨F1, M1, ds, _, _, S1, r1, h1, fun v H' q => kk v H' (q.le l1), LX.up (lb.trans l1) (rs.le l1)⟩
theorem q_cX (c : Cal X.prog X.w X.K X.mg X.base (L2.CX X.prog X.w) j x ps s) (hr : Room k X.A) (hk : j ≤ k) (hg : Gl X x) (tk : Takes X (upX X.K B W)) (ha : PA X (e :: es) (upA X.K B t))
    (hd : (x == ("__debug__" : Str)) = false := by decide) (he : starEach (e :: es) X.env = (false, eval e X.env) :: starEach es X.env := by rfl) (hpl : (backTo pos (starEach es X.env)).any (·.1) = false := by rfl) : PE X (.Call (.Name x p) (e :: es) [] pos) (up X.K B (dCallX W s t)) :=
  let ⟨_, _, a, b, d, F⟩ := c.ex
  PE.wk (pe_callS F (hr.mono hk) hg a b d (fun σ => passAt tk σ) ha hd he hpl) fun _ _ _ h => up_callX h
/-- f(..), f may raise, but does not here -/
theorem q_cN (c : Cal X.prog X.w X.K X.mg X.base (L2.CX X.prog X.w) j x ps s) (hr : Room k X.A) (hk : j ≤ k) (hg : Gl X x) (ha : PA X (e :: es) (upA X.K B t))
    (hd : (x == ("__debug__" : Str)) = false := by decide) (he : starEach (e :: es) X.env = (false, eval e X.env) :: starEach es X.env := by rfl) (hpl : (backTo pos (starEach es X.env)).any (·.1) = false := by rfl) : PE X (.Call (.Name x p) (e :: es) [] pos) (up X.K B (dCall s t)) :=
  let ⟨_, _, a, b, d, F⟩ := c.ex
  q_call F (hr.mono hk) hg a b d passL ha hd he hpl

/-! ### methods that may raise -/
def tMethS' (C : Addr) (m : Str) (sp : Sp) (E : L2.St → XK) (ta : TE) (t : TA) : TE := fun σ H Q => ta σ H fun x H1 => ∃ a dx fs, x = .ref a ∧ H1 a = some (.ins C dx fs) ∧ fs.lookup m = none ∧ t σ H1 fun vs H2 => sp (x :: vs) H2 Q (E σ)
section
variable {CX : CXT} {C f : Addr} {fd : FuncData} {sp : Sp} {E : L2.St → XK} {tb : TE} {tt : TA}
theorem pe_methX {pl : Sem Bool} (he : PE X o tb) (c : Cls X.K C) (hm : Meth X.K C m f) (F : FnOk X.prog X.w X.K X.mg X.base CX k f fd ps sp) (hr : Room k X.A) (hb : Binds X.K fd ps []) (hx : ∀ σ, PassesAt CX X σ (E σ)) (ha : PA X (e :: es) tt)
    (hst : starEach (e :: es) X.env = (false, eval e X.env) :: starEach es X.env := by rfl) (hpl : (backTo pos (starEach es X.env)).any (·.1) = false := by rfl)
    (ht : eval (.Call (.Attribute o m apos) (e :: es) [] pos) X.env = (do
      let ov ← eval o X.env
      standAt apos.atName
      let (f, first) ← holding [ov] (getMethod ov m pl)
      callWith pos f first (backTo pos (starEach (e :: es) X.env)) (backToKw pos (keywordEach [] X.env))) := by rfl) :
    PE X (.Call (.Attribute o m apos) (e :: es) [] pos) (tMethS' C m sp E tb tt) := by
  refine ⟨fun pins s σ H Q I h => ?_⟩
  refine PySem.W.methodCall_KW (pl := pl) (thn (he.run pins s σ H _ I h) fun u s1 ⟨x, H1, I1, rx, a, dx, fs, ex, ea, l, q⟩ => ?_) ht
  subst ex
  obtain rfl : u = Value.ref a := rx
  refine getmeth_ok I1 ea c hm l ?_
  refine PySem.W.callWith_K (first := [.ref a]) (h₀ := X.base) I.ok.mod.kin hm.kp (thn (ha.run pos pins s1 σ H1 _ I1 q) fun us s2 ⟨vs, H2, I2, r, q2⟩ => ⟨I2.kIn, ?_⟩) hst hpl
  exact run_fnS (us := .ref a :: us) (vs := .ref a :: vs) F hr hb (hx σ) I2 (.cons rfl r) q2
theorem pe_methX0 {pl : Sem Bool} (he : PE X o tb) (c : Cls X.K C) (hm : Meth X.K C m f) (F : FnOk X.prog X.w X.K X.mg X.base CX k f fd ps sp) (hr : Room k X.A) (hb : Binds X.K fd ps []) (hx : ∀ σ, PassesAt CX X σ (E σ))
    (ht : eval (.Call (.Attribute o m apos) [] [] pos) X.env = (do
      let ov ← eval o X.env
      standAt apos.atName
      let (f, first) ← holding [ov] (getMethod ov m pl)
      callWith pos f first (backTo pos (starEach [] X.env)) (backToKw pos (keywordEach [] X.env))) := by rfl) :
    PE X (.Call (.Attribute o m apos) [] [] pos) (tMethS' C m sp E tb tNil) := by
  refine ⟨fun pins s σ H Q I h => ?_⟩
  refine PySem.W.methodCall_KW (pl := pl) (thn (he.run pins s σ H _ I h) fun u s1 ⟨x, H1, I1, rx, a, dx, fs, ex, ea, l, q⟩ => ?_) ht
  subst ex
  obtain rfl : u = Value.ref a := rx
  refine getmeth_ok I1 ea c hm l ?_
  exact PySem.W.callWith_K0 (first := [.ref a]) I1.kIn hm.kp (run_fnS (us := [.ref a]) (vs := [.ref a]) F hr hb (hx σ) I1 (.cons rfl .nil) q)
end
def dMethX (W : DW) (C : Addr) (m : Str) (s : DSp) (ta : DE) (t : DA) : DE := fun δ M Q => ta δ M fun x M1 => ∃ a dx fs, x = .ref a ∧ M1 a = some (.ins C dx fs) ∧ fs.lookup m = none ∧ t δ M1 fun ds M2 => s (x :: ds) M2 Q (W δ)
theorem q_mcX {C : Addr} {pl : Sem Bool} (he : PE X o (up X.K B ta)) (c : Mcal X.prog X.w X.K X.mg X.base (L2.CX X.prog X.w) j C m ps s) (cl : Cls X.K C) (hr : Room k X.A) (hk : j ≤ k) (tk : Takes X (upX X.K B W)) (ha : PA X (e :: es) (upA X.K B t))
    (hst : starEach (e :: es) X.env = (false, eval e X.env) :: starEach es X.env := by rfl) (hpl : (backTo pos (starEach es X.env)).any (·.1) = false := by rfl)
    (ht : eval (.Call (.Attribute o m apos) (e :: es) [] pos) X.env = (do
      let ov ← eval o X.env
      standAt apos.atName
      let (f, first) ← holding [ov] (getMethod ov m pl)
      callWith pos f first (backTo pos (starEach (e :: es) X.env)) (backToKw pos (keywordEach [] X.env))) := by rfl) :
    PE X (.Call (.Attribute o m apos) (e :: es) [] pos) (up X.K B (dMethX W C m s ta t)) :=
  let ⟨_, _, a, b, F⟩ := c.ex
  PE.wk (pe_methX (pl := pl) he cl a F (hr.mono hk) b (fun σ => passAt tk σ) ha hst hpl ht) fun σ H Q ⟨F, M, δ, Q', lb, S, rs, h, k⟩ => ⟨F, M, δ, _, lb, S, rs, h, fun x H1 ⟨F1, M1, d1, l1, S1, r1, a, dx, fs, e, em, hl, h1⟩ => by
    subst e
    cases r1
    obtain ⟨xs, hx, rx⟩ := muI S1 em
    refine ⟨a, dx, xs, rfl, hx, lookup_none rx hl, F1, M1, δ, _, lb.trans l1, S1, rs.le l1, h1, fun vs H2 ⟨F2, M2, ds, l2, S2, r2, h2⟩ => ?_⟩
    exact ⟨F2, M2, _, _, _, S2, .cons (.v _) r2, h2, fun v H' q => k v H' (q.le (l1.trans l2)), LX.up (lb.trans (l1.trans l2)) (rs.le (l1.trans l2))⟩⟩
theorem q_mc0X {C : Addr} {pl : Sem Bool} (he : PE X o (up X.K B ta)) (c : Mcal X.prog X.w X.K X.mg X.base (L2.CX X.prog X.w) j C m ps s) (cl : Cls X.K C) (hr : Room k X.A) (hk : j ≤ k) (tk : Takes X (upX X.K B W))
    (ht : eval (.Call (.Attribute o m apos) [] [] pos) X.env = (do
      let ov ← eval o X.env
      standAt apos.atName
      let (f, first) ← holding [ov] (getMethod ov m pl)
      callWith pos f first (backTo pos (starEach [] X.env)) (backToKw pos (keywordEach [] X.env))) := by rfl) :
    PE X (.Call (.Attribute o m apos) [] [] pos) (up X.K B (dMethX W C m s ta dNil)) :=
  let ⟨_, _, a, b, F⟩ := c.ex
  PE.wk (pe_methX0 (pl := pl) he cl a F (hr.mono hk) b (fun σ => passAt tk σ) ht) fun σ H Q ⟨F, M, δ, Q', lb, S, rs, h, k⟩ => ⟨F, M, δ, _, lb, S, rs, h, fun x H1 ⟨F1, M1, d1, l1, S1, r1, a, dx, fs, e, em, hl, h1⟩ => by
    subst e
    cases r1
    obtain ⟨xs, hx, rx⟩ := muI S1 em
    exact ⟨a, dx, xs, rfl, hx, lookup_none rx hl, F1, M1, _, _, _, S1, .cons (.v _) .nil, h1, fun v H' q => k v H' (q.le l1), LX.up (lb.trans l1) (rs.le l1)⟩⟩
theorem q_mcN {C : Addr} {pl : Sem Bool} (he : PE X o (up X.K B ta)) (c : Mcal X.prog X.w X.K X.mg X.base (L2.CX X.prog X.w) j C m ps s) (cl : Cls X.K C) (hr : Room k X.A) (hk : j ≤ k) (ha : PA X (e :: es) (upA X.K B t))
    (hst : starEach (e :: es) X.env = (false, eval e X.env) :: starEach es X.env := by rfl) (hpl : (backTo pos (starEach es X.env)).any (·.1) = false := by rfl)
    (ht : eval (.Call (.Attribute o m apos) (e :: es) [] pos) X.env = (do
      let ov ← eval o X.env
      standAt apos.atName
      let (f, first) ← holding [ov] (getMethod ov m pl)
      callWith pos f first (backTo pos (starEach (e :: es) X.env)) (backToKw pos (keywordEach [] X.env))) := by rfl) :
    PE X (.Call (.Attribute o m apos) (e :: es) [] pos) (up X.K B (dMeth C m s ta t)) :=
  let ⟨_, _, a, b, F⟩ := c.ex
  q_meth (pl := pl) he cl a F (hr.mono hk) b passL ha hst hpl ht
theorem q_mc0N {C : Addr} {pl : Sem Bool} (he : PE X o (up X.K B ta)) (c : Mcal X.prog X.w X.K X.mg X.base (L2.CX X.prog X.w) j C m ps s) (cl : Cls X.K C) (hr : Room k X.A) (hk : j ≤ k)
    (ht : eval (.Call (.Attribute o m apos) [] [] pos) X.env = (do
      let ov ← eval o X.env
      standAt apos.atName
      let (f, first) ← holding [ov] (getMethod ov m pl)
      callWith pos f first (backTo pos (starEach [] X.env)) (backToKw pos (keywordEach [] X.env))) := by rfl) :
    PE X (.Call (.Attribute o m apos) [] [] pos) (up X.K B (dMeth C m s ta dNil)) :=
  let ⟨_, _, a, b, F⟩ := c.ex
  q_meth0 (pl := pl) he cl a F (hr.mono hk) b passL ht

/-! ### raise -/
structure Xcal (P : Program) (w : World) (K : PySem.W.Frag) (mg : Str → Option Value) (base : Heap) (k : Nat) (x : Str) (C : Addr) (fs : List Str) : Prop where
  ex : ∃ fI fd ps, OexC K C ∧ PySem.W.findIn K (.ref C) "__init__" = some (some (.ref fI)) ∧ PySem.W.typeIn K (.ref fI) = some (.type "function") ∧ mg x = some (.ref C) ∧ L2.Binds K fd ps [] ∧ FnOk P w K mg base CX0 k fI fd ps (spSup C fs)
def okxD : D → Prop
  | .v x => okx x
  | _ => False
def dRaise (W : DW) (C : Addr) (fs : List Str) (t : DA) : DS := fun _ δ M => t δ M fun ds M1 => ds.length = fs.length ∧ (∀ d ∈ ds, okxD d) ∧ W δ (.ref C) (fs.zip ds).reverse M1
theorem repKV_zip {K : PySem.W.Frag} {F : Hp} : ∀ {fs : List Str} {vs : List V} {ds : List D}, RepL K F vs ds → RepKV K F (fs.zip vs) (fs.zip ds)
  | [], _, _, _ => by simp only [List.zip_nil_left]; exact .nil
  | f :: fs, _, _, .nil => by simp only [List.zip_nil_right]; exact .nil
  | f :: fs, _, _, .cons a b => .cons ⟨rfl, a⟩ (repKV_zip b)
theorem paired_append {α β : Type} {R : α → β → Prop} {xs : List α} {ys : List β} {xs' : List α} {ys' : List β} (h : Paired R xs ys) (h' : Paired R xs' ys') : Paired R (xs ++ xs') (ys ++ ys') := by
  induction h with
  | nil => exact h'
  | cons a _ ih => exact .cons a ih
theorem repKV_rev {K : PySem.W.Frag} {F : Hp} {κ : Type} {xs : List (κ × V)} {ds : List (κ × D)} (h : RepKV K F xs ds) : RepKV K F xs.reverse ds.reverse := by
  unfold RepKV at *
  induction h with
  | nil => exact .nil
  | cons a _ ih =>
    simp only [List.reverse_cons]
    exact paired_append ih (.cons a .nil)
theorem okx_of {K : PySem.W.Frag} {F : Hp} : ∀ {vs : List V} {ds : List D}, RepL K F vs ds → (∀ d ∈ ds, okxD d) → ∀ x ∈ vs, okx x
  | _, _, .nil, _, _, h => by cases h
  | _, _, .cons a b, h, x, hx => by
    rcases List.mem_cons.mp hx with e | e
    · subst e
      have := h _ List.mem_cons_self
      cases a with
      | v => exact this
      | tup => exact this.elim
      | lst => exact this.elim
    · exact okx_of b (fun d hd => h d (List.mem_cons_of_mem _ hd)) x e
theorem qs_raise {C : Addr} {fs : List Str} {pos2 : Pos} (hc : X.calm = true) (T : Xcal X.prog X.w X.K X.mg X.base j x C fs) (hr : Room k X.A) (hk : j + 1 ≤ k) (hg : Gl X x) (tk : Takes X (upX X.K B W)) (hfs : fs.length ≤ 1000) (ha : PA X (e :: es) (upA X.K B t))
    (hd : (x == ("__debug__" : Str)) = false := by decide) (he : starEach (e :: es) X.env = (false, eval e X.env) :: starEach es X.env := by rfl) (hpl : (backTo pos (starEach es X.env)).any (·.1) = false := by rfl) : PS X (.Raise (some (.Call (.Name x p) (e :: es) [] pos)) none pos2) (upS X.K B (dRaise W C fs t)) :=
  let ⟨_, _, _, T1, iC, tI, hm, hb, F1⟩ := T.ex
  PS.wk (ps_raise hc tk (pmk_oex T1 iC tI F1 (hr.mono hk) hb .nil pass0 hg hm ha hd he hpl)) fun E σ H ⟨F, M, δ, E', lb, S, rs, h, _⟩ => ⟨F, M, δ, _, lb, S, rs, h, fun vs H1 ⟨F1, M1, ds, l1, S1, r1, hl, hx, hw⟩ => by
    refine ⟨by rw [r1.length]; omega, fun a ha => ?_⟩
    rw [List.append_nil]
    refine ⟨a, vs, rfl, by rw [r1.length]; exact hl, okx_of r1 hx, upd_same, fun dx H' hne hd e1 e2 hn => ⟨rfl, dx, _, e1, e2, ?_, ?_⟩⟩
    · rwa [upd_ne hne] at hd
    · have hd1 : H1 dx = none := by rwa [upd_ne hne] at hd
      have eh : upd (del H' a) dx (.xd (fs.zip vs).reverse) = upd H1 dx (.xd (fs.zip vs).reverse) := by
        funext b
        by_cases q1 : b = dx
        · subst q1; rw [upd_same, upd_same]
        · rw [upd_ne q1, upd_ne q1]
          by_cases q2 : b = a
          · subst q2; rw [del_same, ha]
          · rw [del_ne q2, hn b q2 q1, upd_ne q2]
      rw [eh]
      have f0 := (S1.free hd1).1
      have l2 := le_upd (o := (.xd (fs.zip vs).reverse)) f0
      exact ⟨_, M1, δ, _, dx, _, lb.trans (l1.trans l2), S1.still hd1, rs.le (l1.trans l2), rfl, upd_same, (repKV_rev (repKV_zip r1)).le l2, hw⟩⟩
end

/-! ### try -/
section
variable {X : Cx} {B : Hp} {x n : Str} {c : Value} {i : Nat} {body suite : List Stmt} {b₀ : Stmt} {np pos pos' : Pos} {tb : DW → DS} {ts : Addr → Value → List (Str × D) → DS} {Wout : DW}
def wAsD (K : PySem.W.Frag) (c : Value) (i : Nat) (ts : Addr → Value → List (Str × D) → DS) (Wout : DW) (E : DEnds) : DW := fun δ cls fs M => ∃ b, PySem.W.exmOne K cls c = some b ∧
  (b = true → ∀ a, M a = none → ts a cls fs { nx := fun δ' M' => E.nx (δ'.set i none) M', rt := E.rt, bk := fun δ' M' => E.bk (δ'.set i none) M', ct := fun δ' M' => E.ct (δ'.set i none) M' } (δ.set i (some (.ref a))) M) ∧ (b = false → Wout δ cls fs M)
def wOnlyD (K : PySem.W.Frag) (c : Value) (ts : Addr → Value → List (Str × D) → DS) (Wout : DW) (E : DEnds) : DW := fun δ cls fs M => ∃ b, PySem.W.exmOne K cls c = some b ∧
  (b = true → ∀ a, M a = none → ts a cls fs E δ M) ∧ (b = false → Wout δ cls fs M)
def dTryAs (K : PySem.W.Frag) (c : Value) (i : Nat) (tb : DW → DS) (ts : Addr → Value → List (Str × D) → DS) (Wout : DW) : DS := fun E δ M => tb (wAsD K c i ts Wout E) E δ M
def dTryOnly (K : PySem.W.Frag) (c : Value) (tb : DW → DS) (ts : Addr → Value → List (Str × D) → DS) (Wout : DW) : DS := fun E δ M => tb (wOnlyD K c ts Wout E) E δ M
/-- a try's body, for any wish that what is known of the data serves -/
def tBody (K : PySem.W.Frag) (tb : DW → DS) (W : WX) : TS := fun D σ H => ∃ (B' : Hp) (WD : DW), (∀ cls d σ H, upX K B' WD cls d σ H → W cls d σ H) ∧ upS K B' (tb WD) D σ H
/-- an except suite: what the caught exception's dict holds stands in the base -/
def tSuite (K : PySem.W.Frag) (ts : Addr → Value → List (Str × D) → DS) (a : Addr) (cls : Value) (d : Option Addr) : TS := fun EE σ H => ∃ (B1 : Hp) (dx : Addr) (vs : List (Str × V)) (fs : List (Str × D)), d = some dx ∧ B1 dx = some (.xd vs) ∧ RepKV K B1 vs fs ∧ upS K B1 (ts a cls fs) EE σ H
theorem body_of (hb : ∀ (W : DW) (B' : Hp) (pn : List (Addr × Obj)) (xe : Value → Shared → Prop), Takes (X.tr pn xe) (upX X.K B' W) → PassesOwn (model X.prog X.w) X.A X.env xe → PSs (X.tr pn xe) body (upS X.K B' (tb W))) :
    ∀ (W : WX) (pn : List (Addr × Obj)) (xe : Value → Shared → Prop), Takes (X.tr pn xe) W → PassesOwn (model X.prog X.w) X.A X.env xe → PSs (X.tr pn xe) body (tBody X.K tb W) := fun W pn xe tk hp =>
  ⟨fun pins s σ H D I ⟨B', WD, imp, h⟩ => (hb WD B' pn xe (tk.imp imp) hp).run pins s σ H D I h⟩
theorem suite_of (hsu : ∀ (a : Addr) (oe : Obj) (cls : Value) (dx : Addr) (pn : List (Addr × Obj)) (B1 : Hp) (vs : List (Str × V)) (fs : List (Str × D)), Zc cls (some dx) oe → (∃ vs, oe.data = .fields vs) → B1 dx = some (.xd vs) → RepKV X.K B1 vs fs → PSs (X.suite a ((a, oe) :: pn)) suite (upS X.K B1 (ts a cls fs))) :
    ∀ (a : Addr) (oe : Obj) (cls : Value) (d : Option Addr) (pn : List (Addr × Obj)), Zc cls d oe → (∃ vs, oe.data = .fields vs) → PSs (X.suite a ((a, oe) :: pn)) suite (tSuite X.K ts a cls d) := fun a oe cls d pn hz hf =>
  ⟨fun pins s σ H D I ⟨B1, dx, vs, fs, e, h1, h2, h⟩ => by subst e; exact (hsu a oe cls dx pn B1 vs fs hz hf h1 h2).run pins s σ H D I h⟩
theorem qs_try_as (hs : X.stack = X.env :: X.outer) (hf : X.env.frame = some X.env.locals) (hN : X.N.Nodup) (hi : X.N[i]? = some n) (hln : X.env.kindOf n = some .local) (hc : Names X x c) (tk : Takes X (upX X.K B Wout))
    (hb : ∀ (W : DW) (B' : Hp) (pn : List (Addr × Obj)) (xe : Value → Shared → Prop), Takes (X.tr pn xe) (upX X.K B' W) → PassesOwn (model X.prog X.w) X.A X.env xe → PSs (X.tr pn xe) body (upS X.K B' (tb W)))
    (hsu : ∀ (a : Addr) (oe : Obj) (cls : Value) (dx : Addr) (pn : List (Addr × Obj)) (B1 : Hp) (vs : List (Str × V)) (fs : List (Str × D)), Zc cls (some dx) oe → (∃ vs, oe.data = .fields vs) → B1 dx = some (.xd vs) → RepKV X.K B1 vs fs → PSs (X.suite a ((a, oe) :: pn)) (b₀ :: suite) (upS X.K B1 (ts a cls fs))) :
    PS X (.Try body [.ExceptHandler (some (.Name x np)) (some n) (b₀ :: suite) pos'] [] [] pos) (upS X.K B (dTryAs X.K c i tb ts Wout)) :=
  PS.wk (ps_try_as hs hf hN hi hln hc tk (body_of hb) (suite_of hsu)) fun D σ H ⟨F, M, δ, E', lb, S, rs, h, k1, k2, k3, k4⟩ =>
    ⟨F, wAsD X.K c i ts Wout E', fun cls d σ1 H1 ⟨F1, M1, δ1, fs, dx, vs, l1, S1, r1, ed, hx, rx, b, hb1, hy, hn⟩ => ⟨b, hb1, fun e a ha => ⟨F1, dx, vs, fs, ed, hx, rx, F1, M1, _, { nx := fun δ' M' => E'.nx (δ'.set i none) M', rt := E'.rt, bk := fun δ' M' => E'.bk (δ'.set i none) M', ct := fun δ' M' => E'.ct (δ'.set i none) M' }, Le.refl F1, S1, r1.set (.v _) i, hy e a (S1.free ha).2,
        fun σ' H' ⟨F2, M2, δ2, l2, S2, r2, q⟩ => k1 _ _ ⟨F2, M2, _, l1.trans l2, S2, r2.unset i, q⟩, fun v H' q => k2 _ _ (q.le l1), fun σ' H' ⟨F2, M2, δ2, l2, S2, r2, q⟩ => k3 _ _ ⟨F2, M2, _, l1.trans l2, S2, r2.unset i, q⟩, fun σ' H' ⟨F2, M2, δ2, l2, S2, r2, q⟩ => k4 _ _ ⟨F2, M2, _, l1.trans l2, S2, r2.unset i, q⟩⟩,
      fun e => ⟨F1, M1, δ1, fs, dx, vs, lb.trans l1, S1, r1, ed, hx, rx, hn e⟩⟩, F, M, δ, E', Le.refl F, S, rs, h, k1, k2, k3, k4⟩
theorem qs_try_only (hs : X.stack = X.env :: X.outer) (hf : X.env.frame = some X.env.locals) (hc : Names X x c) (tk : Takes X (upX X.K B Wout))
    (hb : ∀ (W : DW) (B' : Hp) (pn : List (Addr × Obj)) (xe : Value → Shared → Prop), Takes (X.tr pn xe) (upX X.K B' W) → PassesOwn (model X.prog X.w) X.A X.env xe → PSs (X.tr pn xe) body (upS X.K B' (tb W)))
    (hsu : ∀ (a : Addr) (oe : Obj) (cls : Value) (dx : Addr) (pn : List (Addr × Obj)) (B1 : Hp) (vs : List (Str × V)) (fs : List (Str × D)), Zc cls (some dx) oe → (∃ vs, oe.data = .fields vs) → B1 dx = some (.xd vs) → RepKV X.K B1 vs fs → PSs (X.suite a ((a, oe) :: pn)) (b₀ :: suite) (upS X.K B1 (ts a cls fs))) :
    PS X (.Try body [.ExceptHandler (some (.Name x np)) none (b₀ :: suite) pos'] [] [] pos) (upS X.K B (dTryOnly X.K c tb ts Wout)) :=
  PS.wk (ps_try_only hs hf hc tk (body_of hb) (suite_of hsu)) fun D σ H ⟨F, M, δ, E', lb, S, rs, h, k1, k2, k3, k4⟩ =>
    ⟨F, wOnlyD X.K c ts Wout E', fun cls d σ1 H1 ⟨F1, M1, δ1, fs, dx, vs, l1, S1, r1, ed, hx, rx, b, hb1, hy, hn⟩ => ⟨b, hb1, fun e a ha => ⟨F1, dx, vs, fs, ed, hx, rx, F1, M1, _, _, Le.refl F1, S1, r1, hy e a (S1.free ha).2,
        fun σ' H' q => k1 _ _ (q.le l1), fun v H' q => k2 _ _ (q.le l1), fun σ' H' q => k3 _ _ (q.le l1), fun σ' H' q => k4 _ _ (q.le l1)⟩,
      fun e => ⟨F1, M1, δ1, fs, dx, vs, lb.trans l1, S1, r1, ed, hx, rx, hn e⟩⟩, F, M, δ, E', Le.refl F, S, rs, h, k1, k2, k3, k4⟩
end

/-! ### in an except suite: e.f, isinstance(e, C) -/
section
variable {X : Cx} {B : Hp} {a dx C : Addr} {oe : Obj} {cls : Value} {pn : List (Addr × Obj)} {e : Expr} {te : DE} {pos : Pos} {f : Str} {vs : List (Str × V)} {fs : List (Str × D)}
def dXf (K : PySem.W.Frag) (a : Addr) (cls : Value) (fs : List (Str × D)) (f : Str) (te : DE) : DE := fun δ M Q => te δ M fun x M1 => x = .ref a ∧ ∃ C d, cls = .ref C ∧ XfC K C ∧ PySem.W.findIn K (.ref C) f = some none ∧ fs.lookup f = some d ∧ Q d M1
theorem q_xf (hz : Zc cls (some dx) oe) (hf : ∃ vs, oe.data = .fields vs) (hB : B dx = some (.xd vs)) (hr : RepKV X.K B vs fs) (he : PE (X.suite a ((a, oe) :: pn)) e (up X.K B te)) (hb : attributeBase e f X.env (eval e X.env) = eval e X.env := by rfl) :
    PE (X.suite a ((a, oe) :: pn)) (.Attribute e f pos) (up X.K B (dXf X.K a cls fs f te)) := by
  refine ⟨fun pins s σ H Q I ⟨F, M, δ, Q', lb, S, rs, h, k⟩ => ?_⟩
  refine attr_of hb (thn (he.run pins s σ H (fun x H1 => x = .ref a ∧ ∃ C v, cls = .ref C ∧ XfC X.K C ∧ PySem.W.findIn X.K (.ref C) f = some none ∧ H1 dx = some (.xd vs) ∧ vs.lookup f = some v ∧ Q v H1) I ⟨F, M, δ, _, lb, S, rs, h, fun x H1 ⟨F1, M1, d1, l1, S1, r1, e1, C, d, ec, xc, hno, hl, q⟩ => ?_⟩) fun u s1 hh => ?_)
  · subst e1
    cases r1
    obtain ⟨v, h1, h2⟩ := lookup_rep (hr.le (lb.trans l1)) hl
    exact ⟨rfl, C, v, ec, xc, hno, S1.fz _ _ ((lb.trans l1) _ _ hB), h1, k _ _ ⟨F1, M1, d, l1, S1, h2, q⟩⟩
  · obtain ⟨x, H1, I1, rx, ex, C, v, ec, T, hno, ea, l, q⟩ := hh
    subst ex
    obtain rfl : u = Value.ref a := rx
    subst ec
    obtain ⟨ha, _⟩ := I1.pin (a, oe) (List.mem_append_left _ List.mem_cons_self)
    obtain ⟨ws, hd⟩ := hf
    have hx : ObjOk X.prog X.w H1 s1.heap dx (.xd vs) := I1.hok dx _ ea
    obtain ⟨mA, hns, hr'⟩ := hx
    obtain ⟨od, ho, hl'⟩ := lookIn_ns hns
    obtain ⟨u, hu, ru⟩ := RelO.some_of (v := v) (o := mA f) (by rw [← l]; exact hr' f)
    have J : PySem.W.InstAt s1.heap a oe C (some od) := ⟨ha, hz.1, by unfold PySem.W.notCls; rw [hd] <;> rfl, by rw [hz.2]; exact ho⟩
    exact HandSPX.exc_get I1.kIn J T.ga T.gg T.exC (PySem.W.findObj_own T.hdC hno rfl (by rw [hl', hu])) (handed_of ru) ⟨v, H1, I1.tok _, ru, q⟩
/-- isinstance(e, c), e the exception that the suite holds -/
def dIsE (K : PySem.W.Frag) (a : Addr) (cls : Value) (te : DE) (Cy : Addr) : DE := fun δ M Q => te δ M fun x M1 => x = .ref a ∧ ∃ C b, cls = .ref C ∧ ExcC K C ∧ PySem.W.kitOne K (.ref C) (.ref Cy) = some b ∧ Q (.bl b) M1
theorem q_isE {Cy : Addr} {y : Str} {p1 p2 : Pos} (hz : Zc cls (some dx) oe) (hf : ∃ vs, oe.data = .fields vs) (hB : B dx = some (.xd vs)) (he : PE (X.suite a ((a, oe) :: pn)) e (up X.K B te)) (hy : X.mg y = some (.ref Cy)) (hgy : Gl X y) (hm : X.mg "isinstance" = none) (hg : Gl X "isinstance")
    (hd : (y == ("__debug__" : Str)) = false := by decide)
    (hst : starEach [e, .Name y p2] (X.suite a ((a, oe) :: pn)).env = (false, eval e (X.suite a ((a, oe) :: pn)).env) :: starEach [.Name y p2] (X.suite a ((a, oe) :: pn)).env := by rfl) :
    PE (X.suite a ((a, oe) :: pn)) (.Call (.Name "isinstance" p1) [e, .Name y p2] [] pos) (up X.K B (dIsE X.K a cls te Cy)) := by
  have hcall : CallR (X.suite a ((a, oe) :: pn)) (.builtin "isinstance") (fun xs H Q => xs = [.ref a, .ref Cy] ∧ H dx = some (.xd vs) ∧ ∃ C b, cls = .ref C ∧ ExcC X.K C ∧ PySem.W.kitOne X.K (.ref C) (.ref Cy) = some b ∧ Q (.bl b) H) := by
    intro pins s σ H xs us Q I r ⟨ex, hdx, C, b, ec, T, hk, q⟩
    subst ex ec
    cases r with
    | cons rx rr =>
      cases rr with
      | cons rt rr =>
        cases rr
        cases rx
        cases rt
        obtain ⟨hget, _⟩ := I.pin (a, oe) (List.mem_append.mpr (.inl List.mem_cons_self))
        obtain ⟨ws, hv⟩ := hf
        have hx : ObjOk X.prog X.w H s.heap dx (.xd vs) := I.hok dx _ hdx
        obtain ⟨mA, hns, hr'⟩ := hx
        obtain ⟨od, ho, hl'⟩ := lookIn_ns hns
        have J : PySem.W.InstAt s.heap a oe C (some od) := ⟨hget, hz.1, by unfold PySem.W.notCls; rw [hv] <;> rfl, by rw [hz.2]; exact ho⟩
        have hcl : (PySem.W.clsIn X.K C).isSome = true := by
          obtain ⟨cd, hc, _⟩ := PySem.W.any_some T.hd
          rw [hc]; rfl
        exact PySem.W.kia_one (PySem.W.kitx_exc hcl T.hg T.hk T.hs T.ha T.hn T.ht T.hm) I.kIn J hk (fun z => nomatch z) fun tk => ⟨.bl b, H, I.kept (t' := tk) fun _ _ z => z, rfl, q⟩
  refine PE.wk (pe_callB hcall hg hm (by decide +kernel) (pa_cons he (pa_cons (pe_glob (v := .ref Cy) hgy hy rfl hd) pa_nil) hst) (by decide) (by decide) hst) fun σ H Q ⟨F, M, δ, Q', lb, S, rs, h, k⟩ => ⟨F, M, δ, _, lb, S, rs, h, fun x H1 ⟨F1, M1, d1, l1, S1, r1, e1, C, b, ec, T, hk, q⟩ => ?_⟩
  subst e1
  cases r1
  exact ⟨rfl, S1.fz _ _ ((lb.trans l1) _ _ hB), C, b, ec, T, hk, k _ _ ⟨F1, M1, _, l1, S1, .v _, q⟩⟩
end

/-! ### a def that may raise -/
section
variable {P : Program} {w : World} {K : PySem.W.Frag} {mg : Str → Option Value} {base : Heap}
def lessX (E : DX) : DX := fun c fs M => ∃ M', Sub M' M ∧ E c fs M'
theorem okDX {x qual : Str} {st : Stmt} {f : Addr} {fd : FuncData} {N ps : List Str} {k : Nat} {s : DSp} (F : Fun K x qual st f fd) (S : FnScope N ps (defScope st)) (len : ∀ ds M Q E, s ds M Q E → ds.length = ps.length)
    (hbody : ∀ (cdv : Value) (A : Around) (outer : List PySem.Env) (s0 : Shared) (H : Hp) (E : XK), Room k (A.deeper (envOfC qual (defScope st) s0.heap.objs.size f cdv)) →
      ∃ t : DW → DS, (∀ (B : Hp) (W : DW), Takes (cxOf (L2.CX P w) P w K mg base N qual (defScope st) f cdv A outer s0 H E) (upX K B W) → PSs (cxOf (L2.CX P w) P w K mg base N qual (defScope st) f cdv A outer s0 H E) (defBody st) (upS K B (t W))) ∧
        ∀ ds M Q E', s ds M Q E' → t (fun _ => lessX E') { nx := fun _ M' => less Q .non M', rt := less Q } (startD N.length ds) M) : FnOk P w K mg base (L2.CX P w) (k + 1) f fd ps (spOf K s) := by
  refine F.okX S (fun vs H Q E h => ?_) (fun cdv A outer s0 H vs Q E hr h => ?_)
  · obtain ⟨F, M, ds, Q', E', S, r, h, _⟩ := h
    rw [r.length]
    exact len _ _ _ _ h
  · obtain ⟨t, ht, hq⟩ := hbody cdv A outer s0 H E hr
    obtain ⟨F, M, ds, Q', E', S, r, h, k1, k2⟩ := h
    have tk : Takes (cxOf (L2.CX P w) P w K mg base N qual (defScope st) f cdv A outer s0 H E) (upX K F (fun _ => lessX E')) :=
      (takes_of rfl rfl rfl rfl).imp fun c d σ H' ⟨F1, M1, δ, fs, dx, vs, l1, S1, _, e, hx, rx, M2, hs, he⟩ => k2 _ _ _ ⟨F1, M2, fs, dx, vs, l1, S1.less hs, e, hx, rx, he⟩
    exact ⟨_, ht F _ tk, F, M, _, _, Le.refl F, S, startD_rep r, hq ds M Q' E' h, fun σ' H' ⟨F1, M1, δ1, l1, S1, r1, q⟩ => k1 _ _ (LQ_less ⟨F1, M1, _, l1, S1, .v _, q⟩), fun v H' q => k1 _ _ (LQ_less q), fun _ _ ⟨_, _, _, _, _, _, q⟩ => q.elim, fun _ _ ⟨_, _, _, _, _, _, q⟩ => q.elim⟩
end
end Y


set_option Elab.async false
set_option linter.all false
set_option maxRecDepth 100000
set_option maxHeartbeats 2000000
/-! YX5: small rules besides. -/
namespace Y
open PySem PySem.Spec PyProof.Rows L2
theorem takesN {X : Cx} {K : PySem.W.Frag} {B : Hp} : Takes X (upX K B fun _ _ _ _ => False) := fun _ _ x => by
  obtain ⟨_, _, _, _, _, _, _, _, _, _, _, _, _, _, _, _, z⟩ := x
  obtain ⟨_, _, _, _, _, _, _, _, _, _, _, _, z⟩ := z
  exact z.elim
section
variable {E : DEnds} {δ : Env} {M : Mm} {Q : QD} {W Wout : DW} {s : DSp} {t : DA} {te : DE}
theorem i_callX (h : t δ M fun ds M1 => s ds M1 Q (W δ)) : dCallX W s t δ M Q := h
theorem i_methX {C : Addr} {m : Str} (h : te δ M fun x M1 => ∃ a dx fs, x = .ref a ∧ M1 a = some (.ins C dx fs) ∧ fs.lookup m = none ∧ t δ M1 fun ds M2 => s (x :: ds) M2 Q (W δ)) : dMethX W C m s te t δ M Q := h
theorem i_raise {C : Addr} {fs : List Str} (h : t δ M fun ds M1 => ds.length = fs.length ∧ (∀ d ∈ ds, okxD d) ∧ W δ (.ref C) (fs.zip ds).reverse M1) : dRaise W C fs t E δ M := h
theorem i_tryAs {K : PySem.W.Frag} {c : Value} {i : Nat} {tb : DW → DS} {ts : Addr → Value → List (Str × D) → DS} (h : tb (wAsD K c i ts Wout E) E δ M) : dTryAs K c i tb ts Wout E δ M := h
theorem i_tryOnly {K : PySem.W.Frag} {c : Value} {tb : DW → DS} {ts : Addr → Value → List (Str × D) → DS} (h : tb (wOnlyD K c ts Wout E) E δ M) : dTryOnly K c tb ts Wout E δ M := h
theorem i_xf {K : PySem.W.Frag} {a : Addr} {cls : Value} {fs : List (Str × D)} {f : Str} (h : te δ M fun x M1 => x = .ref a ∧ ∃ C d, cls = .ref C ∧ XfC K C ∧ PySem.W.findIn K (.ref C) f = some none ∧ fs.lookup f = some d ∧ Q d M1) : dXf K a cls fs f te δ M Q := h
theorem i_isE {K : PySem.W.Frag} {a Cy : Addr} {cls : Value} (h : te δ M fun x M1 => x = .ref a ∧ ∃ C b, cls = .ref C ∧ ExcC K C ∧ PySem.W.kitOne K (.ref C) (.ref Cy) = some b ∧ Q (.bl b) M1) : dIsE K a cls te Cy δ M Q := h
/-- the way out of a def -/
theorem lessX_of {Ex : DX} {c : Value} {fs : List (Str × D)} {M M' : Mm} (h : Ex c fs M') (e : M = M') : lessX Ex c fs M := ⟨M', by rw [e]; exact Sub.refl _, h⟩
theorem lessX_fr0 {Ex : DX} {c : Value} {fs : List (Str × D)} {M M' : Mm} {L : List Addr} (k : Ex c fs M) (h : Fr M M' L) (hL : ∀ p ∈ L, M p = none) : lessX Ex c fs M' := by
  refine ⟨M, fun b n hb => ?_, k⟩
  rw [h b]
  · exact hb
  · intro z
    rw [hL b z] at hb; cases hb
end

/-! ### zip, enumerate, reversed over what stands still -/
section
variable {X : Cx} {B : Hp} {K : PySem.W.Frag} {F1 : Hp} {a b : Addr} {xs ys : List V} {ds es : List D}
def zipD (ds es : List D) : List D := (ds.zip es).map fun p => .tup [p.1, p.2]
theorem yl_pair {J : It} {n : Nat} {G : Hp → Prop} {f g : Nat → Option V} {r : List D} {f' g' : Nat → Option D} (wk : Walk J n G (YPair f g)) (hn : r.length = n) (hG : ∀ H F M, Le F1 F → Stt K H F M → G H)
    (hr : ∀ i x y, i < n → f i = some x → g i = some y → ∃ d e, r[i]? = some (.tup [d, e]) ∧ Rep K F1 x d ∧ Rep K F1 y e) : Yl K J F1 r GT := by
  refine ⟨fun i H F M l S _ hi => wk.goes i H (by omega) (hG _ _ _ l S), fun H F M l S _ => by rw [hn]; exact wk.stops H (hG _ _ _ l S), fun i H F M x H' l S _ hi y => ?_⟩
  obtain ⟨T, v, u, e1, e2, e3, h1, h2⟩ := wk.yields i H x H' (by omega) (hG _ _ _ l S) y
  subst e1 e3
  obtain ⟨d, e, h3, h4, h5⟩ := hr i v u (by omega) h1 h2
  have f0 := (S.free e2).1
  have l2 := le_upd (o := (.tup [v, u])) f0
  exact ⟨_, _, l2, S.still e2, h3, .tup (SqT.of upd_same) (.cons (h4.le (l.trans l2)) (.cons (h5.le (l.trans l2)) .nil))⟩
theorem zip_at {i : Nat} {x y : V} (r1 : RepL K F1 xs ds) (r2 : RepL K F1 ys es) (h1 : xs[i]? = some x) (h2 : ys[i]? = some y) : ∃ d e, (zipD ds es)[i]? = some (.tup [d, e]) ∧ Rep K F1 x d ∧ Rep K F1 y e := by
  obtain ⟨d, h3, h4⟩ := r1.get' h1
  obtain ⟨e, h5, h6⟩ := r2.get' h2
  refine ⟨d, e, ?_, h4, h6⟩
  unfold zipD
  rw [List.getElem?_map]
  have : (ds.zip es)[i]? = some (d, e) := by rw [List.getElem?_zip_eq_some]; exact ⟨h3, h5⟩
  rw [this]; rfl
theorem yl_zipL (hs : SqL K F1 a xs) (hs2 : SqL K F1 b ys) (r1 : RepL K F1 xs ds) (r2 : RepL K F1 ys es) : Yl K (Itz K a b) F1 (zipD ds es) GT :=
  yl_pair (f' := fun i => ds[i]?) (g' := fun i => es[i]?) (walk_zip rfl) (by simp [zipD, r1.length, r2.length]) (fun H F M l S => ⟨SqL.le S.fz (SqL.le l hs), SqL.le S.fz (SqL.le l hs2)⟩) fun i x y _ h1 h2 => zip_at r1 r2 h1 h2
theorem walk_zipT {n : Nat} (hn : n = min xs.length ys.length) : Walk (RZ.ItzT K a b) n (fun H => SqT K H a xs ∧ SqT K H b ys) (YPair (fun i => xs[i]?) (fun i => ys[i]?)) := by
  subst hn
  refine ⟨fun i _ hi q => ?_, fun _ q => ⟨xs, ys, q.1, q.2, by omega⟩, fun i H v H' _ q y => ?_⟩
  · have h1 : i < xs.length := by omega
    have h2 : i < ys.length := by omega
    exact ⟨xs, ys, xs[i], ys[i], q.1, q.2, by simp [h1], by simp [h2]⟩
  · obtain ⟨T, x, z, h1, h2, h3, h4, h5⟩ := y
    exact ⟨T, x, z, h1, h2, h3, h4 xs q.1, h5 ys q.2⟩
theorem yl_zipT (hs : SqT K F1 a xs) (hs2 : SqT K F1 b ys) (r1 : RepL K F1 xs ds) (r2 : RepL K F1 ys es) : Yl K (RZ.ItzT K a b) F1 (zipD ds es) GT :=
  yl_pair (f' := fun i => ds[i]?) (g' := fun i => es[i]?) (walk_zipT rfl) (by simp [zipD, r1.length, r2.length]) (fun H F M l S => ⟨SqT.le S.fz (SqT.le l hs), SqT.le S.fz (SqT.le l hs2)⟩) fun i x y _ h1 h2 => zip_at r1 r2 h1 h2
/-- zip of two tuples, or of two lists, that stand still -/
def diZip (t : DA) : DI := fun δ M R => t δ M fun vs M1 => ∃ x y ds es, vs = [x, y] ∧ ((x = .tup ds ∧ y = .tup es) ∨ (x = .lst ds ∧ y = .lst es)) ∧ R (zipD ds es) GT M1
theorem qi_zip {e e2 : Expr} {p pos tpos : Pos} {elts : List Expr} {kk : Nat} {t : DA} (hg : Gl X "zip") (hm : X.mg "zip" = none) (ha : PA X [e, e2] (upA X.K B t))
    (hs : starEach [e, e2] X.env = (false, eval e X.env) :: starEach [e2] X.env := by rfl) (hpl : (backTo pos (starEach [e2] X.env)).any (·.1) = false := by rfl) :
    PI X (.Tuple elts kk tpos) (.Call (.Name "zip" p) [e, e2] [] pos) (upI X.K B (diZip t)) :=
  PI.wk (RZ.pi_zipA hg hm ha hs hpl) fun σ H R ⟨F, M, δ, R', lb, S, rs, h, k⟩ => ⟨F, M, δ, _, lb, S, rs, h, fun vs H1 ⟨F1, M1, ds0, l1, S1, r1, x, y, ds, es, e1, e2, h1⟩ => by
    subst e1
    cases r1 with
    | cons ra rb =>
      cases rb with
      | cons rb rc =>
        cases rc
        rcases e2 with ⟨rfl, rfl⟩ | ⟨rfl, rfl⟩
        · cases ra with
          | @tup a xs _ h2 r2 =>
            cases rb with
            | @tup b ys _ h3 r3 => exact ⟨a, b, xs, ys, rfl, .inr ⟨SqT.le S1.fz h2, SqT.le S1.fz h3, k _ _ ⟨F1, M1, _, GT, l1, S1, yl_zipT h2 h3 r2 r3, h1⟩⟩⟩
        · cases ra with
          | @lst a xs _ h2 r2 =>
            cases rb with
            | @lst b ys _ h3 r3 => exact ⟨a, b, xs, ys, rfl, .inl ⟨SqL.le S1.fz h2, SqL.le S1.fz h3, k _ _ ⟨F1, M1, _, GT, l1, S1, yl_zipL h2 h3 r2 r3, h1⟩⟩⟩⟩
def enumFrom : Nat → List D → List D
  | _, [] => []
  | n, d :: ds => .tup [.int (n : Int), d] :: enumFrom (n + 1) ds
theorem enum_len : ∀ (n : Nat) (ds : List D), (enumFrom n ds).length = ds.length
  | _, [] => rfl
  | n, d :: ds => by simp [enumFrom, enum_len (n + 1) ds]
theorem enum_at : ∀ (n : Nat) (ds : List D) (i : Nat) (d : D), ds[i]? = some d → (enumFrom n ds)[i]? = some (.tup [.int ((n + i : Nat) : Int), d])
  | n, [], i, d, h => by simp at h
  | n, d :: ds, 0, e, h => by simp at h; subst h; simp [enumFrom]
  | n, d :: ds, i + 1, e, h => by
    have := enum_at (n + 1) ds i e (by simpa using h)
    simp only [enumFrom, List.getElem?_cons_succ, this]
    congr 4
    omega
theorem yl_enum (hs : SqL K F1 a xs) (r1 : RepL K F1 xs ds) : Yl K (Ite K a) F1 (enumFrom 0 ds) GT :=
  yl_pair (f' := fun _ => none) (g' := fun _ => none) walk_enum (by rw [enum_len, r1.length]) (fun H F M l S => SqL.le S.fz (SqL.le l hs)) fun i x y hi h1 h2 => by
    obtain ⟨d, h3, h4⟩ := r1.get' h2
    have h1 : V.int (i : Nat) = x := Option.some.inj h1
    subst h1
    exact ⟨.int (i : Nat), d, by rw [enum_at 0 ds i d h3, Nat.zero_add], .v _, h4⟩
/-- enumerate of a list that stands still -/
def diEnum (t : DA) : DI := fun δ M R => t δ M fun vs M1 => ∃ ds, vs = [.lst ds] ∧ R (enumFrom 0 ds) GT M1
theorem qi_enum {e : Expr} {p pos tpos : Pos} {elts : List Expr} {kk : Nat} {t : DA} (hg : Gl X "enumerate") (hm : X.mg "enumerate" = none) (ha : PA X [e] (upA X.K B t)) (hs : starEach [e] X.env = [(false, eval e X.env)] := by rfl) :
    PI X (.Tuple elts kk tpos) (.Call (.Name "enumerate" p) [e] [] pos) (upI X.K B (diEnum t)) :=
  PI.wk (pi_enum hg hm ha hs) fun σ H R ⟨F, M, δ, R', lb, S, rs, h, k⟩ => ⟨F, M, δ, _, lb, S, rs, h, fun vs H1 ⟨F1, M1, ds0, l1, S1, r1, ds, e1, h1⟩ => by
    subst e1
    cases r1 with
    | cons ra rb =>
      cases rb
      cases ra with
      | @lst a xs _ h2 r2 => exact ⟨a, xs, rfl, SqL.le S1.fz h2, k _ _ ⟨F1, M1, _, GT, l1, S1, yl_enum h2 r2, h1⟩⟩⟩
theorem rev_at {i : Nat} {x : V} (r1 : RepL K F1 xs ds) (hi : i < ds.length) (h : xs[xs.length - 1 - i]? = some x) : ∃ d, ds.reverse[i]? = some d ∧ Rep K F1 x d := by
  obtain ⟨d, h3, h4⟩ := r1.get' h
  refine ⟨d, ?_, h4⟩
  rw [List.getElem?_reverse hi, ← r1.length]
  exact h3
theorem yl_revL (hs : SqL K F1 a xs) (r1 : RepL K F1 xs ds) : Yl K (Itv K a xs.length) F1 ds.reverse GT := by
  have hl : ds.reverse.length = xs.length := by rw [List.length_reverse, r1.length]
  refine ⟨fun i H F M l S _ hi => (walk_rev (K := K) (a := a) (xs := xs)).goes i H (by omega) (SqL.le S.fz (SqL.le l hs)), fun H F M l S _ => by rw [hl]; exact (walk_rev (K := K) (a := a) (xs := xs)).stops H (SqL.le S.fz (SqL.le l hs)), fun i H F M x H' l S _ hi y => ?_⟩
  obtain ⟨e1, e2⟩ := (walk_rev (K := K) (a := a) (xs := xs)).yields i H x H' (by omega) (SqL.le S.fz (SqL.le l hs)) y
  subst e1
  obtain ⟨d, h3, h4⟩ := rev_at r1 (by rw [List.length_reverse] at hi; exact hi) e2
  exact ⟨F, d, Le.refl F, S, h3, h4.le l⟩
theorem yl_revT (hs : SqT K F1 a xs) (r1 : RepL K F1 xs ds) : Yl K (RT.ItvT K a xs.length) F1 ds.reverse GT := by
  have hl : ds.reverse.length = xs.length := by rw [List.length_reverse, r1.length]
  have wk : Walk (RT.ItvT K a xs.length) xs.length (fun H => SqT K H a xs) (fun i H x H' => H' = H ∧ xs[xs.length - 1 - i]? = some x) :=
    ⟨fun i _ hi q => ⟨hi, xs, xs[xs.length - 1 - i]'(by omega), q, by simp [show xs.length - 1 - i < xs.length by omega]⟩, fun _ _ => Nat.le_refl _, fun _ _ _ _ _ q y => ⟨y.1, y.2 xs q⟩⟩
  refine ⟨fun i H F M l S _ hi => wk.goes i H (by omega) (SqT.le S.fz (SqT.le l hs)), fun H F M l S _ => by rw [hl]; exact wk.stops H (SqT.le S.fz (SqT.le l hs)), fun i H F M x H' l S _ hi y => ?_⟩
  obtain ⟨e1, e2⟩ := wk.yields i H x H' (by omega) (SqT.le S.fz (SqT.le l hs)) y
  subst e1
  obtain ⟨d, h3, h4⟩ := rev_at r1 (by rw [List.length_reverse] at hi; exact hi) e2
  exact ⟨F, d, Le.refl F, S, h3, h4.le l⟩
/-- reversed of a tuple or a list that stands still -/
def diRev (t : DE) : DI := fun δ M R => t δ M fun v M1 => ∃ ds, (v = .tup ds ∨ v = .lst ds) ∧ R ds.reverse GT M1
theorem qi_rev {tg e : Expr} {t : DE} {p pos : Pos} (hg : Gl X "reversed") (hm : X.mg "reversed" = none) (he : PE X e (up X.K B t)) (hs : starEach [e] X.env = (false, eval e X.env) :: starEach [] X.env := by rfl) : PI X tg (.Call (.Name "reversed" p) [e] [] pos) (upI X.K B (diRev t)) :=
  PI.wk (RT.pi_revA hg hm he hs) fun σ H R ⟨F, M, δ, R', lb, S, rs, h, k⟩ => ⟨F, M, δ, _, lb, S, rs, h, fun v H1 ⟨F1, M1, d1, l1, S1, r1, ds, e1, h1⟩ => by
    rcases e1 with rfl | rfl
    · cases r1 with
      | @tup a xs _ h2 r2 => exact ⟨a, xs, rfl, .inr ⟨SqT.le S1.fz h2, k _ _ ⟨F1, M1, _, GT, l1, S1, yl_revT h2 r2, h1⟩⟩⟩
    · cases r1 with
      | @lst a xs _ h2 r2 => exact ⟨a, xs, rfl, .inl ⟨SqL.le S1.fz h2, k _ _ ⟨F1, M1, _, GT, l1, S1, yl_revL h2 r2, h1⟩⟩⟩⟩
theorem i_zip {t : DA} {δ : Env} {M : Mm} {R : List D → (Mm → Prop) → Mm → Prop} (h : t δ M fun vs M1 => ∃ x y ds es, vs = [x, y] ∧ ((x = .tup ds ∧ y = .tup es) ∨ (x = .lst ds ∧ y = .lst es)) ∧ R (zipD ds es) GT M1) : diZip t δ M R := h
theorem i_enum {t : DA} {δ : Env} {M : Mm} {R : List D → (Mm → Prop) → Mm → Prop} (h : t δ M fun vs M1 => ∃ ds, vs = [.lst ds] ∧ R (enumFrom 0 ds) GT M1) : diEnum t δ M R := h
theorem i_rev {t : DE} {δ : Env} {M : Mm} {R : List D → (Mm → Prop) → Mm → Prop} (h : t δ M fun v M1 => ∃ ds, (v = .tup ds ∨ v = .lst ds) ∧ R ds.reverse GT M1) : diRev t δ M R := h
end
end Y


set_option Elab.async false
set_option linter.all false
set_option maxRecDepth 100000
set_option maxHeartbeats 2000000
/-! YX6: texts: a text repeated, split(), str and int of texts, repr. -/
namespace Y
open PySem PySem.Spec PyProof.Rows L2
section
variable {X : Cx} {K : PySem.W.Frag} {B : Hp}
def repS (x : Str) (n : Nat) : Str := ⟨(List.replicate n x.cps).foldl (· ++ ·) #[]⟩
theorem rep_fold (x : Array Nat) : ∀ (n : Nat) (acc : Array Nat), (List.replicate n x).foldl (· ++ ·) acc = acc ++ ((List.replicate n x.toList).flatten).toArray
  | 0, acc => by simp
  | n + 1, acc => by
    rw [List.replicate_succ, List.foldl_cons, rep_fold x n, List.replicate_succ, List.flatten_cons]
    apply Array.ext'
    simp
theorem repS_cps (x : Str) (n : Nat) : (repS x n).cps.toList = (List.replicate n x.cps.toList).flatten := by
  unfold repS
  rw [rep_fold]
  simp
theorem repS_len (x : Str) (n : Nat) : (repS x n).length = n * x.length := by
  have h : (repS x n).length = (repS x n).cps.toList.length := Array.length_toList.symm
  rw [h, repS_cps]
  simp [List.length_flatten]
  rfl
def rMulS : R2 := fun x y H Q => ∃ a n, x = .str a ∧ y = .int (n : Nat) ∧ n < 1000 ∧ a.length < 1000 ∧ Q (.str (repS a n)) H
theorem op_mulS : OpR X (binaryOp .Mult) rMulS := by
  rintro pins s σ H x y u v Q I rx ry ⟨a, n, rfl, rfl, h2, h3, q⟩
  obtain ⟨t, rfl⟩ := rx
  obtain ⟨t', rfl⟩ := ry
  have hle : a.length * n ≤ 1000 * 1000 := Nat.mul_le_mul (by omega) (by omega)
  refine P.mul_str (by simp; omega) (fun h _ => ?_) (fun _ _ => ?_) ?_
  · have : (2 ^ 63 - 1 : Int) / (n : Int) ≥ 1000 := by
      rw [ge_iff_le, Int.le_ediv_iff_mul_le (by omega)]
      omega
    omega
  · unfold Builtin.Str.tooLong
    simp only [decide_eq_false_iff_not, sizeLine_eq]
    rw [Int.toNat_natCast]
    omega
  · have key : ∀ y : Str, y.cps = (repS a n).cps → y = repS a n := fun y h => by cases y; cases hr : repS a n; rw [hr] at h; cases h; rfl
    by_cases h1 : (n : Int) < 1
    · rw [if_pos h1]
      have e : n = 0 := by omega
      refine ⟨by decide, ⟨.str (repS a n), H, I.tok _, ⟨s.toks, ?_⟩, q⟩⟩
      subst e
      rfl
    · rw [if_neg h1]
      by_cases e : ((n : Int) == 1 || a.length == 0) = true
      · rw [if_pos e]
        have : a = repS a n := by
          apply key
          apply Array.ext'
          rw [repS_cps]
          rcases Bool.or_eq_true_iff.mp e with e | e
          · have e : n = 1 := by have := beq_iff_eq.mp e; omega
            subst e
            simp
          · have e : a.cps.toList = [] := by
              have e := beq_iff_eq.mp e
              exact List.eq_nil_of_length_eq_zero (Array.length_toList.trans e)
            rw [e]
            simp
        exact ⟨.str (repS a n), H, I, ⟨t, by rw [← this]⟩, q⟩
      · rw [if_neg e]
        rw [Int.toNat_natCast]
        refine ⟨?_, ⟨.str (repS a n), H, I.tok _, ⟨_, rfl⟩, q⟩⟩
        show (repS a n).length ≤ sizeLine
        rw [repS_len, sizeLine_eq, Nat.mul_comm]
        omega
def mulSD : D2 := fun x y M Q => ∃ a n, x = .str a ∧ y = .int (n : Nat) ∧ n < 1000 ∧ a.length < 1000 ∧ Q (.str (repS a n)) M
theorem l_mulS : Lift2 K rMulS mulSD := fun H F M x y d e Q' Q S rx ry ⟨a, n, e1, e2, h1, h2, q⟩ k => by
  subst e1 e2; cases rx; cases ry
  exact ⟨a, n, rfl, rfl, h1, h2, k _ _ ⟨F, M, _, Le.refl F, S, .v _, q⟩⟩
theorem v_mulS {a : Str} {n : Nat} {M : Mm} {Q : QD} (h1 : n < 1000 ∧ a.length < 1000) (q : Q (.str (repS a n)) M) : mulSD (.str a) (.int n) M Q := ⟨a, n, rfl, rfl, h1.1, h1.2, q⟩
/-! split() -/
def mWords : DM := fun x vs M Q => ∃ a, x = .str a ∧ vs = [] ∧ a.length + 2 ≤ sizeLine ∧ ∀ p, M p = none → Q (.ref p) (Y.put M p (.lst ((Txt.words a).map D.str)))
theorem l_words : LiftM K (fun x xs H Q => ∃ a, x = .str a ∧ xs = [] ∧ a.length + 2 ≤ sizeLine ∧ rNewStrs (Txt.words a) H Q) mWords := fun H F M x d xs ds Q' Q S r rl ⟨a, e1, e2, hz, q⟩ k => by
  subst e1 e2
  cases r
  cases rl
  exact ⟨a, rfl, rfl, hz, fun p hp => k _ _ ⟨F, _, _, Le.refl F, S.newM hp (.lst (RepL.strs _)), .v _, q p (S.free hp).2⟩⟩
/-! str(x) of a text or a whole number, int(x) of a whole number or a text -/
theorem CallR.or {f : Value} {r r' : List V → Hp → VK → Prop} (h : CallR X f r) (h' : CallR X f r') : CallR X f fun xs H Q => r xs H Q ∨ r' xs H Q := fun pins s σ H xs us Q I rv q => q.elim (h pins s σ H xs us Q I rv) (h' pins s σ H xs us Q I rv)
def cStrA : DC := fun ds M Q => (∃ i, ds = [.int i] ∧ i.natAbs.log2 < 1920 ∧ Q (.str (Str.ofString (toString i))) M) ∨ ∃ a, ds = [.str a] ∧ Q (.str a) M
theorem call_strA : CallR X (.type "str") (fun xs H Q => (∃ i, xs = [.int i] ∧ i.natAbs.log2 < 1920 ∧ Q (.str (Str.ofString (toString i))) H) ∨ ∃ a, xs = [.str a] ∧ Q (.str a) H) := CallR.or call_str_int SkE.call_str_str
theorem l_strA : LiftC K (fun xs H Q => (∃ i, xs = [.int i] ∧ i.natAbs.log2 < 1920 ∧ Q (.str (Str.ofString (toString i))) H) ∨ ∃ a, xs = [.str a] ∧ Q (.str a) H) cStrA := fun H F M xs ds Q' Q S r h k => by
  rcases h with ⟨i, e, h, q⟩ | ⟨a, e, q⟩
  · subst e
    obtain ⟨x, rfl, rx⟩ := rep1 r
    cases rx
    exact .inl ⟨i, rfl, h, k _ _ ⟨F, M, _, Le.refl F, S, .v _, q⟩⟩
  · subst e
    obtain ⟨x, rfl, rx⟩ := rep1 r
    cases rx
    exact .inr ⟨a, rfl, k _ _ ⟨F, M, _, Le.refl F, S, .v _, q⟩⟩
theorem v_strI {i : Int} {M : Mm} {Q : QD} (h : i.natAbs.log2 < 1920) (q : Q (.str (Str.ofString (toString i))) M) : cStrA [.int i] M Q := .inl ⟨i, rfl, h, q⟩
theorem v_strS {a : Str} {M : Mm} {Q : QD} (q : Q (.str a) M) : cStrA [.str a] M Q := .inr ⟨a, rfl, q⟩
def cIntT : DC := fun ds M Q => ∃ a n, ds = [.str a] ∧ PySem.intText? a = some n ∧ a.length ≤ 640 ∧ Q (.int n) M
theorem l_intT : LiftC K (fun xs H Q => ∃ a n, xs = [.str a] ∧ PySem.intText? a = some n ∧ a.length ≤ 640 ∧ Q (.int n) H) cIntT := fun H F M xs ds Q' Q S r ⟨a, n, e, h1, h2, q⟩ k => by
  subst e
  obtain ⟨x, rfl, rx⟩ := rep1 r
  cases rx
  exact ⟨a, n, rfl, h1, h2, k _ _ ⟨F, M, _, Le.refl F, S, .v _, q⟩⟩
/-! repr -/
def cRepr : DC := fun ds M Q => ∃ d, ds = [d] ∧ pln d = true ∧ dep d ≤ 64 ∧ (pyD d).showable = true ∧ (pyD d).shown.length ≤ sizeLine ∧ Q (.str (pyD d).shown) M
def rReprD (K : PySem.W.Frag) : List V → Hp → VK → Prop := fun xs H Q => ∃ v d, xs = [v] ∧ Dp K H v d ∧ d.canLay0 = true ∧ d.depth ≤ 64 ∧ d.showable = true ∧ d.shown.length ≤ sizeLine ∧ Q (.str d.shown) H
theorem call_repr (hg : X.A.guards = some []) (hu : X.A.units + 80 < cLine) : CallR X (.builtin "repr") (rReprD X.K) := by
  rintro pins s σ H xs us Q I r ⟨v, d, rfl, hd, hl, h64, hs, hz, q⟩
  cases r with
  | cons rx rr =>
    cases rr
    obtain ⟨as, r1⟩ := Dp.reads I d v _ hd rx
    have hnd : d.hasDict = false := PyData.hasDict_of_canLay d hl
    cases r1 with
    | none => exact PySem.P.repr_of_none ⟨.str _, H, I.tok _, ⟨_, rfl⟩, q⟩
    | bool b => exact PySem.P.repr_of_bool ⟨.str _, H, I.tok _, ⟨_, rfl⟩, q⟩
    | int i t => exact PySem.P.repr_of_int (by simpa [PyData.showable] using hs) ⟨.str _, H, I.tok _, ⟨_, rfl⟩, q⟩
    | str x t => exact PySem.P.repr_of_str ⟨.str _, H, I.tok _, ⟨_, rfl⟩, q⟩ (by simpa only [PyData.shown] using hz)
    | list h1 h2 h3 h4 =>
      exact repr_of_reads' (.list h1 h2 h3 h4) hs (PyData.noDict_hsm hnd) hg (by omega) (fun _ _ e => e) (fun h' u tk hk => ⟨.str _, H, I.kept hk, ⟨_, rfl⟩, q⟩) hz
    | tuple h1 h2 h3 h4 =>
      exact repr_of_reads' (.tuple h1 h2 h3 h4) hs (PyData.noDict_hsm hnd) hg (by omega) (fun _ _ e => e) (fun h' u tk hk => ⟨.str _, H, I.kept hk, ⟨_, rfl⟩, q⟩) hz
    | dict h1 h2 h3 h4 h5 => simp [PyData.hasDict] at hnd
theorem l_repr : LiftC K (rReprD K) cRepr := fun H F M xs ds Q' Q S r ⟨d, e, h1, h2, h3, h4, q⟩ k => by
  subst e
  obtain ⟨x, rfl, rx⟩ := rep1 r
  exact ⟨x, pyD d, rfl, py_dp S d x rx h1, py_lay d h1, by rw [py_dep]; exact h2, h3, h4, k _ _ ⟨F, M, _, Le.refl F, S, .v _, q⟩⟩
end
end Y
namespace Y
open PySem PySem.Spec PyProof.Rows L2
theorem repr_units {k : Nat} {A : Around} (hr : Room k A) : A.units + 80 < cLine := by have := hr.un; omega
theorem i_words {a : Str} {M : Mm} {Q : QD} (hz : a.length + 2 ≤ sizeLine) (h : ∀ p, M p = none → Q (.ref p) (Y.put M p (.lst ((Txt.words a).map D.str)))) : tyD "str" (.str a) M ∧ mWords (.str a) [] M Q := ⟨rfl, a, rfl, rfl, hz, h⟩
end Y


set_option Elab.async false
set_option linter.all false
set_option maxRecDepth 100000
/-! readings of the defs, printed by gen.py -/
namespace YD
open PySem PySem.Spec PyProof.Rows L2 Y
/-- _law_begin, level 1, slots 0:script 1:seed 2:cell -/
def r__law_begin  : DS := dSeq (dAsg (dC (.int 1)) (dgName 1)) (dSeq (dFor (diIt (dVar 0)) (dgName 2) (dAsg (dOp (dI (fun _ j => 0 < j) fun i j => .int (i % j)) (dOp plusD (dOp plusD (dOp (dI CMul fun i j => .int (i * j)) (dVar 1) (dC (.int 69621))) (dOp (dI (fun _ j => 0 < j) fun i j => .int (i % j)) (dCB cInt (dCons (dVar 2) (dNil))) (dC (.int 2147483629)))) (dC (.int 7))) (dC (.int 2147483647))) (dgName 1))) (dRet (dLstM (dCons (dCB cList (dCons (dVar 0) (dNil))) (dCons (dC (.int 0)) (dCons (dC (.int 0)) (dCons (dVar 1) (dNil))))))))
/-- _law_take, level 1, slots 0:d 1:many 2:small 3:digit -/
def r__law_take  : DS := dSeq (dIfS (dAnd (dTest (dOp (eqD false) (dOp subD (dVar 0) (dC (.int 2))) (dC (.int 0)))) (dTest (dOp (dI0 fun i j => .bl (decide (i < j))) (dOp subD (dVar 0) (dC (.int 1))) (dCB cLen (dCons (dOp subD (dVar 0) (dC (.int 0))) (dNil)))))) (dSeq (dAsg (dCB cAbs (dCons (dCB cInt (dCons (dOp subD (dOp subD (dVar 0) (dC (.int 0))) (dOp subD (dVar 0) (dC (.int 1)))) (dNil))) (dNil))) (dgSub (dVar 0) (dC (.int 2)))) (dSeq (dAsg (dOp plusD (dOp subD (dVar 0) (dC (.int 1))) (dC (.int 1))) (dgSub (dVar 0) (dC (.int 1)))) (dIfS (dTest (dChain (dI0 fun i j => .bl (decide (i < j))) (dI0 fun i j => .bl (decide (i < j))) (dC (.int 0)) (dOp subD (dVar 0) (dC (.int 2))) (dVar 1))) (dSeq (dAsg (dOp subD (dVar 0) (dC (.int 2))) (dgName 2)) (dSeq (dAsg (dC (.int 0)) (dgSub (dVar 0) (dC (.int 2)))) (dRet (dVar 2)))) (dNext)))) (dNext)) (dSeq (dIfS (dTest (dOp (dI0 fun i j => .bl (decide (j < i))) (dOp subD (dVar 0) (dC (.int 2))) (dC (.int 0)))) (dSeq (dAsg (dOp (dI (fun _ j => 0 < j) fun i j => .int (i % j)) (dCB cInt (dCons (dOp subD (dVar 0) (dC (.int 2))) (dNil))) (dVar 1)) (dgName 3)) (dSeq (dAsg (dOp (dI CDiv fun i j => .int (i / j)) (dCB cInt (dCons (dOp subD (dVar 0) (dC (.int 2))) (dNil))) (dVar 1)) (dgSub (dVar 0) (dC (.int 2)))) (dRet (dVar 3)))) (dNext)) (dSeq (dAsg (dOp (dI (fun _ j => 0 < j) fun i j => .int (i % j)) (dCB cInt (dCons (dOp plusD (dOp (dI CMul fun i j => .int (i * j)) (dOp subD (dVar 0) (dC (.int 3))) (dC (.int 48271))) (dC (.int 11))) (dNil))) (dC (.int 2147483647))) (dgSub (dVar 0) (dC (.int 3)))) (dRet (dOp (dI (fun _ j => 0 < j) fun i j => .int (i % j)) (dCB cInt (dCons (dOp (dI CDiv fun i j => .int (i / j)) (dOp subD (dVar 0) (dC (.int 3))) (dC (.int 3))) (dNil))) (dVar 1)))))
/-- _law_pick, level 2, slots 0:d 1:menu -/
def r__law_pick (s__law_take : DSp) : DS := dRet (dOp subD (dVar 1) (dCall s__law_take (dCons (dVar 0) (dCons (dCB cLen (dCons (dVar 1) (dNil))) (dNil)))))
end YD


set_option Elab.async false
set_option linter.all false
set_option maxRecDepth 100000
set_option maxHeartbeats 2000000
set_option pp.deepTerms false
set_option pp.maxSteps 400
/-! YD: the draws: what _law_begin, _law_take, _law_pick promise. -/
namespace YD
open PySem PySem.Spec PyProof.Rows L2 Y
local macro_rules | `(tactic| walk_at "y_ne") => `(tactic| first | assumption | exact Ne.symm (by assumption) | ((refine ne_none (M := ?yM) (m := ?ymo) ?ym1 ?ym2); (case ym2 => assumption); (case ym1 => walk_at "y_look")) | ((refine Ne.symm (ne_none (M := ?yM) (m := ?ymo) ?ym1 ?ym2)); (case ym2 => assumption); (case ym1 => walk_at "y_look")) | ((refine ne_none (M := ?yM) (m := ?ymo) ?ym1 (put_none (M := ?yM) (a := ?yma) (m := ?ymo2) ?ym2).2); (case ym2 => assumption); (case ym1 => walk_at "y_look")) | ((refine Ne.symm (ne_none (M := ?yM) (m := ?ymo) ?ym1 (put_none (M := ?yM) (a := ?yma) (m := ?ymo2) ?ym2).2)); (case ym2 => assumption); (case ym1 => walk_at "y_look")))
local macro_rules | `(tactic| walk_at "y_look") => `(tactic| first | assumption | exact put_same | ((with_reducible refine Eq.trans (put_ne ?yn) ?_); (case yn => walk_at "y_ne"); (walk_at "y_look")) | ((with_reducible refine Eq.trans (drop_ne ?yn) ?_); (case yn => walk_at "y_ne"); (walk_at "y_look")))
local macro_rules | `(tactic| walk_at "y_pl") => `(tactic| first | assumption | exact PlL.nil | exact Pl.int _ | exact Pl.non | exact Pl.bl _ | exact Pl.str (by decide +kernel) | ((with_reducible refine PlL.cons ?yp1 ?yp2); (case yp1 => walk_at "y_pl"); (case yp2 => walk_at "y_pl")) | ((with_reducible refine PlL.append ?yp1 ?yp2); (case yp1 => walk_at "y_pl"); (case yp2 => walk_at "y_pl")) | ((with_reducible refine Pl.tup ?yp1); (case yp1 => walk_at "y_pl")) | ((with_reducible refine PlL.mono (j := ?yj) ?yp1 ?yp2); (case yp1 => assumption); (case yp2 => first | decide | omega)) | ((with_reducible refine Pl.mono (j := ?yj) ?yp1 ?yp2); (case yp1 => assumption); (case yp2 => first | decide | omega)))
local macro_rules | `(tactic| walk_at "y_len") => `(tactic| ((try simp only [List.length_append, List.length_cons, List.length_nil, List.length_map, sizeLine_eq] at *); omega))
local macro_rules | `(tactic| walk_at "y_rfl") => `(tactic| first | rfl | (simp only [atI_nn]; rfl))
local macro_rules | `(tactic| walk_at "y_at") => `(tactic| first | exact atI_nn _ 0 | rfl)
local macro_rules | `(tactic| walk_at "y_cond") => `(tactic| first
  | (show (0 : Int) < _; first | decide | assumption | omega)
  | (exact ⟨by first | decide | assumption | omega, by first | decide | assumption | omega⟩)
  | (exact Or.inl ⟨by first | decide | assumption | omega, by first | decide | assumption | omega⟩)
  | (exact Or.inr ⟨by first | decide | assumption | omega, by first | decide | assumption | omega⟩)
  | (exact ⟨by decide, by decide, by decide⟩))
local macro_rules | `(tactic| walk_at "y1") => `(tactic| first
  | (with_reducible first | refine i_seq ?_ | refine i_next ?_ | refine i_asg ?_ | refine i_ret ?_ | refine i_retN ?_ | refine i_drop ?_ | refine i_cont ?_ | refine i_break ?_ | refine i_ifs ?_ | refine i_if ?_ | refine i_and ?_ | refine i_or ?_ | refine i_not ?_ | refine i_test ?_ | refine i_tru ?_ | refine i_andV ?_ | refine i_orV ?_ | refine i_notV ?_ | refine i_bl ?_ | refine i_op ?_ | refine i_chain ?_ | refine i_c ?_ | refine i_cd ?_ | refine i_nil ?_ | refine i_cons ?_ | refine i_call ?_ | refine i_cb ?_ | refine i_tup ?_ | refine i_lst ?_ | refine i_lstM ?_ | refine i_dict ?_ | refine i_frz ?_ | refine i_name ?_ | refine i_gcons ?_ | refine i_gnil ?_ | refine i_gsub ?_ | refine i_par ?_ | refine i_par2 ?_ | refine i_un ?_ | refine i_int ?_ | refine i_slice ?_ | refine i_onone ?_ | refine i_osome ?_ | refine i_bm ?_ | refine i_bm0 ?_ | refine i_get1 ?_ | refine i_get2 ?_ | refine i_del ?_ | refine i_for ?_ | refine i_lc ?_ | refine i_dc ?_ | refine i_yes ?_ | refine i_it ?_ | refine i_rng1 ?_ | refine i_fld ?_ | refine i_sfld ?_ | refine i_meth ?_ | refine i_make ?_ | refine v_I0 ?_ | refine v_plusI ?_ | refine v_eqI ?_ | refine v_eqS ?_ | refine v_isN ?_ | refine v_int ?_ | refine v_abs ?_ | refine v_sliceT ?_ | refine v_sliceL ?_ | refine b_fx ?_ | refine b_tx ?_)
  | ((with_reducible refine i_var (d := ?yd) ?ye0 ?_); (case ye0 => rfl))
  | ((with_reducible refine i_gtup ?ye0 ?_); (case ye0 => rfl))
  | (with_reducible refine iteT ?_)
  | (with_reducible refine iteF ?_)
  | (with_reducible refine b_dec ?_ ?_ <;> intro hc)
  | (with_reducible refine b_ndec ?_ ?_ <;> intro hc)
  | ((with_reducible refine v_subT (d := ?yd) ?ye0 ?_); (case ye0 => rfl))
  | ((with_reducible refine v_subL (d := ?yd) ?ye0 ?_); (case ye0 => rfl))
  | ((with_reducible refine v_subM (ds := ?yds) (d := ?yd) ?ye0 ?ye1 ?_); (case ye0 => (walk_at "y_look")); (case ye1 => rfl))
  | ((with_reducible refine v_setL (ds := ?yds) (j := ?yj) ?ye0 ?ye1 ?_); (case ye0 => (walk_at "y_look")); (case ye1 => rfl))
  | ((with_reducible refine v_I ?ye0 ?_); (case ye0 => (walk_at "y_cond")))
  | ((with_reducible refine i_sz ?ye0 ?_); (case ye0 => (first | exact Nat.le_of_ble_eq_true rfl | (simp only [List.length_append, List.length_cons, List.length_nil, List.length_map, sizeLine_eq] at *; omega))))
  | (with_reducible refine i_new fun yp yhp => ?_)
  | ((with_reducible refine v_app (ds := ?yds) ?ye0 ?ye1 ?_); (case ye0 => (walk_at "y_look")); (case ye1 => (first | (simp only [List.length_append, List.length_cons, List.length_nil, List.length_map, sizeLine_eq] at *; omega))))
  | ((with_reducible refine i_tyL (ds := ?yds) ?ye0 ?_); (case ye0 => (walk_at "y_look")))
  | (with_reducible refine i_tyl ?_)
  | ((with_reducible refine v_subK (kvs := ?ykv) (k := ?yk) (d := ?yd) ?ye0 ?ye1 ?ye2 ?_); (case ye0 => (walk_at "y_look")); (case ye1 => rfl); (case ye2 => first | assumption | rfl))
  | ((with_reducible refine v_plusL (ds := ?yds) (es := ?yes) ?ye0 ?ye1 ?ye2 ?_); (case ye0 => first | rfl | (with_reducible refine lsD_ref (ds := ?yds2) ?yl0; walk_at "y_look")); (case ye1 => first | rfl | (with_reducible refine lsD_ref (ds := ?yds2) ?yl0; walk_at "y_look")); (case ye2 => (simp only [List.length_append, List.length_cons, List.length_nil, List.length_map, sizeLine_eq] at *; omega)))
  | ((with_reducible refine v_plusT ?ye0 ?_); (case ye0 => (simp only [List.length_append, List.length_cons, List.length_nil, List.length_map, sizeLine_eq] at *; omega)))
  | ((with_reducible refine i_rng1d ?ye0 ?_); (case ye0 => (constructor <;> omega)))
  | ((with_reducible refine v_len (n := ?yn) ?ye0 ?_); (case ye0 => first | ((with_reducible refine lenD_ref (ds := ?yds) ?yl0); (case yl0 => walk_at "y_look")) | rfl))
  | ((with_reducible refine v_list (es := ?yes) ?ye0 ?_); (case ye0 => first | (with_reducible refine itD_ref (ds := ?yds) ?yl0; walk_at "y_look") | rfl))
  | ((with_reducible refine v_tuple (es := ?yes) ?ye0 ?_); (case ye0 => first | (with_reducible refine itD_ref (ds := ?yds) ?yl0; walk_at "y_look") | rfl))
  | ((with_reducible refine v_eqP ?ye0 ?ye1 fun yb => ?_); (case ye0 => walk_at "y_pl"); (case ye1 => walk_at "y_pl"))
  | (with_reducible refine b_emp ?_ ?_ <;> intro hc)
  | (with_reducible refine i_trul ?_)
  | (with_reducible refine i_trut ?_)
  | (with_reducible refine i_trub ?_)
  | ((with_reducible refine v_inT ?ye0 ?_); (case ye0 => exact ⟨rfl, rfl⟩))
  | (with_reducible refine b_var ?_ ?_ <;> intro hc)
  | ((with_reducible refine i_its (ds := ?yds) ?ye0 ?_); (case ye0 => rfl)))
local macro_rules | `(tactic| walk_at "y0") => `(tactic| repeat' (walk_at "y1"))
local macro_rules | `(tactic| walk_at "ys") => `(tactic| walk_at "y0")
structure Tk where
  ns : List Int
  i : Int
  cur : Int
  seed : Int
def Tk.ok (t : Tk) : Prop := 0 ≤ t.i ∧ 0 ≤ t.cur ∧ 0 ≤ t.seed ∧ t.seed < 2147483647
def tkM (t : Tk) : MO := .lst [.lst (t.ns.map D.int), .int t.i, .int t.cur, .int t.seed]
/-- any number from 0 on, below many -/
def spTake : DSp := fun ds M Q _ => ∃ a t many, ds = [.ref a, .int many] ∧ M a = some (tkM t) ∧ t.ok ∧ 0 < many ∧ many < 1073741824 ∧ ∀ r t', 0 ≤ r → r < many → t'.ok → Q (.int r) (put M a (tkM t'))
def spBegin : DSp := fun ds M Q _ => ∃ ns : List Int, ds = [.lst (ns.map D.int)] ∧ ∀ p t, M p = none → t.ok → Q (.ref p) (put M p (tkM t))
/-- any of the menu's items -/
def spPick : DSp := fun ds M Q _ => ∃ a t menu, ds = [.ref a, .lst menu] ∧ M a = some (tkM t) ∧ t.ok ∧ menu ≠ [] ∧ menu.length < 1073741824 ∧ ∀ d t', d ∈ menu → t'.ok → Q d (put M a (tkM t'))
theorem tk_fin {a : Addr} {t : Tk} {many : Int} {M : Mm} {Q : QD} {i cur seed r : Int} (k : ∀ r t', 0 ≤ r → r < many → t'.ok → Q (.int r) (put M a (tkM t'))) {M' : Mm}
    (e : M' = put M a (.lst [.lst (t.ns.map D.int), .int i, .int cur, .int seed])) (h0 : 0 ≤ r) (h1 : r < many) (hi : 0 ≤ i) (hc : 0 ≤ cur) (hs : 0 ≤ seed) (hs' : seed < 2147483647) : less Q (.int r) M' := less_of (k r ⟨t.ns, i, cur, seed⟩ h0 h1 ⟨hi, hc, hs, hs'⟩) e
theorem sub_ints {ns : List Int} {i : Int} {M : Mm} {Q : QD} (h0 : 0 ≤ i) (h : i < ns.length) (q : ∀ z, Q (.int z) M) : subD (.lst (ns.map D.int)) (.int i) M Q := by
  obtain ⟨n, rfl⟩ := Int.eq_ofNat_of_zero_le h0
  exact v_subL (by rw [atI_nn]; simp [show n < ns.length by omega]; rfl) (q _)
theorem rd_take (ds : List D) (M : Mm) (Q : QD) (E : DX) (h : spTake ds M Q E) : r__law_take { nx := fun _ M' => less Q .non M', rt := less Q } (startD 4 ds) M := by
  obtain ⟨a, t, many, rfl, hM, ⟨h0, h1, h2, h3⟩, h5, h6, k⟩ := h
  unfold tkM at hM
  show r__law_take _ [some (.ref a), some (.int many), none, none] M
  unfold r__law_take
  have m0 : ∀ z : Int, 0 ≤ z % many := fun z => Int.emod_nonneg _ (by omega)
  have m1 : ∀ z : Int, z % many < many := fun z => Int.emod_lt_of_pos _ h5
  have m2 : ∀ z : Int, 0 ≤ z → 0 ≤ z / many := fun z hz => Int.ediv_nonneg hz (by omega)
  have m3 : ∀ z : Int, 0 ≤ z % 2147483647 := fun z => Int.emod_nonneg _ (by omega)
  have m4 : ∀ z : Int, z % 2147483647 < 2147483647 := fun z => Int.emod_lt_of_pos _ (by omega)
  walk_at "ys"
  · refine sub_ints h0 (by rename_i z1; simpa using z1) fun z => ?_
    have hz : 0 ≤ (if z < 0 then -z else z) := by split <;> omega
    generalize hw : (if z < 0 then -z else z) = w at hz
    walk_at "ys"
    all_goals first
      | exact tk_fin (t := t) k (by first | (simp only [put_put]; rfl) | rfl) (by omega) (by omega) (by omega) (by omega) h2 h3
      | exact tk_fin (t := t) k (by first | (simp only [put_put]; rfl) | rfl) (m0 _) (m1 _) (by omega) (m2 _ (by omega)) h2 h3
      | exact tk_fin (t := t) k (by first | (simp only [put_put]; rfl) | rfl) (m0 _) (m1 _) (by omega) (by omega) (m3 _) (m4 _)
  all_goals first
    | exact tk_fin (t := t) k (by first | (simp only [put_put]; rfl) | rfl) (m0 _) (m1 _) (by omega) (m2 _ (by omega)) h2 h3
    | exact tk_fin (t := t) k (by first | (simp only [put_put]; rfl) | rfl) (m0 _) (m1 _) (by omega) (by omega) (m3 _) (m4 _)
theorem rd_pick (ds : List D) (M : Mm) (Q : QD) (E : DX) (h : spPick ds M Q E) : r__law_pick spTake { nx := fun _ M' => less Q .non M', rt := less Q } (startD 2 ds) M := by
  obtain ⟨a, t, menu, rfl, hM, ok, h5, h6, k⟩ := h
  show r__law_pick _ _ [some (.ref a), some (.lst menu)] M
  unfold r__law_pick
  have hl : 0 < menu.length := by cases menu with | nil => exact absurd rfl h5 | cons _ _ => simp
  walk_at "ys"
  refine ⟨a, t, _, rfl, hM, ok, by omega, by omega, fun r t' r0 r1 ok' => ?_⟩
  obtain ⟨n, rfl⟩ := Int.eq_ofNat_of_zero_le r0
  have hn : n < menu.length := by omega
  refine v_subL (d := menu[n]) (by rw [atI_nn]; simp [hn]) ?_
  exact less_of (k _ t' (List.getElem_mem hn) ok') rfl
theorem rd_begin (ds : List D) (M : Mm) (Q : QD) (E : DX) (h : spBegin ds M Q E) : r__law_begin { nx := fun _ M' => less Q .non M', rt := less Q } (startD 3 ds) M := by
  obtain ⟨ns, rfl, k⟩ := h
  show r__law_begin _ [some (.lst (ns.map D.int)), none, none] M
  unfold r__law_begin
  walk_at "ys"
  refine for_word (fun i δ M' => ∃ z c, 0 ≤ z ∧ z < 2147483647 ∧ δ = [some (.lst (ns.map D.int)), some (.int z), c] ∧ M' = M) ⟨1, none, by omega, by omega, rfl, rfl⟩ ?_ ?_
  · rintro i d δ M' hd ⟨z, c, z0, z1, rfl, rfl⟩
    obtain ⟨y, rfl⟩ : ∃ y, d = .int y := by
      rw [List.getElem?_map] at hd
      cases e : ns[i]? with
      | none => rw [e] at hd; cases hd
      | some y => rw [e] at hd; exact ⟨y, (Option.some.inj hd).symm⟩
    walk_at "ys"
    exact ⟨_, _, Int.emod_nonneg _ (by omega), Int.emod_lt_of_pos _ (by omega), rfl, rfl⟩
  · rintro δ M' ⟨z, c, z0, z1, rfl, rfl⟩
    walk_at "ys"
    rename_i p hp
    exact less_of (k p ⟨ns, 0, 0, z⟩ hp ⟨Int.le_refl 0, Int.le_refl 0, z0, z1⟩) rfl
theorem i_take {a : Addr} {t : Tk} {many : Int} {M : Mm} {Q : QD} {E : DX} (hM : M a = some (tkM t)) (ok : t.ok) (hb : 0 < many ∧ many < 1073741824) (h : ∀ r t', 0 ≤ r → r < many → t'.ok → Q (.int r) (put M a (tkM t'))) : spTake [.ref a, .int many] M Q E := ⟨a, t, many, rfl, hM, ok, hb.1, hb.2, h⟩
theorem i_pick {P : D → Prop} {a : Addr} {t : Tk} {menu : List D} {M : Mm} {Q : QD} {E : DX} (hM : M a = some (tkM t)) (ok : t.ok) (hb : 0 < menu.length ∧ menu.length < 1073741824) (hP : ∀ d ∈ menu, P d) (h : ∀ d t', P d → t'.ok → Q d (put M a (tkM t'))) : spPick [.ref a, .lst menu] M Q E :=
  ⟨a, t, menu, rfl, hM, ok, fun e => by rw [e] at hb; exact absurd hb.1 (by decide), hb.2, fun d t' hd => h d t' (hP d hd)⟩
theorem i_pick2 {k : Nat} {a : Addr} {t : Tk} {menu : List D} {M : Mm} {Q : QD} {E : DX} (hM : M a = some (tkM t)) (ok : t.ok) (hb : 0 < menu.length ∧ menu.length < 1073741824) (hP : PlL k menu) (h : ∀ d t', Pl k d → d ∈ menu → t'.ok → Q d (put M a (tkM t'))) : spPick [.ref a, .lst menu] M Q E :=
  ⟨a, t, menu, rfl, hM, ok, fun e => by rw [e] at hb; exact absurd hb.1 (by decide), hb.2, fun d t' hd => h d t' (hP d hd) hd⟩
/-- a comprehension by a word that holds between the turns -/
theorem lc_wordG {G : Mm → Prop} {g : DG} {tt : DT} {te : DE} {δ0 : Y.Env} {p : Addr} {Q : Mm → Prop} {ds : List D} {M : Mm} (I : Nat → Mm → Prop) (h0 : I 0 M) (hs : ∀ i d M, ds[i]? = some d → I i M → g d δ0 M fun δ' M1 => tt δ' M1 fun b M2 => if b = true then te δ' M2 fun e M3 => ∃ acc, M3 p = some (.lst acc) ∧ acc.length < sizeLine ∧ I (i + 1) (put M3 p (.lst (acc ++ [e]))) else I (i + 1) M2)
    (hd : ∀ M, I ds.length M → Q M) (hG : ∀ i M, I i M → G M) : lcD G g tt te δ0 p Q ds M := by
  induction ds generalizing I M with
  | nil => exact ⟨hG _ _ h0, hd _ h0⟩
  | cons d ds ih =>
    refine ⟨hG _ _ h0, I 1, fun M' h => ?_, hs 0 d M rfl h0⟩
    exact ih (fun i => I (i + 1)) h (fun i d M e h => hs (i + 1) d M (by simpa using e) h) hd (fun i => hG (i + 1))
theorem lc_word {g : DG} {tt : DT} {te : DE} {δ0 : Y.Env} {p : Addr} {Q : Mm → Prop} {ds : List D} {M : Mm} (I : Nat → Mm → Prop) (h0 : I 0 M) (hs : ∀ i d M, ds[i]? = some d → I i M → g d δ0 M fun δ' M1 => tt δ' M1 fun b M2 => if b = true then te δ' M2 fun e M3 => ∃ acc, M3 p = some (.lst acc) ∧ acc.length < sizeLine ∧ I (i + 1) (put M3 p (.lst (acc ++ [e]))) else I (i + 1) M2)
    (hd : ∀ M, I ds.length M → Q M) : lcD GT g tt te δ0 p Q ds M := lc_wordG I h0 hs hd fun _ _ _ => trivial
theorem put_comm {M : Mm} {a b : Addr} {m n : MO} (h : a ≠ b) : put (put M a m) b n = put (put M b n) a m := by
  funext c
  unfold put
  by_cases h1 : c = a
  · subst h1; simp [h]
  · simp [h1]
/-- a comprehension that draws -/
theorem frz_drawG {G : Mm → Prop} (P : D → Prop) (all : Bool) {a p : Addr} {t : Tk} {g : DG} {te : DE} {tt : DT} {δ0 : Y.Env} {ds : List D} {M : Mm} {Q : Mm → Prop} (hM : M a = some (tkM t)) (ok : t.ok) (hp : M p = none) (hl : ds.length < sizeLine)
    (hs : ∀ d ∈ ds, ∀ t' M' (R : Mm → Prop), t'.ok → M' a = some (tkM t') → (∀ b, b ≠ a → b ≠ p → M' b = M b) → M' p ≠ none → (∀ e t'', P e → t''.ok → ∃ acc, put M' a (tkM t'') p = some (.lst acc) ∧ acc.length < sizeLine ∧ R (put (put M' a (tkM t'')) p (.lst (acc ++ [e])))) → (all = false → ∀ t'', t''.ok → R (put M' a (tkM t''))) →
      g d δ0 M' fun δ' M1 => tt δ' M1 fun b M2 => if b = true then te δ' M2 fun e M3 => ∃ acc, M3 p = some (.lst acc) ∧ acc.length < sizeLine ∧ R (put M3 p (.lst (acc ++ [e]))) else R M2)
    (k : ∀ es t' M', M' p = some (.lst es) → drop M' p = put M a (tkM t') → (∀ e ∈ es, P e) → es.length ≤ ds.length → (all = true → es.length = ds.length) → t'.ok → Q M') (hG : ∀ t' es, G (put (put M a (tkM t')) p (.lst es))) : lcD G g tt te δ0 p Q ds (put M p (.lst [])) := by
  have hap : a ≠ p := ne_none hM hp
  refine lc_wordG (fun i M' => ∃ t' es, t'.ok ∧ (∀ e ∈ es, P e) ∧ es.length ≤ i ∧ (all = true → es.length = i) ∧ i ≤ ds.length ∧ M' = put (put M a (tkM t')) p (.lst es)) ⟨t, [], ok, fun _ h => (by cases h), Nat.le_refl _, fun _ => rfl, Nat.zero_le _, ?_⟩ ?_ ?_ (fun i M' ⟨t', es, _, _, _, _, _, e⟩ => by rw [e]; exact hG t' es)
  · funext c; unfold put; by_cases h : c = p
    · simp [h]
    · by_cases h' : c = a
      · subst h'; simp [h, hM]
      · simp [h, h']
  · rintro i d M' hd ⟨t', es, o, hP, h1, h2, h3, rfl⟩
    have hi : i < ds.length := (List.getElem?_eq_some_iff.mp hd).1
    have key : ∀ (t'' : Tk), put (put (put M a (tkM t')) p (.lst es)) a (tkM t'') = put (put M a (tkM t'')) p (.lst es) := fun t'' => by
      rw [put_comm (M := put M a (tkM t')) hap.symm, put_put]
    refine hs d (List.mem_of_getElem? hd) t' _ _ o (by rw [put_ne hap]; exact put_same) (fun b hb hb' => by rw [put_ne hb', put_ne hb]) (by rw [put_same]; exact nofun) ?_ ?_
    · intro e t'' he o'
      rw [key]
      refine ⟨es, put_same, by omega, t'', es ++ [e], o', ?_, by simp; omega, fun z => by simp [h2 z], by omega, ?_⟩
      · intro e' he'
        rcases List.mem_append.mp he' with z | z
        · exact hP _ z
        · rw [List.mem_singleton.mp z]; exact he
      · rw [put_put]
    · intro hy t'' o'
      exact ⟨t'', es, o', hP, by omega, fun z => (by rw [hy] at z; cases z), by omega, by rw [key]⟩
  · rintro M' ⟨t', es, o, hP, h1, h2, h3, rfl⟩
    exact k es t' _ put_same (drop_put (by rw [put_ne hap.symm]; exact hp)) hP h1 h2 o
theorem frz_draw (P : D → Prop) (all : Bool) {a p : Addr} {t : Tk} {g : DG} {te : DE} {tt : DT} {δ0 : Y.Env} {ds : List D} {M : Mm} {Q : Mm → Prop} (hM : M a = some (tkM t)) (ok : t.ok) (hp : M p = none) (hl : ds.length < sizeLine)
    (hs : ∀ d ∈ ds, ∀ t' M' (R : Mm → Prop), t'.ok → M' a = some (tkM t') → (∀ b, b ≠ a → b ≠ p → M' b = M b) → M' p ≠ none → (∀ e t'', P e → t''.ok → ∃ acc, put M' a (tkM t'') p = some (.lst acc) ∧ acc.length < sizeLine ∧ R (put (put M' a (tkM t'')) p (.lst (acc ++ [e])))) → (all = false → ∀ t'', t''.ok → R (put M' a (tkM t''))) →
      g d δ0 M' fun δ' M1 => tt δ' M1 fun b M2 => if b = true then te δ' M2 fun e M3 => ∃ acc, M3 p = some (.lst acc) ∧ acc.length < sizeLine ∧ R (put M3 p (.lst (acc ++ [e]))) else R M2)
    (k : ∀ es t' M', M' p = some (.lst es) → drop M' p = put M a (tkM t') → (∀ e ∈ es, P e) → es.length ≤ ds.length → (all = true → es.length = ds.length) → t'.ok → Q M') : lcD GT g tt te δ0 p Q ds (put M p (.lst [])) := frz_drawG P all hM ok hp hl hs k fun _ _ => trivial
theorem put_id {M : Mm} {a : Addr} {m : MO} (h : M a = some m) : put M a m = M := by
  funext b
  unfold put
  by_cases e : b = a
  · subst e; simp [h]
  · simp [e]
/-- forget how a value came, but for P -/
theorem split_at {te : DE} {δ : Y.Env} {M : Mm} {K : QD} (P : D → Mm → Prop) (h1 : ∀ K' : QD, (∀ d M', P d M' → K' d M') → te δ M K') (h2 : ∀ d M', P d M' → K d M') : te δ M K := h1 K h2
theorem i_disp {l : List (DE × DE)} {δ : Y.Env} {M : Mm} {Q : QD} (h : ∀ p, M p = none → dPairs l δ (put M p (.dct [])) fun ps M2 => M2 p = some (.dct []) ∧ ∃ kvs, keysD ps = some kvs ∧ kvs.length ≤ 15 ∧ Q (.ref p) (put M2 p (.dct (mergeD kvs)))) : dDisp l δ M Q := h
theorem i_pcons {tk tv : DE} {r : List (DE × DE)} {δ : Y.Env} {M : Mm} {Q : List (D × D) → Mm → Prop} (h : tk δ M fun x M1 => tv δ M1 fun y M2 => dPairs r δ M2 fun ps M3 => Q ((x, y) :: ps) M3) : dPairs ((tk, tv) :: r) δ M Q := h
theorem i_pnil {δ : Y.Env} {M : Mm} {Q : List (D × D) → Mm → Prop} (h : Q [] M) : dPairs [] δ M Q := h
theorem i_mut {te : DE} {δ : Y.Env} {M : Mm} {R : List D → (Mm → Prop) → Mm → Prop} (h : te δ M fun d M1 => ∃ a ds, d = .ref a ∧ M1 a = some (.lst ds) ∧ R ds (fun M => M a = some (.lst ds)) M1) : diMut te δ M R := h
theorem i_mutd {M : Mm} {a : Addr} {ds : List D} {R : Addr → List D → Prop} (em : M a = some (.lst ds)) (h : R a ds) : ∃ b es, D.ref a = .ref b ∧ M b = some (.lst es) ∧ R b es := ⟨a, ds, rfl, em, h⟩
theorem valD_same {kvs : List (Key × D)} {k : Key} {d : D} : valD (putKD kvs k d) k = some d := by
  unfold valD putKD
  split
  · rename_i h
    induction kvs with
    | nil => simp at h
    | cons kv r ih =>
      by_cases e : kv.1 = k
      · simp [e]
      · have h' : (r.any fun kv => decide (kv.1 = k)) = true := by simpa [e] using h
        simpa [e] using ih h'
  · rename_i h
    have : kvs.find? (fun kv => decide (kv.1 = k)) = none := by
      rw [List.find?_eq_none]
      intro x hx hk
      exact h (by rw [List.any_eq_true]; exact ⟨x, hx, hk⟩)
    simp [this]
theorem valD_ne {kvs : List (Key × D)} {k k' : Key} {d e : D} (hk : k' ≠ k) (h : valD kvs k' = some e) : valD (putKD kvs k d) k' = some e := by
  have hk' : ¬ k = k' := fun z => hk z.symm
  unfold valD putKD at *
  split
  · rename_i h1
    clear h1
    induction kvs with
    | nil => simp at h
    | cons kv r ih =>
      by_cases e1 : kv.1 = k'
      · have e2 : ¬ kv.1 = k := fun z => hk (by rw [← e1, z])
        simp [e1, hk] at h ⊢
        exact h
      · by_cases e2 : kv.1 = k
        · simp [e2, hk'] at h ⊢
          simpa using ih (by simpa using h)
        · simp [e1, e2] at h ⊢
          simpa using ih (by simpa using h)
  · rw [List.find?_append]
    cases e1 : kvs.find? (fun kv => decide (kv.1 = k')) with
    | none => rw [e1] at h; cases h
    | some x => rw [e1] at h; exact h
theorem putKD_len {kvs : List (Key × D)} {k : Key} {d : D} : (putKD kvs k d).length ≤ kvs.length + 1 := by
  unfold putKD
  split <;> simp
theorem cut_mem {α : Type} {ds : List α} {lo hi : Option Int} {d : α} (h : d ∈ cut ds lo hi) : d ∈ ds := List.mem_of_mem_drop (List.mem_of_mem_take h)
theorem cut_len {α : Type} (ds : List α) (lo hi : Option Int) : (cut ds lo hi).length ≤ ds.length := by unfold cut; simp; omega
theorem cut_pl {k : Nat} {ds : List D} {lo hi : Option Int} (h : PlL k ds) : PlL k (cut ds lo hi) := fun d hd => h d (cut_mem hd)
theorem cut_pos {α : Type} {ds : List α} {n : Int} (h1 : 0 < n) (h2 : 0 < ds.length) : 0 < (cut ds none (some n)).length := by
  have e : HT.sIx ds.length ds.length (some n) = min n.toNat ds.length := by
    show (if n < 0 then (n + (ds.length : Int)).toNat else min n.toNat ds.length) = _
    rw [if_neg (by omega)]
  unfold cut
  rw [e, show HT.sIx ds.length 0 none = 0 from rfl, List.length_take, List.length_drop]
  omega
theorem pl_flat {d : D} (h : Pl 0 d) : flatD d = true := by
  obtain ⟨h1, h2⟩ := h
  cases d with
  | v x => cases x <;> simp_all [flatD, flatV, pln]
  | tup ds => simp [dep] at h2
  | lst ds => simp [dep] at h2
theorem pll_flat {ds : List D} (h : PlL 0 ds) : ds.all flatD = true := List.all_eq_true.mpr fun d hd => pl_flat (h d hd)
def KL (kvs : List (Key × D)) (n : Nat) : Prop := kvs.length ≤ n
theorem KL.put {kvs : List (Key × D)} {k : Key} {d : D} {n : Nat} (h : KL kvs n) : KL (putKD kvs k d) (n + 1) := Nat.le_trans putKD_len (Nat.succ_le_succ h)
theorem KL.merge {kvs : List (Key × D)} : KL (mergeD kvs) kvs.length := by
  have : ∀ (l acc : List (Key × D)), (l.foldl (fun acc kv => putKD acc kv.1 kv.2) acc).length ≤ acc.length + l.length := by
    intro l
    induction l with
    | nil => intro acc; simp
    | cons x l ih =>
      intro acc
      have h1 := ih (putKD acc x.1 x.2)
      have h2 := putKD_len (kvs := acc) (k := x.1) (d := x.2)
      simp only [List.foldl, List.length_cons]
      omega
  exact by simpa [KL, mergeD] using this kvs []
theorem KL.lt {kvs : List (Key × D)} {n : Nat} (h : KL kvs n) (hn : n < 1000) : kvs.length < sizeLine := by rw [sizeLine_eq]; have h : kvs.length ≤ n := h; omega
theorem v_inT' {neg : Bool} {d : D} {ds : List D} {M : Mm} {Q : QD} (h1 : Pl 0 d) (h2 : PlL 0 ds) (h : ∀ b, Q (.bl b) M) : inD neg d (.tup ds) M Q := ⟨pl_flat h1, pll_flat h2, h _⟩
theorem bls_app {es : List D} {bs : List Bool} {b : Bool} (h : blsD es = some bs) : blsD (es ++ [.bl b]) = some (bs ++ [b]) := by
  induction es generalizing bs with
  | nil => simp [blsD] at h; subst h; rfl
  | cons d es ih =>
    cases d with
    | v x =>
      cases x with
      | bl c =>
        simp only [blsD] at h
        cases e : blsD es with
        | none => rw [e] at h; cases h
        | some cs =>
          rw [e] at h
          cases h
          show (blsD (es ++ [.bl b])).map (c :: ·) = _
          rw [ih e]; rfl
      | _ => simp [blsD] at h
    | tup _ => simp [blsD] at h
    | lst _ => simp [blsD] at h
theorem len3 {ds : List D} (h : ds.length = 3) : ∃ x y z, ds = [x, y, z] := by
  match ds, h with
  | [x, y, z], _ => exact ⟨x, y, z, rfl⟩
theorem len2 {ds : List D} (h : ds.length = 2) : ∃ x y, ds = [x, y] := by
  match ds, h with
  | [x, y], _ => exact ⟨x, y, rfl⟩
end YD


set_option Elab.async false
set_option linter.all false
set_option maxRecDepth 100000
set_option maxHeartbeats 1000000
/-! YK: dicts by their keys, plain Lean. -/
namespace Y
open PySem PySem.Spec PyProof.Rows L2
def KN (kvs : List (Key × D)) : Prop := (kvs.map (·.1)).Nodup
theorem valD_nil (k : Key) : valD ([] : List (Key × D)) k = none := rfl
theorem valD_cons {kv : Key × D} {r : List (Key × D)} {k : Key} : valD (kv :: r) k = if kv.1 = k then some kv.2 else valD r k := by
  unfold valD
  by_cases h : kv.1 = k
  · simp [h]
  · simp [h]
theorem valD_mem {kvs : List (Key × D)} {k : Key} : k ∈ kvs.map (·.1) ↔ (valD kvs k).isSome = true := by
  induction kvs with
  | nil => simp [valD_nil]
  | cons kv r ih =>
    rw [valD_cons]
    by_cases h : kv.1 = k
    · simp [h]
    · rw [if_neg h, ← ih]
      rw [List.map_cons, List.mem_cons]
      exact ⟨fun e => e.resolve_left fun z => h z.symm, Or.inr⟩
theorem valD_none {kvs : List (Key × D)} {k : Key} : valD kvs k = none ↔ k ∉ kvs.map (·.1) := by
  rw [valD_mem]
  cases valD kvs k <;> simp
theorem keys_old {kvs : List (Key × D)} {k : Key} {d : D} (h : k ∈ kvs.map (·.1)) : (putKD kvs k d).map (·.1) = kvs.map (·.1) := by
  unfold putKD
  have e : (kvs.any fun kv => decide (kv.1 = k)) = true := by
    obtain ⟨kv, h1, h2⟩ := List.mem_map.mp h
    exact List.any_eq_true.mpr ⟨kv, h1, by simp [h2]⟩
  rw [if_pos e, List.map_map]
  apply List.map_congr_left
  intro kv _
  by_cases q : kv.1 = k <;> simp [q]
theorem keys_new {kvs : List (Key × D)} {k : Key} {d : D} (h : k ∉ kvs.map (·.1)) : (putKD kvs k d).map (·.1) = kvs.map (·.1) ++ [k] := by
  unfold putKD
  have e : ¬ (kvs.any fun kv => decide (kv.1 = k)) = true := fun z => by
    obtain ⟨kv, h1, h2⟩ := List.any_eq_true.mp z
    exact h (List.mem_map.mpr ⟨kv, h1, by simpa using h2⟩)
  rw [if_neg e]
  simp
theorem KN.put {kvs : List (Key × D)} {k : Key} {d : D} (h : KN kvs) : KN (putKD kvs k d) := by
  unfold KN at *
  by_cases q : k ∈ kvs.map (·.1)
  · rw [keys_old q]; exact h
  · rw [keys_new q, List.nodup_append]
    refine ⟨h, by simp, ?_⟩
    intro a ha b hb e
    rw [List.mem_singleton.mp hb] at e
    subst e
    exact q ha
theorem KN.nil : KN [] := List.nodup_nil
theorem KN.drop {kvs : List (Key × D)} {k : Key} (h : KN kvs) : KN (dropKD kvs k) := by
  unfold KN dropKD at *
  exact h.sublist (List.filter_sublist.map _)
theorem valD_put (kvs : List (Key × D)) (k j : Key) (d : D) : valD (putKD kvs k d) j = if j = k then some d else valD kvs j := by
  by_cases h : j = k
  · subst h; rw [if_pos rfl]; exact YD.valD_same
  · rw [if_neg h]
    cases e : valD kvs j with
    | some x => exact YD.valD_ne h e
    | none =>
      rw [valD_none] at e ⊢
      by_cases q : k ∈ kvs.map (·.1)
      · rw [keys_old q]; exact e
      · rw [keys_new q]
        simp only [List.mem_append, List.mem_singleton, not_or]
        exact ⟨e, h⟩
theorem valD_drop (kvs : List (Key × D)) (k j : Key) : valD (dropKD kvs k) j = if j = k then none else valD kvs j := by
  induction kvs with
  | nil => simp [dropKD, valD_nil]
  | cons kv r ih =>
    unfold dropKD at *
    rw [List.filter_cons]
    by_cases h : kv.1 = k
    · rw [if_neg (by simp [h]), ih, valD_cons]
      by_cases h2 : j = k
      · simp [h2]
      · rw [if_neg h2, if_neg h2, if_neg (fun z => h2 (z.symm.trans h))]
    · rw [if_pos (by simp [h]), valD_cons, valD_cons, ih]
      by_cases h2 : kv.1 = j
      · rw [if_pos h2, if_pos h2, if_neg (fun z => h (h2.trans z))]
      · rw [if_neg h2, if_neg h2]
theorem sorted_unique : ∀ {xs ys : List Int}, xs.Perm ys → xs.Pairwise (· ≤ ·) → ys.Pairwise (· ≤ ·) → xs = ys
  | [], ys, p, _, _ => (List.nil_perm.mp p).symm
  | x :: xs, [], p, _, _ => by simpa using p.length_eq
  | x :: xs, y :: ys, p, hx, hy => by
    have h1 : x ∈ y :: ys := p.mem_iff.mp List.mem_cons_self
    have h2 : y ∈ x :: xs := p.mem_iff.mpr List.mem_cons_self
    have e : x = y := by
      rcases List.mem_cons.mp h1 with e | e
      · exact e
      · rcases List.mem_cons.mp h2 with e2 | e2
        · exact e2.symm
        · exact Int.le_antisymm ((List.pairwise_cons.mp hx).1 y e2) ((List.pairwise_cons.mp hy).1 x e)
    subst e
    rw [sorted_unique (List.perm_cons x |>.mp p) (List.pairwise_cons.mp hx).2 (List.pairwise_cons.mp hy).2]
theorem v_eq2 {neg : Bool} {a b c d : Int} {M : Mm} {Q : QD} (h : Q (.bl (neg ^^ decide (a = c ∧ b = d))) M) : eqD neg (.tup [.int a, .int b]) (.tup [.int c, .int d]) M Q := by
  show eqDeep neg (.tup [.int a, .int b]) (.tup [.int c, .int d]) M Q
  have p : ∀ x y : Int, Pl 64 (.tup [.int x, .int y]) := fun x y => (Pl.tup (k := 0) (.cons (.int _) (.cons (.int _) .nil))).mono (by omega)
  have q : ∀ x y : Int, rsv (.tup [.int x, .int y]) M = .tup [.int x, .int y] := fun x y => pl_rsv (p x y)
  refine ⟨rfl, rfl, by rw [q]; exact (p a b).2, by rw [q]; exact (p c d).2, ?_⟩
  have e : deq (rsv (.tup [.int a, .int b]) M) (rsv (.tup [.int c, .int d]) M) = decide (a = c ∧ b = d) := by
    show deq (.tup [.int a, .int b]) (.tup [.int c, .int d]) = _
    simp [deq, deqL, eqV]
    rfl
  rw [e]; exact h
theorem v_inK {neg : Bool} {a : Addr} {kvs : List (Key × D)} {k : Key} {x : D} {M : Mm} {Q : QD} (em : M a = some (.dct kvs)) (ek : keyD x = some k) (h : Q (.bl (neg ^^ (valD kvs k).isSome)) M) : inD neg x (.ref a) M Q := .inr ⟨kvs, k, by simp [dkD, em], ek, h⟩
end Y


set_option Elab.async false
set_option linter.all false
set_option maxRecDepth 100000
set_option maxHeartbeats 1000000
/-! YL: loops and comprehensions told once. -/
namespace Y
open PySem PySem.Spec PyProof.Rows L2
theorem for_wordG {G : Mm → Prop} {g : DG} {tb : DS} {E : DEnds} {ds : List D} {δ : Y.Env} {M : Mm} (I : Nat → Y.Env → Mm → Prop) (h0 : I 0 δ M) (hs : ∀ i d δ M, ds[i]? = some d → I i δ M → g d δ M fun δ' M' => tb { E with nx := I (i + 1), ct := I (i + 1), bk := E.nx } δ' M')
    (hd : ∀ δ M, I ds.length δ M → E.nx δ M) (hG : ∀ i δ M, I i δ M → G M) : forD G g tb E ds δ M := by
  induction ds generalizing I δ M with
  | nil => exact ⟨hG _ _ _ h0, hd _ _ h0⟩
  | cons d ds ih =>
    refine ⟨hG _ _ _ h0, I 1, fun δ' M' h => ?_, hs 0 d δ M rfl h0⟩
    exact ih (fun i => I (i + 1)) h (fun i d δ M e h => hs (i + 1) d δ M (by simpa using e) h) hd (fun i => hG (i + 1))
theorem v_subLk {a : Addr} {e d : D} {M : Mm} {Q : QD} {od : Obj} {xs : List (Key × V)} {kvs : List (Key × D)} {k : Key} (em : M a = some (.lk od xs kvs)) (ek : keyD e = some k) (ev : valD kvs k = some d) (h : Q d M) : subD (.ref a) e M Q := .inr ⟨kvs, k, d, by simp [dkD, em], ek, ev, h⟩
/-- a comprehension without ifs whose element is a plain function of the item -/
theorem lc_funG {G : Mm → Prop} {g : DG} {te : DE} {δ0 : Y.Env} {p : Addr} {Q : Mm → Prop} {ds : List D} {M : Mm} (f : D → D) (hl : ds.length < sizeLine)
    (hs : ∀ d ∈ ds, ∀ acc (R : QD), R (f d) (put M p (.lst acc)) → g d δ0 (put M p (.lst acc)) fun δ' M1 => te δ' M1 R) (hG : ∀ acc, G (put M p (.lst acc))) (k : Q (put M p (.lst (ds.map f)))) : lcD G g tYesD te δ0 p Q ds (put M p (.lst [])) := by
  have key : ∀ (ds : List D) (acc : List D), acc.length + ds.length < sizeLine → (∀ d ∈ ds, ∀ acc (R : QD), R (f d) (put M p (.lst acc)) → g d δ0 (put M p (.lst acc)) fun δ' M1 => te δ' M1 R) → Q (put M p (.lst (acc ++ ds.map f))) → lcD G g tYesD te δ0 p Q ds (put M p (.lst acc)) := by
    intro ds
    induction ds with
    | nil => intro acc _ _ h; exact ⟨hG acc, by simpa using h⟩
    | cons d ds ih =>
      intro acc hl hs h
      refine ⟨hG acc, fun M' => M' = put M p (.lst (acc ++ [f d])), fun M' e => ?_, ?_⟩
      · subst e
        exact ih (acc ++ [f d]) (by simp at hl ⊢; omega) (fun d hd => hs d (List.mem_cons_of_mem _ hd)) (by simpa using h)
      · refine hs d List.mem_cons_self acc _ ?_
        exact ⟨acc, put_same, by simp at hl; omega, put_put⟩
  exact key ds [] (by simpa using hl) hs (by simpa using k)
theorem lc_fun {g : DG} {te : DE} {δ0 : Y.Env} {p : Addr} {Q : Mm → Prop} {ds : List D} {M : Mm} (f : D → D) (hl : ds.length < sizeLine)
    (hs : ∀ d ∈ ds, ∀ acc (R : QD), R (f d) (put M p (.lst acc)) → g d δ0 (put M p (.lst acc)) fun δ' M1 => te δ' M1 R) (k : Q (put M p (.lst (ds.map f)))) : lcD GT g tYesD te δ0 p Q ds (put M p (.lst [])) := lc_funG f hl hs (fun _ => trivial) k
theorem blsD_map {α : Type} (l : List α) (f : α → Bool) : blsD (l.map fun x => D.bl (f x)) = some (l.map f) := by
  induction l with
  | nil => rfl
  | cons x l ih => simp [blsD, ih]
/-- all, any of a comprehension of tests -/
theorem i_allC {p : Addr} {M : Mm} {Q : QD} {es : List D} {bs : List Bool} (hp : M p = none) (hb : blsD es = some bs) (h : Q (.bl (bs.all id)) M) : ∃ q ds, D.ref p = .ref q ∧ put M p (.lst es) q = some (.lst ds) ∧ cAll [.lst ds] (drop (put M p (.lst es)) q) Q :=
  ⟨p, es, rfl, put_same, by rw [Y.drop_put hp]; exact ⟨_, es, bs, rfl, rfl, hb, h⟩⟩
theorem i_anyC {p : Addr} {M : Mm} {Q : QD} {es : List D} {bs : List Bool} (hp : M p = none) (hb : blsD es = some bs) (h : Q (.bl (bs.any id)) M) : ∃ q ds, D.ref p = .ref q ∧ put M p (.lst es) q = some (.lst ds) ∧ cAny [.lst ds] (drop (put M p (.lst es)) q) Q :=
  ⟨p, es, rfl, put_same, by rw [Y.drop_put hp]; exact ⟨_, es, bs, rfl, rfl, hb, h⟩⟩
theorem cut_all {α : Type} (ds : List α) : cut ds none none = ds := by
  unfold cut
  simp [HT.sIx]
theorem cut_from {α : Type} (ds : List α) (n : Nat) : cut ds (some (n : Int)) none = ds.drop n := by
  unfold cut
  rw [HT.sIx_nat, HT.sIx_none]
  by_cases h : n ≤ ds.length
  · rw [Nat.min_eq_left h]
    apply List.take_of_length_le
    simp
  · rw [Nat.min_eq_right (by omega), List.drop_eq_nil_of_le (Nat.le_refl _), List.drop_eq_nil_of_le (by omega)]
    simp
theorem cut_to {α : Type} (ds : List α) (n : Nat) : cut ds none (some (n : Int)) = ds.take n := by
  unfold cut
  rw [HT.sIx_nat, HT.sIx_none]
  simp only [List.drop_zero, Nat.sub_zero]
  by_cases h : n ≤ ds.length
  · rw [Nat.min_eq_left h]
  · rw [Nat.min_eq_right (by omega), List.take_of_length_le (Nat.le_refl _), List.take_of_length_le (by omega)]
/-- equality of the same data -/
theorem v_eqSame {neg : Bool} {d : D} {M : Mm} {Q : QD} (h : Pl 64 d) (q : Q (.bl (!neg)) M) : eqD neg d d M Q := by
  have e : rsv d M = d := pl_rsv h
  have hd : eqDeep neg d d M Q := by
    refine ⟨by rw [e]; exact h.1, by rw [e]; exact h.1, by rw [e]; exact h.2, by rw [e]; exact h.2, ?_⟩
    rw [e, deq_refl _ h.1]
    cases neg <;> exact q
  unfold eqD
  split
  · split
    · rename_i hs
      cases neg <;> simpa using q
    · exact hd
  · exact hd
end Y
namespace Y
open PySem PySem.Spec PyProof.Rows L2
section
variable {d : D} {M : Mm} {Q : QD}
theorem v_isT (h : Q (.bl true) M) : isN false .non .non M Q := ⟨rfl, h⟩
theorem v_isF (h : Q (.bl false) M) : isN true .non .non M Q := ⟨rfl, h⟩
theorem v_isNF (e : nonD d = false) (h : Q (.bl false) M) : isN false d .non M Q := ⟨rfl, by rw [e]; exact h⟩
theorem v_isNT (e : nonD d = false) (h : Q (.bl true) M) : isN true d .non M Q := ⟨rfl, by rw [e]; exact h⟩
theorem iteNT {A C : Prop} (h : C) : if (!true) = true then A else C := h
theorem iteNF {A C : Prop} (h : A) : if (!false) = true then A else C := h
end
end Y


set_option Elab.async false
set_option linter.all false
set_option maxRecDepth 100000
set_option maxHeartbeats 1000000
/-! YG: a law whose own body asks for the place it runs at (repr wants that no repr is under way): the run at one place, and the end of the row from it. -/
namespace Y
open PySem PySem.Spec PyProof.Rows L2
section
variable {P : Program} {w : World} {K : PySem.W.Frag} {mg : Str → Option Value} {base : Heap}
/-- the run of a def, called at A -/
def RunAt (P : Program) (w : World) (K : PySem.W.Frag) (mg : Str → Option Value) (base : Heap) (A : Around) (f : Addr) (fd : FuncData) (ps : List Str) (sp : Sp) : Prop :=
  ∀ (outer : List PySem.Env) (s : Shared) (H : Hp) (args : Args) (us : List Value) (vs : List V) (Q : VK) (E : XK), Env0 P w K mg base A outer s H → BindsTo s fd args (ps.zip us) → Vals vs us → sp vs H Q E →
    codeAny (model P w) A (.call (.ref f) args) (CR CX0 outer P w H s Q E) s
theorem runAt {x qual : Str} {st : Stmt} {f : Addr} {fd : FuncData} {N ps : List Str} {k : Nat} {sp : DSp} {A : Around} (F : Fun K x qual st f fd) (S : FnScope N ps (defScope st)) (len : ∀ ds M Q E, sp ds M Q E → ds.length = ps.length) (hr : Room (k + 1) A)
    (hbody : ∀ (cdv : Value) (outer : List PySem.Env) (s0 : Shared) (H : Hp) (E : XK), Room k (A.deeper (envOfC qual (defScope st) s0.heap.objs.size f cdv)) →
      ∃ t : DS, PSs (cxOf CX0 P w K mg base N qual (defScope st) f cdv A outer s0 H E).nox (defBody st) (upS K B0 t) ∧ ∀ ds M Q E', sp ds M Q E' → t { nx := fun _ M' => less Q .non M', rt := less Q } (startD N.length ds) M) :
    RunAt P w K mg base A f fd ps (spOf K sp) := by
  intro outer s H args us vs Q E e0 hb rv hsp
  obtain ⟨oc, od, kV, doc, pm, an, cdv, ct, osl, rfl, lk, hcd⟩ := F.ex
  obtain ⟨F0, M, ds, Q', E', S0, rr, hd, k1, k2⟩ := hsp
  have hl : vs.length = ps.length := by rw [rr.length]; exact len _ _ _ _ hd
  have keep : ∀ b o, base.get? b = some o → s.heap.get? b = some o := fun b o e => (e0.bs b o e).1
  have hkind : ∀ y ∈ ps.zip us, (defScope st).names.lookup y.1 = some .local ∨ ((defScope st).names.lookup y.1 = some .cell ∧ ((cellsFrom (s.heap.objs.size + 1) (defScope st).names []).lookup y.1).isSome = true) := fun ⟨n, v⟩ hy =>
    (S.par n (List.of_mem_zip hy).1).imp id fun q => ⟨q, PySem.W.cellsFrom_some _ _ _ (.inl q)⟩
  refine codeAny_call_function hr.depth ((e0.mod.kin.keeps keep) _ _ lk) rfl S.co S.gen rfl (PySem.W.codeRec_of (e0.mod.kin.keeps keep) hcd) (hb _ _ _ _ ?_)
  refine wpAny_newFunctionEnv_cells S.kind hkind fun env he s1 xx => ?_
  subst he
  refine ⟨(e0.mod.nolimit.keeps keep).keeps xx.toInCall.keep, codeAny_func ?_⟩
  obtain ⟨t, ht, hq⟩ := hbody cdv outer s H E (hr.deeper _)
  have I := inv_start (CX := CX0) (E := E) (cd := cdv) (f := f) (qual := qual) S hr.hd e0 hl rv xx
  have fin : ∀ {σ' : L2.St} {H' : Hp} {s' : Shared} {v : V} {u : Value}, Inv (cxOf CX0 P w K mg base N qual (defScope st) f cdv A outer s H E) [] σ' H' s' → RelV v u → Q v H' → CE outer P w H s Q u s' :=
    fun {σ' H' s' v u} J r q => ⟨v, H', J.os, J.bare, J.base, J.hok, r, q⟩
  have start0 : upS K B0 t { nx := fun _ H' => Q .non H', rt := Q } (start N vs) H :=
    ⟨F0, M, _, _, B0_le F0, S0, startD_rep rr, hq ds M Q' E' hd, fun σ' H' ⟨F1, M1, δ1, l1, S1, r1, q⟩ => k1 _ _ (LQ_less ⟨F1, M1, _, l1, S1, .v _, q⟩), fun v H' q => k1 _ _ (LQ_less q), fun _ _ ⟨_, _, _, _, _, _, q⟩ => q.elim, fun _ _ ⟨_, _, _, _, _, _, q⟩ => q.elim⟩
  refine wpAny_mono (ht.nox.run [] s1 (start N vs) H _ I start0) (fun fl s' hs => ?_) fun e s' hs => hs
  cases fl with
  | ret u => obtain ⟨v, σ', H', J, r, q⟩ := hs; exact fin J r q
  | next => obtain ⟨σ', H', J, q⟩ := hs; exact fin (v := V.non) (u := Value.none) J rfl q
  | brk => obtain ⟨_, _, _, q⟩ := hs; exact False.elim q
  | cont => obtain ⟨_, _, _, q⟩ := hs; exact False.elim q
end
/-- only the script may be told of -/
def H1 (a : Addr) (o : Option HO) : Hp := fun b => if b = a then o else none
/-- the law's call, from its run at the caller's place -/
theorem callAt {P : Program} {w : World} {K : PySem.W.Frag} {mg mb : Str → Option Value} {fa a : Addr} {fd : FuncData} {x : Str} {sp : Sp} {s₁ : Shared} {vs : List Value} {ns : List Int}
    (KX : K.In s₁.heap) (hns : s₁.heap.Ns mainGlobals mg) (hb : s₁.heap.Ns builtinsNs mb) (hbb : ∀ x : Str, x ≠ "__name__" → mb x = bootBuiltins x) (hlim : s₁.heap.NoLimit) (hg : s₁.gens = #[])
    (ha : s₁.heap.get? a = some { cls := .type "list", data := .seq vs.toArray }) (hi : IntsAre vs ns) (hl : ns.length ≤ sizeLine)
    (F : ∀ base : Heap, K.In base → base.Ns mainGlobals mg → RunAt P w K mg base callerA fa fd [x] sp) (hbind : ∀ (s : Shared) (u : Value), BindsTo s fd ⟨[u], []⟩ [(x, u)])
    (hsp : ∀ H : Hp, SqL K H a (ns.map V.int) → sp [.ref a] H (fun v _ => v = .bl true) fun _ _ _ => False) :
    codeAny (model P w) callerA (.call (.ref fa) ⟨[.ref a], []⟩) (fun r s' => r = .ok (.ret (.bool true)) ∧ OldK s₁.heap s'.heap ∧ s'.os = s₁.os ∧ AllBare s'.gens) s₁ := by
  have rv := vals_ints hi
  have lenV := hi.length
  have core : ∀ o : Option HO, (o = none ∨ ∃ ob xs, o = some (.frz ob (.lst xs))) → SqL K (H1 a o) a (ns.map V.int) → HOk P w (H1 a o) s₁.heap → (o ≠ none → K.lookup a = none) →
      codeAny (model P w) callerA (.call (.ref fa) ⟨[.ref a], []⟩) (fun r s' => r = .ok (.ret (.bool true)) ∧ OldK s₁.heap s'.heap ∧ s'.os = s₁.os ∧ AllBare s'.gens) s₁ := by
    intro o ho hS hok hK
    have off : ∀ {b : Addr}, b ≠ a → H1 a o b = none := fun z => if_neg z
    have at_ : H1 a o a = o := if_pos rfl
    have nsOf : ∀ {b : Addr} {m : Str → Option Value}, s₁.heap.Ns b m → (hidT s₁.heap (H1 a o)).Ns b m := fun {b m} ⟨ob, es, ep, e, d, r⟩ => by
      refine ⟨ob, es, ep, hidT_get e (off fun z => ?_), d, r⟩
      rw [z, ha] at e
      cases e
      have d' : Data.seq vs.toArray _ = Data.dict es ep := d
      cases d'
    have kin : K.In (hidT s₁.heap (H1 a o)) := fun b ob e => hidT_get (KX b ob e) (by
      by_cases hba : b = a
      · subst hba
        rw [at_]
        cases o with
        | none => rfl
        | some u =>
          have z := hK (by simp)
          rw [z] at e
          cases e
      · exact off hba)
    have hM : Mod K mg (hidT s₁.heap (H1 a o)) := ⟨kin, nsOf hns, ⟨mb, nsOf hb, hbb⟩, let ⟨mc, h1, h2⟩ := hlim; ⟨mc, nsOf h1, h2⟩⟩
    have e0 : Env0 P w K mg (hidT s₁.heap (H1 a o)) callerA [] s₁ (H1 a o) := ⟨rfl, hM, fun b ob e => of_hidT e, Nat.le_of_eq (hidT_size _ _), trivial, fun b hb => absurd (show b ∈ ([] : List Addr) from hb) (by simp), hok, .of_eq hg⟩
    refine codeAny_mono (F _ kin (nsOf hns) [] s₁ (H1 a o) ⟨[.ref a], []⟩ [.ref a] [.ref a] _ _ e0 (hbind s₁ (.ref a)) (.cons rfl .nil) (hsp _ hS)) fun r s' h => ?_
    match r, h with
    | .error e, h => exact False.elim h
    | .ok .next, h => exact False.elim h
    | .ok .brk, h => exact False.elim h
    | .ok .cont, h => exact False.elim h
    | .ok (.ret u), ⟨v, H', os, bare, un, hok', r', q⟩ =>
      have q : v = .bl true := q
      subst q
      have r' : u = Value.bool true := r'
      subst r'
      refine ⟨rfl, OldK.of_keep fun b ob e => ?_, os, bare⟩
      by_cases hba : b = a
      · rcases ho with rfl | ⟨oo, xs, rfl⟩
        · exact un.keep b ob e (by rw [hba]; exact at_) (fun z => absurd (show b ∈ ([] : List Addr) from z) (by simp)) (by simp)
        · subst hba
          have e1 := (hok b _ at_).1
          have e2 := (hok' b _ (un.frzs b oo _ at_)).1
          rw [e] at e1
          cases e1
          exact e2
      · exact un.keep b ob e (off hba) (fun z => absurd (show b ∈ ([] : List Addr) from z) (by simp)) (by simp)
  cases hk : K.lookup a with
  | some o =>
    have e := KX a o hk
    rw [ha] at e
    cases e
    refine core none (.inl rfl) (.inr ⟨_, vs.toArray, _, hk, rfl, rfl, rfl, by rw [List.size_toArray, lenV]; exact hl, by simpa using rv⟩) (fun b u z => ?_) fun z => absurd rfl z
    unfold H1 at z
    split at z <;> cases z
  | none =>
    refine core (some (.frz { cls := .type "list", data := .seq vs.toArray } (.lst (ns.map V.int)))) (.inr ⟨_, _, rfl⟩) (.inl (.inr ⟨{ cls := .type "list", data := .seq vs.toArray }, if_pos rfl⟩)) (fun b u z => ?_) fun _ => hk
    by_cases hba : b = a
    · have z' := (if_pos hba).symm.trans z
      cases z'
      subst hba
      exact ⟨ha, by rw [List.length_map]; exact hl, vs, _, rv, ha⟩
    · have z' := (if_neg hba).symm.trans z
      cases z'
/-- the end of the row -/
theorem walkAt {l : PySem.W.OpenLaw} {n : Nat} {q : Program} {loose : List Str} {XP : (Str → Option Value) → Heap → Prop} {YP : World → Heap → Prop} {d : DefRec} {K : Params → PySem.W.Frag} {sp : World → Sp} {x : Str}
    (hn : l.most = some n) (hn2 : n ≤ sizeLine) (hdf : d.params.defaults = []) (hY : ∀ (w : World) (h : Heap), YP w h → (K w.params).In h)
    (F : ∀ (w : World) (mg : Str → Option Value) (fa : Addr) (h : Heap), (K w.params).In h → h.Ns mainGlobals mg → mg d.name = some (.ref fa) →
      ∃ fd : FuncData, (∀ (s : Shared) (u : Value), BindsTo s fd ⟨[u], []⟩ [(x, u)]) ∧ ∀ base : Heap, (K w.params).In base → base.Ns mainGlobals mg → RunAt l.prog w (K w.params) mg base callerA fa fd [x] (sp w))
    (hsp : ∀ (w : World) (H : Hp) (a : Addr) (ns : List Int), ns.length ≤ n → SqL (K w.params) H a (ns.map V.int) → sp w [.ref a] H (fun v _ => v = .bl true) fun _ _ _ => False) :
    PySem.W.WalkO q loose XP YP l.row.toRowW d [] (fun f vs => PySem.call f vs) := by
  refine Att.attach_call hn hdf fun w s₀ s₁ mg mb fa o pm cd doc a vs ns G Y ho hd hcd hmg hobj hints hlen hg => ?_
  obtain ⟨fd, hb, hF⟩ := F w mg fa _ (hY w _ Y) G.T.g hmg
  exact callAt (hY w _ Y) G.T.g G.T.b G.T.builtins G.T.nolimit hg hobj hints (Nat.le_trans hlen hn2) hF hb fun H hS => hsp w H a ns hlen hS
end Y


set_option Elab.async false
set_option linter.all false
set_option maxRecDepth 100000
/-! readings of the defs, printed by gen.py -/
namespace K26
open PySem PySem.Spec PyProof.Rows L2 Y
def g_DIGITS : D := .str "0123456789"
def g_LETTERS : D := .str "abcdefghijklmnopqrstuvwxyzABCDEFGHIJKLMNOPQRSTUVWXYZ"
def g_MOST_WORD : D := .int 40
def g_NOTHING : D := .str "-"
def g_OTHERS : D := .str "$_=!<"
/-- _law_begin, level 1, slots 0:script 1:seed 2:cell -/
def r__law_begin  : DS := dSeq (dAsg (dC (.int 1)) (dgName 1)) (dSeq (dFor (diIt (dVar 0)) (dgName 2) (dAsg (dOp (dI (fun _ j => 0 < j) fun i j => .int (i % j)) (dOp plusD (dOp plusD (dOp (dI CMul fun i j => .int (i * j)) (dVar 1) (dC (.int 69621))) (dOp (dI (fun _ j => 0 < j) fun i j => .int (i % j)) (dCB cInt (dCons (dVar 2) (dNil))) (dC (.int 2147483629)))) (dC (.int 7))) (dC (.int 2147483647))) (dgName 1))) (dRet (dLstM (dCons (dCB cList (dCons (dVar 0) (dNil))) (dCons (dC (.int 0)) (dCons (dC (.int 0)) (dCons (dVar 1) (dNil))))))))
/-- _law_take, level 1, slots 0:d 1:many 2:small 3:digit -/
def r__law_take  : DS := dSeq (dIfS (dAnd (dTest (dOp (eqD false) (dOp subD (dVar 0) (dC (.int 2))) (dC (.int 0)))) (dTest (dOp (dI0 fun i j => .bl (decide (i < j))) (dOp subD (dVar 0) (dC (.int 1))) (dCB cLen (dCons (dOp subD (dVar 0) (dC (.int 0))) (dNil)))))) (dSeq (dAsg (dCB cAbs (dCons (dCB cInt (dCons (dOp subD (dOp subD (dVar 0) (dC (.int 0))) (dOp subD (dVar 0) (dC (.int 1)))) (dNil))) (dNil))) (dgSub (dVar 0) (dC (.int 2)))) (dSeq (dAsg (dOp plusD (dOp subD (dVar 0) (dC (.int 1))) (dC (.int 1))) (dgSub (dVar 0) (dC (.int 1)))) (dIfS (dTest (dChain (dI0 fun i j => .bl (decide (i < j))) (dI0 fun i j => .bl (decide (i < j))) (dC (.int 0)) (dOp subD (dVar 0) (dC (.int 2))) (dVar 1))) (dSeq (dAsg (dOp subD (dVar 0) (dC (.int 2))) (dgName 2)) (dSeq (dAsg (dC (.int 0)) (dgSub (dVar 0) (dC (.int 2)))) (dRet (dVar 2)))) (dNext)))) (dNext)) (dSeq (dIfS (dTest (dOp (dI0 fun i j => .bl (decide (j < i))) (dOp subD (dVar 0) (dC (.int 2))) (dC (.int 0)))) (dSeq (dAsg (dOp (dI (fun _ j => 0 < j) fun i j => .int (i % j)) (dCB cInt (dCons (dOp subD (dVar 0) (dC (.int 2))) (dNil))) (dVar 1)) (dgName 3)) (dSeq (dAsg (dOp (dI CDiv fun i j => .int (i / j)) (dCB cInt (dCons (dOp subD (dVar 0) (dC (.int 2))) (dNil))) (dVar 1)) (dgSub (dVar 0) (dC (.int 2)))) (dRet (dVar 3)))) (dNext)) (dSeq (dAsg (dOp (dI (fun _ j => 0 < j) fun i j => .int (i % j)) (dCB cInt (dCons (dOp plusD (dOp (dI CMul fun i j => .int (i * j)) (dOp subD (dVar 0) (dC (.int 3))) (dC (.int 48271))) (dC (.int 11))) (dNil))) (dC (.int 2147483647))) (dgSub (dVar 0) (dC (.int 3)))) (dRet (dOp (dI (fun _ j => 0 < j) fun i j => .int (i % j)) (dCB cInt (dCons (dOp (dI CDiv fun i j => .int (i / j)) (dOp subD (dVar 0) (dC (.int 3))) (dC (.int 3))) (dNil))) (dVar 1)))))
/-- _law_pick, level 2, slots 0:d 1:menu -/
def r__law_pick (s__law_take : DSp) : DS := dRet (dOp subD (dVar 1) (dCall s__law_take (dCons (dVar 0) (dCons (dCB cLen (dCons (dVar 1) (dNil))) (dNil)))))
/-- _law_leaf, level 3, slots 0:d 1:kind -/
def r__law_leaf (s__law_take : DSp) (s__law_pick : DSp) : DS := dSeq (dAsg (dCall s__law_take (dCons (dVar 0) (dCons (dC (.int 4)) (dNil)))) (dgName 1)) (dSeq (dIfS (dTest (dOp (eqD false) (dVar 1) (dC (.int 0)))) (dRet (dCall s__law_pick (dCons (dVar 0) (dCons (dLst (dCons (dC (.int 0)) (dCons (dC (.int 7)) (dCons (dU (fun i => -i) (dC (.int 1))) (dCons (dOp (dI0 fun i j => .int (i - j)) (dOp (dI CPow fun i j => .int (i ^ j.toNat)) (dC (.int 10)) (dC (.int 30))) (dC (.int 1))) (dCons (dU (fun i => -i) (dOp (dI CPow fun i j => .int (i ^ j.toNat)) (dC (.int 10)) (dC (.int 29)))) (dCons (dCall s__law_take (dCons (dVar 0) (dCons (dOp (dI CPow fun i j => .int (i ^ j.toNat)) (dC (.int 10)) (dC (.int 9))) (dNil)))) (dNil)))))))) (dNil))))) (dNext)) (dSeq (dIfS (dTest (dOp (eqD false) (dVar 1) (dC (.int 1)))) (dRet (dC .non)) (dNext)) (dRet (dCall s__law_pick (dCons (dVar 0) (dCons (dLst (dCons (dC (.str "a")) (dCons (dC (.str "$12")) (dCons (dC (.str "==")) (dCons (dC (.str "!=")) (dCons (dC (.str "<")) (dCons (dC (.str "x_1")) (dCons (dOp mulSD (dC (.str "Z")) (dC (.int 40))) (dCons (dC (.str "_")) (dCons (dC (.str "cell")) (dCons (dC (.str "absurd")) (dCons (dC (.str "=9")) (dNil))))))))))))) (dNil)))))))
/-- _law_value, level 4, slots 0:d 1:depth 2:leaf 3:parts 4:words 5:k 6:part 7:own -/
def r__law_value (s__law_take : DSp) (s__law_leaf : DSp) (s__law_value : DSp) : DS := dSeq (dIfS (dOr (dTest (dOp (dI0 fun i j => .bl (decide (j < i))) (dVar 1) (dC (.int 5)))) (dAnd (dTest (dOp (dI0 fun i j => .bl (decide (j < i))) (dVar 1) (dC (.int 0)))) (dTest (dOp (eqD false) (dCall s__law_take (dCons (dVar 0) (dCons (dC (.int 3)) (dNil)))) (dC (.int 0)))))) (dSeq (dAsg (dCall s__law_leaf (dCons (dVar 0) (dNil))) (dgName 2)) (dRet (dTup (dCons (dVar 2) (dCons (dLst (dCons (dIf (dTest (dOp (isN false) (dVar 2) (dC .non))) (dC (.str "-")) (dCB cStrA (dCons (dVar 2) (dNil)))) (dNil))) (dNil)))))) (dNext)) (dSeq (dAsg (dLstM (dNil)) (dgName 3)) (dSeq (dAsg (dLst (dCons (dC (.str "(")) (dNil))) (dgName 4)) (dSeq (dFor (diRng1 (dCons (dCall s__law_take (dCons (dVar 0) (dCons (dC (.int 4)) (dNil)))) (dNil))) (dgName 5) (dSeq (dAsg (dCall s__law_value (dCons (dVar 0) (dCons (dOp plusD (dVar 1) (dC (.int 1))) (dNil)))) (dgTup 2 (dgCons (dgName 6) (dgCons (dgName 7) (dgNil))))) (dSeq (dDrop (dBM "list" mAppend (dVar 3) (dCons (dVar 6) (dNil)))) (dAsg (dOp plusD (dVar 4) (dVar 7)) (dgName 4))))) (dRet (dTup (dCons (dCB cTuple (dCons (dVar 3) (dNil))) (dCons (dOp plusD (dVar 4) (dLst (dCons (dC (.str ")")) (dNil)))) (dNil))))))))
/-- is_whole, level 1, slots 0:value -/
def r_is_whole  : DS := dRet (dAndV (dCB cIsi (dCons (dVar 0) (dCons (dC (.ty "int")) (dNil)))) (dNotV (dCB cIsi (dCons (dVar 0) (dCons (dC (.ty "bool")) (dNil))))))
/-- is_number, level 2, slots 0:value -/
def r_is_number (s_is_whole : DSp) : DS := dRet (dAndV (dCall s_is_whole (dCons (dVar 0) (dNil))) (dChain (dI0 fun i j => .bl (decide (i < j))) (dI0 fun i j => .bl (decide (i < j))) (dU (fun i => -i) (dOp (dI CPow fun i j => .int (i ^ j.toNat)) (dC (.int 10)) (dC (.int 30)))) (dVar 0) (dOp (dI CPow fun i j => .int (i ^ j.toNat)) (dC (.int 10)) (dC (.int 30)))))
/-- is_word, level 1, slots 0:text 1:sign -/
def r_is_word  : DS := dSeq (dIfS (dOr (dNot (dTest (dChain (dI0 fun i j => .bl (decide (i ≤ j))) (dI0 fun i j => .bl (decide (i ≤ j))) (dC (.int 1)) (dCB cLen (dCons (dVar 0) (dNil))) (dCD g_MOST_WORD)))) (dTest (dOp (inD false) (dOp subD (dVar 0) (dC (.int 0))) (dCD g_DIGITS)))) (dRet (dC (.bl false))) (dNext)) (dRet (dCB cAll (dCons (dFrz (dLc (diIt (dVar 0)) (dgName 1) (tYesD) (dOrV (dOp (inD false) (dVar 1) (dCD g_LETTERS)) (dOrV (dOp (inD false) (dVar 1) (dCD g_DIGITS)) (dOp (inD false) (dVar 1) (dCD g_OTHERS)))) [1])) (dNil))))
/-- word_for, level 3, slots 0:value -/
def r_word_for (W : DW) (s_is_word : DSp) (s_is_number : DSp) (C_InputError : Addr) : DS := dSeq (dIfS (dTest (dOp (isN false) (dVar 0) (dC .non))) (dRet (dCD g_NOTHING)) (dNext)) (dSeq (dIfS (dAnd (dTru (dCB cIsi (dCons (dVar 0) (dCons (dC (.ty "str")) (dNil))))) (dTru (dCall s_is_word (dCons (dVar 0) (dNil))))) (dRet (dVar 0)) (dNext)) (dSeq (dIfS (dNot (dTru (dCall s_is_number (dCons (dVar 0) (dNil))))) (dRaise W C_InputError ["code"] (dCons (dC (.str "value")) (dNil))) (dNext)) (dRet (dCB cStrA (dCons (dVar 0) (dNil))))))
/-- format_paper, level 4, slots 0:value 1:words 2:todo 3:is_value 4:own 5:part -/
def r_format_paper (W : DW) (s_word_for : DSp) : DS := dSeq (dAsg (dLstM (dNil)) (dgName 1)) (dSeq (dAsg (dLstM (dCons (dTup (dCons (dC (.bl true)) (dCons (dVar 0) (dNil)))) (dNil))) (dgName 2)) (dSeq (dWhile (dTru (dVar 2)) (dSeq (dAsg (dBM0 "list" mPop (dVar 2)) (dgTup 2 (dgCons (dgName 3) (dgCons (dgName 4) (dgNil))))) (dIfS (dNot (dTru (dVar 3))) (dDrop (dBM "list" mAppend (dVar 1) (dCons (dC (.str ")")) (dNil)))) (dIfS (dTru (dCB cIsi (dCons (dVar 4) (dCons (dC (.ty "tuple")) (dNil))))) (dSeq (dDrop (dBM "list" mAppend (dVar 1) (dCons (dC (.str "(")) (dNil)))) (dSeq (dDrop (dBM "list" mAppend (dVar 2) (dCons (dTup (dCons (dC (.bl false)) (dCons (dC .non) (dNil)))) (dNil)))) (dFor (diRev (dVar 4)) (dgName 5) (dDrop (dBM "list" mAppend (dVar 2) (dCons (dTup (dCons (dC (.bl true)) (dCons (dVar 5) (dNil)))) (dNil))))))) (dDrop (dBM "list" mAppend (dVar 1) (dCons (dCallX W s_word_for (dCons (dVar 4) (dNil))) (dNil)))))))) (dRet (dBM "str" mJoin (dC (.str " ")) (dCons (dVar 1) (dNil))))))
def r_value_of_word_c0 (W : DW) (C_TextError : Addr) (s_is_word : DSp) : DS := dSeq (dIfS (dAnd (dTest (dOp (eqD true) (dVar 2) (dC (.str "")))) (dTru (dCB cAll (dCons (dFrz (dLc (diIt (dVar 2)) (dgName 3) (tYesD) (dOp (inD false) (dVar 3) (dCD g_DIGITS)) [3])) (dNil))))) (dSeq (dIfS (dOr (dTest (dOp (dI0 fun i j => .bl (decide (j < i))) (dCB cLen (dCons (dVar 2) (dNil))) (dC (.int 30)))) (dAnd (dTest (dOp (eqD false) (dOp subD (dVar 2) (dC (.int 0))) (dC (.str "0")))) (dOr (dTest (dOp (eqD true) (dVar 2) (dC (.str "0")))) (dTest (dOp (eqD true) (dVar 0) (dC (.str "0"))))))) (dRaise W C_TextError ["code", "at"] (dCons (dC (.str "number")) (dCons (dVar 1) (dNil)))) (dNext)) (dRet (dCB cIntT (dCons (dVar 0) (dNil))))) (dNext)) (dSeq (dIfS (dNot (dTru (dCall s_is_word (dCons (dVar 0) (dNil))))) (dRaise W C_TextError ["code", "at"] (dCons (dC (.str "word")) (dCons (dVar 1) (dNil)))) (dNext)) (dRet (dVar 0)))
/-- value_of_word, level 3, slots 0:word 1:at 2:figures 3:sign -/
def r_value_of_word (W : DW) (C_TextError : Addr) (s_is_word : DSp) : DS := dSeq (dIfS (dTest (dOp (eqD false) (dVar 0) (dCD g_NOTHING))) (dRet (dC .non)) (dNext)) (dSeq (dAsg (dIf (dTest (dOp (eqD false) (dOp subD (dVar 0) (dC (.int 0))) (dC (.str "-")))) (dSlice (dVar 0) (doSome (dC (.int 1))) (doNone)) (dVar 0)) (dgName 2)) (r_value_of_word_c0 W C_TextError s_is_word))
/-- parse_paper, level 4, slots 0:text 1:parts 2:words 3:at 4:word 5:told -/
def r_parse_paper (W : DW) (C_TextError : Addr) (s_value_of_word : DSp) : DS := dSeq (dAsg (dLstM (dCons (dLstM (dNil)) (dNil))) (dgName 1)) (dSeq (dAsg (dBM0 "str" mWords (dVar 0)) (dgName 2)) (dFrzS 2 (dSeq (dFor (diEnum (dCons (dVar 2) (dNil))) (dgTup 2 (dgCons (dgName 3) (dgCons (dgName 4) (dgNil)))) (dSeq (dIfS (dTest (dOp (eqD false) (dVar 4) (dC (.str "(")))) (dDrop (dBM "list" mAppend (dVar 1) (dCons (dLstM (dNil)) (dNil)))) (dIfS (dTest (dOp (eqD false) (dVar 4) (dC (.str ")")))) (dSeq (dIfS (dTest (dOp (dI0 fun i j => .bl (decide (i < j))) (dCB cLen (dCons (dVar 1) (dNil))) (dC (.int 2)))) (dRaise W C_TextError ["code", "at"] (dCons (dC (.str "bracket")) (dCons (dVar 3) (dNil)))) (dNext)) (dSeq (dAsg (dCB cTuple (dCons (dBM0 "list" mPop (dVar 1)) (dNil))) (dgName 5)) (dDrop (dBM "list" mAppend (dOp subD (dVar 1) (dU (fun i => -i) (dC (.int 1)))) (dCons (dVar 5) (dNil)))))) (dDrop (dBM "list" mAppend (dOp subD (dVar 1) (dU (fun i => -i) (dC (.int 1)))) (dCons (dCallX W s_value_of_word (dCons (dVar 4) (dCons (dVar 3) (dNil)))) (dNil)))))) (dIfS (dAnd (dTest (dOp (eqD false) (dCB cLen (dCons (dVar 1) (dNil))) (dC (.int 1)))) (dAnd (dTest (dOp (eqD false) (dCB cLen (dCons (dOp subD (dVar 1) (dC (.int 0))) (dNil))) (dC (.int 1)))) (dTest (dOp (dI0 fun i j => .bl (decide (i < j))) (dOp plusD (dVar 3) (dC (.int 1))) (dCB cLen (dCons (dVar 2) (dNil))))))) (dRaise W C_TextError ["code", "at"] (dCons (dC (.str "more")) (dCons (dOp plusD (dVar 3) (dC (.int 1))) (dNil)))) (dNext)))) (dSeq (dIfS (dOr (dTest (dOp (dI0 fun i j => .bl (decide (j < i))) (dCB cLen (dCons (dVar 1) (dNil))) (dC (.int 1)))) (dNot (dTru (dOp subD (dVar 1) (dC (.int 0)))))) (dRaise W C_TextError ["code", "at"] (dCons (dC (.str "bracket")) (dCons (dCB cLen (dCons (dVar 2) (dNil))) (dNil)))) (dNext)) (dRet (dOp subD (dOp subD (dVar 1) (dC (.int 0))) (dC (.int 0))))))))
/-- _law_told, level 5, slots 0:text 1:e -/
def r__law_told (K : PySem.W.Frag) (C_HeldError : Addr) (s_parse_paper : DSp) (C_TextError : Addr) : DS := dSeq (dTryAs K (.ref C_HeldError) 1 (fun W1 => dDrop (dCallX W1 s_parse_paper (dCons (dVar 0) (dNil)))) (fun a1 cls1 fs1 => dRet (dIf (dTru (dIsE K a1 cls1 (dVar 1) C_TextError)) (dTup (dCons (dXf K a1 cls1 fs1 "code" (dVar 1)) (dCons (dXf K a1 cls1 fs1 "at" (dVar 1)) (dNil)))) (dTup (dCons (dC (.str "other")) (dCons (dC (.int 0)) (dNil)))))) (fun _ _ _ _ => False)) (dRet (dC .non))
/-- _law_refused, level 5, slots 0:value 1:e -/
def r__law_refused (K : PySem.W.Frag) (C_HeldError : Addr) (s_format_paper : DSp) (C_InputError : Addr) : DS := dSeq (dTryAs K (.ref C_HeldError) 1 (fun W1 => dDrop (dCallX W1 s_format_paper (dCons (dVar 0) (dNil)))) (fun a1 cls1 fs1 => dRet (dAndV (dIsE K a1 cls1 (dVar 1) C_InputError) (dOp (eqD false) (dXf K a1 cls1 fs1 "code" (dVar 1)) (dC (.str "value"))))) (fun _ _ _ _ => False)) (dRet (dC (.bl false)))
def r_law_c0 (s__law_begin : DSp) (s__law_take : DSp) (s__law_value : DSp) (s_format_paper : DSp) (s_parse_paper : DSp) (s__law_told : DSp) (s__law_refused : DSp) : DS := dSeq (dFor (diIt (dTup (dCons (dOp (dI CPow fun i j => .int (i ^ j.toNat)) (dC (.int 10)) (dC (.int 30))) (dCons (dU (fun i => -i) (dOp (dI CPow fun i j => .int (i ^ j.toNat)) (dC (.int 10)) (dC (.int 30)))) (dCons (dC (.str "9x")) (dCons (dC (.str "")) (dCons (dC (.str "a b")) (dCons (dC (.str "a(")) (dCons (dOp mulSD (dC (.str "Z")) (dC (.int 41))) (dCons (dC (.bl true)) (dCons (dLstM (dCons (dC (.int 1)) (dNil))) (dCons (dC (.str "-")) (dNil))))))))))))) (dgName 9) (dIfS (dOr (dNot (dTru (dCall s__law_refused (dCons (dVar 9) (dNil))))) (dNot (dTru (dCall s__law_refused (dCons (dTup (dCons (dVar 2) (dCons (dTup (dCons (dVar 9) (dNil))) (dNil)))) (dNil)))))) (dRet (dC (.bl false))) (dNext))) (dRet (dC (.bl true)))
def r_law_c1 (s__law_begin : DSp) (s__law_take : DSp) (s__law_value : DSp) (s_format_paper : DSp) (s_parse_paper : DSp) (s__law_told : DSp) (s__law_refused : DSp) : DS := dSeq (dAsg (dCall s__law_take (dCons (dVar 1) (dCons (dVar 5) (dNil)))) (dgName 6)) (dSeq (dIfS (dTest (dOp (inD true) (dOp subD (dVar 3) (dVar 6)) (dTup (dCons (dC (.str "(")) (dCons (dC (.str ")")) (dNil)))))) (dFor (diIt (dTup (dCons (dTup (dCons (dC (.str "007")) (dCons (dC (.str "number")) (dNil)))) (dCons (dTup (dCons (dC (.str "-0")) (dCons (dC (.str "number")) (dNil)))) (dCons (dTup (dCons (dOp plusD (dC (.str "1")) (dOp mulSD (dC (.str "0")) (dC (.int 30)))) (dCons (dC (.str "number")) (dNil)))) (dCons (dTup (dCons (dOp plusD (dC (.str "-")) (dOp mulSD (dC (.str "9")) (dC (.int 31)))) (dCons (dC (.str "number")) (dNil)))) (dCons (dTup (dCons (dC (.str "a.b")) (dCons (dC (.str "word")) (dNil)))) (dCons (dTup (dCons (dC (.str "9x")) (dCons (dC (.str "word")) (dNil)))) (dCons (dTup (dCons (dOp mulSD (dC (.str "Z")) (dC (.int 41))) (dCons (dC (.str "word")) (dNil)))) (dCons (dTup (dCons (dC (.str "--")) (dCons (dC (.str "word")) (dNil)))) (dCons (dTup (dCons (dC (.str "x+y")) (dCons (dC (.str "word")) (dNil)))) (dNil)))))))))))) (dgTup 2 (dgCons (dgName 7) (dgCons (dgName 8) (dgNil)))) (dIfS (dTest (dOp (eqD true) (dCall s__law_told (dCons (dBM "str" mJoin (dC (.str " ")) (dCons (dOp plusD (dOp plusD (dSlice (dVar 3) (doNone) (doSome (dVar 6))) (dLst (dCons (dVar 7) (dNil)))) (dSlice (dVar 3) (doSome (dOp plusD (dVar 6) (dC (.int 1)))) (doNone))) (dNil))) (dNil))) (dTup (dCons (dVar 8) (dCons (dVar 6) (dNil)))))) (dRet (dC (.bl false))) (dNext))) (dNext)) (r_law_c0 s__law_begin s__law_take s__law_value s_format_paper s_parse_paper s__law_told s__law_refused))
def r_law_c2 (s__law_begin : DSp) (s__law_take : DSp) (s__law_value : DSp) (s_format_paper : DSp) (s_parse_paper : DSp) (s__law_told : DSp) (s__law_refused : DSp) : DS := dSeq (dIfS (dOr (dTest (dOp (eqD true) (dCall s__law_told (dCons (dOp plusD (dC (.str ") ")) (dVar 4)) (dNil))) (dTup (dCons (dC (.str "bracket")) (dCons (dC (.int 0)) (dNil)))))) (dTest (dOp (eqD true) (dCall s__law_told (dCons (dC (.str "")) (dNil))) (dTup (dCons (dC (.str "bracket")) (dCons (dC (.int 0)) (dNil))))))) (dRet (dC (.bl false))) (dNext)) (r_law_c1 s__law_begin s__law_take s__law_value s_format_paper s_parse_paper s__law_told s__law_refused)
def r_law_c3 (s__law_begin : DSp) (s__law_take : DSp) (s__law_value : DSp) (s_format_paper : DSp) (s_parse_paper : DSp) (s__law_told : DSp) (s__law_refused : DSp) : DS := dSeq (dAsg (dCB cLen (dCons (dVar 3) (dNil))) (dgName 5)) (dSeq (dIfS (dOr (dTest (dOp (eqD true) (dCall s__law_told (dCons (dOp plusD (dVar 4) (dC (.str " x"))) (dNil))) (dTup (dCons (dC (.str "more")) (dCons (dVar 5) (dNil)))))) (dOr (dTest (dOp (eqD true) (dCall s__law_told (dCons (dOp plusD (dVar 4) (dC (.str " )"))) (dNil))) (dTup (dCons (dC (.str "more")) (dCons (dVar 5) (dNil)))))) (dTest (dOp (eqD true) (dCall s__law_told (dCons (dOp plusD (dC (.str "( ")) (dVar 4)) (dNil))) (dTup (dCons (dC (.str "bracket")) (dCons (dOp plusD (dVar 5) (dC (.int 1))) (dNil)))))))) (dRet (dC (.bl false))) (dNext)) (r_law_c2 s__law_begin s__law_take s__law_value s_format_paper s_parse_paper s__law_told s__law_refused))
/-- law, level 6, slots 0:script 1:d 2:value 3:words 4:text 5:many 6:place 7:bad 8:code 9:odd -/
def r_law (s__law_begin : DSp) (s__law_take : DSp) (s__law_value : DSp) (s_format_paper : DSp) (s_parse_paper : DSp) (s__law_told : DSp) (s__law_refused : DSp) : DS := dSeq (dAsg (dCall s__law_begin (dCons (dVar 0) (dNil))) (dgName 1)) (dSeq (dAsg (dCall s__law_value (dCons (dVar 1) (dCons (dCall s__law_take (dCons (dVar 1) (dCons (dC (.int 2)) (dNil)))) (dNil)))) (dgTup 2 (dgCons (dgName 2) (dgCons (dgName 3) (dgNil))))) (dSeq (dAsg (dBM "str" mJoin (dC (.str " ")) (dCons (dVar 3) (dNil))) (dgName 4)) (dSeq (dIfS (dOr (dTest (dOp (eqD true) (dCall s_format_paper (dCons (dVar 2) (dNil))) (dVar 4))) (dOr (dTest (dOp (eqD true) (dCall s_parse_paper (dCons (dVar 4) (dNil))) (dVar 2))) (dTest (dOp (eqD true) (dCB cRepr (dCons (dCall s_parse_paper (dCons (dOp plusD (dBM "str" mJoin (dC (.str "\n ")) (dCons (dVar 3) (dNil))) (dC (.str " "))) (dNil))) (dNil))) (dCB cRepr (dCons (dVar 2) (dNil))))))) (dRet (dC (.bl false))) (dNext)) (r_law_c3 s__law_begin s__law_take s__law_value s_format_paper s_parse_paper s__law_told s__law_refused))))
end K26


set_option Elab.async false
set_option linter.all false
set_option maxRecDepth 100000
set_option maxHeartbeats 4000000
/-! the walks, printed by gen.py -/
namespace K26
open PySem PySem.Spec PyProof.Rows L2 Y
def topS (i : Nat) : Stmt := PySem.Challenge.pw_eachcellheld_k26_texts_of_papers.main.body.getD i (.Pass ⟨0, 0, 0, 0⟩)
structure Txt (K : PySem.W.Frag) (mg : Str → Option Value) : Prop where
  n_abs : mg "abs" = none
  n_all : mg "all" = none
  n_bool : mg "bool" = none
  n_enumerate : mg "enumerate" = none
  n_int : mg "int" = none
  n_isinstance : mg "isinstance" = none
  n_len : mg "len" = none
  n_list : mg "list" = none
  n_range : mg "range" = none
  n_repr : mg "repr" = none
  n_reversed : mg "reversed" = none
  n_str : mg "str" = none
  n_tuple : mg "tuple" = none
section
variable {P : Program} {w : World} {K : PySem.W.Frag} {mg : Str → Option Value} {base : Heap}
abbrev st__law_begin : Stmt := topS 19
abbrev N__law_begin : List Str := ["script", "seed", "cell"]
theorem sc__law_begin : FnScope N__law_begin ["script"] (defScope st__law_begin) := ⟨rfl, rfl, rfl, by decide +kernel, rfl, by decide +kernel, by decide +kernel⟩
theorem t__law_begin (T : Txt K mg) {k : Nat} {cdv : Value} {A : Around} {outer : List PySem.Env} {s0 : Shared} {H : Hp} {E : XK} {f : Addr} (hr : Room k (A.deeper (envOfC "_law_begin" (defScope st__law_begin) s0.heap.objs.size f cdv)))  :
    PSs (cxOf CX0 P w K mg base N__law_begin "_law_begin" (defScope st__law_begin) f cdv A outer s0 H E).nox (defBody st__law_begin) (upS K B0 (r__law_begin )) := by
  have nd := sc__law_begin.nd
  exact qss_cons (qs_set (i := 1) nd rfl (by first | exact Or.inl rfl | exact Or.inr rfl) (q_int)) (qss_cons (qs_for PassesOwn.never rfl (qi_it (q_var 0)) (qg_name (i := 2) nd rfl (by first | exact Or.inl rfl | exact Or.inr rfl)) (qss_one (qs_set (i := 1) nd rfl (by first | exact Or.inl rfl | exact Or.inr rfl) (q_op op_mod l_I (q_op op_plus l_plus (q_op op_plus l_plus (q_op op_mul l_I (q_var 1) (q_int)) (q_op op_mod l_I (q_callTy call_int1 l_int (by rfl) T.n_int (by decide +kernel) (qa_cons (q_var 2) (qa_nil))) (q_int))) (q_int)) (q_int))))) (qss_one (qs_ret (q_lstM (qa_cons (q_callTy call_list_of l_list (by rfl) T.n_list (by decide +kernel) (qa_cons (q_var 0) (qa_nil))) (qa_cons (q_int) (qa_cons (q_int) (qa_cons (q_var 1) (qa_nil)))))))))
abbrev st__law_take : Stmt := topS 20
abbrev N__law_take : List Str := ["d", "many", "small", "digit"]
theorem sc__law_take : FnScope N__law_take ["d", "many"] (defScope st__law_take) := ⟨rfl, rfl, rfl, by decide +kernel, rfl, by decide +kernel, by decide +kernel⟩
theorem t__law_take (T : Txt K mg) {k : Nat} {cdv : Value} {A : Around} {outer : List PySem.Env} {s0 : Shared} {H : Hp} {E : XK} {f : Addr} (hr : Room k (A.deeper (envOfC "_law_take" (defScope st__law_take) s0.heap.objs.size f cdv)))  :
    PSs (cxOf CX0 P w K mg base N__law_take "_law_take" (defScope st__law_take) f cdv A outer s0 H E).nox (defBody st__law_take) (upS K B0 (r__law_take )) := by
  have nd := sc__law_take.nd
  exact qss_cons (qs_if (PW.pt (qw_and (qt_cmp (op_eqA hr.units) l_eq (q_ix (ix_all (hu_of hr)) l_sub (q_var 0) (q_int)) (q_int) (nomark _)) (qw_and1 (qt_cmp op_lt l_I0 (q_ix (ix_all (hu_of hr)) l_sub (q_var 0) (q_int)) (q_callB call_lenA l_len (by rfl) T.n_len PySem.boot_len (qa_cons (q_ix (ix_all (hu_of hr)) l_sub (q_var 0) (q_int)) (qa_nil))) (nomark _))))) (qss_cons (qs_asg (q_callB call_abs l_abs (by rfl) T.n_abs (by decide +kernel) (qa_cons (q_callTy call_int1 l_int (by rfl) T.n_int (by decide +kernel) (qa_cons (q_ix (ix_all (hu_of hr)) l_sub (q_ix (ix_all (hu_of hr)) l_sub (q_var 0) (q_int)) (q_ix (ix_all (hu_of hr)) l_sub (q_var 0) (q_int))) (qa_nil))) (qa_nil))) (qg_sub (hu_of hr) (q_var 0) (q_int))) (qss_cons (qs_asg (q_op op_plus l_plus (q_ix (ix_all (hu_of hr)) l_sub (q_var 0) (q_int)) (q_int)) (qg_sub (hu_of hr) (q_var 0) (q_int))) (qss_one (qs_if (qt_chain op_lt l_I0 op_lt l_I0 (q_int) (q_ix (ix_all (hu_of hr)) l_sub (q_var 0) (q_int)) (q_var 1)) (qss_cons (qs_set (i := 2) nd rfl (by first | exact Or.inl rfl | exact Or.inr rfl) (q_ix (ix_all (hu_of hr)) l_sub (q_var 0) (q_int))) (qss_cons (qs_asg (q_int) (qg_sub (hu_of hr) (q_var 0) (q_int))) (qss_one (qs_ret (q_var 2))))) (qss_nil))))) (qss_nil)) (qss_cons (qs_if (qt_cmp op_gt l_I0 (q_ix (ix_all (hu_of hr)) l_sub (q_var 0) (q_int)) (q_int) (nomark _)) (qss_cons (qs_set (i := 3) nd rfl (by first | exact Or.inl rfl | exact Or.inr rfl) (q_op op_mod l_I (q_callTy call_int1 l_int (by rfl) T.n_int (by decide +kernel) (qa_cons (q_ix (ix_all (hu_of hr)) l_sub (q_var 0) (q_int)) (qa_nil))) (q_var 1))) (qss_cons (qs_asg (q_op op_fdiv l_I (q_callTy call_int1 l_int (by rfl) T.n_int (by decide +kernel) (qa_cons (q_ix (ix_all (hu_of hr)) l_sub (q_var 0) (q_int)) (qa_nil))) (q_var 1)) (qg_sub (hu_of hr) (q_var 0) (q_int))) (qss_one (qs_ret (q_var 3))))) (qss_nil)) (qss_cons (qs_asg (q_op op_mod l_I (q_callTy call_int1 l_int (by rfl) T.n_int (by decide +kernel) (qa_cons (q_op op_plus l_plus (q_op op_mul l_I (q_ix (ix_all (hu_of hr)) l_sub (q_var 0) (q_int)) (q_int)) (q_int)) (qa_nil))) (q_int)) (qg_sub (hu_of hr) (q_var 0) (q_int))) (qss_one (qs_ret (q_op op_mod l_I (q_callTy call_int1 l_int (by rfl) T.n_int (by decide +kernel) (qa_cons (q_op op_fdiv l_I (q_ix (ix_all (hu_of hr)) l_sub (q_var 0) (q_int)) (q_int)) (qa_nil))) (q_var 1))))))
abbrev st__law_pick : Stmt := topS 21
abbrev N__law_pick : List Str := ["d", "menu"]
theorem sc__law_pick : FnScope N__law_pick ["d", "menu"] (defScope st__law_pick) := ⟨rfl, rfl, rfl, by decide +kernel, rfl, by decide +kernel, by decide +kernel⟩
theorem t__law_pick (T : Txt K mg) {k : Nat} {cdv : Value} {A : Around} {outer : List PySem.Env} {s0 : Shared} {H : Hp} {E : XK} {f : Addr} (hr : Room k (A.deeper (envOfC "_law_pick" (defScope st__law_pick) s0.heap.objs.size f cdv)))  {j__law_take : Nat} {s__law_take : DSp} (c__law_take : Cal P w K mg base CX0 j__law_take "_law_take" ["d", "many"] s__law_take) (h__law_take : j__law_take ≤ k) :
    PSs (cxOf CX0 P w K mg base N__law_pick "_law_pick" (defScope st__law_pick) f cdv A outer s0 H E).nox (defBody st__law_pick) (upS K B0 (r__law_pick s__law_take)) := by
  have nd := sc__law_pick.nd
  exact qss_one (qs_ret (q_ix (ix_all (hu_of hr)) l_sub (q_var 1) (q_c c__law_take hr h__law_take rfl (qa_cons (q_var 0) (qa_cons (q_callB call_lenA l_len (by rfl) T.n_len PySem.boot_len (qa_cons (q_var 1) (qa_nil))) (qa_nil))))))
abbrev st__law_leaf : Stmt := topS 22
abbrev N__law_leaf : List Str := ["d", "kind"]
theorem sc__law_leaf : FnScope N__law_leaf ["d"] (defScope st__law_leaf) := ⟨rfl, rfl, rfl, by decide +kernel, rfl, by decide +kernel, by decide +kernel⟩
theorem t__law_leaf (T : Txt K mg) {k : Nat} {cdv : Value} {A : Around} {outer : List PySem.Env} {s0 : Shared} {H : Hp} {E : XK} {f : Addr} (hr : Room k (A.deeper (envOfC "_law_leaf" (defScope st__law_leaf) s0.heap.objs.size f cdv)))  {j__law_take : Nat} {s__law_take : DSp} (c__law_take : Cal P w K mg base CX0 j__law_take "_law_take" ["d", "many"] s__law_take) (h__law_take : j__law_take ≤ k) {j__law_pick : Nat} {s__law_pick : DSp} (c__law_pick : Cal P w K mg base CX0 j__law_pick "_law_pick" ["d", "menu"] s__law_pick) (h__law_pick : j__law_pick ≤ k) :
    PSs (cxOf CX0 P w K mg base N__law_leaf "_law_leaf" (defScope st__law_leaf) f cdv A outer s0 H E).nox (defBody st__law_leaf) (upS K B0 (r__law_leaf s__law_take s__law_pick)) := by
  have nd := sc__law_leaf.nd
  exact qss_cons (qs_set (i := 1) nd rfl (by first | exact Or.inl rfl | exact Or.inr rfl) (q_c c__law_take hr h__law_take rfl (qa_cons (q_var 0) (qa_cons (q_int) (qa_nil))))) (qss_cons (qs_if (qt_cmp (op_eqA hr.units) l_eq (q_var 1) (q_int) (nomark _)) (qss_one (qs_ret (q_c c__law_pick hr h__law_pick rfl (qa_cons (q_var 0) (qa_cons (q_lst (qa_cons (q_int) (qa_cons (q_int) (qa_cons (q_neg (q_int)) (qa_cons (q_op op_sub l_I0 (q_op op_pow l_I (q_int) (q_int)) (q_int)) (qa_cons (q_neg (q_op op_pow l_I (q_int) (q_int))) (qa_cons (q_c c__law_take hr h__law_take rfl (qa_cons (q_var 0) (qa_cons (q_op op_pow l_I (q_int) (q_int)) (qa_nil)))) (qa_nil)))))))) (qa_nil)))))) (qss_nil)) (qss_cons (qs_if (qt_cmp (op_eqA hr.units) l_eq (q_var 1) (q_int) (nomark _)) (qss_one (qs_ret (q_non))) (qss_nil)) (qss_one (qs_ret (q_c c__law_pick hr h__law_pick rfl (qa_cons (q_var 0) (qa_cons (q_lst (qa_cons (q_str) (qa_cons (q_str) (qa_cons (q_str) (qa_cons (q_str) (qa_cons (q_str) (qa_cons (q_str) (qa_cons (q_op op_mulS l_mulS (q_str) (q_int)) (qa_cons (q_str) (qa_cons (q_str) (qa_cons (q_str) (qa_cons (q_str) (qa_nil))))))))))))) (qa_nil))))))))
abbrev st__law_value : Stmt := topS 23
abbrev N__law_value : List Str := ["d", "depth", "leaf", "parts", "words", "k", "part", "own"]
theorem sc__law_value : FnScope N__law_value ["d", "depth"] (defScope st__law_value) := ⟨rfl, rfl, rfl, by decide +kernel, rfl, by decide +kernel, by decide +kernel⟩
theorem t__law_value (T : Txt K mg) {k : Nat} {cdv : Value} {A : Around} {outer : List PySem.Env} {s0 : Shared} {H : Hp} {E : XK} {f : Addr} (hr : Room k (A.deeper (envOfC "_law_value" (defScope st__law_value) s0.heap.objs.size f cdv)))  {j__law_take : Nat} {s__law_take : DSp} (c__law_take : Cal P w K mg base CX0 j__law_take "_law_take" ["d", "many"] s__law_take) (h__law_take : j__law_take ≤ k) {j__law_leaf : Nat} {s__law_leaf : DSp} (c__law_leaf : Cal P w K mg base CX0 j__law_leaf "_law_leaf" ["d"] s__law_leaf) (h__law_leaf : j__law_leaf ≤ k) {j__law_value : Nat} {s__law_value : DSp} (c__law_value : Cal P w K mg base CX0 j__law_value "_law_value" ["d", "depth"] s__law_value) (h__law_value : j__law_value ≤ k) :
    PSs (cxOf CX0 P w K mg base N__law_value "_law_value" (defScope st__law_value) f cdv A outer s0 H E).nox (defBody st__law_value) (upS K B0 (r__law_value s__law_take s__law_leaf s__law_value)) := by
  have nd := sc__law_value.nd
  exact qss_cons (qs_if (PW.pt (qw_or (qt_cmp op_gt l_I0 (q_var 1) (q_int) (nomark _)) (qw_or1 (PW.pt (qw_and (qt_cmp op_gt l_I0 (q_var 1) (q_int) (nomark _)) (qw_and1 (qt_cmp (op_eqA hr.units) l_eq (q_c c__law_take hr h__law_take rfl (qa_cons (q_var 0) (qa_cons (q_int) (qa_nil)))) (q_int) (nomark _)))))))) (qss_cons (qs_set (i := 2) nd rfl (by first | exact Or.inl rfl | exact Or.inr rfl) (q_c c__law_leaf hr h__law_leaf rfl (qa_cons (q_var 0) (qa_nil)))) (qss_one (qs_ret (q_tup (qa_cons (q_var 2) (qa_cons (q_lst (qa_cons (q_ifExp (qt_cmp op_isN l_isN (q_var 2) (q_non) (nomark _)) (q_str) (q_callTy call_strA l_strA (by rfl) T.n_str (by decide +kernel) (qa_cons (q_var 2) (qa_nil)))) (qa_nil))) (qa_nil))))))) (qss_nil)) (qss_cons (qs_set (i := 3) nd rfl (by first | exact Or.inl rfl | exact Or.inr rfl) (q_lstM (qa_nil))) (qss_cons (qs_set (i := 4) nd rfl (by first | exact Or.inl rfl | exact Or.inr rfl) (q_lst (qa_cons (q_str) (qa_nil)))) (qss_cons (qs_for PassesOwn.never rfl (qi_rng1 rfl T.n_range (qa_cons (q_c c__law_take hr h__law_take rfl (qa_cons (q_var 0) (qa_cons (q_int) (qa_nil)))) (qa_nil))) (qg_name (i := 5) nd rfl (by first | exact Or.inl rfl | exact Or.inr rfl)) (qss_cons (qs_asg (q_c c__law_value hr h__law_value rfl (qa_cons (q_var 0) (qa_cons (q_op op_plus l_plus (q_var 1) (q_int)) (qa_nil)))) (qg_tup rfl (qgs_cons (qg_name (i := 6) nd rfl (by first | exact Or.inl rfl | exact Or.inr rfl)) (qgs_cons (qg_name (i := 7) nd rfl (by first | exact Or.inl rfl | exact Or.inr rfl)) (qgs_nil))))) (qss_cons (qs_expr (q_bm PySem.F.plainAttrs_list PySem.F.slot_list_append PySem.F.type_list_append mt_append l_append (q_var 3) (qa_cons (q_var 6) (qa_nil)))) (qss_one (qs_set (i := 4) nd rfl (by first | exact Or.inl rfl | exact Or.inr rfl) (q_op op_plus l_plus (q_var 4) (q_var 7))))))) (qss_one (qs_ret (q_tup (qa_cons (q_callTy call_tuple_of l_tuple (by rfl) T.n_tuple (by decide +kernel) (qa_cons (q_var 3) (qa_nil))) (qa_cons (q_op op_plus l_plus (q_var 4) (q_lst (qa_cons (q_str) (qa_nil)))) (qa_nil)))))))))
abbrev st_is_whole : Stmt := topS 7
abbrev N_is_whole : List Str := ["value"]
theorem sc_is_whole : FnScope N_is_whole ["value"] (defScope st_is_whole) := ⟨rfl, rfl, rfl, by decide +kernel, rfl, by decide +kernel, by decide +kernel⟩
theorem t_is_whole (T : Txt K mg) {k : Nat} {cdv : Value} {A : Around} {outer : List PySem.Env} {s0 : Shared} {H : Hp} {E : XK} {f : Addr} (hr : Room k (A.deeper (envOfC "is_whole" (defScope st_is_whole) s0.heap.objs.size f cdv)))  :
    PSs (cxOf CX0 P w K mg base N_is_whole "is_whole" (defScope st_is_whole) f cdv A outer s0 H E).nox (defBody st_is_whole) (upS K B0 (r_is_whole )) := by
  have nd := sc_is_whole.nd
  exact qss_one (qs_ret (q_and (q_callB call_isi l_isi (by rfl) T.n_isinstance (by decide +kernel) (qa_cons (q_var 0) (qa_cons (q_bltn (v := .ty "int") (by rfl) T.n_int (by decide +kernel) rfl) (qa_nil)))) (q_one (q_not (q_callB call_isi l_isi (by rfl) T.n_isinstance (by decide +kernel) (qa_cons (q_var 0) (qa_cons (q_bltn (v := .ty "bool") (by rfl) T.n_bool (by decide +kernel) rfl) (qa_nil))))))))
abbrev st_is_number : Stmt := topS 8
abbrev N_is_number : List Str := ["value"]
theorem sc_is_number : FnScope N_is_number ["value"] (defScope st_is_number) := ⟨rfl, rfl, rfl, by decide +kernel, rfl, by decide +kernel, by decide +kernel⟩
theorem t_is_number (T : Txt K mg) {k : Nat} {cdv : Value} {A : Around} {outer : List PySem.Env} {s0 : Shared} {H : Hp} {E : XK} {f : Addr} (hr : Room k (A.deeper (envOfC "is_number" (defScope st_is_number) s0.heap.objs.size f cdv)))  {j_is_whole : Nat} {s_is_whole : DSp} (c_is_whole : Cal P w K mg base CX0 j_is_whole "is_whole" ["value"] s_is_whole) (h_is_whole : j_is_whole ≤ k) :
    PSs (cxOf CX0 P w K mg base N_is_number "is_number" (defScope st_is_number) f cdv A outer s0 H E).nox (defBody st_is_number) (upS K B0 (r_is_number s_is_whole)) := by
  have nd := sc_is_number.nd
  exact qss_one (qs_ret (q_and (q_c c_is_whole hr h_is_whole rfl (qa_cons (q_var 0) (qa_nil))) (q_one (q_chain op_lt l_I0 op_lt l_I0 (q_neg (q_op op_pow l_I (q_int) (q_int))) (q_var 0) (q_op op_pow l_I (q_int) (q_int))))))
abbrev st_is_word : Stmt := topS 13
abbrev N_is_word : List Str := ["text", "sign"]
theorem sc_is_word : FnScope N_is_word ["text"] (defScope st_is_word) := ⟨rfl, rfl, rfl, by decide +kernel, rfl, by decide +kernel, by decide +kernel⟩
theorem t_is_word (T : Txt K mg) {k : Nat} {cdv : Value} {A : Around} {outer : List PySem.Env} {s0 : Shared} {H : Hp} {E : XK} {f : Addr} (hr : Room k (A.deeper (envOfC "is_word" (defScope st_is_word) s0.heap.objs.size f cdv))) (tg_MOST_WORD : ∃ u v, mg "MOST_WORD" = some u ∧ RelV v u ∧ ∀ F, Rep K F v g_MOST_WORD) (tg_DIGITS : ∃ u v, mg "DIGITS" = some u ∧ RelV v u ∧ ∀ F, Rep K F v g_DIGITS) (tg_LETTERS : ∃ u v, mg "LETTERS" = some u ∧ RelV v u ∧ ∀ F, Rep K F v g_LETTERS) (tg_OTHERS : ∃ u v, mg "OTHERS" = some u ∧ RelV v u ∧ ∀ F, Rep K F v g_OTHERS)  :
    PSs (cxOf CX0 P w K mg base N_is_word "is_word" (defScope st_is_word) f cdv A outer s0 H E).nox (defBody st_is_word) (upS K B0 (r_is_word )) := by
  have nd := sc_is_word.nd
  exact qss_cons (qs_if (PW.pt (qw_or (qt_not (qt_chain op_le l_I0 op_le l_I0 (q_int) (q_callB call_lenA l_len (by rfl) T.n_len PySem.boot_len (qa_cons (q_var 0) (qa_nil))) (q_gl rfl tg_MOST_WORD.choose_spec.choose_spec.1 tg_MOST_WORD.choose_spec.choose_spec.2.1 tg_MOST_WORD.choose_spec.choose_spec.2.2))) (qw_or1 (qt_cmp (op_inA (hu_of hr)) l_in (q_ix (ix_all (hu_of hr)) l_sub (q_var 0) (q_int)) (q_gl rfl tg_DIGITS.choose_spec.choose_spec.1 tg_DIGITS.choose_spec.choose_spec.2.1 tg_DIGITS.choose_spec.choose_spec.2.2) (by rfl))))) (qss_one (qs_ret (q_bl))) (qss_nil)) (qss_one (qs_ret (q_callB (cr_all rfl) l_all (by rfl) T.n_all (by decide +kernel) (qa_cons (q_frz (q_lc (own := [("sign", 1)]) rfl nd (qi_it (q_var 0)) (blkOk_by (own := [("sign", 1)]) (N := N_is_word) (sc := defScope st_is_word) (by decide +kernel)) (fun _ _ _ _ _ => pg_name (i := 1) nd rfl (Or.inl rfl)) (lg_name (by decide)) (fun _ _ _ _ _ => qts_nil) (fun _ _ _ _ _ => q_or (q_cmp (op_inA (hu_of hr)) l_in (q_var 1) (q_gl rfl tg_LETTERS.choose_spec.choose_spec.1 tg_LETTERS.choose_spec.choose_spec.2.1 tg_LETTERS.choose_spec.choose_spec.2.2) (by rfl)) (q_or (q_cmp (op_inA (hu_of hr)) l_in (q_var 1) (q_gl rfl tg_DIGITS.choose_spec.choose_spec.1 tg_DIGITS.choose_spec.choose_spec.2.1 tg_DIGITS.choose_spec.choose_spec.2.2) (by rfl)) (q_one (q_cmp (op_inA (hu_of hr)) l_in (q_var 1) (q_gl rfl tg_OTHERS.choose_spec.choose_spec.1 tg_OTHERS.choose_spec.choose_spec.2.1 tg_OTHERS.choose_spec.choose_spec.2.2) (by rfl))))))) (qa_nil)))))
abbrev st_word_for : Stmt := topS 14
abbrev N_word_for : List Str := ["value"]
theorem sc_word_for : FnScope N_word_for ["value"] (defScope st_word_for) := ⟨rfl, rfl, rfl, by decide +kernel, rfl, by decide +kernel, by decide +kernel⟩
theorem t_word_for (T : Txt K mg) {k : Nat} {cdv : Value} {A : Around} {outer : List PySem.Env} {s0 : Shared} {H : Hp} {E : XK} {f : Addr} (hr : Room k (A.deeper (envOfC "word_for" (defScope st_word_for) s0.heap.objs.size f cdv))) (tg_NOTHING : ∃ u v, mg "NOTHING" = some u ∧ RelV v u ∧ ∀ F, Rep K F v g_NOTHING)  {j_is_word : Nat} {s_is_word : DSp} (c_is_word : Cal P w K mg base CX0 j_is_word "is_word" ["text"] s_is_word) (h_is_word : j_is_word ≤ k) {j_is_number : Nat} {s_is_number : DSp} (c_is_number : Cal P w K mg base CX0 j_is_number "is_number" ["value"] s_is_number) (h_is_number : j_is_number ≤ k) {C_InputError : Addr} {j_InputError : Nat} (x_InputError : Xcal P w K mg base j_InputError "InputError" C_InputError ["code"]) (h_InputError : j_InputError + 1 ≤ k) {B : Hp} {W : DW} (tk : Takes (cxOf (L2.CX P w) P w K mg base N_word_for "word_for" (defScope st_word_for) f cdv A outer s0 H E) (upX K B W)) :
    PSs (cxOf (L2.CX P w) P w K mg base N_word_for "word_for" (defScope st_word_for) f cdv A outer s0 H E) (defBody st_word_for) (upS K B (r_word_for W s_is_word s_is_number C_InputError)) := by
  have nd := sc_word_for.nd
  exact qss_cons (qs_if (qt_cmp op_isN l_isN (q_var 0) (q_non) (nomark _)) (qss_one (qs_ret (q_gl rfl tg_NOTHING.choose_spec.choose_spec.1 tg_NOTHING.choose_spec.choose_spec.2.1 tg_NOTHING.choose_spec.choose_spec.2.2))) (qss_nil)) (qss_cons (qs_if (PW.pt (qw_and (qt_truth (q_callB call_isi l_isi (by rfl) T.n_isinstance (by decide +kernel) (qa_cons (q_var 0) (qa_cons (q_bltn (v := .ty "str") (by rfl) T.n_str (by decide +kernel) rfl) (qa_nil))))) (qw_and1 (qt_truth (q_c c_is_word hr h_is_word rfl (qa_cons (q_var 0) (qa_nil))))))) (qss_one (qs_ret (q_var 0))) (qss_nil)) (qss_cons (qs_if (qt_not (qt_truth (q_c c_is_number hr h_is_number rfl (qa_cons (q_var 0) (qa_nil))))) (qss_one (qs_raise rfl x_InputError hr h_InputError rfl tk (by decide) (qa_cons (q_str) (qa_nil)))) (qss_nil)) (qss_one (qs_ret (q_callTy call_strA l_strA (by rfl) T.n_str (by decide +kernel) (qa_cons (q_var 0) (qa_nil)))))))
abbrev st_format_paper : Stmt := topS 15
abbrev N_format_paper : List Str := ["value", "words", "todo", "is_value", "own", "part"]
theorem sc_format_paper : FnScope N_format_paper ["value"] (defScope st_format_paper) := ⟨rfl, rfl, rfl, by decide +kernel, rfl, by decide +kernel, by decide +kernel⟩
theorem t_format_paper (T : Txt K mg) {k : Nat} {cdv : Value} {A : Around} {outer : List PySem.Env} {s0 : Shared} {H : Hp} {E : XK} {f : Addr} (hr : Room k (A.deeper (envOfC "format_paper" (defScope st_format_paper) s0.heap.objs.size f cdv)))  {j_word_for : Nat} {s_word_for : DSp} (c_word_for : Cal P w K mg base (L2.CX P w) j_word_for "word_for" ["value"] s_word_for) (h_word_for : j_word_for ≤ k) {B : Hp} {W : DW} (tk : Takes (cxOf (L2.CX P w) P w K mg base N_format_paper "format_paper" (defScope st_format_paper) f cdv A outer s0 H E) (upX K B W)) :
    PSs (cxOf (L2.CX P w) P w K mg base N_format_paper "format_paper" (defScope st_format_paper) f cdv A outer s0 H E) (defBody st_format_paper) (upS K B (r_format_paper W s_word_for)) := by
  have nd := sc_format_paper.nd
  exact qss_cons (qs_set (i := 1) nd rfl (by first | exact Or.inl rfl | exact Or.inr rfl) (q_lstM (qa_nil))) (qss_cons (qs_set (i := 2) nd rfl (by first | exact Or.inl rfl | exact Or.inr rfl) (q_lstM (qa_cons (q_tup (qa_cons (q_bl) (qa_cons (q_var 0) (qa_nil)))) (qa_nil)))) (qss_cons (qs_while (by exact PassesOwn.leaving) (qt_truth (q_var 2)) (qss_cons (qs_asg (q_bm0 PySem.F.plainAttrs_list PySem.F.slot_list_pop PySem.F.type_list_pop mt_pop l_pop (q_var 2)) (qg_tup rfl (qgs_cons (qg_name (i := 3) nd rfl (by first | exact Or.inl rfl | exact Or.inr rfl)) (qgs_cons (qg_name (i := 4) nd rfl (by first | exact Or.inl rfl | exact Or.inr rfl)) (qgs_nil))))) (qss_one (qs_if (qt_not (qt_truth (q_var 3))) (qss_one (qs_expr (q_bm PySem.F.plainAttrs_list PySem.F.slot_list_append PySem.F.type_list_append mt_append l_append (q_var 1) (qa_cons (q_str) (qa_nil))))) (qss_one (qs_if (qt_truth (q_callB call_isi l_isi (by rfl) T.n_isinstance (by decide +kernel) (qa_cons (q_var 4) (qa_cons (q_bltn (v := .ty "tuple") (by rfl) T.n_tuple (by decide +kernel) rfl) (qa_nil))))) (qss_cons (qs_expr (q_bm PySem.F.plainAttrs_list PySem.F.slot_list_append PySem.F.type_list_append mt_append l_append (q_var 1) (qa_cons (q_str) (qa_nil)))) (qss_cons (qs_expr (q_bm PySem.F.plainAttrs_list PySem.F.slot_list_append PySem.F.type_list_append mt_append l_append (q_var 2) (qa_cons (q_tup (qa_cons (q_bl) (qa_cons (q_non) (qa_nil)))) (qa_nil)))) (qss_one (qs_for (by exact PassesOwn.leaving) rfl (qi_rev rfl T.n_reversed (q_var 4)) (qg_name (i := 5) nd rfl (by first | exact Or.inl rfl | exact Or.inr rfl)) (qss_one (qs_expr (q_bm PySem.F.plainAttrs_list PySem.F.slot_list_append PySem.F.type_list_append mt_append l_append (q_var 2) (qa_cons (q_tup (qa_cons (q_bl) (qa_cons (q_var 5) (qa_nil)))) (qa_nil))))))))) (qss_one (qs_expr (q_bm PySem.F.plainAttrs_list PySem.F.slot_list_append PySem.F.type_list_append mt_append l_append (q_var 1) (qa_cons (q_cX c_word_for hr h_word_for rfl tk (qa_cons (q_var 4) (qa_nil))) (qa_nil))))))))))) (qss_one (qs_ret (q_bm PySem.F.plainAttrs_str PySem.F.slot_str_join PySem.F.type_str_join mt_join l_join (q_str) (qa_cons (q_var 1) (qa_nil)))))))
abbrev st_value_of_word : Stmt := topS 16
abbrev N_value_of_word : List Str := ["word", "at", "figures", "sign"]
theorem sc_value_of_word : FnScope N_value_of_word ["word", "at"] (defScope st_value_of_word) := ⟨rfl, rfl, rfl, by decide +kernel, rfl, by decide +kernel, by decide +kernel⟩
theorem t_value_of_word (T : Txt K mg) {k : Nat} {cdv : Value} {A : Around} {outer : List PySem.Env} {s0 : Shared} {H : Hp} {E : XK} {f : Addr} (hr : Room k (A.deeper (envOfC "value_of_word" (defScope st_value_of_word) s0.heap.objs.size f cdv))) (tg_NOTHING : ∃ u v, mg "NOTHING" = some u ∧ RelV v u ∧ ∀ F, Rep K F v g_NOTHING) (tg_DIGITS : ∃ u v, mg "DIGITS" = some u ∧ RelV v u ∧ ∀ F, Rep K F v g_DIGITS)  {C_TextError : Addr} {j_TextError : Nat} (x_TextError : Xcal P w K mg base j_TextError "TextError" C_TextError ["code", "at"]) (h_TextError : j_TextError + 1 ≤ k) {j_is_word : Nat} {s_is_word : DSp} (c_is_word : Cal P w K mg base CX0 j_is_word "is_word" ["text"] s_is_word) (h_is_word : j_is_word ≤ k) {B : Hp} {W : DW} (tk : Takes (cxOf (L2.CX P w) P w K mg base N_value_of_word "value_of_word" (defScope st_value_of_word) f cdv A outer s0 H E) (upX K B W)) :
    PSs (cxOf (L2.CX P w) P w K mg base N_value_of_word "value_of_word" (defScope st_value_of_word) f cdv A outer s0 H E) (defBody st_value_of_word) (upS K B (r_value_of_word W C_TextError s_is_word)) := by
  have nd := sc_value_of_word.nd
  exact qss_cons (qs_if (qt_cmp (op_eqA hr.units) l_eq (q_var 0) (q_gl rfl tg_NOTHING.choose_spec.choose_spec.1 tg_NOTHING.choose_spec.choose_spec.2.1 tg_NOTHING.choose_spec.choose_spec.2.2) (nomark _)) (qss_one (qs_ret (q_non))) (qss_nil)) (qss_cons (qs_set (i := 2) nd rfl (by first | exact Or.inl rfl | exact Or.inr rfl) (q_ifExp (qt_cmp (op_eqA hr.units) l_eq (q_ix (ix_all (hu_of hr)) l_sub (q_var 0) (q_int)) (q_str) (nomark _)) (q_slice (q_var 0) (qo_some (q_int)) (qo_none)) (q_var 0))) (qss_cons (qs_if (PW.pt (qw_and (qt_cmp (op_neA hr.units) l_ne (q_var 2) (q_str) (nomark _)) (qw_and1 (qt_truth (q_callB (cr_all rfl) l_all (by rfl) T.n_all (by decide +kernel) (qa_cons (q_frz (q_lc (own := [("sign", 3)]) rfl nd (qi_it (q_var 2)) (blkOk_by (own := [("sign", 3)]) (N := N_value_of_word) (sc := defScope st_value_of_word) (by decide +kernel)) (fun _ _ _ _ _ => pg_name (i := 3) nd rfl (Or.inl rfl)) (lg_name (by decide)) (fun _ _ _ _ _ => qts_nil) (fun _ _ _ _ _ => q_cmp (op_inA (hu_of hr)) l_in (q_var 3) (q_gl rfl tg_DIGITS.choose_spec.choose_spec.1 tg_DIGITS.choose_spec.choose_spec.2.1 tg_DIGITS.choose_spec.choose_spec.2.2) (by rfl)))) (qa_nil))))))) (qss_cons (qs_if (PW.pt (qw_or (qt_cmp op_gt l_I0 (q_callB call_lenA l_len (by rfl) T.n_len PySem.boot_len (qa_cons (q_var 2) (qa_nil))) (q_int) (nomark _)) (qw_or1 (PW.pt (qw_and (qt_cmp (op_eqA hr.units) l_eq (q_ix (ix_all (hu_of hr)) l_sub (q_var 2) (q_int)) (q_str) (nomark _)) (qw_and1 (PW.pt (qw_or (qt_cmp (op_neA hr.units) l_ne (q_var 2) (q_str) (nomark _)) (qw_or1 (qt_cmp (op_neA hr.units) l_ne (q_var 0) (q_str) (nomark _))))))))))) (qss_one (qs_raise rfl x_TextError hr h_TextError rfl tk (by decide) (qa_cons (q_str) (qa_cons (q_var 1) (qa_nil))))) (qss_nil)) (qss_one (qs_ret (q_callTy call_int_str l_intT (by rfl) T.n_int (by decide +kernel) (qa_cons (q_var 0) (qa_nil)))))) (qss_nil)) (qss_cons (qs_if (qt_not (qt_truth (q_c c_is_word hr h_is_word rfl (qa_cons (q_var 0) (qa_nil))))) (qss_one (qs_raise rfl x_TextError hr h_TextError rfl tk (by decide) (qa_cons (q_str) (qa_cons (q_var 1) (qa_nil))))) (qss_nil)) (qss_one (qs_ret (q_var 0))))))
abbrev st_parse_paper : Stmt := topS 17
abbrev N_parse_paper : List Str := ["text", "parts", "words", "at", "word", "told"]
theorem sc_parse_paper : FnScope N_parse_paper ["text"] (defScope st_parse_paper) := ⟨rfl, rfl, rfl, by decide +kernel, rfl, by decide +kernel, by decide +kernel⟩
theorem t_parse_paper (T : Txt K mg) {k : Nat} {cdv : Value} {A : Around} {outer : List PySem.Env} {s0 : Shared} {H : Hp} {E : XK} {f : Addr} (hr : Room k (A.deeper (envOfC "parse_paper" (defScope st_parse_paper) s0.heap.objs.size f cdv)))  {C_TextError : Addr} {j_TextError : Nat} (x_TextError : Xcal P w K mg base j_TextError "TextError" C_TextError ["code", "at"]) (h_TextError : j_TextError + 1 ≤ k) {j_value_of_word : Nat} {s_value_of_word : DSp} (c_value_of_word : Cal P w K mg base (L2.CX P w) j_value_of_word "value_of_word" ["word", "at"] s_value_of_word) (h_value_of_word : j_value_of_word ≤ k) {B : Hp} {W : DW} (tk : Takes (cxOf (L2.CX P w) P w K mg base N_parse_paper "parse_paper" (defScope st_parse_paper) f cdv A outer s0 H E) (upX K B W)) :
    PSs (cxOf (L2.CX P w) P w K mg base N_parse_paper "parse_paper" (defScope st_parse_paper) f cdv A outer s0 H E) (defBody st_parse_paper) (upS K B (r_parse_paper W C_TextError s_value_of_word)) := by
  have nd := sc_parse_paper.nd
  exact qss_cons (qs_set (i := 1) nd rfl (by first | exact Or.inl rfl | exact Or.inr rfl) (q_lstM (qa_cons (q_lstM (qa_nil)) (qa_nil)))) (qss_cons (qs_set (i := 2) nd rfl (by first | exact Or.inl rfl | exact Or.inr rfl) (q_bm0 PySem.F.plainAttrs_str PySem.F.slot_str_split PySem.F.type_str_split mt_words l_words (q_var 0))) (qss_frz 2 (qss_cons (qs_for (by exact PassesOwn.leaving) rfl (qi_enum rfl T.n_enumerate (qa_cons (q_var 2) (qa_nil))) (qg_tup rfl (qgs_cons (qg_name (i := 3) nd rfl (by first | exact Or.inl rfl | exact Or.inr rfl)) (qgs_cons (qg_name (i := 4) nd rfl (by first | exact Or.inl rfl | exact Or.inr rfl)) (qgs_nil)))) (qss_cons (qs_if (qt_cmp (op_eqA hr.units) l_eq (q_var 4) (q_str) (nomark _)) (qss_one (qs_expr (q_bm PySem.F.plainAttrs_list PySem.F.slot_list_append PySem.F.type_list_append mt_append l_append (q_var 1) (qa_cons (q_lstM (qa_nil)) (qa_nil))))) (qss_one (qs_if (qt_cmp (op_eqA hr.units) l_eq (q_var 4) (q_str) (nomark _)) (qss_cons (qs_if (qt_cmp op_lt l_I0 (q_callB call_lenA l_len (by rfl) T.n_len PySem.boot_len (qa_cons (q_var 1) (qa_nil))) (q_int) (nomark _)) (qss_one (qs_raise rfl x_TextError hr h_TextError rfl tk (by decide) (qa_cons (q_str) (qa_cons (q_var 3) (qa_nil))))) (qss_nil)) (qss_cons (qs_set (i := 5) nd rfl (by first | exact Or.inl rfl | exact Or.inr rfl) (q_callTy call_tuple_of l_tuple (by rfl) T.n_tuple (by decide +kernel) (qa_cons (q_bm0 PySem.F.plainAttrs_list PySem.F.slot_list_pop PySem.F.type_list_pop mt_pop l_pop (q_var 1)) (qa_nil)))) (qss_one (qs_expr (q_bm PySem.F.plainAttrs_list PySem.F.slot_list_append PySem.F.type_list_append mt_append l_append (q_ix (ix_all (hu_of hr)) l_sub (q_var 1) (q_neg (q_int))) (qa_cons (q_var 5) (qa_nil))))))) (qss_one (qs_expr (q_bm PySem.F.plainAttrs_list PySem.F.slot_list_append PySem.F.type_list_append mt_append l_append (q_ix (ix_all (hu_of hr)) l_sub (q_var 1) (q_neg (q_int))) (qa_cons (q_cX c_value_of_word hr h_value_of_word rfl tk (qa_cons (q_var 4) (qa_cons (q_var 3) (qa_nil)))) (qa_nil)))))))) (qss_one (qs_if (PW.pt (qw_and (qt_cmp (op_eqA hr.units) l_eq (q_callB call_lenA l_len (by rfl) T.n_len PySem.boot_len (qa_cons (q_var 1) (qa_nil))) (q_int) (nomark _)) (qw_and (qt_cmp (op_eqA hr.units) l_eq (q_callB call_lenA l_len (by rfl) T.n_len PySem.boot_len (qa_cons (q_ix (ix_all (hu_of hr)) l_sub (q_var 1) (q_int)) (qa_nil))) (q_int) (nomark _)) (qw_and1 (qt_cmp op_lt l_I0 (q_op op_plus l_plus (q_var 3) (q_int)) (q_callB call_lenA l_len (by rfl) T.n_len PySem.boot_len (qa_cons (q_var 2) (qa_nil))) (nomark _)))))) (qss_one (qs_raise rfl x_TextError hr h_TextError rfl tk (by decide) (qa_cons (q_str) (qa_cons (q_op op_plus l_plus (q_var 3) (q_int)) (qa_nil))))) (qss_nil))))) (qss_cons (qs_if (PW.pt (qw_or (qt_cmp op_gt l_I0 (q_callB call_lenA l_len (by rfl) T.n_len PySem.boot_len (qa_cons (q_var 1) (qa_nil))) (q_int) (nomark _)) (qw_or1 (qt_not (qt_truth (q_ix (ix_all (hu_of hr)) l_sub (q_var 1) (q_int))))))) (qss_one (qs_raise rfl x_TextError hr h_TextError rfl tk (by decide) (qa_cons (q_str) (qa_cons (q_callB call_lenA l_len (by rfl) T.n_len PySem.boot_len (qa_cons (q_var 2) (qa_nil))) (qa_nil))))) (qss_nil)) (qss_one (qs_ret (q_ix (ix_all (hu_of hr)) l_sub (q_ix (ix_all (hu_of hr)) l_sub (q_var 1) (q_int)) (q_int))))))))
abbrev st__law_told : Stmt := topS 24
abbrev N__law_told : List Str := ["text", "e"]
theorem sc__law_told : FnScope N__law_told ["text"] (defScope st__law_told) := ⟨rfl, rfl, rfl, by decide +kernel, rfl, by decide +kernel, by decide +kernel⟩
theorem t__law_told (T : Txt K mg) {k : Nat} {cdv : Value} {A : Around} {outer : List PySem.Env} {s0 : Shared} {H : Hp} {E : XK} {f : Addr} (hr : Room k (A.deeper (envOfC "_law_told" (defScope st__law_told) s0.heap.objs.size f cdv)))  {C_HeldError : Addr} (gc_HeldError : mg "HeldError" = some (.ref C_HeldError)) {j_parse_paper : Nat} {s_parse_paper : DSp} (c_parse_paper : Cal P w K mg base (L2.CX P w) j_parse_paper "parse_paper" ["text"] s_parse_paper) (h_parse_paper : j_parse_paper ≤ k) {C_TextError : Addr} (gc_TextError : mg "TextError" = some (.ref C_TextError)) :
    PSs (cxOf CX0 P w K mg base N__law_told "_law_told" (defScope st__law_told) f cdv A outer s0 H E).nox (defBody st__law_told) (upS K B0 (r__law_told K C_HeldError s_parse_paper C_TextError)) := by
  have nd := sc__law_told.nd
  exact qss_cons (qs_try_as (i := 1) rfl rfl nd rfl rfl ⟨rfl, by decide, .inl gc_HeldError⟩ takesN (fun W1 B1 pn1 xe1 tk1 hp1 => qss_one (qs_expr (q_cX c_parse_paper hr h_parse_paper rfl tk1 (qa_cons (q_var 0) (qa_nil))))) (fun a1 oe1 cls1 dx1 qn1 D1 vs1 fs1 hz1 hf1 hB1 hr1 => qss_one (qs_ret (q_ifExp (qt_truth (q_isE hz1 hf1 hB1 (q_var 1) gc_TextError rfl T.n_isinstance rfl)) (q_tup (qa_cons (q_xf hz1 hf1 hB1 hr1 (q_var 1)) (qa_cons (q_xf hz1 hf1 hB1 hr1 (q_var 1)) (qa_nil)))) (q_tup (qa_cons (q_str) (qa_cons (q_int) (qa_nil)))))))) (qss_one (qs_ret (q_non)))
abbrev st__law_refused : Stmt := topS 25
abbrev N__law_refused : List Str := ["value", "e"]
theorem sc__law_refused : FnScope N__law_refused ["value"] (defScope st__law_refused) := ⟨rfl, rfl, rfl, by decide +kernel, rfl, by decide +kernel, by decide +kernel⟩
theorem t__law_refused (T : Txt K mg) {k : Nat} {cdv : Value} {A : Around} {outer : List PySem.Env} {s0 : Shared} {H : Hp} {E : XK} {f : Addr} (hr : Room k (A.deeper (envOfC "_law_refused" (defScope st__law_refused) s0.heap.objs.size f cdv)))  {C_HeldError : Addr} (gc_HeldError : mg "HeldError" = some (.ref C_HeldError)) {j_format_paper : Nat} {s_format_paper : DSp} (c_format_paper : Cal P w K mg base (L2.CX P w) j_format_paper "format_paper" ["value"] s_format_paper) (h_format_paper : j_format_paper ≤ k) {C_InputError : Addr} (gc_InputError : mg "InputError" = some (.ref C_InputError)) :
    PSs (cxOf CX0 P w K mg base N__law_refused "_law_refused" (defScope st__law_refused) f cdv A outer s0 H E).nox (defBody st__law_refused) (upS K B0 (r__law_refused K C_HeldError s_format_paper C_InputError)) := by
  have nd := sc__law_refused.nd
  exact qss_cons (qs_try_as (i := 1) rfl rfl nd rfl rfl ⟨rfl, by decide, .inl gc_HeldError⟩ takesN (fun W1 B1 pn1 xe1 tk1 hp1 => qss_one (qs_expr (q_cX c_format_paper hr h_format_paper rfl tk1 (qa_cons (q_var 0) (qa_nil))))) (fun a1 oe1 cls1 dx1 qn1 D1 vs1 fs1 hz1 hf1 hB1 hr1 => qss_one (qs_ret (q_and (q_isE hz1 hf1 hB1 (q_var 1) gc_InputError rfl T.n_isinstance rfl) (q_one (q_cmp (op_eqA hr.units) l_eq (q_xf hz1 hf1 hB1 hr1 (q_var 1)) (q_str) (nomark _))))))) (qss_one (qs_ret (q_bl)))
abbrev st_law : Stmt := topS 26
abbrev N_law : List Str := ["script", "d", "value", "words", "text", "many", "place", "bad", "code", "odd"]
theorem sc_law : FnScope N_law ["script"] (defScope st_law) := ⟨rfl, rfl, rfl, by decide +kernel, rfl, by decide +kernel, by decide +kernel⟩
theorem t_law (T : Txt K mg) {k : Nat} {cdv : Value} {A : Around} {outer : List PySem.Env} {s0 : Shared} {H : Hp} {E : XK} {f : Addr} (hr : Room k (A.deeper (envOfC "law" (defScope st_law) s0.heap.objs.size f cdv)))  (hgd : A.guards = some []) {j__law_begin : Nat} {s__law_begin : DSp} (c__law_begin : Cal P w K mg base CX0 j__law_begin "_law_begin" ["script"] s__law_begin) (h__law_begin : j__law_begin ≤ k) {j__law_take : Nat} {s__law_take : DSp} (c__law_take : Cal P w K mg base CX0 j__law_take "_law_take" ["d", "many"] s__law_take) (h__law_take : j__law_take ≤ k) {j__law_value : Nat} {s__law_value : DSp} (c__law_value : Cal P w K mg base CX0 j__law_value "_law_value" ["d", "depth"] s__law_value) (h__law_value : j__law_value ≤ k) {j_format_paper : Nat} {s_format_paper : DSp} (c_format_paper : Cal P w K mg base (L2.CX P w) j_format_paper "format_paper" ["value"] s_format_paper) (h_format_paper : j_format_paper ≤ k) {j_parse_paper : Nat} {s_parse_paper : DSp} (c_parse_paper : Cal P w K mg base (L2.CX P w) j_parse_paper "parse_paper" ["text"] s_parse_paper) (h_parse_paper : j_parse_paper ≤ k) {j__law_told : Nat} {s__law_told : DSp} (c__law_told : Cal P w K mg base CX0 j__law_told "_law_told" ["text"] s__law_told) (h__law_told : j__law_told ≤ k) {j__law_refused : Nat} {s__law_refused : DSp} (c__law_refused : Cal P w K mg base CX0 j__law_refused "_law_refused" ["value"] s__law_refused) (h__law_refused : j__law_refused ≤ k) :
    PSs (cxOf CX0 P w K mg base N_law "law" (defScope st_law) f cdv A outer s0 H E).nox (defBody st_law) (upS K B0 (r_law s__law_begin s__law_take s__law_value s_format_paper s_parse_paper s__law_told s__law_refused)) := by
  have nd := sc_law.nd
  exact qss_cons (qs_set (i := 1) nd rfl (by first | exact Or.inl rfl | exact Or.inr rfl) (q_c c__law_begin hr h__law_begin rfl (qa_cons (q_var 0) (qa_nil)))) (qss_cons (qs_asg (q_c c__law_value hr h__law_value rfl (qa_cons (q_var 1) (qa_cons (q_c c__law_take hr h__law_take rfl (qa_cons (q_var 1) (qa_cons (q_int) (qa_nil)))) (qa_nil)))) (qg_tup rfl (qgs_cons (qg_name (i := 2) nd rfl (by first | exact Or.inl rfl | exact Or.inr rfl)) (qgs_cons (qg_name (i := 3) nd rfl (by first | exact Or.inl rfl | exact Or.inr rfl)) (qgs_nil))))) (qss_cons (qs_set (i := 4) nd rfl (by first | exact Or.inl rfl | exact Or.inr rfl) (q_bm PySem.F.plainAttrs_str PySem.F.slot_str_join PySem.F.type_str_join mt_join l_join (q_str) (qa_cons (q_var 3) (qa_nil)))) (qss_cons (qs_if (PW.pt (qw_or (qt_cmp (op_neA hr.units) l_ne (q_cN c_format_paper hr h_format_paper rfl (qa_cons (q_var 2) (qa_nil))) (q_var 4) (nomark _)) (qw_or (qt_cmp (op_neA hr.units) l_ne (q_cN c_parse_paper hr h_parse_paper rfl (qa_cons (q_var 4) (qa_nil))) (q_var 2) (nomark _)) (qw_or1 (qt_cmp (op_neA hr.units) l_ne (q_callB (call_repr hgd (repr_units hr)) l_repr (by rfl) T.n_repr (by decide +kernel) (qa_cons (q_cN c_parse_paper hr h_parse_paper rfl (qa_cons (q_op op_plus l_plus (q_bm PySem.F.plainAttrs_str PySem.F.slot_str_join PySem.F.type_str_join mt_join l_join (q_str) (qa_cons (q_var 3) (qa_nil))) (q_str)) (qa_nil))) (qa_nil))) (q_callB (call_repr hgd (repr_units hr)) l_repr (by rfl) T.n_repr (by decide +kernel) (qa_cons (q_var 2) (qa_nil))) (nomark _)))))) (qss_one (qs_ret (q_bl))) (qss_nil)) (qss_cons (qs_set (i := 5) nd rfl (by first | exact Or.inl rfl | exact Or.inr rfl) (q_callB call_lenA l_len (by rfl) T.n_len PySem.boot_len (qa_cons (q_var 3) (qa_nil)))) (qss_cons (qs_if (PW.pt (qw_or (qt_cmp (op_neA hr.units) l_ne (q_c c__law_told hr h__law_told rfl (qa_cons (q_op op_plus l_plus (q_var 4) (q_str)) (qa_nil))) (q_tup (qa_cons (q_str) (qa_cons (q_var 5) (qa_nil)))) (nomark _)) (qw_or (qt_cmp (op_neA hr.units) l_ne (q_c c__law_told hr h__law_told rfl (qa_cons (q_op op_plus l_plus (q_var 4) (q_str)) (qa_nil))) (q_tup (qa_cons (q_str) (qa_cons (q_var 5) (qa_nil)))) (nomark _)) (qw_or1 (qt_cmp (op_neA hr.units) l_ne (q_c c__law_told hr h__law_told rfl (qa_cons (q_op op_plus l_plus (q_str) (q_var 4)) (qa_nil))) (q_tup (qa_cons (q_str) (qa_cons (q_op op_plus l_plus (q_var 5) (q_int)) (qa_nil)))) (nomark _)))))) (qss_one (qs_ret (q_bl))) (qss_nil)) (qss_cons (qs_if (PW.pt (qw_or (qt_cmp (op_neA hr.units) l_ne (q_c c__law_told hr h__law_told rfl (qa_cons (q_op op_plus l_plus (q_str) (q_var 4)) (qa_nil))) (q_tup (qa_cons (q_str) (qa_cons (q_int) (qa_nil)))) (nomark _)) (qw_or1 (qt_cmp (op_neA hr.units) l_ne (q_c c__law_told hr h__law_told rfl (qa_cons (q_str) (qa_nil))) (q_tup (qa_cons (q_str) (qa_cons (q_int) (qa_nil)))) (nomark _))))) (qss_one (qs_ret (q_bl))) (qss_nil)) (qss_cons (qs_set (i := 6) nd rfl (by first | exact Or.inl rfl | exact Or.inr rfl) (q_c c__law_take hr h__law_take rfl (qa_cons (q_var 1) (qa_cons (q_var 5) (qa_nil))))) (qss_cons (qs_if (qt_cmp (op_notInA (hu_of hr)) l_notIn (q_ix (ix_all (hu_of hr)) l_sub (q_var 3) (q_var 6)) (q_tup (qa_cons (q_str) (qa_cons (q_str) (qa_nil)))) (by rfl)) (qss_one (qs_for PassesOwn.never rfl (qi_it (q_tup (qa_cons (q_tup (qa_cons (q_str) (qa_cons (q_str) (qa_nil)))) (qa_cons (q_tup (qa_cons (q_str) (qa_cons (q_str) (qa_nil)))) (qa_cons (q_tup (qa_cons (q_op op_plus l_plus (q_str) (q_op op_mulS l_mulS (q_str) (q_int))) (qa_cons (q_str) (qa_nil)))) (qa_cons (q_tup (qa_cons (q_op op_plus l_plus (q_str) (q_op op_mulS l_mulS (q_str) (q_int))) (qa_cons (q_str) (qa_nil)))) (qa_cons (q_tup (qa_cons (q_str) (qa_cons (q_str) (qa_nil)))) (qa_cons (q_tup (qa_cons (q_str) (qa_cons (q_str) (qa_nil)))) (qa_cons (q_tup (qa_cons (q_op op_mulS l_mulS (q_str) (q_int)) (qa_cons (q_str) (qa_nil)))) (qa_cons (q_tup (qa_cons (q_str) (qa_cons (q_str) (qa_nil)))) (qa_cons (q_tup (qa_cons (q_str) (qa_cons (q_str) (qa_nil)))) (qa_nil)))))))))))) (qg_tup rfl (qgs_cons (qg_name (i := 7) nd rfl (by first | exact Or.inl rfl | exact Or.inr rfl)) (qgs_cons (qg_name (i := 8) nd rfl (by first | exact Or.inl rfl | exact Or.inr rfl)) (qgs_nil)))) (qss_one (qs_if (qt_cmp (op_neA hr.units) l_ne (q_c c__law_told hr h__law_told rfl (qa_cons (q_bm PySem.F.plainAttrs_str PySem.F.slot_str_join PySem.F.type_str_join mt_join l_join (q_str) (qa_cons (q_op op_plus l_plus (q_op op_plus l_plus (q_slice (q_var 3) (qo_none) (qo_some (q_var 6))) (q_lst (qa_cons (q_var 7) (qa_nil)))) (q_slice (q_var 3) (qo_some (q_op op_plus l_plus (q_var 6) (q_int))) (qo_none))) (qa_nil))) (qa_nil))) (q_tup (qa_cons (q_var 8) (qa_cons (q_var 6) (qa_nil)))) (nomark _)) (qss_one (qs_ret (q_bl))) (qss_nil))))) (qss_nil)) (qss_cons (qs_for PassesOwn.never rfl (qi_it (q_tup (qa_cons (q_op op_pow l_I (q_int) (q_int)) (qa_cons (q_neg (q_op op_pow l_I (q_int) (q_int))) (qa_cons (q_str) (qa_cons (q_str) (qa_cons (q_str) (qa_cons (q_str) (qa_cons (q_op op_mulS l_mulS (q_str) (q_int)) (qa_cons (q_bl) (qa_cons (q_lstM (qa_cons (q_int) (qa_nil))) (qa_cons (q_str) (qa_nil))))))))))))) (qg_name (i := 9) nd rfl (by first | exact Or.inl rfl | exact Or.inr rfl)) (qss_one (qs_if (PW.pt (qw_or (qt_not (qt_truth (q_c c__law_refused hr h__law_refused rfl (qa_cons (q_var 9) (qa_nil))))) (qw_or1 (qt_not (qt_truth (q_c c__law_refused hr h__law_refused rfl (qa_cons (q_tup (qa_cons (q_var 2) (qa_cons (q_tup (qa_cons (q_var 9) (qa_nil))) (qa_nil)))) (qa_nil)))))))) (qss_one (qs_ret (q_bl))) (qss_nil)))) (qss_one (qs_ret (q_bl))))))))))))
end
end K26


set_option Elab.async false
set_option linter.all false
set_option maxRecDepth 100000
set_option maxHeartbeats 4000000
set_option pp.deepTerms true
set_option pp.maxSteps 3000
/-! the readings of law k26: words -/
namespace K26
open PySem PySem.Spec PyProof.Rows L2 Y YD
local macro_rules | `(tactic| walk_at "y_ne") => `(tactic| first | assumption | exact Ne.symm (by assumption) | ((refine ne_none (M := ?yM) (m := ?ymo) ?ym1 ?ym2); (case ym2 => assumption); (case ym1 => walk_at "y_look")) | ((refine Ne.symm (ne_none (M := ?yM) (m := ?ymo) ?ym1 ?ym2)); (case ym2 => assumption); (case ym1 => walk_at "y_look")) | ((refine ne_none (M := ?yM) (m := ?ymo) ?ym1 (put_none (M := ?yM) (a := ?yma) (m := ?ymo2) ?ym2).2); (case ym2 => assumption); (case ym1 => walk_at "y_look")) | ((refine Ne.symm (ne_none (M := ?yM) (m := ?ymo) ?ym1 (put_none (M := ?yM) (a := ?yma) (m := ?ymo2) ?ym2).2)); (case ym2 => assumption); (case ym1 => walk_at "y_look")))
local macro_rules | `(tactic| walk_at "y_look") => `(tactic| first | assumption | exact put_same | ((with_reducible refine Eq.trans (put_ne ?yn) ?_); (case yn => walk_at "y_ne"); (walk_at "y_look")) | ((with_reducible refine Eq.trans (drop_ne ?yn) ?_); (case yn => walk_at "y_ne"); (walk_at "y_look")))
local macro_rules | `(tactic| walk_at "y_pl") => `(tactic| first | assumption | exact PlL.nil | exact Pl.int _ | exact Pl.non | exact Pl.bl _ | exact Pl.str (by decide +kernel) | ((with_reducible refine PlL.cons ?yp1 ?yp2); (case yp1 => walk_at "y_pl"); (case yp2 => walk_at "y_pl")) | ((with_reducible refine PlL.append ?yp1 ?yp2); (case yp1 => walk_at "y_pl"); (case yp2 => walk_at "y_pl")) | ((with_reducible refine Pl.tup ?yp1); (case yp1 => walk_at "y_pl")) | ((with_reducible refine PlL.mono (j := ?yj) ?yp1 ?yp2); (case yp1 => assumption); (case yp2 => first | decide | omega)) | ((with_reducible refine Pl.mono (j := ?yj) ?yp1 ?yp2); (case yp1 => assumption); (case yp2 => first | decide | omega)))
local macro_rules | `(tactic| walk_at "y_len") => `(tactic| ((try simp only [List.length_append, List.length_cons, List.length_nil, List.length_map, sizeLine_eq] at *); omega))
local macro_rules | `(tactic| walk_at "y_rfl") => `(tactic| first | rfl | (simp only [atI_nn]; rfl))
local macro_rules | `(tactic| walk_at "y_at") => `(tactic| first | exact atI_nn _ 0 | rfl)
local macro_rules | `(tactic| walk_at "y_cond") => `(tactic| first
  | (show (0 : Int) < _; first | decide | assumption | omega)
  | (exact ⟨by first | decide | assumption | omega, by first | decide | assumption | omega⟩)
  | (exact Or.inl ⟨by first | decide | assumption | omega, by first | decide | assumption | omega⟩)
  | (exact Or.inr ⟨by first | decide | assumption | omega, by first | decide | assumption | omega⟩)
  | (exact ⟨by decide, by decide, by decide⟩))
local macro_rules | `(tactic| walk_at "y1") => `(tactic| first
  | (with_reducible first | refine i_seq ?_ | refine i_next ?_ | refine i_asg ?_ | refine i_ret ?_ | refine i_retN ?_ | refine i_drop ?_ | refine i_cont ?_ | refine i_break ?_ | refine i_ifs ?_ | refine i_if ?_ | refine i_and ?_ | refine i_or ?_ | refine i_not ?_ | refine i_test ?_ | refine i_tru ?_ | refine i_andV ?_ | refine i_orV ?_ | refine i_notV ?_ | refine i_bl ?_ | refine i_op ?_ | refine i_chain ?_ | refine i_c ?_ | refine i_cd ?_ | refine i_nil ?_ | refine i_cons ?_ | refine i_call ?_ | refine i_cb ?_ | refine i_tup ?_ | refine i_lst ?_ | refine i_lstM ?_ | refine i_dict ?_ | refine i_frz ?_ | refine i_name ?_ | refine i_gcons ?_ | refine i_gnil ?_ | refine i_gsub ?_ | refine i_par ?_ | refine i_par2 ?_ | refine i_un ?_ | refine i_int ?_ | refine i_slice ?_ | refine i_onone ?_ | refine i_osome ?_ | refine i_bm ?_ | refine i_bm0 ?_ | refine i_get1 ?_ | refine i_get2 ?_ | refine i_del ?_ | refine i_for ?_ | refine i_lc ?_ | refine i_dc ?_ | refine i_yes ?_ | refine i_it ?_ | refine i_rng1 ?_ | refine i_fld ?_ | refine i_sfld ?_ | refine i_meth ?_ | refine i_make ?_ | refine v_I0 ?_ | refine v_plusI ?_ | refine v_eqI ?_ | refine v_eqS ?_ | refine v_isN ?_ | refine v_int ?_ | refine v_abs ?_ | refine v_sliceT ?_ | refine v_sliceL ?_ | refine b_fx ?_ | refine b_tx ?_)
  | ((with_reducible refine i_var (d := ?yd) ?ye0 ?_); (case ye0 => rfl))
  | ((with_reducible refine i_gtup ?ye0 ?_); (case ye0 => rfl))
  | (with_reducible refine iteT ?_)
  | (with_reducible refine iteF ?_)
  | (with_reducible refine b_dec ?_ ?_ <;> intro hc)
  | (with_reducible refine b_ndec ?_ ?_ <;> intro hc)
  | ((with_reducible refine v_subT (d := ?yd) ?ye0 ?_); (case ye0 => rfl))
  | ((with_reducible refine v_subL (d := ?yd) ?ye0 ?_); (case ye0 => rfl))
  | ((with_reducible refine v_subM (ds := ?yds) (d := ?yd) ?ye0 ?ye1 ?_); (case ye0 => (walk_at "y_look")); (case ye1 => rfl))
  | ((with_reducible refine v_setL (ds := ?yds) (j := ?yj) ?ye0 ?ye1 ?_); (case ye0 => (walk_at "y_look")); (case ye1 => rfl))
  | ((with_reducible refine v_I ?ye0 ?_); (case ye0 => (walk_at "y_cond")))
  | ((with_reducible refine i_sz ?ye0 ?_); (case ye0 => (first | exact Nat.le_of_ble_eq_true rfl | (simp only [List.length_append, List.length_cons, List.length_nil, List.length_map, sizeLine_eq] at *; omega))))
  | (with_reducible refine i_new fun yp yhp => ?_)
  | ((with_reducible refine v_app (ds := ?yds) ?ye0 ?ye1 ?_); (case ye0 => (walk_at "y_look")); (case ye1 => (first | (simp only [List.length_append, List.length_cons, List.length_nil, List.length_map, sizeLine_eq] at *; omega))))
  | ((with_reducible refine i_tyL (ds := ?yds) ?ye0 ?_); (case ye0 => (walk_at "y_look")))
  | (with_reducible refine i_tyl ?_)
  | ((with_reducible refine v_subK (kvs := ?ykv) (k := ?yk) (d := ?yd) ?ye0 ?ye1 ?ye2 ?_); (case ye0 => (walk_at "y_look")); (case ye1 => rfl); (case ye2 => first | assumption | rfl))
  | ((with_reducible refine v_plusL (ds := ?yds) (es := ?yes) ?ye0 ?ye1 ?ye2 ?_); (case ye0 => first | rfl | (with_reducible refine lsD_ref (ds := ?yds2) ?yl0; walk_at "y_look")); (case ye1 => first | rfl | (with_reducible refine lsD_ref (ds := ?yds2) ?yl0; walk_at "y_look")); (case ye2 => (simp only [List.length_append, List.length_cons, List.length_nil, List.length_map, sizeLine_eq] at *; omega)))
  | ((with_reducible refine v_plusT ?ye0 ?_); (case ye0 => (simp only [List.length_append, List.length_cons, List.length_nil, List.length_map, sizeLine_eq] at *; omega)))
  | ((with_reducible refine i_rng1d ?ye0 ?_); (case ye0 => (constructor <;> omega)))
  | ((with_reducible refine v_len (n := ?yn) ?ye0 ?_); (case ye0 => first | ((with_reducible refine lenD_ref (ds := ?yds) ?yl0); (case yl0 => walk_at "y_look")) | rfl))
  | ((with_reducible refine v_list (es := ?yes) ?ye0 ?_); (case ye0 => first | (with_reducible refine itD_ref (ds := ?yds) ?yl0; walk_at "y_look") | rfl))
  | ((with_reducible refine v_tuple (es := ?yes) ?ye0 ?_); (case ye0 => first | (with_reducible refine itD_ref (ds := ?yds) ?yl0; walk_at "y_look") | rfl))
  | ((with_reducible refine v_eqP ?ye0 ?ye1 fun yb => ?_); (case ye0 => walk_at "y_pl"); (case ye1 => walk_at "y_pl"))
  | (with_reducible refine b_emp ?_ ?_ <;> intro hc)
  | (with_reducible refine i_trul ?_)
  | (with_reducible refine i_trut ?_)
  | (with_reducible refine i_trub ?_)
  | ((with_reducible refine v_inT ?ye0 ?_); (case ye0 => exact ⟨rfl, rfl⟩))
  | (with_reducible refine b_var ?_ ?_ <;> intro hc)
  | ((with_reducible refine i_its (ds := ?yds) ?ye0 ?_); (case ye0 => rfl)))
local macro_rules | `(tactic| walk_at "y0") => `(tactic| repeat' (walk_at "y1"))
local macro_rules | `(tactic| walk_at "ys") => `(tactic| walk_at "y0")
local macro_rules | `(tactic| walk_at "y_nn") => `(tactic| first | assumption | exact (put_none (by assumption)).2 | exact (put_none (put_none (by assumption)).2).2 | exact (put_none (put_none (put_none (by assumption)).2).2).2)
local macro_rules | `(tactic| walk_at "y_kl1") => `(tactic| first | (with_reducible exact KL.merge) | ((with_reducible refine KL.put (n := ?ykn) ?ykk); (case ykk => walk_at "y_kl1")))
local macro_rules | `(tactic| walk_at "y_kl") => `(tactic| ((refine KL.lt (n := ?yn) ?yk1 ?yk2); (case yk1 => walk_at "y_kl1"); (case yk2 => first | decide | (simp; done))))
local macro_rules | `(tactic| walk_at "y_fr") => `(tactic| first | exact Fr.refl _ _ | assumption | ((refine Fr.put ?yf1 ?yf2); (case yf2 => simp); (case yf1 => walk_at "y_fr")) | ((refine Fr.drop ?yf1 ?yf2); (case yf2 => simp); (case yf1 => walk_at "y_fr")))
local macro_rules | `(tactic| walk_at "y_fin") => `(tactic| first | assumption | rfl | walk_at "y_look" | walk_at "y_pl" | walk_at "y_fr" | omega | walk_at "y_len" | (intros; omega))
local macro_rules | `(tactic| walk_at "y_take") => `(tactic| ((with_reducible refine i_take (t := ?yt) ?yl ?yo ?yb fun yr yt' yr0 yr1 yok => ?_); (case yl => walk_at "y_look"); (case yo => assumption); (case yb => (constructor <;> first | omega | (simp; omega)))))
local macro_rules | `(tactic| walk_at "y_pick") => `(tactic| first | ((with_reducible refine i_pick2 (k := 0) (t := ?yt) ?yl ?yo ?yb ?yP fun yd yt' yP ym yok => ?_); (case yl => walk_at "y_look"); (case yo => assumption); (case yb => (constructor <;> walk_at "y_len")); (case yP => walk_at "y_pl")) | ((with_reducible refine i_pick2 (k := 5) (t := ?yt) ?yl ?yo ?yb ?yP fun yd yt' yP ym yok => ?_); (case yl => walk_at "y_look"); (case yo => assumption); (case yb => (constructor <;> walk_at "y_len")); (case yP => walk_at "y_pl")))
local macro_rules | `(tactic| walk_at "y2") => `(tactic| first | walk_at "y1" | walk_at "y_take" | walk_at "y_pick" | (with_reducible refine i_disp fun yp yhp => ?_) | (with_reducible refine i_pcons ?_) | (with_reducible refine i_pnil ?_) | (with_reducible refine i_mut ?_) | ((with_reducible refine v_inT' ?ye0 ?ye1 fun yb => ?_); (case ye0 => walk_at "y_pl"); (case ye1 => walk_at "y_pl")) | ((with_reducible refine v_setK (kvs := ?ykv) (k := ?yk) ?ye0 ?ye1 ?ye2 ?_); (case ye0 => walk_at "y_look"); (case ye1 => rfl); (case ye2 => walk_at "y_kl")) | ((with_reducible refine i_mutd (ds := ?yds) ?ye0 ?_); (case ye0 => walk_at "y_look")) | ((with_reducible refine i_glst' ?ye0 ?_); (case ye0 => rfl)))
local macro_rules | `(tactic| walk_at "ys") => `(tactic| repeat' (walk_at "y2"))
local macro_rules | `(tactic| walk_at "y1") => `(tactic| (with_reducible first | refine i_callX ?_ | refine i_methX ?_ | refine i_raise ?_ | refine i_tryAs ?_ | refine i_tryOnly ?_ | refine i_xf ?_ | refine i_isE ?_ | refine i_zip ?_ | refine i_enum ?_ | refine i_rev ?_))
local macro_rules | `(tactic| walk_at "y1") => `(tactic| ((with_reducible refine v_subLk (kvs := ?ykv) (k := ?yk) (d := ?yd) (od := ?yod) (xs := ?yxs) ?ye0 ?ye1 ?ye2 ?_); (case ye0 => (walk_at "y_look")); (case ye1 => rfl); (case ye2 => first | assumption | rfl)))
local macro_rules | `(tactic| walk_at "y1") => `(tactic| first
  | (with_reducible first | refine v_isT ?_ | refine v_isF ?_ | refine iteNT ?_ | refine iteNF ?_)
  | ((with_reducible refine v_isNF ?ye0 ?_); (case ye0 => rfl))
  | ((with_reducible refine v_isNT ?ye0 ?_); (case ye0 => rfl)))
def inS (z : Str) (c : Nat) : Bool := decide (c ∈ z.cps.toList)
def LET : Str := "abcdefghijklmnopqrstuvwxyzABCDEFGHIJKLMNOPQRSTUVWXYZ"
def DIG : Str := "0123456789"
def OTH : Str := "$_=!<"
def okSign (c : Nat) : Bool := inS LET c || inS DIG c || inS OTH c
def dig0 (s : Str) : Bool := match s.cps.toList with | c :: _ => inS DIG c | [] => false
def isWd (s : Str) : Bool := (decide (1 ≤ s.length ∧ s.length ≤ 40) && !dig0 s) && s.cps.toList.all okSign
theorem v_subS {z : Str} {c : Nat} {i : Int} {M : Mm} {Q : QD} (hz : z.length ≤ sizeLine) (h : atI z.cps.toList i = some c) (q : Q (.str ⟨#[c]⟩) M) : subD (.str z) (.int i) M Q := ⟨i, c, rfl, hz, h, q⟩
theorem v_inS {z : Str} {c : Nat} {M : Mm} {Q : QD} (q : Q (.bl (inS z c)) M) : inD false (.str ⟨#[c]⟩) (.str z) M Q := ⟨c, rfl, by simpa [inS] using q⟩
theorem v_lenS {z : Str} {M : Mm} {Q : QD} (hz : z.length ≤ sizeLine) (h : Q (.int (z.length : Int)) M) : cLen [.str z] M Q := ⟨.str z, z.length, rfl, by simp [lenD, hz], h⟩
theorem i_itS {z : Str} {M : Mm} {R : List D → (Mm → Prop) → Mm → Prop} (h : R (signs z) GT M) : ∃ ds, itsD (.str z) M = some ds ∧ R ds GT M := ⟨_, rfl, h⟩
local macro_rules | `(tactic| walk_at "y1") => `(tactic| first
  | (with_reducible refine v_inS ?_)
  | ((with_reducible refine v_lenS ?ye0 ?_); (case ye0 => (rw [sizeLine_eq]; omega)))
  | (with_reducible refine i_itS ?_))
theorem sizeS {s : Str} (h : s.length ≤ 1000000) : s.length ≤ sizeLine := by rw [sizeLine_eq]; omega
theorem len_cps (s : Str) : s.cps.toList.length = s.length := Array.length_toList
def spWord : DSp := fun ds M Q _ => ∃ s : Str, ds = [.str s] ∧ s.length ≤ 1000000 ∧ Q (.bl (isWd s)) M
theorem rd_word (ds : List D) (M : Mm) (Q : QD) (E : DX) (h : spWord ds M Q E) : r_is_word { nx := fun _ M' => less Q .non M', rt := less Q } (startD 2 ds) M := by
  obtain ⟨s, rfl, hl, k⟩ := h
  have hz := sizeS hl
  show r_is_word _ [some (.str s), none] M
  unfold r_is_word g_MOST_WORD g_DIGITS g_LETTERS g_OTHERS
  have fin : ∀ b, isWd s = b → less Q (.bl b) M := fun b e => by rw [e] at k; exact less_of k rfl
  walk_at "ys"
  · rename_i h1 h2
    exact fin false (by unfold isWd; rw [decide_eq_false (by omega)]; rfl)
  · rename_i h1 h2
    obtain ⟨c, r, hc⟩ : ∃ c r, s.cps.toList = c :: r := by
      cases e : s.cps.toList with
      | nil => have := len_cps s; rw [e] at this; simp at this; omega
      | cons c r => exact ⟨c, r, rfl⟩
    refine v_subS hz (c := c) (by rw [hc]; exact atI_nn (c :: r) 0) ?_
    have hd : dig0 s = inS DIG c := by unfold dig0; rw [hc]
    walk_at "ys"
    · rename_i h3
      exact fin false (by unfold isWd; rw [hd, show inS DIG c = true from h3]; simp)
    · rename_i h3 p hp
      have hd' : dig0 s = false := hd.trans h3
      have e0 : Y.signs s = s.cps.toList.map fun c => D.str ⟨#[c]⟩ := rfl
      rw [e0]
      refine lc_fun (f := fun d => .bl (match d with | .v (.str z) => (match z.cps.toList with | [c] => okSign c | _ => false) | _ => false)) (by rw [sizeLine_eq, List.length_map, len_cps]; omega) ?_ ?_
      · intro d hd acc R hR
        obtain ⟨c, hc, rfl⟩ := List.mem_map.mp hd
        have hR' : R (.bl (okSign c)) (put M p (.lst acc)) := hR
        walk_at "ys"
        · rename_i h4
          have : okSign c = true := by unfold okSign; rw [show inS LET c = true from h4]; rfl
          rw [this] at hR'; exact hR'
        · rename_i h4 h5
          have : okSign c = true := by unfold okSign; rw [show inS DIG c = true from h5]; simp
          rw [this] at hR'; exact hR'
        · rename_i h4 h5
          have : okSign c = inS OTH c := by unfold okSign; rw [show inS LET c = false from h4, show inS DIG c = false from h5]; rfl
          rw [this] at hR'; exact hR'
      · rw [List.map_map]
        rw [show ((fun d => D.bl (match d with | .v (.str z) => (match z.cps.toList with | [c] => okSign c | _ => false) | _ => false)) ∘ fun c => D.str ⟨#[c]⟩) = fun c => D.bl (okSign c) from rfl]
        walk_at "ys"
        rw [Y.drop_put hp]
        refine ⟨_, _, _, rfl, rfl, blsD_map _ _, ?_⟩
        refine fin _ ?_
        unfold isWd
        rw [hd', decide_eq_true (by omega), List.all_map]
        rfl
  · rename_i h1
    exact fin false (by unfold isWd; rw [decide_eq_false (by omega)]; rfl)
def spWhole : DSp := fun ds M Q _ => ∃ d t bI bB, ds = [d] ∧ typD d M = some t ∧ kitB t "int" = some bI ∧ kitB t "bool" = some bB ∧ Q (.bl (bI && !bB)) M
theorem rd_whole (ds : List D) (M : Mm) (Q : QD) (E : DX) (h : spWhole ds M Q E) : r_is_whole { nx := fun _ M' => less Q .non M', rt := less Q } (startD 1 ds) M := by
  obtain ⟨d, t, bI, bB, rfl, h1, h2, h3, k⟩ := h
  show r_is_whole _ [some d] M
  unfold r_is_whole
  walk_at "ys"
  refine ⟨_, _, _, bI, rfl, h1, h2, ?_⟩
  walk_at "ys"
  · rename_i e
    subst e
    refine ⟨_, _, _, bB, rfl, h1, h3, ?_⟩
    walk_at "ys"
    exact less_of k rfl
  · rename_i e
    subst e
    exact less_of k rfl
def numOk (i : Int) : Bool := decide (-(10 ^ 30) < i ∧ i < 10 ^ 30)
/-- is it no whole number: a text, a list, a truth value .. -/
def noNum (d : D) (M : Mm) : Prop := ∃ t, typD d M = some t ∧ (t = "str" ∨ t = "bool" ∨ t = "list")
def spNumber : DSp := fun ds M Q _ => ∃ d, ds = [d] ∧ ((∃ i, d = .int i ∧ Q (.bl (numOk i)) M) ∨ (noNum d M ∧ Q (.bl false) M))
theorem rd_number (ds : List D) (M : Mm) (Q : QD) (E : DX) (h : spNumber ds M Q E) : r_is_number spWhole { nx := fun _ M' => less Q .non M', rt := less Q } (startD 1 ds) M := by
  obtain ⟨d, rfl, h⟩ := h
  show r_is_number _ _ [some d] M
  unfold r_is_number
  walk_at "ys"
  rcases h with ⟨i, rfl, k⟩ | ⟨⟨t, ht, h3⟩, k⟩
  · refine ⟨_, "int", true, false, rfl, rfl, by decide +kernel, by decide +kernel, ?_⟩
    walk_at "ys"
    · rename_i h1
      refine less_of (d := _) ?_ rfl
      have e : numOk i = decide (i < 10 ^ 30) := by
        unfold numOk
        simp only [decide_eq_decide]
        exact ⟨fun q => q.2, fun q => ⟨h1, q⟩⟩
      rw [e] at k
      exact k
    · rename_i h1
      refine less_of (d := _) ?_ rfl
      have e : numOk i = false := decide_eq_false fun q => h1 q.1
      rw [e] at k
      exact k
    · exact absurd (by assumption) (by decide)
  · obtain ⟨bI, bB, e1, e2, e3⟩ : ∃ bI bB, kitB t "int" = some bI ∧ kitB t "bool" = some bB ∧ (bI && !bB) = false := by
      rcases h3 with rfl | rfl | rfl
      · exact ⟨false, false, by decide +kernel, by decide +kernel, rfl⟩
      · exact ⟨true, true, by decide +kernel, by decide +kernel, rfl⟩
      · exact ⟨false, false, by decide +kernel, by decide +kernel, rfl⟩
    refine ⟨d, t, bI, bB, rfl, ht, e1, e2, ?_⟩
    rw [e3]
    walk_at "ys"
    exact less_of k rfl
end K26


set_option Elab.async false
set_option linter.all false
set_option maxRecDepth 100000
set_option maxHeartbeats 4000000
set_option pp.deepTerms true
set_option pp.maxSteps 3000
/-! the readings of law k26: word_for, value_of_word -/
namespace K26
open PySem PySem.Spec PyProof.Rows L2 Y YD PySem.NumText
local macro_rules | `(tactic| walk_at "y_ne") => `(tactic| first | assumption | exact Ne.symm (by assumption) | ((refine ne_none (M := ?yM) (m := ?ymo) ?ym1 ?ym2); (case ym2 => assumption); (case ym1 => walk_at "y_look")) | ((refine Ne.symm (ne_none (M := ?yM) (m := ?ymo) ?ym1 ?ym2)); (case ym2 => assumption); (case ym1 => walk_at "y_look")) | ((refine ne_none (M := ?yM) (m := ?ymo) ?ym1 (put_none (M := ?yM) (a := ?yma) (m := ?ymo2) ?ym2).2); (case ym2 => assumption); (case ym1 => walk_at "y_look")) | ((refine Ne.symm (ne_none (M := ?yM) (m := ?ymo) ?ym1 (put_none (M := ?yM) (a := ?yma) (m := ?ymo2) ?ym2).2)); (case ym2 => assumption); (case ym1 => walk_at "y_look")))
local macro_rules | `(tactic| walk_at "y_look") => `(tactic| first | assumption | exact put_same | ((with_reducible refine Eq.trans (put_ne ?yn) ?_); (case yn => walk_at "y_ne"); (walk_at "y_look")) | ((with_reducible refine Eq.trans (drop_ne ?yn) ?_); (case yn => walk_at "y_ne"); (walk_at "y_look")))
local macro_rules | `(tactic| walk_at "y_pl") => `(tactic| first | assumption | exact PlL.nil | exact Pl.int _ | exact Pl.non | exact Pl.bl _ | exact Pl.str (by decide +kernel) | ((with_reducible refine PlL.cons ?yp1 ?yp2); (case yp1 => walk_at "y_pl"); (case yp2 => walk_at "y_pl")) | ((with_reducible refine PlL.append ?yp1 ?yp2); (case yp1 => walk_at "y_pl"); (case yp2 => walk_at "y_pl")) | ((with_reducible refine Pl.tup ?yp1); (case yp1 => walk_at "y_pl")) | ((with_reducible refine PlL.mono (j := ?yj) ?yp1 ?yp2); (case yp1 => assumption); (case yp2 => first | decide | omega)) | ((with_reducible refine Pl.mono (j := ?yj) ?yp1 ?yp2); (case yp1 => assumption); (case yp2 => first | decide | omega)))
local macro_rules | `(tactic| walk_at "y_len") => `(tactic| ((try simp only [List.length_append, List.length_cons, List.length_nil, List.length_map, sizeLine_eq] at *); omega))
local macro_rules | `(tactic| walk_at "y_rfl") => `(tactic| first | rfl | (simp only [atI_nn]; rfl))
local macro_rules | `(tactic| walk_at "y_at") => `(tactic| first | exact atI_nn _ 0 | rfl)
local macro_rules | `(tactic| walk_at "y_cond") => `(tactic| first
  | (show (0 : Int) < _; first | decide | assumption | omega)
  | (exact ⟨by first | decide | assumption | omega, by first | decide | assumption | omega⟩)
  | (exact Or.inl ⟨by first | decide | assumption | omega, by first | decide | assumption | omega⟩)
  | (exact Or.inr ⟨by first | decide | assumption | omega, by first | decide | assumption | omega⟩)
  | (exact ⟨by decide, by decide, by decide⟩))
local macro_rules | `(tactic| walk_at "y1") => `(tactic| first
  | (with_reducible first | refine i_seq ?_ | refine i_next ?_ | refine i_asg ?_ | refine i_ret ?_ | refine i_retN ?_ | refine i_drop ?_ | refine i_cont ?_ | refine i_break ?_ | refine i_ifs ?_ | refine i_if ?_ | refine i_and ?_ | refine i_or ?_ | refine i_not ?_ | refine i_test ?_ | refine i_tru ?_ | refine i_andV ?_ | refine i_orV ?_ | refine i_notV ?_ | refine i_bl ?_ | refine i_op ?_ | refine i_chain ?_ | refine i_c ?_ | refine i_cd ?_ | refine i_nil ?_ | refine i_cons ?_ | refine i_call ?_ | refine i_cb ?_ | refine i_tup ?_ | refine i_lst ?_ | refine i_lstM ?_ | refine i_dict ?_ | refine i_frz ?_ | refine i_name ?_ | refine i_gcons ?_ | refine i_gnil ?_ | refine i_gsub ?_ | refine i_par ?_ | refine i_par2 ?_ | refine i_un ?_ | refine i_int ?_ | refine i_slice ?_ | refine i_onone ?_ | refine i_osome ?_ | refine i_bm ?_ | refine i_bm0 ?_ | refine i_get1 ?_ | refine i_get2 ?_ | refine i_del ?_ | refine i_for ?_ | refine i_lc ?_ | refine i_dc ?_ | refine i_yes ?_ | refine i_it ?_ | refine i_rng1 ?_ | refine i_fld ?_ | refine i_sfld ?_ | refine i_meth ?_ | refine i_make ?_ | refine v_I0 ?_ | refine v_plusI ?_ | refine v_eqI ?_ | refine v_eqS ?_ | refine v_isN ?_ | refine v_int ?_ | refine v_abs ?_ | refine v_sliceT ?_ | refine v_sliceL ?_ | refine b_fx ?_ | refine b_tx ?_)
  | ((with_reducible refine i_var (d := ?yd) ?ye0 ?_); (case ye0 => rfl))
  | ((with_reducible refine i_gtup ?ye0 ?_); (case ye0 => rfl))
  | (with_reducible refine iteT ?_)
  | (with_reducible refine iteF ?_)
  | (with_reducible refine b_dec ?_ ?_ <;> intro hc)
  | (with_reducible refine b_ndec ?_ ?_ <;> intro hc)
  | ((with_reducible refine v_subT (d := ?yd) ?ye0 ?_); (case ye0 => rfl))
  | ((with_reducible refine v_subL (d := ?yd) ?ye0 ?_); (case ye0 => rfl))
  | ((with_reducible refine v_subM (ds := ?yds) (d := ?yd) ?ye0 ?ye1 ?_); (case ye0 => (walk_at "y_look")); (case ye1 => rfl))
  | ((with_reducible refine v_setL (ds := ?yds) (j := ?yj) ?ye0 ?ye1 ?_); (case ye0 => (walk_at "y_look")); (case ye1 => rfl))
  | ((with_reducible refine v_I ?ye0 ?_); (case ye0 => (walk_at "y_cond")))
  | ((with_reducible refine i_sz ?ye0 ?_); (case ye0 => (first | exact Nat.le_of_ble_eq_true rfl | (simp only [List.length_append, List.length_cons, List.length_nil, List.length_map, sizeLine_eq] at *; omega))))
  | (with_reducible refine i_new fun yp yhp => ?_)
  | ((with_reducible refine v_app (ds := ?yds) ?ye0 ?ye1 ?_); (case ye0 => (walk_at "y_look")); (case ye1 => (first | (simp only [List.length_append, List.length_cons, List.length_nil, List.length_map, sizeLine_eq] at *; omega))))
  | ((with_reducible refine i_tyL (ds := ?yds) ?ye0 ?_); (case ye0 => (walk_at "y_look")))
  | (with_reducible refine i_tyl ?_)
  | ((with_reducible refine v_subK (kvs := ?ykv) (k := ?yk) (d := ?yd) ?ye0 ?ye1 ?ye2 ?_); (case ye0 => (walk_at "y_look")); (case ye1 => rfl); (case ye2 => first | assumption | rfl))
  | ((with_reducible refine v_plusL (ds := ?yds) (es := ?yes) ?ye0 ?ye1 ?ye2 ?_); (case ye0 => first | rfl | (with_reducible refine lsD_ref (ds := ?yds2) ?yl0; walk_at "y_look")); (case ye1 => first | rfl | (with_reducible refine lsD_ref (ds := ?yds2) ?yl0; walk_at "y_look")); (case ye2 => (simp only [List.length_append, List.length_cons, List.length_nil, List.length_map, sizeLine_eq] at *; omega)))
  | ((with_reducible refine v_plusT ?ye0 ?_); (case ye0 => (simp only [List.length_append, List.length_cons, List.length_nil, List.length_map, sizeLine_eq] at *; omega)))
  | ((with_reducible refine i_rng1d ?ye0 ?_); (case ye0 => (constructor <;> omega)))
  | ((with_reducible refine v_len (n := ?yn) ?ye0 ?_); (case ye0 => first | ((with_reducible refine lenD_ref (ds := ?yds) ?yl0); (case yl0 => walk_at "y_look")) | rfl))
  | ((with_reducible refine v_list (es := ?yes) ?ye0 ?_); (case ye0 => first | (with_reducible refine itD_ref (ds := ?yds) ?yl0; walk_at "y_look") | rfl))
  | ((with_reducible refine v_tuple (es := ?yes) ?ye0 ?_); (case ye0 => first | (with_reducible refine itD_ref (ds := ?yds) ?yl0; walk_at "y_look") | rfl))
  | ((with_reducible refine v_eqP ?ye0 ?ye1 fun yb => ?_); (case ye0 => walk_at "y_pl"); (case ye1 => walk_at "y_pl"))
  | (with_reducible refine b_emp ?_ ?_ <;> intro hc)
  | (with_reducible refine i_trul ?_)
  | (with_reducible refine i_trut ?_)
  | (with_reducible refine i_trub ?_)
  | ((with_reducible refine v_inT ?ye0 ?_); (case ye0 => exact ⟨rfl, rfl⟩))
  | (with_reducible refine b_var ?_ ?_ <;> intro hc)
  | ((with_reducible refine i_its (ds := ?yds) ?ye0 ?_); (case ye0 => rfl)))
local macro_rules | `(tactic| walk_at "y0") => `(tactic| repeat' (walk_at "y1"))
local macro_rules | `(tactic| walk_at "ys") => `(tactic| walk_at "y0")
local macro_rules | `(tactic| walk_at "y_nn") => `(tactic| first | assumption | exact (put_none (by assumption)).2 | exact (put_none (put_none (by assumption)).2).2 | exact (put_none (put_none (put_none (by assumption)).2).2).2)
local macro_rules | `(tactic| walk_at "y_kl1") => `(tactic| first | (with_reducible exact KL.merge) | ((with_reducible refine KL.put (n := ?ykn) ?ykk); (case ykk => walk_at "y_kl1")))
local macro_rules | `(tactic| walk_at "y_kl") => `(tactic| ((refine KL.lt (n := ?yn) ?yk1 ?yk2); (case yk1 => walk_at "y_kl1"); (case yk2 => first | decide | (simp; done))))
local macro_rules | `(tactic| walk_at "y_fr") => `(tactic| first | exact Fr.refl _ _ | assumption | ((refine Fr.put ?yf1 ?yf2); (case yf2 => simp); (case yf1 => walk_at "y_fr")) | ((refine Fr.drop ?yf1 ?yf2); (case yf2 => simp); (case yf1 => walk_at "y_fr")))
local macro_rules | `(tactic| walk_at "y_fin") => `(tactic| first | assumption | rfl | walk_at "y_look" | walk_at "y_pl" | walk_at "y_fr" | omega | walk_at "y_len" | (intros; omega))
local macro_rules | `(tactic| walk_at "y_take") => `(tactic| ((with_reducible refine i_take (t := ?yt) ?yl ?yo ?yb fun yr yt' yr0 yr1 yok => ?_); (case yl => walk_at "y_look"); (case yo => assumption); (case yb => (constructor <;> first | omega | (simp; omega)))))
local macro_rules | `(tactic| walk_at "y_pick") => `(tactic| first | ((with_reducible refine i_pick2 (k := 0) (t := ?yt) ?yl ?yo ?yb ?yP fun yd yt' yP ym yok => ?_); (case yl => walk_at "y_look"); (case yo => assumption); (case yb => (constructor <;> walk_at "y_len")); (case yP => walk_at "y_pl")) | ((with_reducible refine i_pick2 (k := 5) (t := ?yt) ?yl ?yo ?yb ?yP fun yd yt' yP ym yok => ?_); (case yl => walk_at "y_look"); (case yo => assumption); (case yb => (constructor <;> walk_at "y_len")); (case yP => walk_at "y_pl")))
local macro_rules | `(tactic| walk_at "y2") => `(tactic| first | walk_at "y1" | walk_at "y_take" | walk_at "y_pick" | (with_reducible refine i_disp fun yp yhp => ?_) | (with_reducible refine i_pcons ?_) | (with_reducible refine i_pnil ?_) | (with_reducible refine i_mut ?_) | ((with_reducible refine v_inT' ?ye0 ?ye1 fun yb => ?_); (case ye0 => walk_at "y_pl"); (case ye1 => walk_at "y_pl")) | ((with_reducible refine v_setK (kvs := ?ykv) (k := ?yk) ?ye0 ?ye1 ?ye2 ?_); (case ye0 => walk_at "y_look"); (case ye1 => rfl); (case ye2 => walk_at "y_kl")) | ((with_reducible refine i_mutd (ds := ?yds) ?ye0 ?_); (case ye0 => walk_at "y_look")) | ((with_reducible refine i_glst' ?ye0 ?_); (case ye0 => rfl)))
local macro_rules | `(tactic| walk_at "ys") => `(tactic| repeat' (walk_at "y2"))
local macro_rules | `(tactic| walk_at "y1") => `(tactic| (with_reducible first | refine i_callX ?_ | refine i_methX ?_ | refine i_raise ?_ | refine i_tryAs ?_ | refine i_tryOnly ?_ | refine i_xf ?_ | refine i_isE ?_ | refine i_zip ?_ | refine i_enum ?_ | refine i_rev ?_))
local macro_rules | `(tactic| walk_at "y1") => `(tactic| ((with_reducible refine v_subLk (kvs := ?ykv) (k := ?yk) (d := ?yd) (od := ?yod) (xs := ?yxs) ?ye0 ?ye1 ?ye2 ?_); (case ye0 => (walk_at "y_look")); (case ye1 => rfl); (case ye2 => first | assumption | rfl)))
local macro_rules | `(tactic| walk_at "y1") => `(tactic| first
  | (with_reducible first | refine v_isT ?_ | refine v_isF ?_ | refine iteNT ?_ | refine iteNF ?_)
  | ((with_reducible refine v_isNF ?ye0 ?_); (case ye0 => rfl))
  | ((with_reducible refine v_isNT ?ye0 ?_); (case ye0 => rfl)))
local macro_rules | `(tactic| walk_at "y1") => `(tactic| first
  | (with_reducible refine v_inS ?_)
  | ((with_reducible refine v_lenS ?ye0 ?_); (case ye0 => (rw [sizeLine_eq]; omega)))
  | (with_reducible refine i_itS ?_))
/-- the word for what is no tuple -/
def wf : D → Option Str
  | .v .non => some "-"
  | .v (.str s) => if isWd s = true then some s else none
  | .v (.int i) => if numOk i = true then some (Str.ofString (toString i)) else none
  | _ => none
theorem wf_str (s : Str) : wf (.str s) = if isWd s = true then some s else none := rfl
theorem wf_int (i : Int) : wf (.int i) = if numOk i = true then some (Str.ofString (toString i)) else none := rfl
def EN : DEnds := ⟨fun _ _ => False, fun _ _ => False, fun _ _ => False, fun _ _ => False⟩
def leafOk (d : D) (M : Mm) : Prop := d = .non ∨ (∃ s : Str, d = .str s ∧ s.length ≤ 1000000) ∨ (∃ i, d = .int i) ∨ (∃ b, d = .bl b) ∨ ∃ p xs, d = .ref p ∧ M p = some (.lst xs)
theorem num_log {i : Int} (h : numOk i = true) : i.natAbs.log2 < 1920 := by
  have h := of_decide_eq_true h
  refine okx_int (Nat.lt_of_lt_of_le (m := 10 ^ 30) ?_ (by decide +kernel))
  omega
def spWf (CI : Addr) : DSp := fun ds M Q E => ∃ d, ds = [d] ∧ leafOk d M ∧ (∀ w, wf d = some w → Q (.str w) M) ∧ (wf d = none → E (.ref CI) [("code", .str "value")] M)
theorem rd_wf (CI : Addr) (ds : List D) (M : Mm) (Q : QD) (E : DX) (h : spWf CI ds M Q E) : r_word_for (fun _ => lessX E) spWord spNumber CI { nx := fun _ M' => less Q .non M', rt := less Q } (startD 1 ds) M := by
  obtain ⟨d, rfl, hd, k1, k2⟩ := h
  show r_word_for _ _ _ _ _ [some d] M
  unfold r_word_for g_NOTHING
  have bad : wf d = none → dRaise (fun _ => lessX E) CI ["code"] (dCons (dC (.str "value")) dNil) EN [some d] M := fun e => by
    walk_at "ys"
    refine ⟨rfl, by simp [okxD, okx]; decide, ?_⟩
    exact lessX_of (k2 e) rfl
  rcases hd with rfl | ⟨s, rfl, hs⟩ | ⟨i, rfl⟩ | ⟨b, rfl⟩ | ⟨p, xs, rfl, hp⟩
  · walk_at "ys"
    exact less_of (k1 _ rfl) rfl
  · walk_at "ys"
    refine ⟨_, "str", _, true, rfl, rfl, by decide +kernel, ?_⟩
    walk_at "ys"
    refine ⟨s, rfl, hs, ?_⟩
    walk_at "ys"
    · rename_i e
      exact less_of (k1 _ (by rw [wf_str, if_pos e])) rfl
    · rename_i e
      refine ⟨_, rfl, .inr ⟨⟨"str", rfl, .inl rfl⟩, ?_⟩⟩
      walk_at "ys"
      exact bad (by rw [wf_str, e]; rfl)
  · walk_at "ys"
    refine ⟨_, "int", _, false, rfl, rfl, by decide +kernel, ?_⟩
    walk_at "ys"
    refine ⟨_, rfl, .inl ⟨i, rfl, ?_⟩⟩
    walk_at "ys"
    · rename_i e
      exact bad (by rw [wf_int, show numOk i = false by simpa using e]; rfl)
    · rename_i e
      have e : numOk i = true := by simpa using e
      refine v_strI (num_log e) ?_
      exact less_of (k1 _ (by rw [wf_int, if_pos e])) rfl
  · walk_at "ys"
    refine ⟨_, "bool", _, false, rfl, rfl, by decide +kernel, ?_⟩
    walk_at "ys"
    refine ⟨_, rfl, .inr ⟨⟨"bool", rfl, .inr (.inl rfl)⟩, ?_⟩⟩
    walk_at "ys"
    exact bad rfl
  · walk_at "ys"
    refine ⟨_, "list", _, false, rfl, by simp [typD, hp], by decide +kernel, ?_⟩
    walk_at "ys"
    refine ⟨_, rfl, .inr ⟨⟨"list", by simp [typD, hp], .inr (.inr rfl)⟩, ?_⟩⟩
    walk_at "ys"
    exact bad rfl
def fig (cs : List Nat) : List Nat := match cs with | 45 :: r => r | _ => cs
def isDig (c : Nat) : Bool := inS DIG c
/-- what a word stands for, or the code with which it is refused -/
def vw (s : Str) : Except Str D :=
  let cs := s.cps.toList
  if cs = [45] then .ok .non else
  if fig cs ≠ [] ∧ (fig cs).all isDig = true then
    if 30 < (fig cs).length ∨ ((fig cs).head? = some 48 ∧ (fig cs ≠ [48] ∨ cs ≠ [48])) then .error "number" else .ok (.int ((PySem.intText? s).getD 0))
  else if isWd s = true then .ok (.str s) else .error "word"
theorem str_ext {a b : Str} (h : a.cps.toList = b.cps.toList) : a = b := by
  cases a; cases b; simp only [Str.mk.injEq] at *; exact Array.ext' h
theorem str_eq {a b : Str} : a = b ↔ a.cps.toList = b.cps.toList := ⟨fun h => by rw [h], str_ext⟩
theorem isDig_iff (c : Nat) : isDig c = true ↔ 48 ≤ c ∧ c ≤ 57 := by
  unfold isDig inS
  rw [decide_eq_true_iff, show DIG.cps.toList = [48, 49, 50, 51, 52, 53, 54, 55, 56, 57] from by decide +kernel]
  simp only [List.mem_cons, List.not_mem_nil, or_false]
  omega
theorem all_dig {cs : List Nat} (h : cs.all isDig = true) : AllDigits cs := fun c hc => (isDig_iff c).mp (List.all_eq_true.mp h c hc)
theorem int_some {s : Str} (h1 : fig s.cps.toList ≠ []) (h2 : (fig s.cps.toList).all isDig = true) (h3 : s.length ≤ 600) : ∃ n, PySem.intText? s = some n := by
  have hd := all_dig h2
  by_cases e : ∃ r, s.cps.toList = 45 :: r
  · obtain ⟨r, e⟩ := e
    rw [e] at h1 hd
    exact ⟨_, intText_neg e hd h1 (by omega)⟩
  · have : fig s.cps.toList = s.cps.toList := by
      unfold fig
      split
      · rename_i r er
        exact absurd ⟨r, er⟩ e
      · rfl
    rw [this] at h1 hd
    exact ⟨_, intText_digits hd h1 (by omega)⟩
def spVw (CT : Addr) : DSp := fun ds M Q E => ∃ (s : Str) (at_ : Int), ds = [.str s, .int at_] ∧ 1 ≤ s.length ∧ s.length ≤ 600 ∧ at_.natAbs < 10 ^ 100 ∧ (∀ d, vw s = .ok d → Q d M) ∧ (∀ c, vw s = .error c → E (.ref CT) [("at", .int at_), ("code", .str c)] M)
theorem vw_tail (CT : Addr) {s fg : Str} {at_ : Int} {M : Mm} {Q : QD} {E : DX} (h1 : 1 ≤ s.length) (h2 : s.length ≤ 600) (h3 : at_.natAbs < 10 ^ 100) (k1 : ∀ d, vw s = .ok d → Q d M) (k2 : ∀ c, vw s = .error c → E (.ref CT) [("at", .int at_), ("code", .str c)] M)
    (hm : s.cps.toList ≠ [45]) (hf : fg.cps.toList = fig s.cps.toList) (hfl : fg.length ≤ 600) : r_value_of_word_c0 (fun _ => lessX E) CT spWord { nx := fun _ M' => less Q .non M', rt := less Q } [some (.str s), some (.int at_), some (.str fg), none] M := by
  have hz : s.length ≤ sizeLine := sizeS (by omega)
  unfold r_value_of_word_c0 g_DIGITS
  have bad : ∀ (c : Str), vw s = .error c → okx (.str c) → [D.str c, D.int at_].length = [Str.ofString "code", Str.ofString "at"].length ∧ (∀ (d : D), d ∈ [D.str c, D.int at_] → okxD d) ∧ lessX E (.ref CT) ([Str.ofString "code", Str.ofString "at"].zip [D.str c, D.int at_]).reverse M := fun c e hx => by
    refine ⟨rfl, fun d hd => ?_, ?_⟩
    · simp only [List.mem_cons, List.not_mem_nil, or_false] at hd
      rcases hd with rfl | rfl
      · exact hx
      · exact h3
    · exact lessX_of (k2 _ e) rfl
  have lf : (fig s.cps.toList).length = fg.length := by rw [← hf]; exact len_cps fg
  have wordEnd : ¬ (fig s.cps.toList ≠ [] ∧ (fig s.cps.toList).all isDig = true) → vw s = if isWd s = true then .ok (.str s) else .error "word" := fun h => by
    unfold vw
    simp only
    rw [if_neg hm, if_neg h]
  have e48 : ("0" : Str).cps.toList = [48] := by decide +kernel
  have e0 : ("" : Str).cps.toList = [] := by decide +kernel
  have allD : Y.signs fg = fg.cps.toList.map fun c => D.str ⟨#[c]⟩ := rfl
  walk_at "ys"
  · rename_i hne p hp
    have hfne : fig s.cps.toList ≠ [] := fun z => hne (str_ext (by rw [hf, z, e0]))
    rw [allD]
    refine lc_fun (f := fun d => .bl (match d with | .v (.str z) => (match z.cps.toList with | [c] => isDig c | _ => false) | _ => false)) (by rw [sizeLine_eq, List.length_map, len_cps]; omega) ?_ ?_
    · intro d hd acc R hR
      obtain ⟨c, hc, rfl⟩ := List.mem_map.mp hd
      walk_at "ys"
      exact hR
    · rw [List.map_map]
      rw [show ((fun d => D.bl (match d with | .v (.str z) => (match z.cps.toList with | [c] => isDig c | _ => false) | _ => false)) ∘ fun c => D.str ⟨#[c]⟩) = fun c => D.bl (isDig c) from rfl]
      walk_at "ys"
      rw [Y.drop_put hp]
      refine ⟨_, _, _, rfl, rfl, blsD_map _ _, ?_⟩
      rw [show (fg.cps.toList.map isDig).all id = (fig s.cps.toList).all isDig by rw [List.all_map, hf]; rfl]
      cases ha : (fig s.cps.toList).all isDig with
      | false =>
        have hw := wordEnd (fun z => by rw [ha] at z; exact absurd z.2 (by decide))
        walk_at "ys"
        refine ⟨s, rfl, by omega, ?_⟩
        walk_at "ys"
        · rename_i e
          refine bad "word" ?_ (by simp [okx]; decide)
          rw [hw, if_neg (by simpa using e)]
        · rename_i e
          refine less_of (k1 _ ?_) rfl
          rw [hw, if_pos (by simpa using e)]
      | true =>
        have hvw : vw s = if 30 < (fig s.cps.toList).length ∨ ((fig s.cps.toList).head? = some 48 ∧ (fig s.cps.toList ≠ [48] ∨ s.cps.toList ≠ [48])) then .error "number" else .ok (.int ((PySem.intText? s).getD 0)) := by
          unfold vw
          simp only
          rw [if_neg hm, if_pos ⟨hfne, ha⟩]
        have okv : ¬ (30 < (fig s.cps.toList).length ∨ ((fig s.cps.toList).head? = some 48 ∧ (fig s.cps.toList ≠ [48] ∨ s.cps.toList ≠ [48]))) → cIntT [.str s] M (less Q) := fun h => by
          obtain ⟨n, hn⟩ := int_some hfne ha h2
          refine ⟨s, n, rfl, hn, by omega, ?_⟩
          refine less_of (k1 _ ?_) rfl
          rw [hvw, if_neg h, hn]
          rfl
        have badv : (30 < (fig s.cps.toList).length ∨ ((fig s.cps.toList).head? = some 48 ∧ (fig s.cps.toList ≠ [48] ∨ s.cps.toList ≠ [48]))) → vw s = .error "number" := fun h => by rw [hvw, if_pos h]
        obtain ⟨c, r, hc⟩ : ∃ c r, fig s.cps.toList = c :: r := by
          cases e : fig s.cps.toList with
          | nil => exact absurd e hfne
          | cons c r => exact ⟨c, r, rfl⟩
        walk_at "ys"
        · rename_i h30
          exact bad "number" (badv (.inl (by rw [lf]; omega))) (by simp [okx]; decide)
        · rename_i h30
          refine v_subS (sizeS (by omega)) (c := c) (by rw [hf, hc]; exact atI_nn (c :: r) 0) ?_
          have h30' : ¬ 30 < (fig s.cps.toList).length := by rw [lf]; omega
          walk_at "ys"
          · rename_i hz1 hz2
            have hc48 : c = 48 := by have := str_eq.mp hz1; rw [e48] at this; simpa using this
            exact bad "number" (badv (.inr ⟨by rw [hc, hc48]; rfl, .inl fun z => hz2 (str_ext (by rw [hf, z, e48]))⟩)) (by simp [okx]; decide)
          · rename_i hz1 hz2 hz3
            have hc48 : c = 48 := by have := str_eq.mp hz1; rw [e48] at this; simpa using this
            exact bad "number" (badv (.inr ⟨by rw [hc, hc48]; rfl, .inr fun z => hz3 (str_ext (by rw [z, e48]))⟩)) (by simp [okx]; decide)
          · rename_i hz1 hz2 hz3
            refine okv fun z => ?_
            rcases z with z | ⟨_, z | z⟩
            · exact h30' z
            · exact z (by rw [← hf, hz2, e48])
            · exact z (by rw [hz3, e48])
          · rename_i hz1
            refine okv fun z => ?_
            rcases z with z | ⟨z, _⟩
            · exact h30' z
            · rw [hc] at z
              have z := Option.some.inj z
              exact hz1 (str_ext (by rw [e48, z]))
  · rename_i he
    have hw := wordEnd (fun z => z.1 (by rw [← hf, he, e0]))
    refine ⟨s, rfl, by omega, ?_⟩
    walk_at "ys"
    · rename_i e
      refine bad "word" ?_ (by simp [okx]; decide)
      rw [hw, if_neg (by simpa using e)]
    · rename_i e
      refine less_of (k1 _ ?_) rfl
      rw [hw, if_pos (by simpa using e)]
theorem rd_vw (CT : Addr) (ds : List D) (M : Mm) (Q : QD) (E : DX) (h : spVw CT ds M Q E) : r_value_of_word (fun _ => lessX E) CT spWord { nx := fun _ M' => less Q .non M', rt := less Q } (startD 4 ds) M := by
  obtain ⟨s, at_, rfl, h1, h2, h3, k1, k2⟩ := h
  have hz : s.length ≤ sizeLine := sizeS (by omega)
  obtain ⟨c, r, hc⟩ : ∃ c r, s.cps.toList = c :: r := by
    cases e : s.cps.toList with
    | nil => have := len_cps s; rw [e] at this; simp at this; omega
    | cons c r => exact ⟨c, r, rfl⟩
  show r_value_of_word _ _ _ _ [some (.str s), some (.int at_), none, none] M
  unfold r_value_of_word g_NOTHING
  have e45 : ("-" : Str).cps.toList = [45] := by decide +kernel
  walk_at "ys"
  · rename_i e
    refine less_of (k1 _ ?_) rfl
    unfold vw
    simp only
    rw [if_pos (by rw [e, e45])]
  · rename_i e
    have hm : s.cps.toList ≠ [45] := fun z => e (str_ext (by rw [z, e45]))
    refine v_subS hz (c := c) (by rw [hc]; exact atI_nn (c :: r) 0) ?_
    walk_at "ys"
    · rename_i e2
      have e3 : c = 45 := by
        have := str_eq.mp e2
        rw [e45] at this
        simpa using this
      subst e3
      refine ⟨hz, ?_⟩
      walk_at "ys"
      have hcut : (cutS s (some 1) none).cps.toList = r := by
        unfold cutS
        rw [show HT.sIx s.length 0 (some 1) = min 1 s.length from HT.sIx_nat _ _ 1, HT.sIx_none, Nat.min_eq_left h1, hc]
        simp only [List.drop_succ_cons, List.drop_zero]
        rw [List.take_of_length_le]
        have := len_cps s
        rw [hc] at this
        simp at this
        omega
      have hl : (cutS s (some 1) none).length ≤ 600 := by
        rw [← len_cps, hcut]
        have := len_cps s
        rw [hc] at this
        simp at this
        omega
      exact vw_tail CT h1 h2 h3 k1 k2 hm (by rw [hcut, hc]; rfl) hl
    · rename_i e2
      have e3 : c ≠ 45 := fun z => e2 (str_ext (by rw [e45, z]))
      refine vw_tail CT h1 h2 h3 k1 k2 hm ?_ h2
      rw [hc]
      unfold fig
      split
      · rename_i e4
        exact absurd (List.cons.inj e4).1 e3
      · rfl
end K26


set_option Elab.async false
set_option linter.all false
set_option maxRecDepth 100000
set_option maxHeartbeats 4000000
set_option pp.deepTerms true
set_option pp.maxSteps 3000
/-! law k26: the texts of whole numbers -/
namespace K26
open PySem PySem.Spec PyProof.Rows L2 Y YD PySem.NumText PySem.W.KIN
theorem digs_head : ∀ m : Nat, 0 < m → ∃ c r, Nat.toDigits 10 m = c :: r ∧ c ≠ '0' := by
  intro m
  induction m using Nat.strongRecOn with
  | _ m ih =>
    intro h0
    by_cases h : m < 10
    · rw [Nat.toDigits_of_lt_base h]
      exact ⟨_, _, rfl, (by decide : ∀ d : Nat, d < 10 → 0 < d → Nat.digitChar d ≠ '0') m h h0⟩
    · have hm : m % 10 < 10 := Nat.mod_lt m (by decide)
      have t : Nat.toDigits 10 (m / 10) ++ Nat.toDigits 10 (m % 10) = Nat.toDigits 10 (10 * (m / 10) + m % 10) := Nat.toDigits_append_toDigits (by decide) (by omega) hm
      rw [Nat.div_add_mod] at t
      obtain ⟨c, r, e, hc⟩ := ih (m / 10) (by omega) (by omega)
      exact ⟨c, r ++ Nat.toDigits 10 (m % 10), by rw [← t, e]; rfl, hc⟩
/-- the signs of the text of a whole number -/
def dg (m : Nat) : List Nat := (Nat.toDigits 10 m).map Char.toNat
theorem num_cps (i : Int) : (Str.ofString (toString i)).cps.toList = if i < 0 then 45 :: dg i.natAbs else dg i.natAbs := by
  cases i with
  | ofNat m =>
    rw [if_neg (by simp)]
    exact signs_num m
  | negSucc m =>
    rw [if_pos (by simp [Int.negSucc_lt_zero])]
    rw [signs_ofString]
    show (("-" : String) ++ Nat.repr (m + 1)).toList.map Char.toNat = _
    rw [String.toList_append, Nat.toList_repr]
    rfl
theorem dg_all (m : Nat) : AllDigits (dg m) := by
  intro c hc
  obtain ⟨ch, hch, e⟩ := List.mem_map.mp hc
  have r := digit_range (Nat.isDigit_of_mem_toDigits (by decide) (by decide) hch)
  rw [← e]
  exact r
theorem dg_ne (m : Nat) : dg m ≠ [] := by
  intro e
  have h := toDigits_len_ge 10 m
  rw [List.map_eq_nil_iff.mp e] at h
  exact absurd h (by decide)
theorem dg_len {m : Nat} (h : m < 10 ^ 30) : (dg m).length ≤ 30 := by
  have := (Nat.length_repr_le_iff (n := m) (k := 30) (by decide)).mpr h
  unfold dg
  rw [List.length_map, ← Nat.toList_repr, String.length_toList]
  exact this
theorem num_len {i : Int} (h : numOk i = true) : (Str.ofString (toString i)).length ≤ 31 := by
  have h := of_decide_eq_true h
  rw [← len_cps, num_cps]
  have := dg_len (m := i.natAbs) (by omega)
  split
  · simp; omega
  · omega
theorem fig_dg (m : Nat) : fig (dg m) = dg m := by
  unfold fig
  split
  · rename_i r e
    have := dg_all m 45 (by rw [e]; simp)
    omega
  · rfl
theorem dg_zero : dg 0 = [48] := by decide +kernel
theorem vw_num {i : Int} (h : numOk i = true) : vw (Str.ofString (toString i)) = .ok (.int i) := by
  have h' := of_decide_eq_true h
  have hf : fig (Str.ofString (toString i)).cps.toList = dg i.natAbs := by
    rw [num_cps]
    split
    · rfl
    · exact fig_dg _
  have hl := dg_len (m := i.natAbs) (by omega)
  have hd : (dg i.natAbs).all isDig = true := List.all_eq_true.mpr fun c hc => (isDig_iff c).mpr (dg_all _ c hc)
  have hne := dg_ne i.natAbs
  have hz : ∀ z : i ≠ 0, (dg i.natAbs).head? ≠ some 48 := fun z => by
    obtain ⟨c, r, e, hc⟩ := digs_head i.natAbs (by omega)
    unfold dg
    rw [e]
    simp only [List.map_cons, List.head?_cons, ne_eq, Option.some.injEq]
    intro z
    exact hc (Char.toNat_inj.mp z)
  have hi : PySem.intText? (Str.ofString (toString i)) = some i := by
    have hlen := num_len h
    by_cases hn : i < 0
    · have e := num_cps i
      rw [if_pos hn] at e
      rw [intText_neg e (dg_all _) hne (by omega)]
      unfold dg
      rw [val_back]
      congr 1
      omega
    · have e := num_cps i
      rw [if_neg hn] at e
      rw [intText_digits (by rw [e]; exact dg_all _) (by rw [e]; exact hne) (by omega), e]
      unfold dg
      rw [val_back]
      congr 1
      omega
  unfold vw
  simp only
  rw [hf, if_neg, if_pos ⟨hne, hd⟩, if_neg, hi]
  · rfl
  · intro z
    rcases z with z | ⟨z1, z2⟩
    · omega
    · by_cases z : i = 0
      · subst z
        rw [show (0 : Int).natAbs = 0 from rfl, dg_zero] at z2
        rcases z2 with z2 | z2
        · exact z2 rfl
        · exact z2 (by rw [num_cps]; exact dg_zero)
      · exact hz z z1
  · rw [num_cps]
    split
    · intro z
      exact hne (List.cons.inj z).2
    · intro z
      have := dg_all i.natAbs 45 (by rw [z]; simp)
      omega
theorem words_len {d : D} {w : Str} (h : wf d = some w) : w.length ≤ 41 := by
  unfold wf at h
  split at h
  · cases h; decide +kernel
  · split at h
    · rename_i s hs
      cases h
      unfold isWd at hs
      simp only [Bool.and_eq_true, decide_eq_true_iff] at hs
      omega
    · cases h
  · split at h
    · rename_i i hi
      cases h
      have := num_len hi
      omega
    · cases h
  · cases h
end K26


set_option Elab.async false
set_option linter.all false
set_option maxRecDepth 100000
set_option maxHeartbeats 4000000
set_option pp.deepTerms true
set_option pp.maxSteps 3000
/-! the readings of law k26: format_paper -/
namespace K26
open PySem PySem.Spec PyProof.Rows L2 Y YD
local macro_rules | `(tactic| walk_at "y_ne") => `(tactic| first | assumption | exact Ne.symm (by assumption) | ((refine ne_none (M := ?yM) (m := ?ymo) ?ym1 ?ym2); (case ym2 => assumption); (case ym1 => walk_at "y_look")) | ((refine Ne.symm (ne_none (M := ?yM) (m := ?ymo) ?ym1 ?ym2)); (case ym2 => assumption); (case ym1 => walk_at "y_look")) | ((refine ne_none (M := ?yM) (m := ?ymo) ?ym1 (put_none (M := ?yM) (a := ?yma) (m := ?ymo2) ?ym2).2); (case ym2 => assumption); (case ym1 => walk_at "y_look")) | ((refine Ne.symm (ne_none (M := ?yM) (m := ?ymo) ?ym1 (put_none (M := ?yM) (a := ?yma) (m := ?ymo2) ?ym2).2)); (case ym2 => assumption); (case ym1 => walk_at "y_look")))
local macro_rules | `(tactic| walk_at "y_look") => `(tactic| first | assumption | exact put_same | ((with_reducible refine Eq.trans (put_ne ?yn) ?_); (case yn => walk_at "y_ne"); (walk_at "y_look")) | ((with_reducible refine Eq.trans (drop_ne ?yn) ?_); (case yn => walk_at "y_ne"); (walk_at "y_look")))
local macro_rules | `(tactic| walk_at "y_pl") => `(tactic| first | assumption | exact PlL.nil | exact Pl.int _ | exact Pl.non | exact Pl.bl _ | exact Pl.str (by decide +kernel) | ((with_reducible refine PlL.cons ?yp1 ?yp2); (case yp1 => walk_at "y_pl"); (case yp2 => walk_at "y_pl")) | ((with_reducible refine PlL.append ?yp1 ?yp2); (case yp1 => walk_at "y_pl"); (case yp2 => walk_at "y_pl")) | ((with_reducible refine Pl.tup ?yp1); (case yp1 => walk_at "y_pl")) | ((with_reducible refine PlL.mono (j := ?yj) ?yp1 ?yp2); (case yp1 => assumption); (case yp2 => first | decide | omega)) | ((with_reducible refine Pl.mono (j := ?yj) ?yp1 ?yp2); (case yp1 => assumption); (case yp2 => first | decide | omega)))
local macro_rules | `(tactic| walk_at "y_len") => `(tactic| ((try simp only [List.length_append, List.length_cons, List.length_nil, List.length_map, sizeLine_eq] at *); omega))
local macro_rules | `(tactic| walk_at "y_rfl") => `(tactic| first | rfl | (simp only [atI_nn]; rfl))
local macro_rules | `(tactic| walk_at "y_at") => `(tactic| first | exact atI_nn _ 0 | rfl)
local macro_rules | `(tactic| walk_at "y_cond") => `(tactic| first
  | (show (0 : Int) < _; first | decide | assumption | omega)
  | (exact ⟨by first | decide | assumption | omega, by first | decide | assumption | omega⟩)
  | (exact Or.inl ⟨by first | decide | assumption | omega, by first | decide | assumption | omega⟩)
  | (exact Or.inr ⟨by first | decide | assumption | omega, by first | decide | assumption | omega⟩)
  | (exact ⟨by decide, by decide, by decide⟩))
local macro_rules | `(tactic| walk_at "y1") => `(tactic| first
  | (with_reducible first | refine i_seq ?_ | refine i_next ?_ | refine i_asg ?_ | refine i_ret ?_ | refine i_retN ?_ | refine i_drop ?_ | refine i_cont ?_ | refine i_break ?_ | refine i_ifs ?_ | refine i_if ?_ | refine i_and ?_ | refine i_or ?_ | refine i_not ?_ | refine i_test ?_ | refine i_tru ?_ | refine i_andV ?_ | refine i_orV ?_ | refine i_notV ?_ | refine i_bl ?_ | refine i_op ?_ | refine i_chain ?_ | refine i_c ?_ | refine i_cd ?_ | refine i_nil ?_ | refine i_cons ?_ | refine i_call ?_ | refine i_cb ?_ | refine i_tup ?_ | refine i_lst ?_ | refine i_lstM ?_ | refine i_dict ?_ | refine i_frz ?_ | refine i_name ?_ | refine i_gcons ?_ | refine i_gnil ?_ | refine i_gsub ?_ | refine i_par ?_ | refine i_par2 ?_ | refine i_un ?_ | refine i_int ?_ | refine i_slice ?_ | refine i_onone ?_ | refine i_osome ?_ | refine i_bm ?_ | refine i_bm0 ?_ | refine i_get1 ?_ | refine i_get2 ?_ | refine i_del ?_ | refine i_for ?_ | refine i_lc ?_ | refine i_dc ?_ | refine i_yes ?_ | refine i_it ?_ | refine i_rng1 ?_ | refine i_fld ?_ | refine i_sfld ?_ | refine i_meth ?_ | refine i_make ?_ | refine v_I0 ?_ | refine v_plusI ?_ | refine v_eqI ?_ | refine v_eqS ?_ | refine v_isN ?_ | refine v_int ?_ | refine v_abs ?_ | refine v_sliceT ?_ | refine v_sliceL ?_ | refine b_fx ?_ | refine b_tx ?_)
  | ((with_reducible refine i_var (d := ?yd) ?ye0 ?_); (case ye0 => rfl))
  | ((with_reducible refine i_gtup ?ye0 ?_); (case ye0 => rfl))
  | (with_reducible refine iteT ?_)
  | (with_reducible refine iteF ?_)
  | (with_reducible refine b_dec ?_ ?_ <;> intro hc)
  | (with_reducible refine b_ndec ?_ ?_ <;> intro hc)
  | ((with_reducible refine v_subT (d := ?yd) ?ye0 ?_); (case ye0 => rfl))
  | ((with_reducible refine v_subL (d := ?yd) ?ye0 ?_); (case ye0 => rfl))
  | ((with_reducible refine v_subM (ds := ?yds) (d := ?yd) ?ye0 ?ye1 ?_); (case ye0 => (walk_at "y_look")); (case ye1 => rfl))
  | ((with_reducible refine v_setL (ds := ?yds) (j := ?yj) ?ye0 ?ye1 ?_); (case ye0 => (walk_at "y_look")); (case ye1 => rfl))
  | ((with_reducible refine v_I ?ye0 ?_); (case ye0 => (walk_at "y_cond")))
  | ((with_reducible refine i_sz ?ye0 ?_); (case ye0 => (first | exact Nat.le_of_ble_eq_true rfl | (simp only [List.length_append, List.length_cons, List.length_nil, List.length_map, sizeLine_eq] at *; omega))))
  | (with_reducible refine i_new fun yp yhp => ?_)
  | ((with_reducible refine v_app (ds := ?yds) ?ye0 ?ye1 ?_); (case ye0 => (walk_at "y_look")); (case ye1 => (first | (simp only [List.length_append, List.length_cons, List.length_nil, List.length_map, sizeLine_eq] at *; omega))))
  | ((with_reducible refine i_tyL (ds := ?yds) ?ye0 ?_); (case ye0 => (walk_at "y_look")))
  | (with_reducible refine i_tyl ?_)
  | ((with_reducible refine v_subK (kvs := ?ykv) (k := ?yk) (d := ?yd) ?ye0 ?ye1 ?ye2 ?_); (case ye0 => (walk_at "y_look")); (case ye1 => rfl); (case ye2 => first | assumption | rfl))
  | ((with_reducible refine v_plusL (ds := ?yds) (es := ?yes) ?ye0 ?ye1 ?ye2 ?_); (case ye0 => first | rfl | (with_reducible refine lsD_ref (ds := ?yds2) ?yl0; walk_at "y_look")); (case ye1 => first | rfl | (with_reducible refine lsD_ref (ds := ?yds2) ?yl0; walk_at "y_look")); (case ye2 => (simp only [List.length_append, List.length_cons, List.length_nil, List.length_map, sizeLine_eq] at *; omega)))
  | ((with_reducible refine v_plusT ?ye0 ?_); (case ye0 => (simp only [List.length_append, List.length_cons, List.length_nil, List.length_map, sizeLine_eq] at *; omega)))
  | ((with_reducible refine i_rng1d ?ye0 ?_); (case ye0 => (constructor <;> omega)))
  | ((with_reducible refine v_len (n := ?yn) ?ye0 ?_); (case ye0 => first | ((with_reducible refine lenD_ref (ds := ?yds) ?yl0); (case yl0 => walk_at "y_look")) | rfl))
  | ((with_reducible refine v_list (es := ?yes) ?ye0 ?_); (case ye0 => first | (with_reducible refine itD_ref (ds := ?yds) ?yl0; walk_at "y_look") | rfl))
  | ((with_reducible refine v_tuple (es := ?yes) ?ye0 ?_); (case ye0 => first | (with_reducible refine itD_ref (ds := ?yds) ?yl0; walk_at "y_look") | rfl))
  | ((with_reducible refine v_eqP ?ye0 ?ye1 fun yb => ?_); (case ye0 => walk_at "y_pl"); (case ye1 => walk_at "y_pl"))
  | (with_reducible refine b_emp ?_ ?_ <;> intro hc)
  | (with_reducible refine i_trul ?_)
  | (with_reducible refine i_trut ?_)
  | (with_reducible refine i_trub ?_)
  | ((with_reducible refine v_inT ?ye0 ?_); (case ye0 => exact ⟨rfl, rfl⟩))
  | (with_reducible refine b_var ?_ ?_ <;> intro hc)
  | ((with_reducible refine i_its (ds := ?yds) ?ye0 ?_); (case ye0 => rfl)))
local macro_rules | `(tactic| walk_at "y0") => `(tactic| repeat' (walk_at "y1"))
local macro_rules | `(tactic| walk_at "ys") => `(tactic| walk_at "y0")
local macro_rules | `(tactic| walk_at "y_nn") => `(tactic| first | assumption | exact (put_none (by assumption)).2 | exact (put_none (put_none (by assumption)).2).2 | exact (put_none (put_none (put_none (by assumption)).2).2).2)
local macro_rules | `(tactic| walk_at "y_kl1") => `(tactic| first | (with_reducible exact KL.merge) | ((with_reducible refine KL.put (n := ?ykn) ?ykk); (case ykk => walk_at "y_kl1")))
local macro_rules | `(tactic| walk_at "y_kl") => `(tactic| ((refine KL.lt (n := ?yn) ?yk1 ?yk2); (case yk1 => walk_at "y_kl1"); (case yk2 => first | decide | (simp; done))))
local macro_rules | `(tactic| walk_at "y_fr") => `(tactic| first | exact Fr.refl _ _ | assumption | ((refine Fr.put ?yf1 ?yf2); (case yf2 => simp); (case yf1 => walk_at "y_fr")) | ((refine Fr.drop ?yf1 ?yf2); (case yf2 => simp); (case yf1 => walk_at "y_fr")))
local macro_rules | `(tactic| walk_at "y_fin") => `(tactic| first | assumption | rfl | walk_at "y_look" | walk_at "y_pl" | walk_at "y_fr" | omega | walk_at "y_len" | (intros; omega))
local macro_rules | `(tactic| walk_at "y_take") => `(tactic| ((with_reducible refine i_take (t := ?yt) ?yl ?yo ?yb fun yr yt' yr0 yr1 yok => ?_); (case yl => walk_at "y_look"); (case yo => assumption); (case yb => (constructor <;> first | omega | (simp; omega)))))
local macro_rules | `(tactic| walk_at "y_pick") => `(tactic| first | ((with_reducible refine i_pick2 (k := 0) (t := ?yt) ?yl ?yo ?yb ?yP fun yd yt' yP ym yok => ?_); (case yl => walk_at "y_look"); (case yo => assumption); (case yb => (constructor <;> walk_at "y_len")); (case yP => walk_at "y_pl")) | ((with_reducible refine i_pick2 (k := 5) (t := ?yt) ?yl ?yo ?yb ?yP fun yd yt' yP ym yok => ?_); (case yl => walk_at "y_look"); (case yo => assumption); (case yb => (constructor <;> walk_at "y_len")); (case yP => walk_at "y_pl")))
local macro_rules | `(tactic| walk_at "y2") => `(tactic| first | walk_at "y1" | walk_at "y_take" | walk_at "y_pick" | (with_reducible refine i_disp fun yp yhp => ?_) | (with_reducible refine i_pcons ?_) | (with_reducible refine i_pnil ?_) | (with_reducible refine i_mut ?_) | ((with_reducible refine v_inT' ?ye0 ?ye1 fun yb => ?_); (case ye0 => walk_at "y_pl"); (case ye1 => walk_at "y_pl")) | ((with_reducible refine v_setK (kvs := ?ykv) (k := ?yk) ?ye0 ?ye1 ?ye2 ?_); (case ye0 => walk_at "y_look"); (case ye1 => rfl); (case ye2 => walk_at "y_kl")) | ((with_reducible refine i_mutd (ds := ?yds) ?ye0 ?_); (case ye0 => walk_at "y_look")) | ((with_reducible refine i_glst' ?ye0 ?_); (case ye0 => rfl)))
local macro_rules | `(tactic| walk_at "ys") => `(tactic| repeat' (walk_at "y2"))
local macro_rules | `(tactic| walk_at "y1") => `(tactic| (with_reducible first | refine i_callX ?_ | refine i_methX ?_ | refine i_raise ?_ | refine i_tryAs ?_ | refine i_tryOnly ?_ | refine i_xf ?_ | refine i_isE ?_ | refine i_zip ?_ | refine i_enum ?_ | refine i_rev ?_))
local macro_rules | `(tactic| walk_at "y1") => `(tactic| ((with_reducible refine v_subLk (kvs := ?ykv) (k := ?yk) (d := ?yd) (od := ?yod) (xs := ?yxs) ?ye0 ?ye1 ?ye2 ?_); (case ye0 => (walk_at "y_look")); (case ye1 => rfl); (case ye2 => first | assumption | rfl)))
local macro_rules | `(tactic| walk_at "y1") => `(tactic| first
  | (with_reducible first | refine v_isT ?_ | refine v_isF ?_ | refine iteNT ?_ | refine iteNF ?_)
  | ((with_reducible refine v_isNF ?ye0 ?_); (case ye0 => rfl))
  | ((with_reducible refine v_isNT ?ye0 ?_); (case ye0 => rfl)))
def cat2 (a b : Option (List Str)) : Option (List Str) := match a, b with | some x, some y => some (x ++ y) | _, _ => none
theorem cat2_assoc (a b c : Option (List Str)) : cat2 (cat2 a b) c = cat2 a (cat2 b c) := by
  cases a <;> cases b <;> cases c <;> simp [cat2, List.append_assoc]
theorem cat2_nil (a : Option (List Str)) : cat2 (some []) a = a := by cases a <;> simp [cat2]
mutual
/-- the words of a value -/
def wd : D → Option (List Str)
  | .v x => (wf (.v x)).map fun w => [w]
  | .lst _ => none
  | .tup ds => cat2 (some ["("]) (cat2 (wdL ds) (some [")"]))
def wdL : List D → Option (List Str)
  | [] => some []
  | d :: ds => cat2 (wd d) (wdL ds)
end
mutual
def cnt : D → Nat
  | .v _ => 1
  | .lst _ => 1
  | .tup ds => 2 + cntL ds
def cntL : List D → Nat
  | [] => 0
  | d :: ds => cnt d + cntL ds
end
mutual
def okV (M : Mm) : D → Prop
  | .v x => leafOk (.v x) M
  | .lst _ => False
  | .tup ds => okVL M ds
def okVL (M : Mm) : List D → Prop
  | [] => True
  | d :: ds => okV M d ∧ okVL M ds
end
/-- what is still to be written: none is a bracket to close -/
def sI : Option D → D
  | none => .tup [.bl false, .non]
  | some d => .tup [.bl true, d]
def wdS : List (Option D) → Option (List Str)
  | [] => some []
  | none :: r => cat2 (some [")"]) (wdS r)
  | some d :: r => cat2 (wd d) (wdS r)
def cntS : List (Option D) → Nat
  | [] => 0
  | none :: r => 1 + cntS r
  | some d :: r => cnt d + cntS r
def okS (M : Mm) : List (Option D) → Prop
  | [] => True
  | none :: r => okS M r
  | some d :: r => okV M d ∧ okS M r
theorem wdS_push (ds : List D) (r : List (Option D)) : wdS (ds.map some ++ none :: r) = cat2 (wdL ds) (cat2 (some [")"]) (wdS r)) := by
  induction ds with
  | nil => simp only [List.map_nil, List.nil_append, wdS, wdL, cat2_nil]
  | cons d ds ih => simp only [List.map_cons, List.cons_append, wdS, wdL, ih, cat2_assoc]
theorem cntS_push (ds : List D) (r : List (Option D)) : cntS (ds.map some ++ none :: r) = cntL ds + 1 + cntS r := by
  induction ds with
  | nil => simp [cntS, cntL]
  | cons d ds ih => simp [cntS, cntL, ih]; omega
theorem okS_push {M : Mm} : ∀ (ds : List D) (r : List (Option D)), okVL M ds → okS M r → okS M (ds.map some ++ none :: r)
  | [], r, _, h => h
  | d :: ds, r, h1, h => ⟨h1.1, okS_push ds r h1.2 h⟩
theorem wdS_tup (ds : List D) (r : List (Option D)) : wdS (some (.tup ds) :: r) = cat2 (some ["("]) (wdS (ds.map some ++ none :: r)) := by
  rw [wdS_push]
  simp only [wdS, wd, cat2_assoc]
theorem cnt_pos (d : D) : 1 ≤ cnt d := by cases d <;> simp [cnt]; omega
theorem cntS_len : ∀ S : List (Option D), S.length ≤ cntS S
  | [] => Nat.le_refl _
  | none :: r => by have := cntS_len r; simp [cntS]; omega
  | some d :: r => by have := cntS_len r; have := cnt_pos d; simp [cntS]; omega
theorem cat2_some {a b : Option (List Str)} {ws : List Str} (h : cat2 a b = some ws) : ∃ x y, a = some x ∧ b = some y ∧ ws = x ++ y := by
  cases a <;> cases b <;> simp [cat2] at h
  exact ⟨_, _, rfl, rfl, h.symm⟩
theorem cat2_none {x : List Str} {b : Option (List Str)} (h : cat2 (some x) b = none) : b = none := by cases b <;> simp [cat2] at h ⊢
theorem v_truM {a : Addr} {ds : List D} {M : Mm} {QB : Bool → Prop} (em : M a = some (.lst ds)) (h : QB (!ds.isEmpty)) : ∃ b, truD (.ref a) M = some b ∧ QB b := ⟨_, by simp [truD, em], h⟩
theorem v_popM {a : Addr} {ds : List D} {d : D} {M : Mm} {Q : QD} (em : M a = some (.lst (ds ++ [d]))) (h : Q d (put M a (.lst ds))) : mPop (.ref a) [] M Q :=
  ⟨a, _, d, rfl, rfl, em, by simp, by simpa using h⟩
theorem put2 {M : Mm} {a b : Addr} {m n k : MO} (h : a ≠ b) : put (put (put M a m) b n) a k = put (put M a k) b n := by
  rw [Y.put_comm (Ne.symm h), put_put]
/-- what holds at the head of the loop: two lists of its own -/
def mFm (M : Mm) (pW pT : Addr) (acc : List Str) (S : List (Option D)) : Mm := put (put M pW (.lst (acc.map D.str))) pT (.lst (S.reverse.map sI))
theorem mFm_fr (M : Mm) (pW pT : Addr) (acc : List Str) (S : List (Option D)) : Fr M (mFm M pW pT acc S) [pW, pT] := by
  unfold mFm
  walk_at "y_fr"
def fmBody (W : DW) (s : DSp) : DS := (dSeq (dAsg (dBM0 "list" mPop (dVar 2)) (dgTup 2 (dgCons (dgName 3) (dgCons (dgName 4) (dgNil))))) (dIfS (dNot (dTru (dVar 3))) (dDrop (dBM "list" mAppend (dVar 1) (dCons (dC (.str ")")) (dNil)))) (dIfS (dTru (dCB cIsi (dCons (dVar 4) (dCons (dC (.ty "tuple")) (dNil))))) (dSeq (dDrop (dBM "list" mAppend (dVar 1) (dCons (dC (.str "(")) (dNil)))) (dSeq (dDrop (dBM "list" mAppend (dVar 2) (dCons (dTup (dCons (dC (.bl false)) (dCons (dC .non) (dNil)))) (dNil)))) (dFor (diRev (dVar 4)) (dgName 5) (dDrop (dBM "list" mAppend (dVar 2) (dCons (dTup (dCons (dC (.bl true)) (dCons (dVar 5) (dNil)))) (dNil))))))) (dDrop (dBM "list" mAppend (dVar 1) (dCons (dCallX W s (dCons (dVar 4) (dNil))) (dNil)))))))
theorem rev_cons (x : Option D) (r : List (Option D)) : (x :: r).reverse.map sI = r.reverse.map sI ++ [sI x] := by simp
theorem typ_leaf {x : V} {M : Mm} (h : leafOk (.v x) M) : ∃ t, typD (.v x) M = some t ∧ kitB t "tuple" = some false := by
  rcases h with h | ⟨s, h, _⟩ | ⟨i, h⟩ | ⟨b, h⟩ | ⟨p, xs, h, hp⟩ <;> cases h
  · exact ⟨_, rfl, by decide +kernel⟩
  · exact ⟨_, rfl, by decide +kernel⟩
  · exact ⟨_, rfl, by decide +kernel⟩
  · exact ⟨_, rfl, by decide +kernel⟩
  · exact ⟨"list", by simp [typD, hp], by decide +kernel⟩
theorem leaf_mv {d : D} {M M' : Mm} {L : List Addr} (h : leafOk d M) (f : Fr M M' L) (hL : ∀ p ∈ L, M p = none) : leafOk d M' := by
  rcases h with h | h | h | h | ⟨p, xs, h, hp⟩
  · exact .inl h
  · exact .inr (.inl h)
  · exact .inr (.inr (.inl h))
  · exact .inr (.inr (.inr (.inl h)))
  · refine .inr (.inr (.inr (.inr ⟨p, xs, h, ?_⟩)))
    rw [f p fun z => by rw [hL p z] at hp; cases hp]
    exact hp
theorem fm_loop {CI pW pT : Addr} {M : Mm} {d0 : D} {EX : DX} {E : DEnds} (hW : M pW = none) (hT : M pT = none) (hne : pW ≠ pT) : ∀ (n : Nat) (S : List (Option D)) (acc : List Str) (x3 x4 x5 : Option D), cntS S ≤ n → acc.length + cntS S ≤ 100000 → okS M S →
    (∀ ws x3 x4 x5, wdS S = some ws → E.nx [some d0, some (.ref pW), some (.ref pT), x3, x4, x5] (mFm M pW pT (acc ++ ws) [])) → (wdS S = none → EX (.ref CI) [("code", .str "value")] M) →
    whileD (dTru (dVar 2)) (fmBody (fun _ => lessX EX) (spWf CI)) E (n + 1) [some d0, some (.ref pW), some (.ref pT), x3, x4, x5] (mFm M pW pT acc S) := by
  intro n
  induction n using Nat.strongRecOn with
  | ind n ih =>
  intro S acc x3 x4 x5 hn hz ho k1 k2
  obtain ⟨N, hN1, hN2⟩ : ∃ N : Y.Env → Mm → Prop, (∀ δ' M', N δ' M' → whileD (dTru (dVar 2)) (fmBody (fun _ => lessX EX) (spWf CI)) E n δ' M') ∧ ∀ δ' M', whileD (dTru (dVar 2)) (fmBody (fun _ => lessX EX) (spWf CI)) E n δ' M' → N δ' M' := ⟨_, fun _ _ h => h, fun _ _ h => h⟩
  refine ⟨N, hN1, ?_⟩
  cases S with
  | nil =>
    have k := k1 [] x3 x4 x5 rfl
    unfold mFm at k ⊢
    walk_at "ys"
    refine v_truM (ds := []) put_same ?_
    simpa using k
  | cons x r =>
    have hn1 : 1 ≤ n := by have := cntS_len (x :: r); simp at this; omega
    obtain ⟨m, rfl⟩ : ∃ m, n = m + 1 := ⟨n - 1, by omega⟩
    have eS : (x :: r).reverse.map sI = r.reverse.map sI ++ [sI x] := rev_cons x r
    have hr : r.length ≤ 100000 := by have := cntS_len (x :: r); simp at this; omega
    obtain ⟨R, eR⟩ : ∃ R, R = r.reverse.map sI := ⟨_, rfl⟩
    have hRl : R.length ≤ 100000 := by rw [eR]; simpa using hr
    unfold mFm
    rw [eS, ← eR]
    walk_at "ys"
    refine v_truM put_same ?_
    rw [show (!(R ++ [sI x]).isEmpty) = true by simp]
    unfold fmBody
    walk_at "ys"
    refine v_popM put_same ?_
    rw [put_put]
    cases x with
    | none =>
      rw [show sI none = .tup [.bl false, .non] from rfl]
      walk_at "ys"
      rw [put2 hne]
      have := ih m (by omega) r (acc ++ [(")" : Str)]) (some (.bl false)) (some .non) x5 (by simp [cntS] at hn; omega) (by simp [cntS] at hz ⊢; omega) ho (fun ws x3 x4 x5 e => by
        have := k1 ((")" : Str) :: ws) x3 x4 x5 (by simp [wdS, e, cat2])
        simpa using this) (fun e => k2 (by simp [wdS, e, cat2]))
      refine hN2 _ _ ?_
      have e : (acc ++ [(")" : Str)]).map D.str = acc.map D.str ++ [D.str ")"] := by simp
      unfold mFm at this
      rw [e, ← eR] at this
      exact this
    | some d =>
      rw [show sI (some d) = .tup [.bl true, d] from rfl]
      walk_at "ys"
      cases d with
      | v x =>
        have hl : leafOk (.v x) M := ho.1
        have hl' := leaf_mv hl (M' := put (put M pW (.lst (acc.map D.str))) pT (.lst R)) (L := [pW, pT]) (by walk_at "y_fr") (by simp [hW, hT])
        obtain ⟨t, ht, hk⟩ := typ_leaf hl'
        refine ⟨_, t, _, false, rfl, ht, hk, ?_⟩
        walk_at "ys"
        refine ⟨_, rfl, hl', fun w e => ?_, fun e => ?_⟩
        · walk_at "ys"
          rw [put2 hne]
          have := ih m (by omega) r (acc ++ [w]) (some (.bl true)) (some (.v x)) x5 (by simp [cntS, cnt] at hn; omega) (by simp [cntS, cnt] at hz ⊢; omega) ho.2 (fun ws x3 x4 x5 e2 => by
            have := k1 (w :: ws) x3 x4 x5 (by simp [wdS, wd, e, e2, cat2])
            simpa using this) (fun e2 => k2 (by simp [wdS, wd, e, e2, cat2]))
          refine hN2 _ _ ?_
          have e : (acc ++ [w]).map D.str = acc.map D.str ++ [D.str w] := by simp
          unfold mFm at this
          rw [e, ← eR] at this
          exact this
        · exact lessX_fr0 (k2 (by simp [wdS, wd, e, cat2])) (L := [pW, pT]) (by walk_at "y_fr") (by simp [hW, hT])
      | lst ds => exact absurd ho.1 (by simp [okV])
      | tup ds =>
        refine ⟨_, "tuple", _, true, rfl, rfl, by decide +kernel, ?_⟩
        walk_at "ys"
        rw [put2 hne, put_put]
        refine ⟨ds, .inl rfl, ?_⟩
        have hds : ds.length ≤ cntL ds := by
          have := cntS_len (ds.map some ++ none :: [])
          rw [cntS_push] at this
          simp [cntS] at this
          exact this
        have hc : cntS (some (.tup ds) :: r) = 2 + cntL ds + cntS r := rfl
        refine for_wordG (fun i δ' M' => (∃ x5, δ' = [some d0, some (.ref pW), some (.ref pT), some (.bl true), some (.tup ds), x5]) ∧ M' = put (put M pW (.lst (acc.map D.str ++ [D.str "("]))) pT (.lst (R ++ [.tup [.bl false, .non]] ++ (ds.reverse.take i).map fun d => sI (some d)))) ⟨⟨x5, rfl⟩, by simp⟩ ?_ ?_ (fun _ _ _ _ => trivial)
        · intro i d δ' M' hi ⟨⟨x5, eδ⟩, eM⟩
          subst eδ eM
          have hi2 : i < ds.length := by
            have := (List.getElem?_eq_some_iff.mp hi).1
            simpa using this
          have hlen : (R ++ [D.tup [.bl false, .non]] ++ (ds.reverse.take i).map fun d => sI (some d)).length < sizeLine := by
            rw [sizeLine_eq]
            simp
            omega
          walk_at "ys"
          refine ⟨⟨_, rfl⟩, ?_⟩
          rw [put_put, List.take_add_one, hi]
          simp [sI]
        · intro δ' M' ⟨⟨x5, eδ⟩, eM⟩
          subst eδ eM
          refine hN2 _ _ ?_
          have := ih m (by omega) (ds.map some ++ none :: r) (acc ++ [("(" : Str)]) (some (.bl true)) (some (.tup ds)) x5 (by rw [cntS_push]; omega) (by rw [cntS_push]; simp; omega) (okS_push ds r ho.1 ho.2) (fun ws x3 x4 x5 e => by
            have := k1 (("(" : Str) :: ws) x3 x4 x5 (by rw [wdS_tup, e]; rfl)
            simpa using this) (fun e => k2 (by rw [wdS_tup, e]; rfl))
          unfold mFm at this
          have e1 : (acc ++ [("(" : Str)]).map D.str = acc.map D.str ++ [D.str "("] := by simp
          have e2 : (ds.map some ++ none :: r).reverse.map sI = R ++ [D.tup [.bl false, .non]] ++ (ds.reverse.take ds.reverse.length).map fun d => sI (some d) := by
            rw [eR, List.take_length]
            simp [sI, List.map_reverse, Function.comp_def]
          rw [e1, e2] at this
          exact this
def okWs (ws : List Str) : Prop := ∀ w ∈ ws, w.length ≤ 41
mutual
theorem wd_ok : ∀ (d : D) (ws : List Str), wd d = some ws → okWs ws ∧ ws.length ≤ cnt d
  | .v x, ws, h => by
    unfold wd at h
    cases e : wf (.v x) with
    | none => rw [e] at h; cases h
    | some w =>
      rw [e] at h
      cases h
      exact ⟨by intro w' hw; simp at hw; subst hw; exact words_len e, by simp [cnt]⟩
  | .lst _, ws, h => by cases h
  | .tup ds, ws, h => by
    unfold wd at h
    obtain ⟨x, y, e1, e2, rfl⟩ := cat2_some h
    obtain ⟨y1, y2, e3, e4, rfl⟩ := cat2_some e2
    cases e1
    cases e4
    have := wdL_ok ds y1 e3
    refine ⟨?_, by simp [cnt]; omega⟩
    intro w hw
    simp only [List.mem_append, List.mem_cons, List.not_mem_nil, or_false] at hw
    rcases hw with rfl | hw | rfl
    · decide +kernel
    · exact this.1 w hw
    · decide +kernel
theorem wdL_ok : ∀ (ds : List D) (ws : List Str), wdL ds = some ws → okWs ws ∧ ws.length ≤ cntL ds
  | [], ws, h => by cases h; exact ⟨fun w hw => (nomatch hw), Nat.le_refl _⟩
  | d :: ds, ws, h => by
    unfold wdL at h
    obtain ⟨x, y, e1, e2, rfl⟩ := cat2_some h
    have h1 := wd_ok d x e1
    have h2 := wdL_ok ds y e2
    refine ⟨?_, by simp [cntL]; omega⟩
    intro w hw
    rcases List.mem_append.mp hw with hw | hw
    · exact h1.1 w hw
    · exact h2.1 w hw
end
theorem sum_ok : ∀ {ws : List Str}, okWs ws → (ws.map (·.length)).sum ≤ 41 * ws.length
  | [], _ => Nat.le_refl _
  | w :: ws, h => by
    have h1 := h w List.mem_cons_self
    have h2 := sum_ok (ws := ws) fun w hw => h w (List.mem_cons_of_mem _ hw)
    simp only [List.map_cons, List.sum_cons, List.length_cons]
    omega
theorem strsD_map : ∀ ws : List Str, strsD (ws.map D.str) = some ws
  | [] => rfl
  | w :: ws => by simp [strsD, strsD_map ws]
def spFmt (CI : Addr) : DSp := fun ds M Q E => ∃ d, ds = [d] ∧ okV M d ∧ cnt d ≤ 50000 ∧ (∀ ws, wd d = some ws → Q (.str (Txt.join " " ws)) M) ∧ (wd d = none → E (.ref CI) [("code", .str "value")] M)
theorem rd_format_paper (CI : Addr) (ds : List D) (M : Mm) (Q : QD) (E : DX) (h : spFmt CI ds M Q E) : r_format_paper (fun _ => lessX E) (spWf CI) { nx := fun _ M' => less Q .non M', rt := less Q } (startD 6 ds) M := by
  obtain ⟨d, rfl, ho, hc, k1, k2⟩ := h
  show r_format_paper _ _ _ [some d, none, none, none, none, none] M
  unfold r_format_paper
  walk_at "ys"
  rename_i pW hW pT hT
  have hT' := put_none hT
  refine ⟨cnt d + 1, ?_⟩
  have e0 : put (put M pW (.lst [])) pT (.lst [.tup [.bl true, d]]) = mFm M pW pT [] [some d] := rfl
  have := fm_loop (CI := CI) (EX := E) (E := { nx := dRet (dBM "str" mJoin (dC (.str " ")) (dCons (dVar 1) dNil)) { nx := fun _ M' => less Q .non M', rt := less Q }, rt := less Q }) (d0 := d) hW hT'.2 (Ne.symm hT'.1) (cnt d) [some d] [] none none none (by simp [cntS]) (by simp [cntS]; omega) ⟨ho, trivial⟩ (fun ws x3 x4 x5 e => by
      have e : wd d = some ws := by
        unfold wdS wdS cat2 at e
        cases e2 : wd d with
        | none => rw [e2] at e; cases e
        | some x => rw [e2] at e; simpa using e
      have ok := wd_ok d ws e
      have hs := sum_ok ok.1
      unfold mFm
      walk_at "ys"
      refine ⟨rfl, ?_⟩
      walk_at "ys"
      refine ⟨_, _, _, ws, rfl, rfl, itD_ref (ds := ws.map D.str) (by walk_at "y_look"), strsD_map ws, ?_, ?_⟩
      · have e1 : (Str.ofString " ").length = 1 := by decide +kernel
        rw [e1]
        omega
      · exact less_fr0 (k1 ws e) (L := [pW, pT]) (by walk_at "y_fr") (by simp [hW, hT'.2])) (fun e => k2 (by
        unfold wdS wdS cat2 at e
        cases e2 : wd d with
        | none => rfl
        | some x => rw [e2] at e; cases e))
  exact this
end K26


set_option Elab.async false
set_option linter.all false
set_option maxRecDepth 100000
set_option maxHeartbeats 4000000
set_option pp.deepTerms true
set_option pp.maxSteps 3000
/-! the readings of law k26: parse_paper -/
namespace K26
open PySem PySem.Spec PyProof.Rows L2 Y YD
local macro_rules | `(tactic| walk_at "y_ne") => `(tactic| first | assumption | exact Ne.symm (by assumption) | ((refine ne_none (M := ?yM) (m := ?ymo) ?ym1 ?ym2); (case ym2 => assumption); (case ym1 => walk_at "y_look")) | ((refine Ne.symm (ne_none (M := ?yM) (m := ?ymo) ?ym1 ?ym2)); (case ym2 => assumption); (case ym1 => walk_at "y_look")) | ((refine ne_none (M := ?yM) (m := ?ymo) ?ym1 (put_none (M := ?yM) (a := ?yma) (m := ?ymo2) ?ym2).2); (case ym2 => assumption); (case ym1 => walk_at "y_look")) | ((refine Ne.symm (ne_none (M := ?yM) (m := ?ymo) ?ym1 (put_none (M := ?yM) (a := ?yma) (m := ?ymo2) ?ym2).2)); (case ym2 => assumption); (case ym1 => walk_at "y_look")))
local macro_rules | `(tactic| walk_at "y_look") => `(tactic| first | assumption | exact put_same | ((with_reducible refine Eq.trans (put_ne ?yn) ?_); (case yn => walk_at "y_ne"); (walk_at "y_look")) | ((with_reducible refine Eq.trans (drop_ne ?yn) ?_); (case yn => walk_at "y_ne"); (walk_at "y_look")))
local macro_rules | `(tactic| walk_at "y_pl") => `(tactic| first | assumption | exact PlL.nil | exact Pl.int _ | exact Pl.non | exact Pl.bl _ | exact Pl.str (by decide +kernel) | ((with_reducible refine PlL.cons ?yp1 ?yp2); (case yp1 => walk_at "y_pl"); (case yp2 => walk_at "y_pl")) | ((with_reducible refine PlL.append ?yp1 ?yp2); (case yp1 => walk_at "y_pl"); (case yp2 => walk_at "y_pl")) | ((with_reducible refine Pl.tup ?yp1); (case yp1 => walk_at "y_pl")) | ((with_reducible refine PlL.mono (j := ?yj) ?yp1 ?yp2); (case yp1 => assumption); (case yp2 => first | decide | omega)) | ((with_reducible refine Pl.mono (j := ?yj) ?yp1 ?yp2); (case yp1 => assumption); (case yp2 => first | decide | omega)))
local macro_rules | `(tactic| walk_at "y_len") => `(tactic| ((try simp only [List.length_append, List.length_cons, List.length_nil, List.length_map, sizeLine_eq] at *); omega))
local macro_rules | `(tactic| walk_at "y_rfl") => `(tactic| first | rfl | (simp only [atI_nn]; rfl))
local macro_rules | `(tactic| walk_at "y_at") => `(tactic| first | exact atI_nn _ 0 | rfl)
local macro_rules | `(tactic| walk_at "y_cond") => `(tactic| first
  | (show (0 : Int) < _; first | decide | assumption | omega)
  | (exact ⟨by first | decide | assumption | omega, by first | decide | assumption | omega⟩)
  | (exact Or.inl ⟨by first | decide | assumption | omega, by first | decide | assumption | omega⟩)
  | (exact Or.inr ⟨by first | decide | assumption | omega, by first | decide | assumption | omega⟩)
  | (exact ⟨by decide, by decide, by decide⟩))
local macro_rules | `(tactic| walk_at "y1") => `(tactic| first
  | (with_reducible first | refine i_seq ?_ | refine i_next ?_ | refine i_asg ?_ | refine i_ret ?_ | refine i_retN ?_ | refine i_drop ?_ | refine i_cont ?_ | refine i_break ?_ | refine i_ifs ?_ | refine i_if ?_ | refine i_and ?_ | refine i_or ?_ | refine i_not ?_ | refine i_test ?_ | refine i_tru ?_ | refine i_andV ?_ | refine i_orV ?_ | refine i_notV ?_ | refine i_bl ?_ | refine i_op ?_ | refine i_chain ?_ | refine i_c ?_ | refine i_cd ?_ | refine i_nil ?_ | refine i_cons ?_ | refine i_call ?_ | refine i_cb ?_ | refine i_tup ?_ | refine i_lst ?_ | refine i_lstM ?_ | refine i_dict ?_ | refine i_frz ?_ | refine i_name ?_ | refine i_gcons ?_ | refine i_gnil ?_ | refine i_gsub ?_ | refine i_par ?_ | refine i_par2 ?_ | refine i_un ?_ | refine i_int ?_ | refine i_slice ?_ | refine i_onone ?_ | refine i_osome ?_ | refine i_bm ?_ | refine i_bm0 ?_ | refine i_get1 ?_ | refine i_get2 ?_ | refine i_del ?_ | refine i_for ?_ | refine i_lc ?_ | refine i_dc ?_ | refine i_yes ?_ | refine i_it ?_ | refine i_rng1 ?_ | refine i_fld ?_ | refine i_sfld ?_ | refine i_meth ?_ | refine i_make ?_ | refine v_I0 ?_ | refine v_plusI ?_ | refine v_eqI ?_ | refine v_eqS ?_ | refine v_isN ?_ | refine v_int ?_ | refine v_abs ?_ | refine v_sliceT ?_ | refine v_sliceL ?_ | refine b_fx ?_ | refine b_tx ?_)
  | ((with_reducible refine i_var (d := ?yd) ?ye0 ?_); (case ye0 => rfl))
  | ((with_reducible refine i_gtup ?ye0 ?_); (case ye0 => rfl))
  | (with_reducible refine iteT ?_)
  | (with_reducible refine iteF ?_)
  | (with_reducible refine b_dec ?_ ?_ <;> intro hc)
  | (with_reducible refine b_ndec ?_ ?_ <;> intro hc)
  | ((with_reducible refine v_subT (d := ?yd) ?ye0 ?_); (case ye0 => rfl))
  | ((with_reducible refine v_subL (d := ?yd) ?ye0 ?_); (case ye0 => rfl))
  | ((with_reducible refine v_subM (ds := ?yds) (d := ?yd) ?ye0 ?ye1 ?_); (case ye0 => (walk_at "y_look")); (case ye1 => rfl))
  | ((with_reducible refine v_setL (ds := ?yds) (j := ?yj) ?ye0 ?ye1 ?_); (case ye0 => (walk_at "y_look")); (case ye1 => rfl))
  | ((with_reducible refine v_I ?ye0 ?_); (case ye0 => (walk_at "y_cond")))
  | ((with_reducible refine i_sz ?ye0 ?_); (case ye0 => (first | exact Nat.le_of_ble_eq_true rfl | (simp only [List.length_append, List.length_cons, List.length_nil, List.length_map, sizeLine_eq] at *; omega))))
  | (with_reducible refine i_new fun yp yhp => ?_)
  | ((with_reducible refine v_app (ds := ?yds) ?ye0 ?ye1 ?_); (case ye0 => (walk_at "y_look")); (case ye1 => (first | (simp only [List.length_append, List.length_cons, List.length_nil, List.length_map, sizeLine_eq] at *; omega))))
  | ((with_reducible refine i_tyL (ds := ?yds) ?ye0 ?_); (case ye0 => (walk_at "y_look")))
  | (with_reducible refine i_tyl ?_)
  | ((with_reducible refine v_subK (kvs := ?ykv) (k := ?yk) (d := ?yd) ?ye0 ?ye1 ?ye2 ?_); (case ye0 => (walk_at "y_look")); (case ye1 => rfl); (case ye2 => first | assumption | rfl))
  | ((with_reducible refine v_plusL (ds := ?yds) (es := ?yes) ?ye0 ?ye1 ?ye2 ?_); (case ye0 => first | rfl | (with_reducible refine lsD_ref (ds := ?yds2) ?yl0; walk_at "y_look")); (case ye1 => first | rfl | (with_reducible refine lsD_ref (ds := ?yds2) ?yl0; walk_at "y_look")); (case ye2 => (simp only [List.length_append, List.length_cons, List.length_nil, List.length_map, sizeLine_eq] at *; omega)))
  | ((with_reducible refine v_plusT ?ye0 ?_); (case ye0 => (simp only [List.length_append, List.length_cons, List.length_nil, List.length_map, sizeLine_eq] at *; omega)))
  | ((with_reducible refine i_rng1d ?ye0 ?_); (case ye0 => (constructor <;> omega)))
  | ((with_reducible refine v_len (n := ?yn) ?ye0 ?_); (case ye0 => first | ((with_reducible refine lenD_ref (ds := ?yds) ?yl0); (case yl0 => walk_at "y_look")) | rfl))
  | ((with_reducible refine v_list (es := ?yes) ?ye0 ?_); (case ye0 => first | (with_reducible refine itD_ref (ds := ?yds) ?yl0; walk_at "y_look") | rfl))
  | ((with_reducible refine v_tuple (es := ?yes) ?ye0 ?_); (case ye0 => first | (with_reducible refine itD_ref (ds := ?yds) ?yl0; walk_at "y_look") | rfl))
  | ((with_reducible refine v_eqP ?ye0 ?ye1 fun yb => ?_); (case ye0 => walk_at "y_pl"); (case ye1 => walk_at "y_pl"))
  | (with_reducible refine b_emp ?_ ?_ <;> intro hc)
  | (with_reducible refine i_trul ?_)
  | (with_reducible refine i_trut ?_)
  | (with_reducible refine i_trub ?_)
  | ((with_reducible refine v_inT ?ye0 ?_); (case ye0 => exact ⟨rfl, rfl⟩))
  | (with_reducible refine b_var ?_ ?_ <;> intro hc)
  | ((with_reducible refine i_its (ds := ?yds) ?ye0 ?_); (case ye0 => rfl)))
local macro_rules | `(tactic| walk_at "y0") => `(tactic| repeat' (walk_at "y1"))
local macro_rules | `(tactic| walk_at "ys") => `(tactic| walk_at "y0")
local macro_rules | `(tactic| walk_at "y_nn") => `(tactic| first | assumption | exact (put_none (by assumption)).2 | exact (put_none (put_none (by assumption)).2).2 | exact (put_none (put_none (put_none (by assumption)).2).2).2)
local macro_rules | `(tactic| walk_at "y_kl1") => `(tactic| first | (with_reducible exact KL.merge) | ((with_reducible refine KL.put (n := ?ykn) ?ykk); (case ykk => walk_at "y_kl1")))
local macro_rules | `(tactic| walk_at "y_kl") => `(tactic| ((refine KL.lt (n := ?yn) ?yk1 ?yk2); (case yk1 => walk_at "y_kl1"); (case yk2 => first | decide | (simp; done))))
local macro_rules | `(tactic| walk_at "y_fr") => `(tactic| first | exact Fr.refl _ _ | assumption | ((refine Fr.put ?yf1 ?yf2); (case yf2 => simp); (case yf1 => walk_at "y_fr")) | ((refine Fr.drop ?yf1 ?yf2); (case yf2 => simp); (case yf1 => walk_at "y_fr")))
local macro_rules | `(tactic| walk_at "y_fin") => `(tactic| first | assumption | rfl | walk_at "y_look" | walk_at "y_pl" | walk_at "y_fr" | omega | walk_at "y_len" | (intros; omega))
local macro_rules | `(tactic| walk_at "y_take") => `(tactic| ((with_reducible refine i_take (t := ?yt) ?yl ?yo ?yb fun yr yt' yr0 yr1 yok => ?_); (case yl => walk_at "y_look"); (case yo => assumption); (case yb => (constructor <;> first | omega | (simp; omega)))))
local macro_rules | `(tactic| walk_at "y_pick") => `(tactic| first | ((with_reducible refine i_pick2 (k := 0) (t := ?yt) ?yl ?yo ?yb ?yP fun yd yt' yP ym yok => ?_); (case yl => walk_at "y_look"); (case yo => assumption); (case yb => (constructor <;> walk_at "y_len")); (case yP => walk_at "y_pl")) | ((with_reducible refine i_pick2 (k := 5) (t := ?yt) ?yl ?yo ?yb ?yP fun yd yt' yP ym yok => ?_); (case yl => walk_at "y_look"); (case yo => assumption); (case yb => (constructor <;> walk_at "y_len")); (case yP => walk_at "y_pl")))
local macro_rules | `(tactic| walk_at "y2") => `(tactic| first | walk_at "y1" | walk_at "y_take" | walk_at "y_pick" | (with_reducible refine i_disp fun yp yhp => ?_) | (with_reducible refine i_pcons ?_) | (with_reducible refine i_pnil ?_) | (with_reducible refine i_mut ?_) | ((with_reducible refine v_inT' ?ye0 ?ye1 fun yb => ?_); (case ye0 => walk_at "y_pl"); (case ye1 => walk_at "y_pl")) | ((with_reducible refine v_setK (kvs := ?ykv) (k := ?yk) ?ye0 ?ye1 ?ye2 ?_); (case ye0 => walk_at "y_look"); (case ye1 => rfl); (case ye2 => walk_at "y_kl")) | ((with_reducible refine i_mutd (ds := ?yds) ?ye0 ?_); (case ye0 => walk_at "y_look")) | ((with_reducible refine i_glst' ?ye0 ?_); (case ye0 => rfl)))
local macro_rules | `(tactic| walk_at "ys") => `(tactic| repeat' (walk_at "y2"))
local macro_rules | `(tactic| walk_at "y1") => `(tactic| (with_reducible first | refine i_callX ?_ | refine i_methX ?_ | refine i_raise ?_ | refine i_tryAs ?_ | refine i_tryOnly ?_ | refine i_xf ?_ | refine i_isE ?_ | refine i_zip ?_ | refine i_enum ?_ | refine i_rev ?_))
local macro_rules | `(tactic| walk_at "y1") => `(tactic| ((with_reducible refine v_subLk (kvs := ?ykv) (k := ?yk) (d := ?yd) (od := ?yod) (xs := ?yxs) ?ye0 ?ye1 ?ye2 ?_); (case ye0 => (walk_at "y_look")); (case ye1 => rfl); (case ye2 => first | assumption | rfl)))
local macro_rules | `(tactic| walk_at "y1") => `(tactic| first
  | (with_reducible first | refine v_isT ?_ | refine v_isF ?_ | refine iteNT ?_ | refine iteNF ?_)
  | ((with_reducible refine v_isNF ?ye0 ?_); (case ye0 => rfl))
  | ((with_reducible refine v_isNT ?ye0 ?_); (case ye0 => rfl)))
/-- one word: the innermost group, and those around it -/
def pstep (w : Str) (top : List D) (rest : List (List D)) : Except Str (List D × List (List D)) :=
  if w = "(" then .ok ([], top :: rest)
  else if w = ")" then (match rest with
    | [] => .error "bracket"
    | r :: rs => .ok (r ++ [.tup top], rs))
  else match vw w with
    | .ok d => .ok (top ++ [d], rest)
    | .error c => .error c
def prun : List Str → Nat → List D → List (List D) → Except (Str × Nat) (List D × List (List D))
  | [], _, top, rest => .ok (top, rest)
  | w :: ws, i, top, rest => match pstep w top rest with
    | .error c => .error (c, i)
    | .ok (t, r) => if r = [] ∧ t.length = 1 ∧ ws ≠ [] then .error ("more", i + 1) else prun ws (i + 1) t r
theorem prun_cons (w : Str) (ws : List Str) (i : Nat) (top : List D) (rest : List (List D)) : prun (w :: ws) i top rest = match pstep w top rest with
    | .error c => .error (c, i)
    | .ok (t, r) => if r = [] ∧ t.length = 1 ∧ ws ≠ [] then .error ("more", i + 1) else prun ws (i + 1) t r := rfl
def pend (n : Nat) : List D → List (List D) → Except (Str × Nat) D
  | d :: _, [] => .ok d
  | _, _ => .error ("bracket", n)
def pfin (ws : List Str) : Except (Str × Nat) D := match prun ws 0 [] [] with
  | .error e => .error e
  | .ok (t, r) => pend ws.length t r
/-- the lists of its own: the innermost first -/
def Own (M : Mm) : List Addr → List (List D) → Prop
  | [], [] => True
  | a :: as, l :: ls => M a = some (.lst l) ∧ a ∉ as ∧ Own M as ls
  | _, _ => False
structure StP (M M' : Mm) (p : Addr) (as : List Addr) (ls : List (List D)) : Prop where
  sub : Sub M M'
  new : ∀ a ∈ as, M a = none
  hp : M p = none
  np : p ∉ as
  lst : M' p = some (.lst (as.reverse.map D.ref))
  own : Own M' as ls
theorem Own.len {M : Mm} : ∀ {as : List Addr} {ls : List (List D)}, Own M as ls → as.length = ls.length
  | [], [], _ => rfl
  | a :: as, l :: ls, h => by simp [Own.len h.2.2]
  | [], _ :: _, h => h.elim
  | _ :: _, [], h => h.elim
theorem Own.mv {M M' : Mm} : ∀ {as : List Addr} {ls : List (List D)}, Own M as ls → (∀ a ∈ as, M' a = M a) → Own M' as ls
  | [], [], _, _ => trivial
  | a :: as, l :: ls, h, e => ⟨by rw [e a List.mem_cons_self]; exact h.1, h.2.1, Own.mv h.2.2 fun a ha => e a (List.mem_cons_of_mem _ ha)⟩
  | [], _ :: _, h, _ => h.elim
  | _ :: _, [], h, _ => h.elim
theorem Own.some {M : Mm} : ∀ {as : List Addr} {ls : List (List D)} {a : Addr}, Own M as ls → a ∈ as → ∃ l, M a = some (.lst l)
  | b :: as, l :: ls, a, h, ha => by
    rcases List.mem_cons.mp ha with rfl | ha
    · exact ⟨l, h.1⟩
    · exact Own.some h.2.2 ha
  | [], _, _, _, ha => nomatch ha
  | _ :: _, [], _, h, _ => h.elim
theorem Sub.put {M M' : Mm} {a : Addr} {m : MO} (h : Sub M M') (ha : M a = none) : Sub M (Y.put M' a m) := fun b n hb => by
  rw [put_ne (fun e => by rw [e, ha] at hb; cases hb)]
  exact h b n hb
/-- the innermost list turned -/
theorem StP.set {M M' : Mm} {p a : Addr} {as : List Addr} {l : List D} {ls : List (List D)} (h : StP M M' p (a :: as) (l :: ls)) (l' : List D) : StP M (put M' a (.lst l')) p (a :: as) (l' :: ls) where
  sub := Sub.put h.sub (h.new a List.mem_cons_self)
  new := h.new
  hp := h.hp
  np := h.np
  lst := by rw [put_ne (fun e => h.np (by rw [e]; exact List.mem_cons_self))]; exact h.lst
  own := ⟨put_same, h.own.2.1, Own.mv h.own.2.2 fun b hb => put_ne fun e => h.own.2.1 (by rw [← e]; exact hb)⟩
/-- a list more -/
theorem StP.push {M M' : Mm} {p a : Addr} {as : List Addr} {ls : List (List D)} (h : StP M M' p as ls) (ha : M' a = none) : StP M (put (put M' a (.lst [])) p (.lst ((a :: as).reverse.map D.ref))) p (a :: as) ([] :: ls) := by
  have ha0 : M a = none := by
    cases e : M a with
    | none => rfl
    | some n => rw [h.sub a n e] at ha; cases ha
  have hap : a ≠ p := fun e => by rw [e, h.lst] at ha; cases ha
  have han : a ∉ as := fun e => by obtain ⟨l, hl⟩ := Own.some h.own e; rw [hl] at ha; cases ha
  refine ⟨Sub.put (Sub.put h.sub ha0) h.hp, ?_, h.hp, ?_, put_same, ?_, han, ?_⟩
  · intro b hb
    rcases List.mem_cons.mp hb with rfl | hb
    · exact ha0
    · exact h.new b hb
  · intro e
    rcases List.mem_cons.mp e with e | e
    · exact hap e.symm
    · exact h.np e
  · rw [put_ne hap, put_same]
  · refine Own.mv h.own fun b hb => ?_
    rw [put_ne (fun e => h.np (by rw [← e]; exact hb)), put_ne (fun e => han (by rw [← e]; exact hb))]
/-- a list less -/
theorem StP.pop {M M' : Mm} {p a : Addr} {as : List Addr} {l : List D} {ls : List (List D)} (h : StP M M' p (a :: as) (l :: ls)) : StP M (put M' p (.lst (as.reverse.map D.ref))) p as ls :=
  ⟨Sub.put h.sub h.hp, fun b hb => h.new b (List.mem_cons_of_mem _ hb), h.hp, fun e => h.np (List.mem_cons_of_mem _ e), put_same, Own.mv h.own.2.2 fun b hb => put_ne fun e => h.np (by rw [← e]; exact List.mem_cons_of_mem _ hb)⟩
theorem atI_last {α : Type} (xs : List α) (x : α) : atI (xs ++ [x]) (-1) = some x := by
  unfold atI ixN
  have e : (if 1 ≤ (xs.length : Int) + 1 then some (-1 + ((xs.length : Int) + 1)).toNat else none) = some xs.length := by
    rw [if_pos (by omega)]
    congr 1
    omega
  simp [e]
theorem enum_get : ∀ (ds : List D) (n i : Nat) (d : D), (enumFrom n ds)[i]? = some d → ∃ e, ds[i]? = some e ∧ d = .tup [.int ((n + i : Nat) : Int), e]
  | [], _, _, _, h => by simp [enumFrom] at h
  | x :: ds, n, 0, d, h => by
    simp [enumFrom] at h
    exact ⟨x, rfl, by rw [← h]; rfl⟩
  | x :: ds, n, i + 1, d, h => by
    simp only [enumFrom, List.getElem?_cons_succ] at h
    obtain ⟨e, h1, h2⟩ := enum_get ds (n + 1) i d h
    exact ⟨e, by simpa using h1, by rw [h2, show n + 1 + i = n + (i + 1) by omega]⟩
theorem lessX_sub {E : DX} {c : Value} {fs : List (Str × D)} {M M' : Mm} (k : E c fs M) (h : Sub M M') : lessX E c fs M' := ⟨M, h, k⟩
theorem less_sub {Q : QD} {d : D} {M M' : Mm} (k : Q d M) (h : Sub M M') : less Q d M' := ⟨M, h, k⟩
def spParse (CT : Addr) : DSp := fun ds M Q E => ∃ text, ds = [.str text] ∧ text.length ≤ 1000000 ∧ (∀ w ∈ Txt.words text, 1 ≤ w.length ∧ w.length ≤ 600) ∧ (Txt.words text).length ≤ 100000 ∧
  (∀ d, pfin (Txt.words text) = .ok d → Q d M) ∧ ∀ c i, pfin (Txt.words text) = .error (c, i) → E (.ref CT) [("at", .int (i : Nat)), ("code", .str c)] M
def ppBody (W : DW) (CT : Addr) (s : DSp) : DS := (dSeq (dIfS (dTest (dOp (eqD false) (dVar 4) (dC (.str "(")))) (dDrop (dBM "list" mAppend (dVar 1) (dCons (dLstM (dNil)) (dNil)))) (dIfS (dTest (dOp (eqD false) (dVar 4) (dC (.str ")")))) (dSeq (dIfS (dTest (dOp (dI0 fun i j => .bl (decide (i < j))) (dCB cLen (dCons (dVar 1) (dNil))) (dC (.int 2)))) (dRaise W CT ["code", "at"] (dCons (dC (.str "bracket")) (dCons (dVar 3) (dNil)))) (dNext)) (dSeq (dAsg (dCB cTuple (dCons (dBM0 "list" mPop (dVar 1)) (dNil))) (dgName 5)) (dDrop (dBM "list" mAppend (dOp subD (dVar 1) (dU (fun i => -i) (dC (.int 1)))) (dCons (dVar 5) (dNil)))))) (dDrop (dBM "list" mAppend (dOp subD (dVar 1) (dU (fun i => -i) (dC (.int 1)))) (dCons (dCallX W s (dCons (dVar 4) (dCons (dVar 3) (dNil)))) (dNil)))))) (dIfS (dAnd (dTest (dOp (eqD false) (dCB cLen (dCons (dVar 1) (dNil))) (dC (.int 1)))) (dAnd (dTest (dOp (eqD false) (dCB cLen (dCons (dOp subD (dVar 1) (dC (.int 0))) (dNil))) (dC (.int 1)))) (dTest (dOp (dI0 fun i j => .bl (decide (i < j))) (dOp plusD (dVar 3) (dC (.int 1))) (dCB cLen (dCons (dVar 2) (dNil))))))) (dRaise W CT ["code", "at"] (dCons (dC (.str "more")) (dCons (dOp plusD (dVar 3) (dC (.int 1))) (dNil)))) (dNext)))
theorem raise2 {CT : Addr} {E : DX} {c : Str} {i : Nat} {M M' : Mm} (k : E (.ref CT) [("at", .int (i : Nat)), ("code", .str c)] M) (hs : Sub M M') (hx : okx (.str c)) (hi : i ≤ 200000) :
    [D.str c, D.int (i : Nat)].length = [Str.ofString "code", Str.ofString "at"].length ∧ (∀ (d : D), d ∈ [D.str c, D.int (i : Nat)] → okxD d) ∧ lessX E (.ref CT) ([Str.ofString "code", Str.ofString "at"].zip [D.str c, D.int (i : Nat)]).reverse M' := by
  refine ⟨rfl, fun d hd => ?_, lessX_sub k hs⟩
  simp only [List.mem_cons, List.not_mem_nil, or_false] at hd
  rcases hd with rfl | rfl
  · exact hx
  · show ((i : Nat) : Int).natAbs < 10 ^ 100
    exact Nat.lt_of_le_of_lt hi (by decide +kernel)
/-- the tail of the body: is there more behind a whole value -/
def ppTail (W : DW) (CT : Addr) : DS := (dIfS (dAnd (dTest (dOp (eqD false) (dCB cLen (dCons (dVar 1) (dNil))) (dC (.int 1)))) (dAnd (dTest (dOp (eqD false) (dCB cLen (dCons (dOp subD (dVar 1) (dC (.int 0))) (dNil))) (dC (.int 1)))) (dTest (dOp (dI0 fun i j => .bl (decide (i < j))) (dOp plusD (dVar 3) (dC (.int 1))) (dCB cLen (dCons (dVar 2) (dNil))))))) (dRaise W CT ["code", "at"] (dCons (dC (.str "more")) (dCons (dOp plusD (dVar 3) (dC (.int 1))) (dNil)))) (dNext))
theorem pp_tail {CT : Addr} {M M' : Mm} {EX : DX} {E : DEnds} {pP a : Addr} {as : List Addr} {top : List D} {rest : List (List D)} {d0 : D} {ws : List D} {i : Nat} {w : D} {x5 : Option D} (st : StP M M' pP (a :: as) (top :: rest)) (hi : i < ws.length) (hl : ws.length ≤ 100000) (ht : top.length ≤ 200000) (hr : rest.length ≤ 200000)
    (k1 : ¬ (rest = [] ∧ top.length = 1 ∧ i + 1 < ws.length) → E.nx [some d0, some (.ref pP), some (.lst ws), some (.int (i : Nat)), some w, x5] M') (k2 : rest = [] ∧ top.length = 1 ∧ i + 1 < ws.length → EX (.ref CT) [("at", .int ((i + 1 : Nat) : Int)), ("code", .str "more")] M) :
    ppTail (fun _ => lessX EX) CT E [some d0, some (.ref pP), some (.lst ws), some (.int (i : Nat)), some w, x5] M' := by
  have hA : (a :: as).length = (top :: rest).length := st.own.len
  have hA : as.length = rest.length := by simpa using hA
  have eA : (a :: as).reverse.map D.ref = as.reverse.map D.ref ++ [D.ref a] := by simp
  have hM := st.lst
  rw [eA] at hM
  have lA : (as.reverse.map D.ref ++ [D.ref a]).length = rest.length + 1 := by simp [hA]
  unfold ppTail
  walk_at "ys"
  · rename_i hc
    rw [lA] at hc
    have e1 : rest = [] := List.length_eq_zero_iff.mp (by omega)
    have e2 : as = [] := List.length_eq_zero_iff.mp (by rw [hA, e1]; rfl)
    subst e1 e2
    have ha := st.own.1
    refine v_subM hM rfl ?_
    walk_at "ys"
    · rename_i h1 h2
      exact raise2 (i := i + 1) (k2 ⟨rfl, by omega, by omega⟩) st.sub (by simp [okx]; decide) (by omega)
    · rename_i h1 h2
      exact k1 fun z => h2 (by have := z.2.2; omega)
    · rename_i h1
      exact k1 fun z => h1 (by have := z.2.1; omega)
  · rename_i hc
    rw [lA] at hc
    exact k1 fun z => hc (by rw [z.1]; rfl)
def spNx (M : Mm) (pP : Addr) (EN : Y.Env → Mm → Prop) (d0 : D) (ws : List D) (i : Nat) (w : D) (t : List D) (r : List (List D)) : Prop := ∀ as a x5 M', StP M M' pP (a :: as) (t :: r) → EN [some d0, some (.ref pP), some (.lst ws), some (.int (i : Nat)), some w, x5] M'
theorem pp_body {CT : Addr} {M M' : Mm} {EX : DX} {E : DEnds} {pP a : Addr} {as : List Addr} {top : List D} {rest : List (List D)} {d0 : D} {ws : List D} {i : Nat} {w : Str} {x5 : Option D} (st : StP M M' pP (a :: as) (top :: rest)) (hi : i < ws.length) (hl : ws.length ≤ 100000) (ht : top.length ≤ i + 1) (hr : rest.length ≤ i) (hrs : ∀ l ∈ rest, l.length ≤ i + 1) (hw : 1 ≤ w.length ∧ w.length ≤ 600)
    (k1 : ∀ t r, pstep w top rest = .ok (t, r) → ¬ (r = [] ∧ t.length = 1 ∧ i + 1 < ws.length) → spNx M pP E.nx d0 ws i (.str w) t r)
    (k2 : ∀ t r, pstep w top rest = .ok (t, r) → r = [] ∧ t.length = 1 ∧ i + 1 < ws.length → EX (.ref CT) [("at", .int ((i + 1 : Nat) : Int)), ("code", .str "more")] M)
    (k3 : ∀ c, pstep w top rest = .error c → EX (.ref CT) [("at", .int (i : Nat)), ("code", .str c)] M) :
    ppBody (fun _ => lessX EX) CT (spVw CT) E [some d0, some (.ref pP), some (.lst ws), some (.int (i : Nat)), some (.str w), x5] M' := by
  have hA : (a :: as).length = (top :: rest).length := st.own.len
  have hA : as.length = rest.length := by simpa using hA
  have eA : (a :: as).reverse.map D.ref = as.reverse.map D.ref ++ [D.ref a] := by simp
  have hM := st.lst
  rw [eA] at hM
  have lA : (as.reverse.map D.ref ++ [D.ref a]).length = rest.length + 1 := by simp [hA]
  have tail : ∀ t r as a x5 M', pstep w top rest = .ok (t, r) → StP M M' pP (a :: as) (t :: r) → t.length ≤ 200000 → r.length ≤ 200000 → ppTail (fun _ => lessX EX) CT E [some d0, some (.ref pP), some (.lst ws), some (.int (i : Nat)), some (.str w), x5] M' := fun t r as a x5 M' e st h1 h2 =>
    pp_tail st hi hl h1 h2 (fun z => k1 t r e z as a x5 M' st) (k2 t r e)
  show dSeq _ (ppTail (fun _ => lessX EX) CT) _ _ _
  walk_at "ys"
  · rename_i hc p hp
    refine tail [] (top :: rest) (a :: as) p x5 _ (by unfold pstep; rw [if_pos hc]) ?_ (by simp) (by simp; omega)
    have := st.push hp
    simpa using this
  · rename_i h1 h2 h3
    rw [lA] at h3
    have e1 : rest = [] := List.length_eq_zero_iff.mp (by omega)
    exact raise2 (k3 _ (by unfold pstep; rw [if_neg h1, if_pos h2, e1])) st.sub (by simp [okx]; decide) (by omega)
  · rename_i h1 h2 h3
    rw [lA] at h3
    refine v_popM hM ?_
    walk_at "ys"
    have hap : a ≠ pP := fun e => st.np (by rw [← e]; exact List.mem_cons_self)
    refine v_tuple (es := top) (itD_ref (by rw [put_ne hap]; exact st.own.1)) ?_
    have sp := st.pop
    cases rest with
    | nil => simp at h3
    | cons r rs =>
      cases as with
      | nil => simp at hA
      | cons b bs =>
        have eB : (b :: bs).reverse.map D.ref = bs.reverse.map D.ref ++ [D.ref b] := by simp
        rw [eB] at sp ⊢
        have hr0 := hrs r List.mem_cons_self
        walk_at "ys"
        refine v_subM put_same (atI_last _ _) ?_
        have hb := sp.own.1
        walk_at "ys"
        exact tail (r ++ [.tup top]) rs bs b _ _ (by unfold pstep; rw [if_neg h1, if_pos h2]) (sp.set _) (by simp; omega) (by simp at hr; omega)
  · rename_i h1 h2
    refine v_subM hM (atI_last _ _) ?_
    have ha := st.own.1
    walk_at "ys"
    refine ⟨w, (i : Nat), rfl, hw.1, hw.2, ?_, fun d e => ?_, fun c e => ?_⟩
    · exact Nat.lt_of_le_of_lt (show ((i : Nat) : Int).natAbs ≤ 100000 by omega) (by decide +kernel)
    · walk_at "ys"
      exact tail (top ++ [d]) rest as a x5 _ (by unfold pstep; rw [if_neg h1, if_neg h2, e]) (st.set _) (by simp; omega) (by omega)
    · exact lessX_sub (k3 c (by unfold pstep; rw [if_neg h1, if_neg h2, e])) st.sub
theorem pstep_len {w : Str} {top t : List D} {rest r : List (List D)} {n : Nat} (h : pstep w top rest = .ok (t, r)) (h1 : top.length ≤ n) (h2 : rest.length ≤ n) (h3 : ∀ l ∈ rest, l.length ≤ n) : t.length ≤ n + 1 ∧ r.length ≤ n + 1 ∧ ∀ l ∈ r, l.length ≤ n + 1 := by
  unfold pstep at h
  split at h
  · cases h
    refine ⟨by simp, by simp; omega, fun l hl => ?_⟩
    rcases List.mem_cons.mp hl with rfl | hl
    · omega
    · have := h3 l hl; omega
  · split at h
    · split at h
      · cases h
      · rename_i r0 rs
        cases h
        have := h3 r0 List.mem_cons_self
        refine ⟨by simp; omega, by simp at h2; omega, fun l hl => ?_⟩
        have := h3 l (List.mem_cons_of_mem _ hl)
        omega
    · split at h
      · cases h
        exact ⟨by simp; omega, by omega, fun l hl => by have := h3 l hl; omega⟩
      · cases h
theorem rd_parse_paper (CT : Addr) (ds : List D) (M : Mm) (Q : QD) (E : DX) (h : spParse CT ds M Q E) : r_parse_paper (fun _ => lessX E) CT (spVw CT) { nx := fun _ M' => less Q .non M', rt := less Q } (startD 6 ds) M := by
  obtain ⟨text, rfl, hz, hw, hl, k1, k2⟩ := h
  show r_parse_paper _ _ _ _ [some (.str text), none, none, none, none, none] M
  obtain ⟨ws, ews⟩ : ∃ ws, ws = Txt.words text := ⟨_, rfl⟩
  rw [← ews] at hw hl k1 k2
  unfold r_parse_paper
  walk_at "ys"
  rename_i a0 ha0 pP hpP
  refine i_words (a := text) (by rw [sizeLine_eq]; omega) fun p hp => ?_
  rw [← ews]
  refine ⟨p, _, rfl, put_same, ?_⟩
  rw [Y.drop_put hp]
  have hpP' := put_none hpP
  have st0 : StP M (put (put M a0 (.lst [])) pP (.lst [.ref a0])) pP [a0] [[]] := by
    refine ⟨Sub.put (Sub.put (Sub.refl M) ha0) hpP'.2, by simp [ha0], hpP'.2, by simpa using hpP'.1, put_same, ?_, by simp, trivial⟩
    walk_at "y_look"
  walk_at "ys"
  refine ⟨_, rfl, ?_⟩
  have hlen : (enumFrom 0 (ws.map D.str)).length = ws.length := by rw [enum_len]; simp
  refine for_wordG (fun i δ' M' => ∃ top rest a as x3 x4 x5, δ' = [some (.str text), some (.ref pP), some (.lst (ws.map D.str)), x3, x4, x5] ∧ StP M M' pP (a :: as) (top :: rest) ∧ top.length ≤ i ∧ rest.length ≤ i ∧ (∀ l ∈ rest, l.length ≤ i) ∧ prun ws 0 [] [] = prun (ws.drop i) i top rest) ?_ ?_ ?_ (fun _ _ _ _ => trivial)
  · exact ⟨[], [], a0, [], none, none, none, rfl, st0, by simp, by simp, by simp, rfl⟩
  · rintro i d δ' M' hi ⟨top, rest, a, as, x3, x4, x5, rfl, st, l1, l2, l3, hrun⟩
    obtain ⟨e, he, rfl⟩ := enum_get _ _ _ _ hi
    rw [List.getElem?_map] at he
    cases hw0 : ws[i]? with
    | none => rw [hw0] at he; cases he
    | some w =>
      rw [hw0] at he
      simp only [Option.map_some, Option.some.injEq] at he
      subst he
      have hiw : i < ws.length := (List.getElem?_eq_some_iff.mp hw0).1
      have hdrop : ws.drop i = w :: ws.drop (i + 1) := by
        rw [List.drop_eq_getElem_cons hiw]
        congr 1
        exact (List.getElem?_eq_some_iff.mp hw0).2
      have hmore : ws.drop (i + 1) ≠ [] ↔ i + 1 < ws.length := by
        rw [ne_eq, List.drop_eq_nil_iff]
        omega
      rw [hdrop] at hrun
      show dgTup 2 _ _ _ _ (fun δ' M' => ppBody (fun _ => lessX E) CT (spVw CT) _ δ' M')
      walk_at "ys"
      rw [Nat.zero_add]
      refine pp_body (CT := CT) (EX := E) (ws := ws.map D.str) (i := i) (w := w) st (by simpa using hiw) (by simpa using hl) (by omega) l2 (fun l hl => by have := l3 l hl; omega) (hw w (List.mem_of_getElem? hw0)) ?_ ?_ ?_
      · intro t r hst hno as a x5 M' st'
        have hz := pstep_len hst l1 l2 l3
        refine ⟨t, r, a, as, _, _, _, rfl, st', hz.1, hz.2.1, hz.2.2, ?_⟩
        rw [hrun]
        rw [prun_cons, hst]
        simp only
        rw [if_neg (fun z => hno ⟨z.1, z.2.1, by simpa using hmore.mp z.2.2⟩)]
      · intro t r hst hz
        refine k2 _ _ ?_
        unfold pfin
        rw [hrun]
        rw [prun_cons, hst]
        simp only
        rw [if_pos ⟨hz.1, hz.2.1, hmore.mpr (by simpa using hz.2.2)⟩]
      · intro c hst
        refine k2 _ _ ?_
        unfold pfin
        rw [hrun]
        rw [prun_cons, hst]
  · rintro δ' M' ⟨top, rest, a, as, x3, x4, x5, rfl, st, l1, l2, l3, hrun⟩
    rw [hlen, List.drop_length] at hrun
    have hpf : pfin ws = pend ws.length top rest := by
      unfold pfin
      rw [hrun]
      rfl
    have hA : as.length = rest.length := by have := st.own.len; simpa using this
    have eA : (a :: as).reverse.map D.ref = as.reverse.map D.ref ++ [D.ref a] := by simp
    have hM := st.lst
    rw [eA] at hM
    have lA : (as.reverse.map D.ref ++ [D.ref a]).length = rest.length + 1 := by simp [hA]
    rw [hlen] at l1 l2
    have hz2 : (ws.map D.str).length ≤ 100000 := by simpa using hl
    walk_at "ys"
    · rename_i hc
      rw [lA] at hc
      rw [List.length_map]
      refine raise2 (i := ws.length) (k2 _ _ ?_) st.sub (by simp [okx]; decide) (by omega)
      rw [hpf]
      cases rest with
      | nil => simp at hc
      | cons r rs => cases top <;> rfl
    · rename_i hc
      rw [lA] at hc
      have e1 : rest = [] := List.length_eq_zero_iff.mp (by omega)
      have e2 : as = [] := List.length_eq_zero_iff.mp (by rw [hA, e1]; rfl)
      subst e1 e2
      have ha := st.own.1
      refine v_subM hM rfl ?_
      refine v_truM ha ?_
      cases top with
      | nil =>
        rw [if_pos (by simp)]
        walk_at "ys"
        rw [List.length_map]
        exact raise2 (i := ws.length) (k2 _ _ (by rw [hpf]; rfl)) st.sub (by simp [okx]; decide) (by omega)
      | cons d r =>
        rw [if_neg (by simp)]
        walk_at "ys"
        refine v_subM ha (atI_nn (d :: r) 0) ?_
        exact less_sub (k1 d (by rw [hpf]; rfl)) st.sub
end K26


set_option Elab.async false
set_option linter.all false
set_option maxRecDepth 100000
set_option maxHeartbeats 4000000
set_option pp.deepTerms true
set_option pp.maxSteps 3000
/-! the readings of law k26: what is drawn, told, refused -/
namespace K26
open PySem PySem.Spec PyProof.Rows L2 Y YD
local macro_rules | `(tactic| walk_at "y_ne") => `(tactic| first | assumption | exact Ne.symm (by assumption) | ((refine ne_none (M := ?yM) (m := ?ymo) ?ym1 ?ym2); (case ym2 => assumption); (case ym1 => walk_at "y_look")) | ((refine Ne.symm (ne_none (M := ?yM) (m := ?ymo) ?ym1 ?ym2)); (case ym2 => assumption); (case ym1 => walk_at "y_look")) | ((refine ne_none (M := ?yM) (m := ?ymo) ?ym1 (put_none (M := ?yM) (a := ?yma) (m := ?ymo2) ?ym2).2); (case ym2 => assumption); (case ym1 => walk_at "y_look")) | ((refine Ne.symm (ne_none (M := ?yM) (m := ?ymo) ?ym1 (put_none (M := ?yM) (a := ?yma) (m := ?ymo2) ?ym2).2)); (case ym2 => assumption); (case ym1 => walk_at "y_look")))
local macro_rules | `(tactic| walk_at "y_look") => `(tactic| first | assumption | exact put_same | ((with_reducible refine Eq.trans (put_ne ?yn) ?_); (case yn => walk_at "y_ne"); (walk_at "y_look")) | ((with_reducible refine Eq.trans (drop_ne ?yn) ?_); (case yn => walk_at "y_ne"); (walk_at "y_look")))
local macro_rules | `(tactic| walk_at "y_pl") => `(tactic| first | assumption | exact PlL.nil | exact Pl.int _ | exact Pl.non | exact Pl.bl _ | exact Pl.str (by decide +kernel) | ((with_reducible refine PlL.cons ?yp1 ?yp2); (case yp1 => walk_at "y_pl"); (case yp2 => walk_at "y_pl")) | ((with_reducible refine PlL.append ?yp1 ?yp2); (case yp1 => walk_at "y_pl"); (case yp2 => walk_at "y_pl")) | ((with_reducible refine Pl.tup ?yp1); (case yp1 => walk_at "y_pl")) | ((with_reducible refine PlL.mono (j := ?yj) ?yp1 ?yp2); (case yp1 => assumption); (case yp2 => first | decide | omega)) | ((with_reducible refine Pl.mono (j := ?yj) ?yp1 ?yp2); (case yp1 => assumption); (case yp2 => first | decide | omega)))
local macro_rules | `(tactic| walk_at "y_len") => `(tactic| ((try simp only [List.length_append, List.length_cons, List.length_nil, List.length_map, sizeLine_eq] at *); omega))
local macro_rules | `(tactic| walk_at "y_rfl") => `(tactic| first | rfl | (simp only [atI_nn]; rfl))
local macro_rules | `(tactic| walk_at "y_at") => `(tactic| first | exact atI_nn _ 0 | rfl)
local macro_rules | `(tactic| walk_at "y_cond") => `(tactic| first
  | (show (0 : Int) < _; first | decide | assumption | omega)
  | (exact ⟨by first | decide | assumption | omega, by first | decide | assumption | omega⟩)
  | (exact Or.inl ⟨by first | decide | assumption | omega, by first | decide | assumption | omega⟩)
  | (exact Or.inr ⟨by first | decide | assumption | omega, by first | decide | assumption | omega⟩)
  | (exact ⟨by decide, by decide, by decide⟩))
local macro_rules | `(tactic| walk_at "y1") => `(tactic| first
  | (with_reducible first | refine i_seq ?_ | refine i_next ?_ | refine i_asg ?_ | refine i_ret ?_ | refine i_retN ?_ | refine i_drop ?_ | refine i_cont ?_ | refine i_break ?_ | refine i_ifs ?_ | refine i_if ?_ | refine i_and ?_ | refine i_or ?_ | refine i_not ?_ | refine i_test ?_ | refine i_tru ?_ | refine i_andV ?_ | refine i_orV ?_ | refine i_notV ?_ | refine i_bl ?_ | refine i_op ?_ | refine i_chain ?_ | refine i_c ?_ | refine i_cd ?_ | refine i_nil ?_ | refine i_cons ?_ | refine i_call ?_ | refine i_cb ?_ | refine i_tup ?_ | refine i_lst ?_ | refine i_lstM ?_ | refine i_dict ?_ | refine i_frz ?_ | refine i_name ?_ | refine i_gcons ?_ | refine i_gnil ?_ | refine i_gsub ?_ | refine i_par ?_ | refine i_par2 ?_ | refine i_un ?_ | refine i_int ?_ | refine i_slice ?_ | refine i_onone ?_ | refine i_osome ?_ | refine i_bm ?_ | refine i_bm0 ?_ | refine i_get1 ?_ | refine i_get2 ?_ | refine i_del ?_ | refine i_for ?_ | refine i_lc ?_ | refine i_dc ?_ | refine i_yes ?_ | refine i_it ?_ | refine i_rng1 ?_ | refine i_fld ?_ | refine i_sfld ?_ | refine i_meth ?_ | refine i_make ?_ | refine v_I0 ?_ | refine v_plusI ?_ | refine v_eqI ?_ | refine v_eqS ?_ | refine v_isN ?_ | refine v_int ?_ | refine v_abs ?_ | refine v_sliceT ?_ | refine v_sliceL ?_ | refine b_fx ?_ | refine b_tx ?_)
  | ((with_reducible refine i_var (d := ?yd) ?ye0 ?_); (case ye0 => rfl))
  | ((with_reducible refine i_gtup ?ye0 ?_); (case ye0 => rfl))
  | (with_reducible refine iteT ?_)
  | (with_reducible refine iteF ?_)
  | (with_reducible refine b_dec ?_ ?_ <;> intro hc)
  | (with_reducible refine b_ndec ?_ ?_ <;> intro hc)
  | ((with_reducible refine v_subT (d := ?yd) ?ye0 ?_); (case ye0 => rfl))
  | ((with_reducible refine v_subL (d := ?yd) ?ye0 ?_); (case ye0 => rfl))
  | ((with_reducible refine v_subM (ds := ?yds) (d := ?yd) ?ye0 ?ye1 ?_); (case ye0 => (walk_at "y_look")); (case ye1 => rfl))
  | ((with_reducible refine v_setL (ds := ?yds) (j := ?yj) ?ye0 ?ye1 ?_); (case ye0 => (walk_at "y_look")); (case ye1 => rfl))
  | ((with_reducible refine v_I ?ye0 ?_); (case ye0 => (walk_at "y_cond")))
  | ((with_reducible refine i_sz ?ye0 ?_); (case ye0 => (first | exact Nat.le_of_ble_eq_true rfl | (simp only [List.length_append, List.length_cons, List.length_nil, List.length_map, sizeLine_eq] at *; omega))))
  | (with_reducible refine i_new fun yp yhp => ?_)
  | ((with_reducible refine v_app (ds := ?yds) ?ye0 ?ye1 ?_); (case ye0 => (walk_at "y_look")); (case ye1 => (first | (simp only [List.length_append, List.length_cons, List.length_nil, List.length_map, sizeLine_eq] at *; omega))))
  | ((with_reducible refine i_tyL (ds := ?yds) ?ye0 ?_); (case ye0 => (walk_at "y_look")))
  | (with_reducible refine i_tyl ?_)
  | ((with_reducible refine v_subK (kvs := ?ykv) (k := ?yk) (d := ?yd) ?ye0 ?ye1 ?ye2 ?_); (case ye0 => (walk_at "y_look")); (case ye1 => rfl); (case ye2 => first | assumption | rfl))
  | ((with_reducible refine v_plusL (ds := ?yds) (es := ?yes) ?ye0 ?ye1 ?ye2 ?_); (case ye0 => first | rfl | (with_reducible refine lsD_ref (ds := ?yds2) ?yl0; walk_at "y_look")); (case ye1 => first | rfl | (with_reducible refine lsD_ref (ds := ?yds2) ?yl0; walk_at "y_look")); (case ye2 => (simp only [List.length_append, List.length_cons, List.length_nil, List.length_map, sizeLine_eq] at *; omega)))
  | ((with_reducible refine v_plusT ?ye0 ?_); (case ye0 => (simp only [List.length_append, List.length_cons, List.length_nil, List.length_map, sizeLine_eq] at *; omega)))
  | ((with_reducible refine i_rng1d ?ye0 ?_); (case ye0 => (constructor <;> omega)))
  | ((with_reducible refine v_len (n := ?yn) ?ye0 ?_); (case ye0 => first | ((with_reducible refine lenD_ref (ds := ?yds) ?yl0); (case yl0 => walk_at "y_look")) | rfl))
  | ((with_reducible refine v_list (es := ?yes) ?ye0 ?_); (case ye0 => first | (with_reducible refine itD_ref (ds := ?yds) ?yl0; walk_at "y_look") | rfl))
  | ((with_reducible refine v_tuple (es := ?yes) ?ye0 ?_); (case ye0 => first | (with_reducible refine itD_ref (ds := ?yds) ?yl0; walk_at "y_look") | rfl))
  | ((with_reducible refine v_eqP ?ye0 ?ye1 fun yb => ?_); (case ye0 => walk_at "y_pl"); (case ye1 => walk_at "y_pl"))
  | (with_reducible refine b_emp ?_ ?_ <;> intro hc)
  | (with_reducible refine i_trul ?_)
  | (with_reducible refine i_trut ?_)
  | (with_reducible refine i_trub ?_)
  | ((with_reducible refine v_inT ?ye0 ?_); (case ye0 => exact ⟨rfl, rfl⟩))
  | (with_reducible refine b_var ?_ ?_ <;> intro hc)
  | ((with_reducible refine i_its (ds := ?yds) ?ye0 ?_); (case ye0 => rfl)))
local macro_rules | `(tactic| walk_at "y0") => `(tactic| repeat' (walk_at "y1"))
local macro_rules | `(tactic| walk_at "ys") => `(tactic| walk_at "y0")
local macro_rules | `(tactic| walk_at "y_nn") => `(tactic| first | assumption | exact (put_none (by assumption)).2 | exact (put_none (put_none (by assumption)).2).2 | exact (put_none (put_none (put_none (by assumption)).2).2).2)
local macro_rules | `(tactic| walk_at "y_kl1") => `(tactic| first | (with_reducible exact KL.merge) | ((with_reducible refine KL.put (n := ?ykn) ?ykk); (case ykk => walk_at "y_kl1")))
local macro_rules | `(tactic| walk_at "y_kl") => `(tactic| ((refine KL.lt (n := ?yn) ?yk1 ?yk2); (case yk1 => walk_at "y_kl1"); (case yk2 => first | decide | (simp; done))))
local macro_rules | `(tactic| walk_at "y_fr") => `(tactic| first | exact Fr.refl _ _ | assumption | ((refine Fr.put ?yf1 ?yf2); (case yf2 => simp); (case yf1 => walk_at "y_fr")) | ((refine Fr.drop ?yf1 ?yf2); (case yf2 => simp); (case yf1 => walk_at "y_fr")))
local macro_rules | `(tactic| walk_at "y_fin") => `(tactic| first | assumption | rfl | walk_at "y_look" | walk_at "y_pl" | walk_at "y_fr" | omega | walk_at "y_len" | (intros; omega))
local macro_rules | `(tactic| walk_at "y_take") => `(tactic| ((with_reducible refine i_take (t := ?yt) ?yl ?yo ?yb fun yr yt' yr0 yr1 yok => ?_); (case yl => walk_at "y_look"); (case yo => assumption); (case yb => (constructor <;> first | omega | (simp; omega)))))
local macro_rules | `(tactic| walk_at "y_pick") => `(tactic| first | ((with_reducible refine i_pick2 (k := 0) (t := ?yt) ?yl ?yo ?yb ?yP fun yd yt' yP ym yok => ?_); (case yl => walk_at "y_look"); (case yo => assumption); (case yb => (constructor <;> walk_at "y_len")); (case yP => walk_at "y_pl")) | ((with_reducible refine i_pick2 (k := 5) (t := ?yt) ?yl ?yo ?yb ?yP fun yd yt' yP ym yok => ?_); (case yl => walk_at "y_look"); (case yo => assumption); (case yb => (constructor <;> walk_at "y_len")); (case yP => walk_at "y_pl")))
local macro_rules | `(tactic| walk_at "y2") => `(tactic| first | walk_at "y1" | walk_at "y_take" | walk_at "y_pick" | (with_reducible refine i_disp fun yp yhp => ?_) | (with_reducible refine i_pcons ?_) | (with_reducible refine i_pnil ?_) | (with_reducible refine i_mut ?_) | ((with_reducible refine v_inT' ?ye0 ?ye1 fun yb => ?_); (case ye0 => walk_at "y_pl"); (case ye1 => walk_at "y_pl")) | ((with_reducible refine v_setK (kvs := ?ykv) (k := ?yk) ?ye0 ?ye1 ?ye2 ?_); (case ye0 => walk_at "y_look"); (case ye1 => rfl); (case ye2 => walk_at "y_kl")) | ((with_reducible refine i_mutd (ds := ?yds) ?ye0 ?_); (case ye0 => walk_at "y_look")) | ((with_reducible refine i_glst' ?ye0 ?_); (case ye0 => rfl)))
local macro_rules | `(tactic| walk_at "ys") => `(tactic| repeat' (walk_at "y2"))
local macro_rules | `(tactic| walk_at "y1") => `(tactic| (with_reducible first | refine i_callX ?_ | refine i_methX ?_ | refine i_raise ?_ | refine i_tryAs ?_ | refine i_tryOnly ?_ | refine i_xf ?_ | refine i_isE ?_ | refine i_zip ?_ | refine i_enum ?_ | refine i_rev ?_))
local macro_rules | `(tactic| walk_at "y1") => `(tactic| ((with_reducible refine v_subLk (kvs := ?ykv) (k := ?yk) (d := ?yd) (od := ?yod) (xs := ?yxs) ?ye0 ?ye1 ?ye2 ?_); (case ye0 => (walk_at "y_look")); (case ye1 => rfl); (case ye2 => first | assumption | rfl)))
local macro_rules | `(tactic| walk_at "y1") => `(tactic| first
  | (with_reducible first | refine v_isT ?_ | refine v_isF ?_ | refine iteNT ?_ | refine iteNF ?_)
  | ((with_reducible refine v_isNF ?ye0 ?_); (case ye0 => rfl))
  | ((with_reducible refine v_isNT ?ye0 ?_); (case ye0 => rfl)))
/-- a word that stands for itself -/
def gw (s : Str) : Bool := isWd s && !decide (s.cps.toList = [45]) && !(decide (fig s.cps.toList ≠ []) && (fig s.cps.toList).all isDig)
def leafG : D → Bool
  | .v .non => true
  | .v (.int i) => numOk i
  | .v (.str s) => gw s
  | _ => false
local macro_rules | `(tactic| walk_at "y1") => `(tactic| ((with_reducible refine v_mulS (n := ?yn) ?ye0 ?_); (case ye0 => decide +kernel)))
def spLeaf : DSp := fun ds M Q _ => ∃ a t, ds = [.ref a] ∧ M a = some (tkM t) ∧ t.ok ∧ ∀ d t', leafG d = true → t'.ok → Q d (put M a (tkM t'))
theorem rd_leaf (ds : List D) (M : Mm) (Q : QD) (E : DX) (h : spLeaf ds M Q E) : r__law_leaf spTake spPick { nx := fun _ M' => less Q .non M', rt := less Q } (startD 2 ds) M := by
  obtain ⟨a, t, rfl, hM, ok, k⟩ := h
  show r__law_leaf _ _ _ [some (.ref a), none] M
  unfold r__law_leaf
  walk_at "ys"
  · rw [show (10 : Int) ^ Int.toNat 9 = 1000000000 from by decide]
    walk_at "ys"
    rename_i hc r2 t2 r20 r21 ok2 d t' hP hd ok'
    refine less_of (k d t' ?_ ok') (by simp only [put_put])
    simp only [List.mem_cons, List.not_mem_nil, or_false] at hd
    rcases hd with rfl | rfl | rfl | rfl | rfl | rfl
    · decide +kernel
    · decide +kernel
    · decide +kernel
    · decide +kernel
    · decide +kernel
    · exact decide_eq_true (show -(10 ^ 30) < r2 ∧ r2 < 10 ^ 30 by omega)
  · walk_at "ys"
    exact less_of (k _ _ rfl (by assumption)) rfl
  · refine v_mulS (n := 40) (by decide +kernel) ?_
    walk_at "ys"
    rename_i d t' hP hd ok'
    refine less_of (k d t' ?_ ok') (by simp only [put_put])
    simp only [List.mem_cons, List.not_mem_nil, or_false] at hd
    rcases hd with rfl | rfl | rfl | rfl | rfl | rfl | rfl | rfl | rfl | rfl | rfl <;> decide +kernel
mutual
def good : D → Bool
  | .v x => leafG (.v x)
  | .lst _ => false
  | .tup ds => goodL ds
def goodL : List D → Bool
  | [] => true
  | d :: ds => good d && goodL ds
end
def isTup : D → Bool
  | .tup _ => true
  | _ => false
/-- how many words at most -/
def most : Nat → Nat
  | 0 => 0
  | 1 => 1
  | n + 1 => 2 + 3 * most n
/-- a drawn value and its words -/
structure Vl (n : Nat) (d : D) (ws : List Str) : Prop where
  g : good d = true
  w : wd d = some ws
  c : cnt d ≤ most n
  p : dep d ≤ n
def spValue (n : Nat) : DSp := fun ds M Q _ => ∃ a t dp, ds = [.ref a, .int dp] ∧ M a = some (tkM t) ∧ t.ok ∧ 0 ≤ dp ∧ dp ≤ 6 ∧ 7 ≤ dp + n ∧ n ≤ 7 ∧ ∀ d ws t', Vl n d ws → (dp = 0 → isTup d = true) → t'.ok → Q (.tup [d, .lst (ws.map D.str)]) (put M a (tkM t'))
theorem most_pos (n : Nat) (h : 1 ≤ n) : 1 ≤ most n := by
  match n, h with
  | 1, _ => exact Nat.le_refl _
  | n + 2, _ => simp only [most]; omega
theorem most_up (n : Nat) (h : 2 ≤ n) : most n = 2 + 3 * most (n - 1) := by
  match n, h with
  | n + 2, _ => rfl
theorem most_7 : ∀ n, n ≤ 7 → most n ≤ 1457 := by decide +kernel
theorem leaf_wf {d : D} (h : leafG d = true) : ∃ x w, d = .v x ∧ wf d = some w := by
  match d, h with
  | .v .non, _ => exact ⟨_, _, rfl, rfl⟩
  | .v (.int i), h =>
    have h : numOk i = true := h
    exact ⟨_, _, rfl, by rw [show D.v (.int i) = D.int i from rfl, wf_int, if_pos h]⟩
  | .v (.str s), h =>
    have h : gw s = true := h
    unfold gw at h
    simp only [Bool.and_eq_true] at h
    exact ⟨_, _, rfl, by rw [show D.v (.str s) = D.str s from rfl, wf_str, if_pos h.1.1]⟩
def lvLeaf (s_leaf : DSp) : DS := (dSeq (dAsg (dCall s_leaf (dCons (dVar 0) (dNil))) (dgName 2)) (dRet (dTup (dCons (dVar 2) (dCons (dLst (dCons (dIf (dTest (dOp (isN false) (dVar 2) (dC .non))) (dC (.str "-")) (dCB cStrA (dCons (dVar 2) (dNil)))) (dNil))) (dNil))))))
def lvLoop (s__law_take s__law_value : DSp) : DS := (dSeq (dAsg (dLstM (dNil)) (dgName 3)) (dSeq (dAsg (dLst (dCons (dC (.str "(")) (dNil))) (dgName 4)) (dSeq (dFor (diRng1 (dCons (dCall s__law_take (dCons (dVar 0) (dCons (dC (.int 4)) (dNil)))) (dNil))) (dgName 5) (dSeq (dAsg (dCall s__law_value (dCons (dVar 0) (dCons (dOp plusD (dVar 1) (dC (.int 1))) (dNil)))) (dgTup 2 (dgCons (dgName 6) (dgCons (dgName 7) (dgNil))))) (dSeq (dDrop (dBM "list" mAppend (dVar 3) (dCons (dVar 6) (dNil)))) (dAsg (dOp plusD (dVar 4) (dVar 7)) (dgName 4))))) (dRet (dTup (dCons (dCB cTuple (dCons (dVar 3) (dNil))) (dCons (dOp plusD (dVar 4) (dLst (dCons (dC (.str ")")) (dNil)))) (dNil))))))))
theorem rd_lvLeaf {N : Nat} {a : Addr} {t0 : Tk} {dp : Int} {M M0 : Mm} {Q : QD} {E : DEnds} (eM : M0 = put M a (tkM t0)) (ok : t0.ok) (hd : dp ≠ 0) (hN : 1 ≤ N) (er : E.rt = less Q)
    (k : ∀ d ws t', Vl N d ws → (dp = 0 → isTup d = true) → t'.ok → Q (.tup [d, .lst (ws.map D.str)]) (put M a (tkM t'))) : lvLeaf spLeaf E [some (.ref a), some (.int dp), none, none, none, none, none, none] M0 := by
  subst eM
  unfold lvLeaf
  walk_at "ys"
  refine ⟨a, t0, rfl, put_same, ok, fun d t' hl ok' => ?_⟩
  rw [put_put]
  obtain ⟨x, w, rfl, hw⟩ := leaf_wf hl
  have fin : less Q (.tup [.v x, .lst [.str w]]) (put M a (tkM t')) := less_of (k (.v x) [w] t' ⟨hl, by unfold wd; rw [hw]; rfl, most_pos N hN, Nat.zero_le _⟩ (fun z => absurd z hd) ok') rfl
  rw [← er] at fin
  match x, hl, hw, fin with
  | .non, _, hw, fin =>
    cases hw
    walk_at "ys"
    exact fin
  | .int i, hl, hw, fin =>
    have hw : wf (.int i) = some w := hw
    have hl : numOk i = true := hl
    rw [wf_int, if_pos hl] at hw
    cases hw
    walk_at "ys"
    refine v_strI (num_log hl) ?_
    walk_at "ys"
    exact fin
  | .str s, hl, hw, fin =>
    have hw : wf (.str s) = some w := hw
    rw [wf_str] at hw
    split at hw
    · cases hw
      walk_at "ys"
      refine v_strS ?_
      walk_at "ys"
      exact fin
    · cases hw
theorem wdL_snoc (ds : List D) (d : D) : wdL (ds ++ [d]) = cat2 (wdL ds) (wd d) := by
  induction ds with
  | nil =>
    simp only [List.nil_append, wdL, cat2_nil]
    cases wd d <;> simp [cat2]
  | cons e ds ih => simp only [List.cons_append, wdL, ih, cat2_assoc]
theorem goodL_snoc (ds : List D) (d : D) : goodL (ds ++ [d]) = (goodL ds && good d) := by
  induction ds with
  | nil => simp [goodL]
  | cons e ds ih => simp [goodL, ih, Bool.and_assoc]
theorem cntL_snoc (ds : List D) (d : D) : cntL (ds ++ [d]) = cntL ds + cnt d := by
  induction ds with
  | nil => simp [cntL]
  | cons e ds ih => simp [cntL, ih]; omega
theorem depL_snoc (ds : List D) (d : D) : depL (ds ++ [d]) = max (depL ds) (dep d) := by
  induction ds with
  | nil => simp [depL]
  | cons e ds ih =>
    simp [depL, ih]
    try omega
theorem rd_lvLoop {N : Nat} {a : Addr} {t0 : Tk} {dp : Int} {M M0 : Mm} {Q : QD} {E : DEnds} (sB : DSp) (hB : ∀ ds M Q E, N ≠ 0 → spValue (N - 1) ds M Q E → sB ds M Q E) (eM : M0 = put M a (tkM t0)) (ok : t0.ok) (hd : 0 ≤ dp ∧ dp ≤ 5 ∧ 7 ≤ dp + N ∧ N ≤ 7) (er : E.rt = less Q)
    (k : ∀ d ws t', Vl N d ws → (dp = 0 → isTup d = true) → t'.ok → Q (.tup [d, .lst (ws.map D.str)]) (put M a (tkM t'))) : lvLoop spTake sB E [some (.ref a), some (.int dp), none, none, none, none, none, none] M0 := by
  subst eM
  unfold lvLoop
  walk_at "ys"
  rename_i p hp r t1 r0 r1 ok1
  have hap : p ≠ a := (put_none hp).1
  have hrl : (rngD 0 r.toNat).length ≤ 3 := by simp [rngD]; omega
  refine for_wordG (fun i δ' M' => ∃ ds ws t' c5 c6 c7, δ' = [some (.ref a), some (.int dp), none, some (.ref p), some (.lst ((("(" : Str) :: ws).map D.str)), c5, c6, c7] ∧ M' = put (put M a (tkM t')) p (.lst ds) ∧ t'.ok ∧ goodL ds = true ∧ wdL ds = some ws ∧ ds.length = i ∧ cntL ds ≤ i * most (N - 1) ∧ depL ds ≤ N - 1) ?_ ?_ ?_ (fun _ _ _ _ => trivial)
  · refine ⟨[], [], t1, none, none, none, rfl, ?_, ok1, rfl, rfl, rfl, Nat.zero_le _, Nat.zero_le _⟩
    rw [Y.put_comm hap, put_put]
  · rintro i d δ' M' hi ⟨ds, ws, t', c5, c6, c7, rfl, rfl, ok', hg, hw, hl, hc, hp'⟩
    have hi3 : i < 3 := Nat.lt_of_lt_of_le (List.getElem?_eq_some_iff.mp hi).1 hrl
    walk_at "ys"
    refine hB _ _ _ _ (by omega) ⟨a, t', dp + 1, rfl, by rw [put_ne hap.symm]; exact put_same, ok', by omega, by omega, by omega, by omega, fun e ew t'' he _ ok'' => ?_⟩
    rw [Y.put_comm hap, put_put]
    have m7 := most_7 (N - 1) (by omega)
    have hcl : cntL ds ≤ 3 * 1457 := Nat.le_trans hc (Nat.mul_le_mul (by omega) m7)
    have l1 := (wdL_ok ds ws hw).2
    have l2 := (wd_ok e ew he.w).2
    have l3 := he.c
    have hl1 : ws.length ≤ 10000 := by omega
    have hl2 : ew.length ≤ 10000 := by omega
    have hl3 : ds.length ≤ 10000 := by omega
    walk_at "ys"
    refine ⟨ds ++ [e], ws ++ ew, t'', some d, some e, some (.lst (ew.map D.str)), ?_, by rw [put_put], ok'', by rw [goodL_snoc, hg, he.g]; rfl, by rw [wdL_snoc, hw, he.w]; rfl, by simp [hl], ?_, ?_⟩
    · simp
    · rw [cntL_snoc, Nat.add_mul, Nat.one_mul]
      have := he.c
      omega
    · rw [depL_snoc]
      have := he.p
      omega
  · rintro δ' M' ⟨ds, ws, t', c5, c6, c7, rfl, rfl, ok', hg, hw, hl, hc, hp'⟩
    have m7 := most_7 (N - 1) (by omega)
    have hl3 : ds.length ≤ 3 := by omega
    have hcl : cntL ds ≤ 3 * most (N - 1) := Nat.le_trans hc (Nat.mul_le_mul (by omega) (Nat.le_refl _))
    have l1 := (wdL_ok ds ws hw).2
    have hl1 : ws.length ≤ 10000 := by omega
    walk_at "ys"
    rw [er]
    have e1 : (("(" : Str) :: ws).map D.str ++ [D.str ")"] = ([("(" : Str)] ++ (ws ++ [(")" : Str)])).map D.str := by simp
    have hV : Vl N (.tup ds) ([("(" : Str)] ++ (ws ++ [(")" : Str)])) := by
      refine ⟨hg, ?_, ?_, ?_⟩
      · unfold wd
        rw [hw]
        rfl
      · rw [most_up N (by omega)]
        simp only [cnt]
        omega
      · simp only [dep]
        omega
    rw [e1]
    exact less_fr (M := M) (L := [p]) (k (.tup ds) _ t' hV (fun _ => rfl) ok') (by walk_at "y_look") (by walk_at "y_fr") (by simpa using (put_none hp).2)
theorem rd_value (N : Nat) (sB : DSp) (hB : ∀ ds M Q E, N ≠ 0 → spValue (N - 1) ds M Q E → sB ds M Q E) (ds : List D) (M : Mm) (Q : QD) (E : DX) (h : spValue N ds M Q E) : r__law_value spTake spLeaf sB { nx := fun _ M' => less Q .non M', rt := less Q } (startD 8 ds) M := by
  obtain ⟨a, t, dp, rfl, hM, ok, h0, h6, h7, h8, k⟩ := h
  show r__law_value _ _ _ _ [some (.ref a), some (.int dp), none, none, none, none, none, none] M
  have hN : 1 ≤ N := by omega
  show dSeq (dIfS (dOr (dTest (dOp (dI0 fun i j => .bl (decide (j < i))) (dVar 1) (dC (.int 5)))) (dAnd (dTest (dOp (dI0 fun i j => .bl (decide (j < i))) (dVar 1) (dC (.int 0)))) (dTest (dOp (eqD false) (dCall spTake (dCons (dVar 0) (dCons (dC (.int 3)) (dNil)))) (dC (.int 0)))))) (lvLeaf spLeaf) dNext) (lvLoop spTake sB) _ _ _
  have eM : M = put M a (tkM t) := (put_id hM).symm
  walk_at "ys"
  · exact rd_lvLeaf eM ok (by omega) hN rfl k
  · exact rd_lvLeaf rfl (by assumption) (by omega) hN rfl k
  · exact rd_lvLoop sB hB rfl (by assumption) (by omega) rfl k
  · exact rd_lvLoop sB hB eM ok (by omega) rfl k
/-! what the law asks of the exceptions' classes -/
structure XT (K : PySem.W.Frag) (CH CI CT : Addr) : Prop where
  exI : PySem.W.exmOne K (.ref CI) (.ref CH) = some true
  exT : PySem.W.exmOne K (.ref CT) (.ref CH) = some true
  isI : PySem.W.kitOne K (.ref CI) (.ref CI) = some true
  isT : PySem.W.kitOne K (.ref CT) (.ref CT) = some true
  ecI : ExcC K CI
  ecT : ExcC K CT
  xfI : XfC K CI
  xfT : XfC K CT
  nfI : PySem.W.findIn K (.ref CI) "code" = some none
  nfT : PySem.W.findIn K (.ref CT) "code" = some none
  nfA : PySem.W.findIn K (.ref CT) "at" = some none
def okText (text : Str) : Prop := text.length ≤ 1000000 ∧ (∀ w ∈ Txt.words text, 1 ≤ w.length ∧ w.length ≤ 600) ∧ (Txt.words text).length ≤ 100000
def spTold : DSp := fun ds M Q _ => ∃ text, ds = [.str text] ∧ okText text ∧ (∀ d, pfin (Txt.words text) = .ok d → Q .non M) ∧ ∀ c i, pfin (Txt.words text) = .error (c, i) → Q (.tup [.str c, .int (i : Nat)]) M
theorem rd_told {K : PySem.W.Frag} {CH CI CT : Addr} (T : XT K CH CI CT) (ds : List D) (M : Mm) (Q : QD) (E : DX) (h : spTold ds M Q E) : r__law_told K CH (spParse CT) CT { nx := fun _ M' => less Q .non M', rt := less Q } (startD 2 ds) M := by
  obtain ⟨text, rfl, ⟨h1, h2, h3⟩, k1, k2⟩ := h
  show r__law_told _ _ _ _ _ [some (.str text), none] M
  unfold r__law_told
  walk_at "ys"
  refine ⟨text, rfl, h1, h2, h3, fun d e => ?_, fun c i e => ?_⟩
  · walk_at "ys"
    exact less_of (k1 d e) rfl
  · refine ⟨true, T.exT, fun _ a ha => ?_, fun z => by cases z⟩
    walk_at "ys"
    refine ⟨rfl, CT, true, rfl, T.ecT, T.isT, ?_⟩
    walk_at "ys"
    refine ⟨rfl, CT, .str c, rfl, T.xfT, T.nfT, rfl, ?_⟩
    walk_at "ys"
    refine ⟨rfl, CT, .int (i : Nat), rfl, T.xfT, T.nfA, rfl, ?_⟩
    walk_at "ys"
    exact less_of (k2 c i e) rfl
def spRefused : DSp := fun ds M Q _ => ∃ d, ds = [d] ∧ okV M d ∧ cnt d ≤ 50000 ∧ Q (.bl (wd d).isNone) M
theorem rd_refused {K : PySem.W.Frag} {CH CI CT : Addr} (T : XT K CH CI CT) (ds : List D) (M : Mm) (Q : QD) (E : DX) (h : spRefused ds M Q E) : r__law_refused K CH (spFmt CI) CI { nx := fun _ M' => less Q .non M', rt := less Q } (startD 2 ds) M := by
  obtain ⟨d, rfl, h1, h2, k⟩ := h
  show r__law_refused _ _ _ _ _ [some d, none] M
  unfold r__law_refused
  walk_at "ys"
  refine ⟨d, rfl, h1, h2, fun ws e => ?_, fun e => ?_⟩
  · rw [e] at k
    walk_at "ys"
    exact less_of k rfl
  · rw [e] at k
    refine ⟨true, T.exI, fun _ a ha => ?_, fun z => by cases z⟩
    walk_at "ys"
    refine ⟨rfl, CI, true, rfl, T.ecI, T.isI, ?_⟩
    walk_at "ys"
    refine ⟨rfl, CI, .str "value", rfl, T.xfI, T.nfI, rfl, ?_⟩
    walk_at "ys"
    exact less_of k rfl
end K26


set_option Elab.async false
set_option linter.all false
set_option maxRecDepth 100000
set_option maxHeartbeats 4000000
/-! law k26: the texts and the runs over words, in plain -/
namespace K26
open PySem PySem.Spec PyProof.Rows L2 Y YD TL PySem.NumText
/-! words that read as themselves -/
def wordy (w : Str) : Bool := !(decide (w.cps.toList = [])) && w.cps.toList.all fun c => decide (33 ≤ c ∧ c < 127)
theorem no_space : ∀ c, c < 127 → 33 ≤ c → Unicode.isSpace c = false := by decide +kernel
theorem wordy_tl {w : Str} (h : wordy w = true) : tl w ≠ [] ∧ ∀ c ∈ tl w, Unicode.isSpace c = false := by
  unfold wordy at h
  simp only [Bool.and_eq_true, Bool.not_eq_true', decide_eq_false_iff_not, List.all_eq_true, decide_eq_true_eq] at h
  exact ⟨h.1, fun c hc => no_space c (h.2 c hc).2 (h.2 c hc).1⟩
theorem wordy_pos {w : Str} (h : wordy w = true) : 1 ≤ w.length := by
  have := (wordy_tl h).1
  rw [len_tl]
  exact Nat.pos_of_ne_zero fun z => this (List.length_eq_zero_iff.mp z)
theorem signs_ok : ∀ c ∈ LET.cps.toList ++ DIG.cps.toList ++ OTH.cps.toList, 33 ≤ c ∧ c < 127 := by decide +kernel
theorem ok_range {c : Nat} (h : okSign c = true) : 33 ≤ c ∧ c < 127 := by
  apply signs_ok
  unfold okSign inS at h
  simp only [Bool.or_eq_true, decide_eq_true_eq] at h
  simp only [List.mem_append]
  exact h
theorem wd_wordy {s : Str} (h : isWd s = true) : wordy s = true := by
  unfold isWd at h
  simp only [Bool.and_eq_true, decide_eq_true_eq, List.all_eq_true] at h
  unfold wordy
  simp only [Bool.and_eq_true, Bool.not_eq_true', decide_eq_false_iff_not, List.all_eq_true, decide_eq_true_eq]
  refine ⟨fun z => ?_, fun c hc => ok_range (h.2 c hc)⟩
  have := h.1.1.1
  rw [← len_cps, z] at this
  simp at this
theorem brk_no : okSign 40 = false ∧ okSign 41 = false := by decide +kernel
theorem wd_nobr {s : Str} (h : isWd s = true) : s ≠ "(" ∧ s ≠ ")" := by
  unfold isWd at h
  simp only [Bool.and_eq_true, List.all_eq_true] at h
  constructor
  · intro z
    have := h.2 40 (by rw [z]; decide +kernel)
    rw [brk_no.1] at this
    cases this
  · intro z
    have := h.2 41 (by rw [z]; decide +kernel)
    rw [brk_no.2] at this
    cases this
theorem num_wordy (i : Int) : wordy (Str.ofString (toString i)) = true := by
  unfold wordy
  simp only [Bool.and_eq_true, Bool.not_eq_true', decide_eq_false_iff_not, List.all_eq_true, decide_eq_true_eq]
  rw [num_cps]
  have h1 := dg_ne i.natAbs
  have h2 := dg_all i.natAbs
  split
  · refine ⟨by simp, fun c hc => ?_⟩
    rcases List.mem_cons.mp hc with rfl | hc
    · omega
    · have := h2 c hc; omega
  · exact ⟨h1, fun c hc => by have := h2 c hc; omega⟩
theorem num_nobr (i : Int) : Str.ofString (toString i) ≠ "(" ∧ Str.ofString (toString i) ≠ ")" := by
  have h2 := dg_all i.natAbs
  have key : ∀ c ∈ (Str.ofString (toString i)).cps.toList, c ≠ 40 ∧ c ≠ 41 := by
    rw [num_cps]
    intro c hc
    split at hc
    · rcases List.mem_cons.mp hc with rfl | hc
      · omega
      · have := h2 c hc; omega
    · have := h2 c hc; omega
  constructor
  · intro z
    rw [z] at key
    exact (key 40 (by decide +kernel)).1 rfl
  · intro z
    rw [z] at key
    exact (key 41 (by decide +kernel)).2 rfl
/-- a leaf's word -/
theorem leaf_word {d : D} {w : Str} (h : leafG d = true) (hw : wf d = some w) : wordy w = true ∧ w ≠ "(" ∧ w ≠ ")" ∧ vw w = .ok d ∧ w.length ≤ 41 := by
  have hl := words_len hw
  match d, h, hw with
  | .v .non, _, hw =>
    cases hw
    refine ⟨by decide +kernel, by decide +kernel, by decide +kernel, ?_, hl⟩
    unfold vw
    simp only
    rw [if_pos (by decide +kernel)]
  | .v (.int i), h, hw =>
    have h : numOk i = true := h
    have hw : wf (.int i) = some w := hw
    rw [wf_int, if_pos h] at hw
    cases hw
    exact ⟨num_wordy i, (num_nobr i).1, (num_nobr i).2, vw_num h, hl⟩
  | .v (.str s), h, hw =>
    have h : gw s = true := h
    unfold gw at h
    simp only [Bool.and_eq_true, Bool.not_eq_true', decide_eq_false_iff_not] at h
    have hw : wf (.str s) = some w := hw
    rw [wf_str, if_pos h.1.1] at hw
    cases hw
    refine ⟨wd_wordy h.1.1, (wd_nobr h.1.1).1, (wd_nobr h.1.1).2, ?_, hl⟩
    unfold vw
    simp only
    rw [if_neg h.1.2, if_neg, if_pos h.1.1]
    rintro ⟨z1, z2⟩
    have := h.2
    rw [z2, decide_eq_true z1] at this
    cases this
def okW (w : Str) : Prop := wordy w = true ∧ w.length ≤ 41
mutual
theorem good_words : ∀ (d : D) (ws : List Str), good d = true → wd d = some ws → ws ≠ [] ∧ ∀ w ∈ ws, okW w
  | .v x, ws, h, e => by
    unfold wd at e
    cases e2 : wf (.v x) with
    | none => rw [e2] at e; cases e
    | some w =>
      rw [e2] at e
      cases e
      have := leaf_word (d := .v x) h e2
      exact ⟨by simp, by intro w' hw; simp at hw; subst hw; exact ⟨this.1, this.2.2.2.2⟩⟩
  | .lst _, ws, h, e => by cases e
  | .tup ds, ws, h, e => by
    unfold wd at e
    obtain ⟨x, y, e1, e2, rfl⟩ := cat2_some e
    obtain ⟨y1, y2, e3, e4, rfl⟩ := cat2_some e2
    cases e1
    cases e4
    have := goodL_words ds y1 h e3
    refine ⟨by simp, ?_⟩
    intro w hw
    simp only [List.mem_append, List.mem_cons, List.not_mem_nil, or_false] at hw
    rcases hw with rfl | hw | rfl
    · exact ⟨by decide +kernel, by decide +kernel⟩
    · exact this w hw
    · exact ⟨by decide +kernel, by decide +kernel⟩
theorem goodL_words : ∀ (ds : List D) (ws : List Str), goodL ds = true → wdL ds = some ws → ∀ w ∈ ws, okW w
  | [], ws, h, e => by cases e; exact fun w hw => nomatch hw
  | d :: ds, ws, h, e => by
    unfold goodL at h
    simp only [Bool.and_eq_true] at h
    unfold wdL at e
    obtain ⟨x, y, e1, e2, rfl⟩ := cat2_some e
    intro w hw
    rcases List.mem_append.mp hw with hw | hw
    · exact (good_words d x h.1 e1).2 w hw
    · exact goodL_words ds y h.2 e2 w hw
end
/-! the run over the words of a value -/
theorem pstep_open (top : List D) (rest : List (List D)) : pstep "(" top rest = .ok ([], top :: rest) := by
  unfold pstep
  rw [if_pos rfl]
theorem pstep_close (top r : List D) (rs : List (List D)) : pstep ")" top (r :: rs) = .ok (r ++ [.tup top], rs) := by
  unfold pstep
  rw [if_neg (by decide +kernel), if_pos rfl]
theorem pstep_close0 (top : List D) : pstep ")" top [] = .error "bracket" := by
  unfold pstep
  rw [if_neg (by decide +kernel), if_pos rfl]
theorem pstep_leaf {d : D} {w : Str} (h : leafG d = true) (hw : wf d = some w) (top : List D) (rest : List (List D)) : pstep w top rest = .ok (top ++ [d], rest) := by
  have := leaf_word h hw
  unfold pstep
  rw [if_neg this.2.1, if_neg this.2.2.1, this.2.2.2.1]
theorem prun_in {w : Str} {ws : List Str} {i : Nat} {top t : List D} {rest r : List (List D)} (h : pstep w top rest = .ok (t, r)) (hr : r ≠ []) : prun (w :: ws) i top rest = prun ws (i + 1) t r := by
  rw [prun_cons, h]
  exact if_neg fun z => hr z.1
mutual
theorem run_in : ∀ (d : D) (ws tail : List Str) (i : Nat) (top : List D) (rest : List (List D)), good d = true → wd d = some ws → rest ≠ [] → prun (ws ++ tail) i top rest = prun tail (i + ws.length) (top ++ [d]) rest
  | .v x, ws, tail, i, top, rest, h, e, hr => by
    unfold wd at e
    cases e2 : wf (.v x) with
    | none => rw [e2] at e; cases e
    | some w =>
      rw [e2] at e
      cases e
      exact prun_in (pstep_leaf h e2 top rest) hr
  | .lst _, ws, tail, i, top, rest, h, e, hr => by cases e
  | .tup ds, ws, tail, i, top, rest, h, e, hr => by
    unfold wd at e
    obtain ⟨x, y, e1, e2, rfl⟩ := cat2_some e
    obtain ⟨y1, y2, e3, e4, rfl⟩ := cat2_some e2
    cases e1
    cases e4
    have e5 : [("(" : Str)] ++ (y1 ++ [(")" : Str)]) ++ tail = ("(" : Str) :: (y1 ++ ((")" : Str) :: tail)) := by simp
    rw [e5, prun_in (pstep_open top rest) (by simp), runL_in ds y1 (")" :: tail) (i + 1) [] (top :: rest) h e3 (by simp), prun_in (pstep_close _ top rest) hr]
    simp only [List.nil_append, List.length_append, List.length_cons, List.length_nil]
    congr 1
    omega
theorem runL_in : ∀ (ds : List D) (ws tail : List Str) (i : Nat) (top : List D) (rest : List (List D)), goodL ds = true → wdL ds = some ws → rest ≠ [] → prun (ws ++ tail) i top rest = prun tail (i + ws.length) (top ++ ds) rest
  | [], ws, tail, i, top, rest, h, e, hr => by cases e; simp
  | d :: ds, ws, tail, i, top, rest, h, e, hr => by
    unfold goodL at h
    simp only [Bool.and_eq_true] at h
    unfold wdL at e
    obtain ⟨x, y, e1, e2, rfl⟩ := cat2_some e
    rw [List.append_assoc, run_in d x (y ++ tail) i top rest h.1 e1 hr, runL_in ds y tail _ _ rest h.2 e2 hr]
    simp only [List.append_assoc, List.cons_append, List.nil_append, List.length_append]
    congr 1
    omega
end
/-- a whole value, and what stands behind it -/
theorem run_top {d : D} {ws : List Str} (h : good d = true) (e : wd d = some ws) (tail : List Str) : prun (ws ++ tail) 0 [] [] = if tail ≠ [] then .error ("more", ws.length) else .ok ([d], []) := by
  have fin : ∀ (w : Str) (top : List D) (rest : List (List D)) (i : Nat), pstep w top rest = .ok ([d], []) → i + 1 = ws.length → prun (w :: tail) i top rest = if tail ≠ [] then .error ("more", ws.length) else .ok ([d], []) := fun w top rest i hs hi => by
    rw [prun_cons, hs]
    simp only
    by_cases ht : tail ≠ []
    · rw [if_pos ⟨by trivial, by trivial, ht⟩, if_pos ht, hi]
    · rw [if_neg (fun z => ht z.2.2), if_neg ht]
      have : tail = [] := Classical.byContradiction ht
      subst this
      rfl
  match d, h, e with
  | .v x, h, e =>
    unfold wd at e
    cases e2 : wf (.v x) with
    | none => rw [e2] at e; cases e
    | some w =>
      rw [e2] at e
      cases e
      exact fin w [] [] 0 (pstep_leaf h e2 [] []) rfl
  | .tup ds, h, e =>
    unfold wd at e
    obtain ⟨x, y, e1, e2, rfl⟩ := cat2_some e
    obtain ⟨y1, y2, e3, e4, rfl⟩ := cat2_some e2
    cases e1
    cases e4
    have e5 : [("(" : Str)] ++ (y1 ++ [(")" : Str)]) ++ tail = ("(" : Str) :: (y1 ++ ((")" : Str) :: tail)) := by simp
    rw [e5, prun_in (pstep_open [] []) (by simp), runL_in ds y1 (")" :: tail) 1 [] [[]] h e3 (by simp)]
    exact fin ")" _ _ _ (pstep_close _ _ _) (by simp; omega)
theorem fin_ok {d : D} {ws : List Str} (h : good d = true) (e : wd d = some ws) : pfin ws = .ok d := by
  have := run_top h e []
  rw [List.append_nil] at this
  unfold pfin
  rw [this]
  rfl
theorem fin_more {d : D} {ws : List Str} (h : good d = true) (e : wd d = some ws) (w : Str) : pfin (ws ++ [w]) = .error ("more", ws.length) := by
  unfold pfin
  rw [run_top h e [w], if_pos (by simp)]
theorem fin_open {d : D} {ws : List Str} (h : good d = true) (e : wd d = some ws) : pfin ("(" :: ws) = .error ("bracket", ws.length + 1) := by
  unfold pfin
  have := run_in d ws [] 1 [] [[]] h e (by simp)
  rw [List.append_nil] at this
  rw [prun_in (pstep_open [] []) (by simp), this]
  rfl
theorem fin_close (ws : List Str) : pfin (")" :: ws) = .error ("bracket", 0) := by
  unfold pfin
  rw [prun_cons, pstep_close0]
theorem fin_nil : pfin [] = .error ("bracket", 0) := rfl
/-- the words ahead of one that there is -/
def prunP : List Str → Nat → List D → List (List D) → Except (Str × Nat) (List D × List (List D))
  | [], _, top, rest => .ok (top, rest)
  | w :: ws, i, top, rest => match pstep w top rest with
    | .error c => .error (c, i)
    | .ok (t, r) => if r = [] ∧ t.length = 1 then .error ("more", i + 1) else prunP ws (i + 1) t r
theorem prun_P (v : List Str) (hv : v ≠ []) : ∀ (u : List Str) (i : Nat) (top : List D) (rest : List (List D)), prun (u ++ v) i top rest = match prunP u i top rest with
    | .error e => .error e
    | .ok (t, r) => prun v (i + u.length) t r
  | [], i, top, rest => rfl
  | w :: u, i, top, rest => by
    rw [List.cons_append, prun_cons]
    unfold prunP
    cases pstep w top rest with
    | error c => rfl
    | ok p =>
      obtain ⟨t, r⟩ := p
      simp only
      by_cases h : r = [] ∧ t.length = 1
      · rw [if_pos ⟨h.1, h.2, by simp [hv]⟩, if_pos h]
      · rw [if_neg (fun z => h ⟨z.1, z.2.1⟩), if_neg h, prun_P v hv u (i + 1) t r]
        have : i + 1 + u.length = i + (w :: u).length := by simp; omega
        rw [this]
theorem fin_bad {d : D} {u v : List Str} {w b c : Str} (h : good d = true) (e : wd d = some (u ++ w :: v)) (hb : vw b = .error c) (h1 : b ≠ "(") (h2 : b ≠ ")") : pfin (u ++ b :: v) = .error (c, u.length) := by
  have h0 := run_top h e []
  rw [List.append_nil, prun_P (w :: v) (by simp)] at h0
  unfold pfin
  rw [prun_P (b :: v) (by simp)]
  cases hp : prunP u 0 [] [] with
  | error z => rw [hp] at h0; simp at h0
  | ok p =>
    obtain ⟨t, r⟩ := p
    simp only
    rw [prun_cons]
    have : pstep b t r = .error c := by
      unfold pstep
      rw [if_neg h1, if_neg h2, hb]
    rw [this]
    simp
end K26


set_option Elab.async false
set_option linter.all false
set_option maxRecDepth 100000
set_option maxHeartbeats 4000000
/-! law k26: texts, sizes, odd values, in plain -/
namespace K26
open PySem PySem.Spec PyProof.Rows L2 Y YD TL PySem.NumText
theorem wsep (ws : List (List Nat)) : ∀ {S p : List Nat}, (∀ c ∈ S, Unicode.isSpace c = true) → (S ≠ [] → p ≠ [] → S.foldl wstep (ws, p) = (ws ++ [p], [])) ∧ S.foldl wstep (ws, []) = (ws, [])
  | [], p, _ => ⟨fun z => absurd rfl z, rfl⟩
  | c :: S, p, h => by
    have hc := h c List.mem_cons_self
    have h0 : ∀ ws, wstep (ws, []) c = (ws, []) := fun ws => (if_pos hc).trans (if_pos rfl)
    have ih := fun ws p => wsep ws (S := S) (p := p) fun d hd => h d (List.mem_cons_of_mem _ hd)
    refine ⟨fun _ hp => ?_, ?_⟩
    · rw [List.foldl_cons, show wstep (ws, p) c = (ws ++ [p], []) from (if_pos hc).trans (if_neg hp)]
      exact (ih (ws ++ [p]) p).2
    · rw [List.foldl_cons, h0]
      exact (ih ws p).2
theorem wj {S : List Nat} (hS : S ≠ []) (hs : ∀ c ∈ S, Unicode.isSpace c = true) : ∀ (ps ws : List (List Nat)), ps ≠ [] → (∀ p ∈ ps, p ≠ [] ∧ ∀ c ∈ p, Unicode.isSpace c = false) → ∃ pre last, ps = pre ++ [last] ∧ last ≠ [] ∧ (joinL S ps).foldl wstep (ws, []) = (ws ++ pre, last)
  | [], _, h, _ => absurd rfl h
  | [p], ws, _, h => by
    obtain ⟨h1, h2⟩ := h p List.mem_cons_self
    refine ⟨[], p, rfl, h1, ?_⟩
    show p.foldl wstep (ws, []) = _
    rw [wfold_word p ws [] h2]
    simp
  | p :: q :: r, ws, _, h => by
    obtain ⟨h1, h2⟩ := h p List.mem_cons_self
    obtain ⟨pre, last, e1, e2, e3⟩ := wj hS hs (q :: r) (ws ++ [p]) (by simp) fun z hz => h z (List.mem_cons_of_mem _ hz)
    refine ⟨p :: pre, last, by rw [e1]; rfl, e2, ?_⟩
    show (p ++ (S ++ joinL S (q :: r))).foldl wstep (ws, []) = _
    rw [List.foldl_append, wfold_word p ws [] h2, List.nil_append, List.foldl_append, (wsep ws hs).1 hS h1, e3]
    simp
def Wordy (ws : List Str) : Prop := ∀ w ∈ ws, wordy w = true
theorem Wordy.tl {ws : List Str} (h : Wordy ws) : ∀ p ∈ ws.map TL.tl, p ≠ [] ∧ ∀ c ∈ p, Unicode.isSpace c = false := by
  intro p hp
  obtain ⟨w, hw, rfl⟩ := List.mem_map.mp hp
  exact wordy_tl (h w hw)
theorem tl_sp : TL.tl (" " : Str) = [32] := by decide +kernel
theorem sp_ok : ∀ c ∈ [32], Unicode.isSpace c = true := by decide +kernel
theorem tl_nl : TL.tl ("\n " : Str) = [10, 32] := by decide +kernel
theorem nl_ok : ∀ c ∈ [10, 32], Unicode.isSpace c = true := by decide +kernel
theorem tl_txt (sep : Str) (ws : List Str) : TL.tl (Txt.join sep ws) = joinL (TL.tl sep) (ws.map TL.tl) := by rw [join_eq, tl_join]
theorem words_join {ws : List Str} (hne : ws ≠ []) (hw : Wordy ws) : Txt.words (Txt.join " " ws) = ws := by
  apply map_tl_inj
  rw [words_tl, tl_txt, tl_sp]
  obtain ⟨pre, last, e1, e2, e3⟩ := wj (by simp) sp_ok (ws.map TL.tl) [] (by simpa using hne) hw.tl
  rw [e3, e1]
  simp [wfin, e2]
theorem words_more {ws : List Str} {x z : Str} (hne : ws ≠ []) (hw : Wordy ws) (hx : wordy x = true) (hz : TL.tl z = 32 :: TL.tl x) : Txt.words (Txt.join " " ws ++ z) = ws ++ [x] := by
  apply map_tl_inj
  rw [words_tl, tl_append, tl_txt, tl_sp, hz]
  obtain ⟨pre, last, e1, e2, e3⟩ := wj (by simp) sp_ok (ws.map TL.tl) [] (by simpa using hne) hw.tl
  obtain ⟨x1, x2⟩ := wordy_tl hx
  rw [List.foldl_append, e3, show 32 :: TL.tl x = [32] ++ TL.tl x from rfl, List.foldl_append, (wsep _ sp_ok).1 (by simp) e2, wfold_word _ _ _ x2, List.map_append, e1]
  simp [wfin, x1]
theorem words_ahead {ws : List Str} {x z : Str} (hne : ws ≠ []) (hw : Wordy ws) (hx : wordy x = true) (hz : TL.tl z = TL.tl x ++ [32]) : Txt.words (z ++ Txt.join " " ws) = x :: ws := by
  apply map_tl_inj
  rw [words_tl, tl_append, tl_txt, tl_sp, hz]
  obtain ⟨x1, x2⟩ := wordy_tl hx
  rw [List.append_assoc, List.foldl_append, wfold_word _ _ _ x2, List.nil_append, List.foldl_append, (wsep _ sp_ok).1 (by simp) x1]
  obtain ⟨pre, last, e1, e2, e3⟩ := wj (by simp) sp_ok (ws.map TL.tl) [TL.tl x] (by simpa using hne) hw.tl
  rw [List.nil_append, e3, List.map_cons, e1]
  simp [wfin, e2]
theorem words_blank {ws : List Str} (hne : ws ≠ []) (hw : Wordy ws) : Txt.words (Txt.join "\n " ws ++ " ") = ws := by
  apply map_tl_inj
  rw [words_tl, tl_append, tl_txt, tl_nl, tl_sp]
  obtain ⟨pre, last, e1, e2, e3⟩ := wj (by simp) nl_ok (ws.map TL.tl) [] (by simpa using hne) hw.tl
  rw [List.foldl_append, e3, (wsep _ sp_ok).1 (by simp) e2, e1]
  simp [wfin]
theorem words_none : Txt.words "" = [] := by
  apply map_tl_inj
  rw [words_tl]
  decide +kernel
theorem joinL_len (S : List Nat) : ∀ ps : List (List Nat), (joinL S ps).length ≤ (ps.map (·.length)).sum + ps.length * S.length
  | [] => Nat.zero_le _
  | [p] => by simp [joinL]
  | p :: q :: r => by
    have := joinL_len S (q :: r)
    simp only [joinL, List.length_append, List.map_cons, List.sum_cons, List.length_cons, Nat.add_mul] at this ⊢
    omega
theorem join_len (sep : Str) (ws : List Str) : (Txt.join sep ws).length ≤ (ws.map (·.length)).sum + ws.length * sep.length := by
  have := joinL_len (TL.tl sep) (ws.map TL.tl)
  rw [← tl_txt, ← len_tl, List.map_map, List.length_map, ← len_tl] at this
  have e : (ws.map ((fun x => x.length) ∘ TL.tl)) = ws.map (·.length) := by
    apply List.map_congr_left
    intro w _
    exact (len_tl w).symm
  rw [e] at this
  exact this
/-- small enough a row of words -/
structure Few (ws : List Str) : Prop where
  ne : ws ≠ []
  ok : ∀ w ∈ ws, okW w
  n : ws.length ≤ 2000
theorem Few.wordy {ws : List Str} (h : Few ws) : Wordy ws := fun w hw => (h.ok w hw).1
theorem Few.sum {ws : List Str} (h : Few ws) : (ws.map (·.length)).sum ≤ 82000 := by
  have := sum_ok (ws := ws) fun w hw => (h.ok w hw).2
  have := h.n
  omega
theorem Few.len {ws : List Str} (h : Few ws) {sep : Str} (hs : sep.length ≤ 2) : (Txt.join sep ws).length ≤ 86000 := by
  have h1 := join_len sep ws
  have h2 := h.sum
  have h3 : ws.length * sep.length ≤ 2000 * 2 := Nat.mul_le_mul h.n hs
  omega
theorem ok_text {t : Str} {ws : List Str} (e : Txt.words t = ws) (hl : t.length ≤ 1000000) (hw : ∀ w ∈ ws, okW w) (hn : ws.length ≤ 3000) : okText t := by
  refine ⟨hl, ?_, ?_⟩
  · rw [e]
    intro w h
    have := hw w h
    exact ⟨wordy_pos this.1, by have := this.2; omega⟩
  · rw [e]; omega
theorem Vl.few {d : D} {ws : List Str} (h : Vl 7 d ws) : Few ws := by
  have h1 := good_words d ws h.g h.w
  have h2 := (wd_ok d ws h.w).2
  have h3 := h.c
  have h4 : most 7 = 1457 := by decide
  exact ⟨h1.1, h1.2, by omega⟩
/-! plain data, and how long it is written -/
theorem wordy_strOk {s : Str} (h : wordy s = true) : PyData.strOk s = true := by
  unfold wordy at h
  simp only [Bool.and_eq_true, List.all_eq_true, decide_eq_true_eq] at h
  unfold PyData.strOk
  rw [Array.all_eq_true_iff_forall_mem]
  intro c hc
  have := h.2 c (Array.mem_def.mp hc)
  simp only [decide_eq_true_eq]
  omega
mutual
theorem good_pln : ∀ d : D, good d = true → pln d = true
  | .v .non, _ => rfl
  | .v (.int _), _ => rfl
  | .v (.str s), h => by
    have h : gw s = true := h
    unfold gw at h
    simp only [Bool.and_eq_true] at h
    exact wordy_strOk (wd_wordy h.1.1)
  | .tup ds, h => goodL_pln ds h
theorem goodL_pln : ∀ ds : List D, goodL ds = true → plnL ds = true
  | [], _ => rfl
  | d :: ds, h => by
    unfold goodL at h
    simp only [Bool.and_eq_true] at h
    unfold plnL
    rw [good_pln d h.1, goodL_pln ds h.2]
    rfl
end
theorem piled_len (ts : List Str) : (PySem.tupleText ts).length ≤ piled ts + 3 := by
  unfold PySem.tupleText
  rw [strLen_append, strLen_append]
  have e1 : ((("(" : String) : Str)).length = 1 := rfl
  have e3 : (((if ts.length == 1 then ",)" else ")" : String) : Str)).length ≤ 2 := by split <;> decide
  rw [e1]
  by_cases h : ts = []
  · subst h
    have : (Str.join ", " ([] : List Str)).length = 0 := rfl
    omega
  · have := join_length_add ts h
    omega
end K26


set_option Elab.async false
set_option linter.all false
set_option maxRecDepth 100000
set_option maxHeartbeats 4000000
/-! law k26: what is written of plain data, bad words, odd values -/
namespace K26
open PySem PySem.Spec PyProof.Rows L2 Y YD TL PySem.NumText
theorem leaf_shown : ∀ x : V, leafG (.v x) = true → (pyD (.v x)).showable = true ∧ (pyD (.v x)).shown.length ≤ 500
  | .non, _ => ⟨rfl, by decide +kernel⟩
  | .int i, h => by
    have h : numOk i = true := h
    refine ⟨decide_eq_true (num_log h), ?_⟩
    have := num_len h
    show (Str.ofString (toString i)).length ≤ 500
    omega
  | .str s, h => by
    have h : gw s = true := h
    unfold gw at h
    simp only [Bool.and_eq_true] at h
    have hs := h.1.1
    have hw := wd_wordy hs
    unfold wordy at hw
    simp only [Bool.and_eq_true, List.all_eq_true, decide_eq_true_eq] at hw
    have hl : s.length ≤ 40 := by
      unfold isWd at hs
      simp only [Bool.and_eq_true, decide_eq_true_eq] at hs
      exact hs.1.1.2
    refine ⟨rfl, ?_⟩
    have := StrLaws.reprText_len s fun c hc => Nat.lt_of_lt_of_le (hw.2 c hc).2 (by decide)
    show (reprText s).length ≤ 500
    omega
mutual
theorem good_shown : ∀ d : D, good d = true → (pyD d).showable = true ∧ (pyD d).shown.length + 2 ≤ 502 * cnt d
  | .v x, h => by
    have := leaf_shown x h
    refine ⟨this.1, ?_⟩
    simp only [cnt]
    omega
  | .tup ds, h => by
    have := goodL_shown ds h
    have h2 := piled_len (PyData.shownAll (pyL ds))
    refine ⟨?_, ?_⟩
    · simpa only [pyD, PyData.showable] using this.1
    · simp only [pyD, PyData.shown, cnt]
      omega
theorem goodL_shown : ∀ ds : List D, goodL ds = true → PyData.showableAll (pyL ds) = true ∧ piled (PyData.shownAll (pyL ds)) ≤ 502 * cntL ds
  | [], _ => ⟨rfl, Nat.zero_le _⟩
  | d :: ds, h => by
    unfold goodL at h
    simp only [Bool.and_eq_true] at h
    have h1 := good_shown d h.1
    have h2 := goodL_shown ds h.2
    refine ⟨?_, ?_⟩
    · simp only [pyL, PyData.showableAll, h1.1, h2.1, Bool.and_self]
    · simp only [pyL, PyData.shownAll, cntL]
      rw [piled_cons]
      omega
end
theorem Vl.shown {d : D} {ws : List Str} (h : Vl 7 d ws) : (pyD d).showable = true ∧ (pyD d).shown.length ≤ 1000000 := by
  have h1 := good_shown d h.g
  have h2 := h.c
  have h4 : most 7 = 1457 := by decide
  exact ⟨h1.1, by omega⟩
theorem Vl.pl {d : D} {ws : List Str} (h : Vl 7 d ws) : Pl 64 d := ⟨good_pln d h.g, by have := h.p; omega⟩
mutual
theorem good_okV (M : Mm) : ∀ d : D, good d = true → okV M d
  | .v .non, _ => .inl rfl
  | .v (.int i), _ => .inr (.inr (.inl ⟨i, rfl⟩))
  | .v (.str s), h => by
    have h : gw s = true := h
    unfold gw at h
    simp only [Bool.and_eq_true] at h
    have hs := h.1.1
    unfold isWd at hs
    simp only [Bool.and_eq_true, decide_eq_true_eq] at hs
    exact .inr (.inl ⟨s, rfl, by omega⟩)
  | .tup ds, h => goodL_okV M ds h
theorem goodL_okV (M : Mm) : ∀ ds : List D, goodL ds = true → okVL M ds
  | [], _ => trivial
  | d :: ds, h => by
    unfold goodL at h
    simp only [Bool.and_eq_true] at h
    exact ⟨good_okV M d h.1, goodL_okV M ds h.2⟩
end
/-! the bad words -/
structure Bad (b c : Str) : Prop where
  e : vw b = .error c
  w : okW b
  n1 : b ≠ "("
  n2 : b ≠ ")"
  p : PyData.strOk c = true
theorem bad_num {b : Str} (h1 : b.cps.toList ≠ [45]) (h2 : fig b.cps.toList ≠ [] ∧ (fig b.cps.toList).all isDig = true) (h3 : 30 < (fig b.cps.toList).length ∨ ((fig b.cps.toList).head? = some 48 ∧ (fig b.cps.toList ≠ [48] ∨ b.cps.toList ≠ [48]))) (h4 : okW b) (h5 : b ≠ "(") (h6 : b ≠ ")") : Bad b "number" := by
  refine ⟨?_, h4, h5, h6, by decide +kernel⟩
  unfold vw
  simp only
  rw [if_neg h1, if_pos h2, if_pos h3]
theorem bad_word {b : Str} (h1 : b.cps.toList ≠ [45]) (h2 : ¬ (fig b.cps.toList ≠ [] ∧ (fig b.cps.toList).all isDig = true)) (h3 : isWd b = false) (h4 : okW b) (h5 : b ≠ "(") (h6 : b ≠ ")") : Bad b "word" := by
  refine ⟨?_, h4, h5, h6, by decide +kernel⟩
  unfold vw
  simp only
  rw [if_neg h1, if_neg h2, h3]
  rfl
instance (w : Str) : Decidable (okW w) := by unfold okW; infer_instance
theorem bad1 : Bad "007" "number" := bad_num (by decide +kernel) (by decide +kernel) (by decide +kernel) (by decide +kernel) (by decide +kernel) (by decide +kernel)
theorem bad2 : Bad "-0" "number" := bad_num (by decide +kernel) (by decide +kernel) (by decide +kernel) (by decide +kernel) (by decide +kernel) (by decide +kernel)
theorem bad3 : Bad (("1" : Str) ++ repS "0" 30) "number" := bad_num (by decide +kernel) (by decide +kernel) (by decide +kernel) (by decide +kernel) (by decide +kernel) (by decide +kernel)
theorem bad4 : Bad (("-" : Str) ++ repS "9" 31) "number" := bad_num (by decide +kernel) (by decide +kernel) (by decide +kernel) (by decide +kernel) (by decide +kernel) (by decide +kernel)
theorem bad5 : Bad "a.b" "word" := bad_word (by decide +kernel) (by decide +kernel) (by decide +kernel) (by decide +kernel) (by decide +kernel) (by decide +kernel)
theorem bad6 : Bad "9x" "word" := bad_word (by decide +kernel) (by decide +kernel) (by decide +kernel) (by decide +kernel) (by decide +kernel) (by decide +kernel)
theorem bad7 : Bad (repS "Z" 41) "word" := bad_word (by decide +kernel) (by decide +kernel) (by decide +kernel) (by decide +kernel) (by decide +kernel) (by decide +kernel)
theorem bad8 : Bad "--" "word" := bad_word (by decide +kernel) (by decide +kernel) (by decide +kernel) (by decide +kernel) (by decide +kernel) (by decide +kernel)
theorem bad9 : Bad "x+y" "word" := bad_word (by decide +kernel) (by decide +kernel) (by decide +kernel) (by decide +kernel) (by decide +kernel) (by decide +kernel)
def bads : List D := [.tup [.str "007", .str "number"], .tup [.str "-0", .str "number"], .tup [.str (("1" : Str) ++ repS "0" 30), .str "number"], .tup [.str (("-" : Str) ++ repS "9" 31), .str "number"], .tup [.str "a.b", .str "word"], .tup [.str "9x", .str "word"], .tup [.str (repS "Z" 41), .str "word"], .tup [.str "--", .str "word"], .tup [.str "x+y", .str "word"]]
theorem bads_ok {d : D} (h : d ∈ bads) : ∃ b c, d = .tup [.str b, .str c] ∧ Bad b c := by
  unfold bads at h
  simp only [List.mem_cons, List.not_mem_nil, or_false] at h
  rcases h with rfl | rfl | rfl | rfl | rfl | rfl | rfl | rfl | rfl
  · exact ⟨_, _, rfl, bad1⟩
  · exact ⟨_, _, rfl, bad2⟩
  · exact ⟨_, _, rfl, bad3⟩
  · exact ⟨_, _, rfl, bad4⟩
  · exact ⟨_, _, rfl, bad5⟩
  · exact ⟨_, _, rfl, bad6⟩
  · exact ⟨_, _, rfl, bad7⟩
  · exact ⟨_, _, rfl, bad8⟩
  · exact ⟨_, _, rfl, bad9⟩
/-! the odd values -/
def odds (p : Addr) : List D := [.int ((10 : Int) ^ Int.toNat 30), .int (-(10 : Int) ^ Int.toNat 30), .str "9x", .str "", .str "a b", .str "a(", .str (repS "Z" 41), .bl true, .ref p, .str "-"]
theorem odds_ok {p : Addr} {M : Mm} {xs : List D} (hp : M p = some (.lst xs)) {d : D} (h : d ∈ odds p) : ∃ x, d = .v x ∧ leafOk d M ∧ wf d = none := by
  unfold odds at h
  simp only [List.mem_cons, List.not_mem_nil, or_false] at h
  rcases h with rfl | rfl | rfl | rfl | rfl | rfl | rfl | rfl | rfl | rfl
  · exact ⟨_, rfl, .inr (.inr (.inl ⟨_, rfl⟩)), by rw [wf_int, if_neg (by decide +kernel)]⟩
  · exact ⟨_, rfl, .inr (.inr (.inl ⟨_, rfl⟩)), by rw [wf_int, if_neg (by decide +kernel)]⟩
  · exact ⟨_, rfl, .inr (.inl ⟨_, rfl, by decide +kernel⟩), by rw [wf_str, if_neg (by decide +kernel)]⟩
  · exact ⟨_, rfl, .inr (.inl ⟨_, rfl, by decide +kernel⟩), by rw [wf_str, if_neg (by decide +kernel)]⟩
  · exact ⟨_, rfl, .inr (.inl ⟨_, rfl, by decide +kernel⟩), by rw [wf_str, if_neg (by decide +kernel)]⟩
  · exact ⟨_, rfl, .inr (.inl ⟨_, rfl, by decide +kernel⟩), by rw [wf_str, if_neg (by decide +kernel)]⟩
  · exact ⟨_, rfl, .inr (.inl ⟨_, rfl, by decide +kernel⟩), by rw [wf_str, if_neg (by decide +kernel)]⟩
  · exact ⟨_, rfl, .inr (.inr (.inr (.inl ⟨_, rfl⟩))), rfl⟩
  · exact ⟨_, rfl, .inr (.inr (.inr (.inr ⟨_, _, rfl, hp⟩))), rfl⟩
  · exact ⟨_, rfl, .inr (.inl ⟨_, rfl, by decide +kernel⟩), by rw [wf_str, if_neg (by decide +kernel)]⟩
theorem wd_odd {x : V} (h : wf (.v x) = none) : wd (.v x) = none := by unfold wd; rw [h]; rfl
theorem wd_odd2 {d : D} {x : V} (h : wf (.v x) = none) : wd (.tup [d, .tup [.v x]]) = none := by
  simp only [wd, wdL, h, Option.map_none]
  cases wd d <;> rfl
end K26


set_option Elab.async false
set_option linter.all false
set_option maxRecDepth 100000
set_option maxHeartbeats 4000000
set_option pp.deepTerms true
set_option pp.maxSteps 3000
/-! the readings of law k26: the law -/
namespace K26
open PySem PySem.Spec PyProof.Rows L2 Y YD
local macro_rules | `(tactic| walk_at "y_ne") => `(tactic| first | assumption | exact Ne.symm (by assumption) | ((refine ne_none (M := ?yM) (m := ?ymo) ?ym1 ?ym2); (case ym2 => assumption); (case ym1 => walk_at "y_look")) | ((refine Ne.symm (ne_none (M := ?yM) (m := ?ymo) ?ym1 ?ym2)); (case ym2 => assumption); (case ym1 => walk_at "y_look")) | ((refine ne_none (M := ?yM) (m := ?ymo) ?ym1 (put_none (M := ?yM) (a := ?yma) (m := ?ymo2) ?ym2).2); (case ym2 => assumption); (case ym1 => walk_at "y_look")) | ((refine Ne.symm (ne_none (M := ?yM) (m := ?ymo) ?ym1 (put_none (M := ?yM) (a := ?yma) (m := ?ymo2) ?ym2).2)); (case ym2 => assumption); (case ym1 => walk_at "y_look")))
local macro_rules | `(tactic| walk_at "y_look") => `(tactic| first | assumption | exact put_same | ((with_reducible refine Eq.trans (put_ne ?yn) ?_); (case yn => walk_at "y_ne"); (walk_at "y_look")) | ((with_reducible refine Eq.trans (drop_ne ?yn) ?_); (case yn => walk_at "y_ne"); (walk_at "y_look")))
local macro_rules | `(tactic| walk_at "y_pl") => `(tactic| first | assumption | exact PlL.nil | exact Pl.int _ | exact Pl.non | exact Pl.bl _ | exact Pl.str (by decide +kernel) | ((with_reducible refine PlL.cons ?yp1 ?yp2); (case yp1 => walk_at "y_pl"); (case yp2 => walk_at "y_pl")) | ((with_reducible refine PlL.append ?yp1 ?yp2); (case yp1 => walk_at "y_pl"); (case yp2 => walk_at "y_pl")) | ((with_reducible refine Pl.tup ?yp1); (case yp1 => walk_at "y_pl")) | ((with_reducible refine PlL.mono (j := ?yj) ?yp1 ?yp2); (case yp1 => assumption); (case yp2 => first | decide | omega)) | ((with_reducible refine Pl.mono (j := ?yj) ?yp1 ?yp2); (case yp1 => assumption); (case yp2 => first | decide | omega)))
local macro_rules | `(tactic| walk_at "y_len") => `(tactic| ((try simp only [List.length_append, List.length_cons, List.length_nil, List.length_map, sizeLine_eq] at *); omega))
local macro_rules | `(tactic| walk_at "y_rfl") => `(tactic| first | rfl | (simp only [atI_nn]; rfl))
local macro_rules | `(tactic| walk_at "y_at") => `(tactic| first | exact atI_nn _ 0 | rfl)
local macro_rules | `(tactic| walk_at "y_cond") => `(tactic| first
  | (show (0 : Int) < _; first | decide | assumption | omega)
  | (exact ⟨by first | decide | assumption | omega, by first | decide | assumption | omega⟩)
  | (exact Or.inl ⟨by first | decide | assumption | omega, by first | decide | assumption | omega⟩)
  | (exact Or.inr ⟨by first | decide | assumption | omega, by first | decide | assumption | omega⟩)
  | (exact ⟨by decide, by decide, by decide⟩))
local macro_rules | `(tactic| walk_at "y1") => `(tactic| first
  | (with_reducible first | refine i_seq ?_ | refine i_next ?_ | refine i_asg ?_ | refine i_ret ?_ | refine i_retN ?_ | refine i_drop ?_ | refine i_cont ?_ | refine i_break ?_ | refine i_ifs ?_ | refine i_if ?_ | refine i_and ?_ | refine i_or ?_ | refine i_not ?_ | refine i_test ?_ | refine i_tru ?_ | refine i_andV ?_ | refine i_orV ?_ | refine i_notV ?_ | refine i_bl ?_ | refine i_op ?_ | refine i_chain ?_ | refine i_c ?_ | refine i_cd ?_ | refine i_nil ?_ | refine i_cons ?_ | refine i_call ?_ | refine i_cb ?_ | refine i_tup ?_ | refine i_lst ?_ | refine i_lstM ?_ | refine i_dict ?_ | refine i_frz ?_ | refine i_name ?_ | refine i_gcons ?_ | refine i_gnil ?_ | refine i_gsub ?_ | refine i_par ?_ | refine i_par2 ?_ | refine i_un ?_ | refine i_int ?_ | refine i_slice ?_ | refine i_onone ?_ | refine i_osome ?_ | refine i_bm ?_ | refine i_bm0 ?_ | refine i_get1 ?_ | refine i_get2 ?_ | refine i_del ?_ | refine i_for ?_ | refine i_lc ?_ | refine i_dc ?_ | refine i_yes ?_ | refine i_it ?_ | refine i_rng1 ?_ | refine i_fld ?_ | refine i_sfld ?_ | refine i_meth ?_ | refine i_make ?_ | refine v_I0 ?_ | refine v_plusI ?_ | refine v_eqI ?_ | refine v_eqS ?_ | refine v_isN ?_ | refine v_int ?_ | refine v_abs ?_ | refine v_sliceT ?_ | refine v_sliceL ?_ | refine b_fx ?_ | refine b_tx ?_)
  | ((with_reducible refine i_var (d := ?yd) ?ye0 ?_); (case ye0 => rfl))
  | ((with_reducible refine i_gtup ?ye0 ?_); (case ye0 => rfl))
  | (with_reducible refine iteT ?_)
  | (with_reducible refine iteF ?_)
  | (with_reducible refine b_dec ?_ ?_ <;> intro hc)
  | (with_reducible refine b_ndec ?_ ?_ <;> intro hc)
  | ((with_reducible refine v_subT (d := ?yd) ?ye0 ?_); (case ye0 => rfl))
  | ((with_reducible refine v_subL (d := ?yd) ?ye0 ?_); (case ye0 => rfl))
  | ((with_reducible refine v_subM (ds := ?yds) (d := ?yd) ?ye0 ?ye1 ?_); (case ye0 => (walk_at "y_look")); (case ye1 => rfl))
  | ((with_reducible refine v_setL (ds := ?yds) (j := ?yj) ?ye0 ?ye1 ?_); (case ye0 => (walk_at "y_look")); (case ye1 => rfl))
  | ((with_reducible refine v_I ?ye0 ?_); (case ye0 => (walk_at "y_cond")))
  | ((with_reducible refine i_sz ?ye0 ?_); (case ye0 => (first | exact Nat.le_of_ble_eq_true rfl | (simp only [List.length_append, List.length_cons, List.length_nil, List.length_map, sizeLine_eq] at *; omega))))
  | (with_reducible refine i_new fun yp yhp => ?_)
  | ((with_reducible refine v_app (ds := ?yds) ?ye0 ?ye1 ?_); (case ye0 => (walk_at "y_look")); (case ye1 => (first | (simp only [List.length_append, List.length_cons, List.length_nil, List.length_map, sizeLine_eq] at *; omega))))
  | ((with_reducible refine i_tyL (ds := ?yds) ?ye0 ?_); (case ye0 => (walk_at "y_look")))
  | (with_reducible refine i_tyl ?_)
  | ((with_reducible refine v_subK (kvs := ?ykv) (k := ?yk) (d := ?yd) ?ye0 ?ye1 ?ye2 ?_); (case ye0 => (walk_at "y_look")); (case ye1 => rfl); (case ye2 => first | assumption | rfl))
  | ((with_reducible refine v_plusL (ds := ?yds) (es := ?yes) ?ye0 ?ye1 ?ye2 ?_); (case ye0 => first | rfl | (with_reducible refine lsD_ref (ds := ?yds2) ?yl0; walk_at "y_look")); (case ye1 => first | rfl | (with_reducible refine lsD_ref (ds := ?yds2) ?yl0; walk_at "y_look")); (case ye2 => (simp only [List.length_append, List.length_cons, List.length_nil, List.length_map, sizeLine_eq] at *; omega)))
  | ((with_reducible refine v_plusT ?ye0 ?_); (case ye0 => (simp only [List.length_append, List.length_cons, List.length_nil, List.length_map, sizeLine_eq] at *; omega)))
  | ((with_reducible refine i_rng1d ?ye0 ?_); (case ye0 => (constructor <;> omega)))
  | ((with_reducible refine v_len (n := ?yn) ?ye0 ?_); (case ye0 => first | ((with_reducible refine lenD_ref (ds := ?yds) ?yl0); (case yl0 => walk_at "y_look")) | rfl))
  | ((with_reducible refine v_list (es := ?yes) ?ye0 ?_); (case ye0 => first | (with_reducible refine itD_ref (ds := ?yds) ?yl0; walk_at "y_look") | rfl))
  | ((with_reducible refine v_tuple (es := ?yes) ?ye0 ?_); (case ye0 => first | (with_reducible refine itD_ref (ds := ?yds) ?yl0; walk_at "y_look") | rfl))
  | ((with_reducible refine v_eqP ?ye0 ?ye1 fun yb => ?_); (case ye0 => walk_at "y_pl"); (case ye1 => walk_at "y_pl"))
  | (with_reducible refine b_emp ?_ ?_ <;> intro hc)
  | (with_reducible refine i_trul ?_)
  | (with_reducible refine i_trut ?_)
  | (with_reducible refine i_trub ?_)
  | ((with_reducible refine v_inT ?ye0 ?_); (case ye0 => exact ⟨rfl, rfl⟩))
  | (with_reducible refine b_var ?_ ?_ <;> intro hc)
  | ((with_reducible refine i_its (ds := ?yds) ?ye0 ?_); (case ye0 => rfl)))
local macro_rules | `(tactic| walk_at "y0") => `(tactic| repeat' (walk_at "y1"))
local macro_rules | `(tactic| walk_at "ys") => `(tactic| walk_at "y0")
local macro_rules | `(tactic| walk_at "y_nn") => `(tactic| first | assumption | exact (put_none (by assumption)).2 | exact (put_none (put_none (by assumption)).2).2 | exact (put_none (put_none (put_none (by assumption)).2).2).2)
local macro_rules | `(tactic| walk_at "y_kl1") => `(tactic| first | (with_reducible exact KL.merge) | ((with_reducible refine KL.put (n := ?ykn) ?ykk); (case ykk => walk_at "y_kl1")))
local macro_rules | `(tactic| walk_at "y_kl") => `(tactic| ((refine KL.lt (n := ?yn) ?yk1 ?yk2); (case yk1 => walk_at "y_kl1"); (case yk2 => first | decide | (simp; done))))
local macro_rules | `(tactic| walk_at "y_fr") => `(tactic| first | exact Fr.refl _ _ | assumption | ((refine Fr.put ?yf1 ?yf2); (case yf2 => simp); (case yf1 => walk_at "y_fr")) | ((refine Fr.drop ?yf1 ?yf2); (case yf2 => simp); (case yf1 => walk_at "y_fr")))
local macro_rules | `(tactic| walk_at "y_fin") => `(tactic| first | assumption | rfl | walk_at "y_look" | walk_at "y_pl" | walk_at "y_fr" | omega | walk_at "y_len" | (intros; omega))
local macro_rules | `(tactic| walk_at "y_take") => `(tactic| ((with_reducible refine i_take (t := ?yt) ?yl ?yo ?yb fun yr yt' yr0 yr1 yok => ?_); (case yl => walk_at "y_look"); (case yo => assumption); (case yb => (constructor <;> first | omega | (simp; omega)))))
local macro_rules | `(tactic| walk_at "y_pick") => `(tactic| first | ((with_reducible refine i_pick2 (k := 0) (t := ?yt) ?yl ?yo ?yb ?yP fun yd yt' yP ym yok => ?_); (case yl => walk_at "y_look"); (case yo => assumption); (case yb => (constructor <;> walk_at "y_len")); (case yP => walk_at "y_pl")) | ((with_reducible refine i_pick2 (k := 5) (t := ?yt) ?yl ?yo ?yb ?yP fun yd yt' yP ym yok => ?_); (case yl => walk_at "y_look"); (case yo => assumption); (case yb => (constructor <;> walk_at "y_len")); (case yP => walk_at "y_pl")))
local macro_rules | `(tactic| walk_at "y2") => `(tactic| first | walk_at "y1" | walk_at "y_take" | walk_at "y_pick" | (with_reducible refine i_disp fun yp yhp => ?_) | (with_reducible refine i_pcons ?_) | (with_reducible refine i_pnil ?_) | (with_reducible refine i_mut ?_) | ((with_reducible refine v_inT' ?ye0 ?ye1 fun yb => ?_); (case ye0 => walk_at "y_pl"); (case ye1 => walk_at "y_pl")) | ((with_reducible refine v_setK (kvs := ?ykv) (k := ?yk) ?ye0 ?ye1 ?ye2 ?_); (case ye0 => walk_at "y_look"); (case ye1 => rfl); (case ye2 => walk_at "y_kl")) | ((with_reducible refine i_mutd (ds := ?yds) ?ye0 ?_); (case ye0 => walk_at "y_look")) | ((with_reducible refine i_glst' ?ye0 ?_); (case ye0 => rfl)))
local macro_rules | `(tactic| walk_at "ys") => `(tactic| repeat' (walk_at "y2"))
local macro_rules | `(tactic| walk_at "y1") => `(tactic| (with_reducible first | refine i_callX ?_ | refine i_methX ?_ | refine i_raise ?_ | refine i_tryAs ?_ | refine i_tryOnly ?_ | refine i_xf ?_ | refine i_isE ?_ | refine i_zip ?_ | refine i_enum ?_ | refine i_rev ?_))
local macro_rules | `(tactic| walk_at "y1") => `(tactic| ((with_reducible refine v_subLk (kvs := ?ykv) (k := ?yk) (d := ?yd) (od := ?yod) (xs := ?yxs) ?ye0 ?ye1 ?ye2 ?_); (case ye0 => (walk_at "y_look")); (case ye1 => rfl); (case ye2 => first | assumption | rfl)))
local macro_rules | `(tactic| walk_at "y1") => `(tactic| first
  | (with_reducible first | refine v_isT ?_ | refine v_isF ?_ | refine iteNT ?_ | refine iteNF ?_)
  | ((with_reducible refine v_isNF ?ye0 ?_); (case ye0 => rfl))
  | ((with_reducible refine v_isNT ?ye0 ?_); (case ye0 => rfl)))
local macro_rules | `(tactic| walk_at "y1") => `(tactic| ((with_reducible refine v_eqSame ?ye0 ?_); (case ye0 => walk_at "y_pl")))
theorem i_tyS {x : Str} {M : Mm} {A : Prop} (h : A) : tyD "str" (.str x) M ∧ A := ⟨rfl, h⟩
local macro_rules | `(tactic| walk_at "y1") => `(tactic| (with_reducible refine i_tyS ?_))
theorem v_plusStr {a b : Str} {M : Mm} {Q : QD} (h : a.length + b.length ≤ sizeLine) (q : Q (.str (a ++ b)) M) : plusD (.str a) (.str b) M Q := ⟨h, q⟩
theorem v_joinS {s : Str} {ws : List Str} {M : Mm} {Q : QD} (h : (ws.map (·.length)).sum + ws.length * s.length ≤ 16777216) (q : Q (.str (Txt.join s ws)) M) : mJoin (.str s) [.lst (ws.map D.str)] M Q :=
  ⟨s, _, _, ws, rfl, rfl, rfl, strsD_map ws, h, q⟩
theorem i_told {text : Str} {M : Mm} {Q : QD} {E : DX} {ws : List Str} {c : Str} {i : Nat} (e : Txt.words text = ws) (hl : text.length ≤ 1000000) (hw : ∀ w ∈ ws, okW w) (hn : ws.length ≤ 3000) (hp : pfin ws = .error (c, i)) (q : Q (.tup [.str c, .int (i : Nat)]) M) : spTold [.str text] M Q E :=
  ⟨text, rfl, ok_text e hl hw hn, fun d h => (by rw [e, hp] at h; cases h), fun c' i' h => (by rw [e, hp] at h; cases h; exact q)⟩
theorem i_refused {d : D} {M : Mm} {Q : QD} {E : DX} (h1 : okV M d) (h2 : cnt d ≤ 50000) (h3 : wd d = none) (q : Q (.bl true) M) : spRefused [d] M Q E := ⟨d, rfl, h1, h2, by rw [h3]; exact q⟩
def spLaw : DSp := fun ds M Q _ => ∃ ns : List Int, ds = [.lst (ns.map D.int)] ∧ ∀ M', Q (.bl true) M'
abbrev EL (Q : QD) : DEnds := { nx := fun _ M' => less Q .non M', rt := less Q }
theorem tail0 {CI CT : Addr} {Q : QD} {s x1 x4 x5 x6 x7 x8 x9 : Option D} {v : D} {ws : List Str} {x3 : Option D} {M : Mm} (k : ∀ M', Q (.bl true) M') (hV : Vl 7 v ws) : r_law_c0 spBegin spTake (spValue 7) (spFmt CI) (spParse CT) spTold spRefused (EL Q) [s, x1, some v, x3, x4, x5, x6, x7, x8, x9] M := by
  unfold r_law_c0
  walk_at "ys"
  refine v_mulS (n := 41) (by decide +kernel) ?_
  walk_at "ys"
  rename_i p hp
  refine for_wordG (fun i δ' M' => (∃ x9, δ' = [s, x1, some v, x3, x4, x5, x6, x7, x8, x9]) ∧ M' = put M p (.lst [.int 1])) ⟨⟨x9, rfl⟩, rfl⟩ ?_ ?_ (fun _ _ _ _ => trivial)
  · rintro i d δ' M' hd ⟨⟨x9, rfl⟩, rfl⟩
    obtain ⟨x, rfl, hl, hx⟩ := odds_ok (p := p) (M := put M p (.lst [.int 1])) put_same (List.mem_of_getElem? hd)
    have hcv := hV.c
    rw [show most 7 = 1457 from by decide] at hcv
    walk_at "ys"
    refine i_refused hl (by simp [cnt]) (wd_odd hx) ?_
    walk_at "ys"
    refine i_refused ⟨good_okV _ v hV.g, ⟨hl, trivial⟩, trivial⟩ (by simp [cnt, cntL]; omega) (wd_odd2 hx) ?_
    walk_at "ys"
    exact ⟨⟨_, rfl⟩, rfl⟩
  · rintro δ' M' ⟨⟨x9, rfl⟩, rfl⟩
    walk_at "ys"
    exact less_of (k _) rfl
theorem tail1 {CI CT : Addr} {Q : QD} {s x4 x6 x7 x8 x9 : Option D} {v : D} {ws : List Str} {a : Addr} {t : Tk} {M : Mm} (k : ∀ M', Q (.bl true) M') (hV : Vl 7 v ws) (hM : M a = some (tkM t)) (ok : t.ok) :
    r_law_c1 spBegin spTake (spValue 7) (spFmt CI) (spParse CT) spTold spRefused (EL Q) [s, some (.ref a), some v, some (.lst (ws.map D.str)), x4, some (.int (ws.length : Nat)), x6, x7, x8, x9] M := by
  have hF := hV.few
  have hn1 : 1 ≤ ws.length := Nat.pos_of_ne_zero fun z => hF.ne (List.length_eq_zero_iff.mp z)
  have hn2 := hF.n
  unfold r_law_c1
  walk_at "ys"
  rename_i r t1 r0 r1 ok1
  obtain ⟨n, rfl⟩ := Int.eq_ofNat_of_zero_le r0
  have hn : n < ws.length := by omega
  obtain ⟨w, hw⟩ : ∃ w, ws[n]? = some w := ⟨_, List.getElem?_eq_getElem hn⟩
  have hsplit : ws = ws.take n ++ w :: ws.drop (n + 1) := by
    rw [(List.getElem?_eq_some_iff.mp hw).2.symm, List.getElem_cons_drop, List.take_append_drop]
  refine .inl ⟨_, _, .str w, rfl, rfl, by rw [atI_nn, List.getElem?_map, hw]; rfl, ?_⟩
  have hokw := hF.ok w (List.mem_of_getElem? hw)
  have hpw : Pl 0 (.str w) := Pl.str (wordy_strOk hokw.1)
  walk_at "ys"
  · refine v_mulS (n := 30) (by decide +kernel) ?_
    refine v_plusStr (by rw [sizeLine_eq, repS_len]; decide +kernel) ?_
    walk_at "ys"
    refine v_mulS (n := 31) (by decide +kernel) ?_
    refine v_plusStr (by rw [sizeLine_eq, repS_len]; decide +kernel) ?_
    walk_at "ys"
    refine v_mulS (n := 41) (by decide +kernel) ?_
    walk_at "ys"
    refine for_wordG (fun i δ' M' => (∃ x7 x8, δ' = [s, some (.ref a), some v, some (.lst (ws.map D.str)), x4, some (.int (ws.length : Nat)), some (.int (n : Nat)), x7, x8, x9]) ∧ M' = put M a (tkM t1)) ⟨⟨x7, x8, rfl⟩, rfl⟩ ?_ ?_ (fun _ _ _ _ => trivial)
    · rintro i d δ' M' hd ⟨⟨x7, x8, rfl⟩, rfl⟩
      obtain ⟨b, c, rfl, hb⟩ := bads_ok (List.mem_of_getElem? hd)
      have hl1 : (ws.take n).length ≤ 2000 := by rw [List.length_take]; omega
      have hl2 : (ws.drop (n + 1)).length ≤ 2000 := by rw [List.length_drop]; omega
      have hF2 : Few (ws.take n ++ b :: ws.drop (n + 1)) := by
        refine ⟨by simp, fun w' hw' => ?_, ?_⟩
        · simp only [List.mem_append, List.mem_cons] at hw'
          rcases hw' with h | rfl | h
          · exact hF.ok w' (List.mem_of_mem_take h)
          · exact hb.w
          · exact hF.ok w' (List.mem_of_mem_drop h)
        · simp only [List.length_append, List.length_cons, List.length_take, List.length_drop]
          omega
      have hpb : Pl 0 (.str c) := Pl.str hb.p
      walk_at "ys"
      rw [cut_to, ← List.map_take]
      walk_at "ys"
      rw [show ((n : Nat) : Int) + 1 = ((n + 1 : Nat) : Int) from rfl, cut_from, ← List.map_drop]
      walk_at "ys"
      have eL : (ws.take n).map D.str ++ [D.str b] ++ (ws.drop (n + 1)).map D.str = (ws.take n ++ b :: ws.drop (n + 1)).map D.str := by simp
      rw [eL]
      refine v_joinS ?_ ?_
      · have h1 := hF2.sum
        have h2 := hF2.n
        have e1 : (" " : Str).length = 1 := by decide +kernel
        rw [e1]
        omega
      walk_at "ys"
      have hp : pfin (ws.take n ++ b :: ws.drop (n + 1)) = .error (c, n) := by
        have := fin_bad (u := ws.take n) (v := ws.drop (n + 1)) (w := w) (b := b) (c := c) hV.g (by rw [← hsplit]; exact hV.w) hb.e hb.n1 hb.n2
        rw [this, List.length_take, Nat.min_eq_left (by omega)]
      refine i_told (words_join hF2.ne hF2.wordy) ?_ hF2.ok (by have := hF2.n; omega) hp ?_
      · have := hF2.len (sep := " ") (by decide +kernel)
        omega
      walk_at "ys"
      exact ⟨⟨_, _, rfl⟩, rfl⟩
    · rintro δ' M' ⟨⟨x7, x8, rfl⟩, rfl⟩
      exact tail0 (CI := CI) (CT := CT) k hV
  · exact tail0 (CI := CI) (CT := CT) k hV
theorem tail2 {CI CT : Addr} {Q : QD} {s x6 x7 x8 x9 : Option D} {v : D} {ws : List Str} {a : Addr} {t : Tk} {M : Mm} (k : ∀ M', Q (.bl true) M') (hV : Vl 7 v ws) (hM : M a = some (tkM t)) (ok : t.ok) :
    r_law_c3 spBegin spTake (spValue 7) (spFmt CI) (spParse CT) spTold spRefused (EL Q) [s, some (.ref a), some v, some (.lst (ws.map D.str)), some (.str (Txt.join " " ws)), none, x6, x7, x8, x9] M := by
  have hF := hV.few
  have hn2 := hF.n
  have hl := hF.len (sep := " ") (by decide +kernel)
  have ew : ∀ w ∈ ([("x" : Str), ")", "("] : List Str), okW w := by decide +kernel
  have app : ∀ {w : Str}, okW w → ∀ u ∈ ws ++ [w], okW u := fun {w} h u hu => by
    rcases List.mem_append.mp hu with hu | hu
    · exact hF.ok u hu
    · simp at hu; subst hu; exact h
  have ahd : ∀ {w : Str}, okW w → ∀ u ∈ w :: ws, okW u := fun {w} h u hu => by
    rcases List.mem_cons.mp hu with rfl | hu
    · exact h
    · exact hF.ok u hu
  have sz : ∀ {z : Str}, z.length = 2 → (Txt.join " " ws).length + z.length ≤ sizeLine := fun {z} h => by rw [sizeLine_eq, h]; omega
  have sz' : ∀ {z : Str}, z.length = 2 → z.length + (Txt.join " " ws).length ≤ sizeLine := fun {z} h => by rw [sizeLine_eq, h]; omega
  have s1 : (" x" : Str).length = 2 := by decide +kernel
  have s2 : (" )" : Str).length = 2 := by decide +kernel
  have s3 : ("( " : Str).length = 2 := by decide +kernel
  have s4 : (") " : Str).length = 2 := by decide +kernel
  have la : ∀ a b : Str, (a ++ b).length = a.length + b.length := strLen_append
  unfold r_law_c3
  walk_at "ys"
  rw [List.length_map]
  walk_at "ys"
  refine v_plusStr (sz s1) ?_
  walk_at "ys"
  refine i_told (words_more hF.ne hF.wordy (x := "x") (by decide +kernel) (by decide +kernel)) (by rw [la]; omega) (app (ew _ (by simp))) (by simp; omega) (fin_more hV.g hV.w "x") ?_
  walk_at "ys"
  refine v_plusStr (sz s2) ?_
  walk_at "ys"
  refine i_told (words_more hF.ne hF.wordy (x := ")") (by decide +kernel) (by decide +kernel)) (by rw [la]; omega) (app (ew _ (by simp))) (by simp; omega) (fin_more hV.g hV.w ")") ?_
  walk_at "ys"
  refine v_plusStr (sz' s3) ?_
  walk_at "ys"
  refine i_told (words_ahead hF.ne hF.wordy (x := "(") (by decide +kernel) (by decide +kernel)) (by rw [la]; omega) (ahd (ew _ (by simp))) (by simp; omega) (fin_open hV.g hV.w) ?_
  rw [show ((ws.length + 1 : Nat) : Int) = ((ws.length : Nat) : Int) + 1 from rfl]
  walk_at "ys"
  unfold r_law_c2
  walk_at "ys"
  refine v_plusStr (sz' s4) ?_
  walk_at "ys"
  refine i_told (words_ahead hF.ne hF.wordy (x := ")") (by decide +kernel) (by decide +kernel)) (by rw [la]; omega) (ahd (ew _ (by simp))) (by simp; omega) (fin_close ws) ?_
  rw [show ((0 : Nat) : Int) = 0 from rfl]
  walk_at "ys"
  refine i_told words_none (by decide +kernel) (fun w hw => nomatch hw) (by simp) fin_nil ?_
  rw [show ((0 : Nat) : Int) = 0 from rfl]
  walk_at "ys"
  exact tail1 (CI := CI) (CT := CT) k hV hM ok
theorem rd_law {CI CT : Addr} (ds : List D) (M : Mm) (Q : QD) (E : DX) (h : spLaw ds M Q E) : r_law spBegin spTake (spValue 7) (spFmt CI) (spParse CT) spTold spRefused { nx := fun _ M' => less Q .non M', rt := less Q } (startD 10 ds) M := by
  obtain ⟨ns, rfl, k⟩ := h
  show r_law _ _ _ _ _ _ _ _ [some (.lst (ns.map D.int)), none, none, none, none, none, none, none, none, none] M
  unfold r_law
  walk_at "ys"
  refine ⟨ns, rfl, fun a t ha ok => ?_⟩
  walk_at "ys"
  rename_i r t1 r0 r1 ok1
  rw [put_put]
  refine ⟨a, t1, r, rfl, put_same, ok1, r0, by omega, by omega, by omega, fun v ws t2 hV _ ok2 => ?_⟩
  rw [put_put]
  have hF := hV.few
  have hn2 := hF.n
  have hl := hF.len (sep := " ") (by decide +kernel)
  have hl2 := hF.len (sep := "\n ") (by decide +kernel)
  have hsum := hF.sum
  have hc := hV.c
  rw [show most 7 = 1457 from by decide] at hc
  have hpv := hV.pl
  have hsh := hV.shown
  have s1 : (" " : Str).length = 1 := by decide +kernel
  have s2 : ("\n " : Str).length = 2 := by decide +kernel
  have la : ∀ a b : Str, (a ++ b).length = a.length + b.length := strLen_append
  walk_at "ys"
  refine v_joinS (by rw [s1]; omega) ?_
  walk_at "ys"
  refine ⟨v, rfl, good_okV _ v hV.g, by omega, fun ws' e => ?_, fun e => by rw [hV.w] at e; cases e⟩
  have e' := hV.w.symm.trans e
  cases e'
  walk_at "ys"
  · rename_i hne
    exact absurd rfl hne
  refine ⟨_, rfl, (ok_text (words_join hF.ne hF.wordy) (by omega) hF.ok (by omega)).1, (ok_text (words_join hF.ne hF.wordy) (by omega) hF.ok (by omega)).2.1, (ok_text (words_join hF.ne hF.wordy) (by omega) hF.ok (by omega)).2.2, fun d e => ?_, fun c i e => by rw [words_join hF.ne hF.wordy, fin_ok hV.g hV.w] at e; cases e⟩
  rw [words_join hF.ne hF.wordy, fin_ok hV.g hV.w] at e
  cases e
  walk_at "ys"
  refine v_joinS (by rw [s2]; omega) ?_
  walk_at "ys"
  refine v_plusStr (by rw [sizeLine_eq, s1]; omega) ?_
  walk_at "ys"
  have okb := ok_text (t := Txt.join "\n " ws ++ " ") (words_blank hF.ne hF.wordy) (by rw [la, s1]; omega) hF.ok (by omega)
  refine ⟨_, rfl, okb.1, okb.2.1, okb.2.2, fun d e => ?_, fun c i e => by rw [words_blank hF.ne hF.wordy, fin_ok hV.g hV.w] at e; cases e⟩
  rw [words_blank hF.ne hF.wordy, fin_ok hV.g hV.w] at e
  cases e
  walk_at "ys"
  refine ⟨v, rfl, hpv.1, hpv.2, hsh.1, by rw [sizeLine_eq]; omega, ?_⟩
  walk_at "ys"
  refine ⟨v, rfl, hpv.1, hpv.2, hsh.1, by rw [sizeLine_eq]; omega, ?_⟩
  walk_at "ys"
  · rename_i hne
    exact absurd rfl hne
  · exact tail2 (CI := CI) (CT := CT) k hV put_same ok2
end K26


set_option Elab.async false
set_option linter.all false
set_option maxRecDepth 100000
set_option maxHeartbeats 4000000
/-! the join of the law, printed by joinlib.py -/
namespace K26
open PySem PySem.Spec PyProof.Rows L2 Y YD
theorem room11 : Room 12 callerA := ⟨rfl, by decide, by decide⟩
theorem supsc_InputError : SupScope [("self" : Str), "code"] (defScope (inClass (topS 2) 0)) := ⟨rfl, rfl, rfl, by decide +kernel, by decide +kernel, by decide +kernel, by decide +kernel, by decide +kernel, by decide +kernel⟩
theorem supsc_TextError : SupScope [("self" : Str), "code", "at"] (defScope (inClass (topS 3) 0)) := ⟨rfl, rfl, rfl, by decide +kernel, by decide +kernel, by decide +kernel, by decide +kernel, by decide +kernel, by decide +kernel⟩
theorem fn_false {P : Program} {w : World} {K : PySem.W.Frag} {mg : Str → Option Value} {base : Heap} {CX : CXT} {k : Nat} {f : Addr} {fd : FuncData} {ps : List Str} : FnOk P w K mg base CX k f fd ps (spOf K fun _ _ _ _ => False) :=
  ⟨fun _ _ _ _ ⟨_, _, _, _, _, _, _, h, _⟩ => h.elim, fun _ _ _ _ _ _ _ _ _ _ _ _ _ ⟨_, _, _, _, _, _, _, h, _⟩ => h.elim⟩
section
variable {P : Program} {w : World} {K : PySem.W.Frag} {mg : Str → Option Value} {base : Heap}
theorem ok_all (T : Txt K mg)
    {C_HeldError : Addr} (gc_HeldError : mg "HeldError" = some (.ref C_HeldError))
    {C_InputError : Addr} (gc_InputError : mg "InputError" = some (.ref C_InputError))
    {C_TextError : Addr} (gc_TextError : mg "TextError" = some (.ref C_TextError))
    (x_InputError : Xcal P w K mg base 1 "InputError" C_InputError ["code"])
    (x_TextError : Xcal P w K mg base 1 "TextError" C_TextError ["code", "at"])
    (tg_LETTERS : ∃ u v, mg "LETTERS" = some u ∧ RelV v u ∧ ∀ F, Rep K F v g_LETTERS)
    (tg_DIGITS : ∃ u v, mg "DIGITS" = some u ∧ RelV v u ∧ ∀ F, Rep K F v g_DIGITS)
    (tg_OTHERS : ∃ u v, mg "OTHERS" = some u ∧ RelV v u ∧ ∀ F, Rep K F v g_OTHERS)
    (tg_NOTHING : ∃ u v, mg "NOTHING" = some u ∧ RelV v u ∧ ∀ F, Rep K F v g_NOTHING)
    (tg_MOST_WORD : ∃ u v, mg "MOST_WORD" = some u ∧ RelV v u ∧ ∀ F, Rep K F v g_MOST_WORD)
    (xt : XT K C_HeldError C_InputError C_TextError)
    {f__law_begin : Addr} {fd__law_begin : FuncData}
    (F__law_begin : Fun K "_law_begin" "_law_begin" st__law_begin f__law_begin fd__law_begin)
    (b__law_begin : L2.Binds K fd__law_begin ["script"] [])
    (g__law_begin : mg "_law_begin" = some (.ref f__law_begin)) (q__law_begin : PySem.W.keepIn K (.ref f__law_begin) = true)
    {f__law_take : Addr} {fd__law_take : FuncData}
    (F__law_take : Fun K "_law_take" "_law_take" st__law_take f__law_take fd__law_take)
    (b__law_take : L2.Binds K fd__law_take ["d", "many"] [])
    (g__law_take : mg "_law_take" = some (.ref f__law_take)) (q__law_take : PySem.W.keepIn K (.ref f__law_take) = true)
    {f__law_pick : Addr} {fd__law_pick : FuncData}
    (F__law_pick : Fun K "_law_pick" "_law_pick" st__law_pick f__law_pick fd__law_pick)
    (b__law_pick : L2.Binds K fd__law_pick ["d", "menu"] [])
    (g__law_pick : mg "_law_pick" = some (.ref f__law_pick)) (q__law_pick : PySem.W.keepIn K (.ref f__law_pick) = true)
    {f__law_leaf : Addr} {fd__law_leaf : FuncData}
    (F__law_leaf : Fun K "_law_leaf" "_law_leaf" st__law_leaf f__law_leaf fd__law_leaf)
    (b__law_leaf : L2.Binds K fd__law_leaf ["d"] [])
    (g__law_leaf : mg "_law_leaf" = some (.ref f__law_leaf)) (q__law_leaf : PySem.W.keepIn K (.ref f__law_leaf) = true)
    {f__law_value : Addr} {fd__law_value : FuncData}
    (F__law_value : Fun K "_law_value" "_law_value" st__law_value f__law_value fd__law_value)
    (b__law_value : L2.Binds K fd__law_value ["d", "depth"] [])
    (g__law_value : mg "_law_value" = some (.ref f__law_value)) (q__law_value : PySem.W.keepIn K (.ref f__law_value) = true)
    {f_is_whole : Addr} {fd_is_whole : FuncData}
    (F_is_whole : Fun K "is_whole" "is_whole" st_is_whole f_is_whole fd_is_whole)
    (b_is_whole : L2.Binds K fd_is_whole ["value"] [])
    (g_is_whole : mg "is_whole" = some (.ref f_is_whole)) (q_is_whole : PySem.W.keepIn K (.ref f_is_whole) = true)
    {f_is_number : Addr} {fd_is_number : FuncData}
    (F_is_number : Fun K "is_number" "is_number" st_is_number f_is_number fd_is_number)
    (b_is_number : L2.Binds K fd_is_number ["value"] [])
    (g_is_number : mg "is_number" = some (.ref f_is_number)) (q_is_number : PySem.W.keepIn K (.ref f_is_number) = true)
    {f_is_word : Addr} {fd_is_word : FuncData}
    (F_is_word : Fun K "is_word" "is_word" st_is_word f_is_word fd_is_word)
    (b_is_word : L2.Binds K fd_is_word ["text"] [])
    (g_is_word : mg "is_word" = some (.ref f_is_word)) (q_is_word : PySem.W.keepIn K (.ref f_is_word) = true)
    {f_word_for : Addr} {fd_word_for : FuncData}
    (F_word_for : Fun K "word_for" "word_for" st_word_for f_word_for fd_word_for)
    (b_word_for : L2.Binds K fd_word_for ["value"] [])
    (g_word_for : mg "word_for" = some (.ref f_word_for)) (q_word_for : PySem.W.keepIn K (.ref f_word_for) = true)
    {f_format_paper : Addr} {fd_format_paper : FuncData}
    (F_format_paper : Fun K "format_paper" "format_paper" st_format_paper f_format_paper fd_format_paper)
    (b_format_paper : L2.Binds K fd_format_paper ["value"] [])
    (g_format_paper : mg "format_paper" = some (.ref f_format_paper)) (q_format_paper : PySem.W.keepIn K (.ref f_format_paper) = true)
    {f_value_of_word : Addr} {fd_value_of_word : FuncData}
    (F_value_of_word : Fun K "value_of_word" "value_of_word" st_value_of_word f_value_of_word fd_value_of_word)
    (b_value_of_word : L2.Binds K fd_value_of_word ["word", "at"] [])
    (g_value_of_word : mg "value_of_word" = some (.ref f_value_of_word)) (q_value_of_word : PySem.W.keepIn K (.ref f_value_of_word) = true)
    {f_parse_paper : Addr} {fd_parse_paper : FuncData}
    (F_parse_paper : Fun K "parse_paper" "parse_paper" st_parse_paper f_parse_paper fd_parse_paper)
    (b_parse_paper : L2.Binds K fd_parse_paper ["text"] [])
    (g_parse_paper : mg "parse_paper" = some (.ref f_parse_paper)) (q_parse_paper : PySem.W.keepIn K (.ref f_parse_paper) = true)
    {f__law_told : Addr} {fd__law_told : FuncData}
    (F__law_told : Fun K "_law_told" "_law_told" st__law_told f__law_told fd__law_told)
    (b__law_told : L2.Binds K fd__law_told ["text"] [])
    (g__law_told : mg "_law_told" = some (.ref f__law_told)) (q__law_told : PySem.W.keepIn K (.ref f__law_told) = true)
    {f__law_refused : Addr} {fd__law_refused : FuncData}
    (F__law_refused : Fun K "_law_refused" "_law_refused" st__law_refused f__law_refused fd__law_refused)
    (b__law_refused : L2.Binds K fd__law_refused ["value"] [])
    (g__law_refused : mg "_law_refused" = some (.ref f__law_refused)) (q__law_refused : PySem.W.keepIn K (.ref f__law_refused) = true)
    {f_law : Addr} {fd_law : FuncData}
    (F_law : Fun K "law" "law" st_law f_law fd_law)
    (b_law : L2.Binds K fd_law ["script"] [])
    (g_law : mg "law" = some (.ref f_law)) (q_law : PySem.W.keepIn K (.ref f_law) = true)
    : RunAt P w K mg base callerA f_law fd_law ["script"] (spOf K spLaw) := by
  have o_begin : FnOk P w K mg base CX0 1 f__law_begin fd__law_begin ["script"] (spOf K spBegin) := okD (k := 0) F__law_begin sc__law_begin (fun ds M Q E h => by obtain ⟨_, rfl, _⟩ := h; rfl) fun cdv A outer s0 H E hr => ⟨_, t__law_begin T hr , fun ds M Q E h => rd_begin ds M Q E h⟩
  have c_begin : Cal P w K mg base CX0 1 "_law_begin" ["script"] spBegin := ⟨⟨f__law_begin, fd__law_begin, g__law_begin, q__law_begin, b__law_begin, o_begin⟩⟩
  have o_take : FnOk P w K mg base CX0 1 f__law_take fd__law_take ["d", "many"] (spOf K spTake) := okD (k := 0) F__law_take sc__law_take (fun ds M Q E h => by obtain ⟨_, _, _, rfl, _⟩ := h; rfl) fun cdv A outer s0 H E hr => ⟨_, t__law_take T hr , fun ds M Q E h => rd_take ds M Q E h⟩
  have c_take : Cal P w K mg base CX0 1 "_law_take" ["d", "many"] spTake := ⟨⟨f__law_take, fd__law_take, g__law_take, q__law_take, b__law_take, o_take⟩⟩
  have o_pick : FnOk P w K mg base CX0 2 f__law_pick fd__law_pick ["d", "menu"] (spOf K spPick) := okD (k := 1) F__law_pick sc__law_pick (fun ds M Q E h => by obtain ⟨_, _, _, rfl, _⟩ := h; rfl) fun cdv A outer s0 H E hr => ⟨_, t__law_pick T hr c_take (by decide), fun ds M Q E h => rd_pick ds M Q E h⟩
  have c_pick : Cal P w K mg base CX0 2 "_law_pick" ["d", "menu"] spPick := ⟨⟨f__law_pick, fd__law_pick, g__law_pick, q__law_pick, b__law_pick, o_pick⟩⟩
  have o_leaf : FnOk P w K mg base CX0 3 f__law_leaf fd__law_leaf ["d"] (spOf K spLeaf) := okD (k := 2) F__law_leaf sc__law_leaf (fun ds M Q E h => by obtain ⟨_, _, rfl, _⟩ := h; rfl) fun cdv A outer s0 H E hr => ⟨_, t__law_leaf T hr c_take (by decide) c_pick (by decide), fun ds M Q E h => rd_leaf ds M Q E h⟩
  have c_leaf : Cal P w K mg base CX0 3 "_law_leaf" ["d"] spLeaf := ⟨⟨f__law_leaf, fd__law_leaf, g__law_leaf, q__law_leaf, b__law_leaf, o_leaf⟩⟩
  have o_value0 : FnOk P w K mg base CX0 4 f__law_value fd__law_value ["d", "depth"] (spOf K (spValue 0)) := okD (k := 3) F__law_value sc__law_value (fun ds M Q E h => by obtain ⟨_, _, _, rfl, _⟩ := h; rfl) fun cdv A outer s0 H E hr => ⟨_, t__law_value T hr c_take (by decide) c_leaf (by decide) ((⟨⟨f__law_value, fd__law_value, g__law_value, q__law_value, b__law_value, fn_false⟩⟩ : Cal P w K mg base CX0 0 "_law_value" ["d", "depth"] _)) (Nat.zero_le _), fun ds M Q E h => rd_value 0 _ (fun _ _ _ _ h _ => absurd rfl h) ds M Q E h⟩
  have c_value0 : Cal P w K mg base CX0 4 "_law_value" ["d", "depth"] (spValue 0) := ⟨⟨f__law_value, fd__law_value, g__law_value, q__law_value, b__law_value, o_value0⟩⟩
  have o_value1 : FnOk P w K mg base CX0 5 f__law_value fd__law_value ["d", "depth"] (spOf K (spValue 1)) := okD (k := 4) F__law_value sc__law_value (fun ds M Q E h => by obtain ⟨_, _, _, rfl, _⟩ := h; rfl) fun cdv A outer s0 H E hr => ⟨_, t__law_value T hr c_take (by decide) c_leaf (by decide) c_value0 (by decide), fun ds M Q E h => rd_value 1 _ (fun _ _ _ _ _ h => h) ds M Q E h⟩
  have c_value1 : Cal P w K mg base CX0 5 "_law_value" ["d", "depth"] (spValue 1) := ⟨⟨f__law_value, fd__law_value, g__law_value, q__law_value, b__law_value, o_value1⟩⟩
  have o_value2 : FnOk P w K mg base CX0 6 f__law_value fd__law_value ["d", "depth"] (spOf K (spValue 2)) := okD (k := 5) F__law_value sc__law_value (fun ds M Q E h => by obtain ⟨_, _, _, rfl, _⟩ := h; rfl) fun cdv A outer s0 H E hr => ⟨_, t__law_value T hr c_take (by decide) c_leaf (by decide) c_value1 (by decide), fun ds M Q E h => rd_value 2 _ (fun _ _ _ _ _ h => h) ds M Q E h⟩
  have c_value2 : Cal P w K mg base CX0 6 "_law_value" ["d", "depth"] (spValue 2) := ⟨⟨f__law_value, fd__law_value, g__law_value, q__law_value, b__law_value, o_value2⟩⟩
  have o_value3 : FnOk P w K mg base CX0 7 f__law_value fd__law_value ["d", "depth"] (spOf K (spValue 3)) := okD (k := 6) F__law_value sc__law_value (fun ds M Q E h => by obtain ⟨_, _, _, rfl, _⟩ := h; rfl) fun cdv A outer s0 H E hr => ⟨_, t__law_value T hr c_take (by decide) c_leaf (by decide) c_value2 (by decide), fun ds M Q E h => rd_value 3 _ (fun _ _ _ _ _ h => h) ds M Q E h⟩
  have c_value3 : Cal P w K mg base CX0 7 "_law_value" ["d", "depth"] (spValue 3) := ⟨⟨f__law_value, fd__law_value, g__law_value, q__law_value, b__law_value, o_value3⟩⟩
  have o_value4 : FnOk P w K mg base CX0 8 f__law_value fd__law_value ["d", "depth"] (spOf K (spValue 4)) := okD (k := 7) F__law_value sc__law_value (fun ds M Q E h => by obtain ⟨_, _, _, rfl, _⟩ := h; rfl) fun cdv A outer s0 H E hr => ⟨_, t__law_value T hr c_take (by decide) c_leaf (by decide) c_value3 (by decide), fun ds M Q E h => rd_value 4 _ (fun _ _ _ _ _ h => h) ds M Q E h⟩
  have c_value4 : Cal P w K mg base CX0 8 "_law_value" ["d", "depth"] (spValue 4) := ⟨⟨f__law_value, fd__law_value, g__law_value, q__law_value, b__law_value, o_value4⟩⟩
  have o_value5 : FnOk P w K mg base CX0 9 f__law_value fd__law_value ["d", "depth"] (spOf K (spValue 5)) := okD (k := 8) F__law_value sc__law_value (fun ds M Q E h => by obtain ⟨_, _, _, rfl, _⟩ := h; rfl) fun cdv A outer s0 H E hr => ⟨_, t__law_value T hr c_take (by decide) c_leaf (by decide) c_value4 (by decide), fun ds M Q E h => rd_value 5 _ (fun _ _ _ _ _ h => h) ds M Q E h⟩
  have c_value5 : Cal P w K mg base CX0 9 "_law_value" ["d", "depth"] (spValue 5) := ⟨⟨f__law_value, fd__law_value, g__law_value, q__law_value, b__law_value, o_value5⟩⟩
  have o_value6 : FnOk P w K mg base CX0 10 f__law_value fd__law_value ["d", "depth"] (spOf K (spValue 6)) := okD (k := 9) F__law_value sc__law_value (fun ds M Q E h => by obtain ⟨_, _, _, rfl, _⟩ := h; rfl) fun cdv A outer s0 H E hr => ⟨_, t__law_value T hr c_take (by decide) c_leaf (by decide) c_value5 (by decide), fun ds M Q E h => rd_value 6 _ (fun _ _ _ _ _ h => h) ds M Q E h⟩
  have c_value6 : Cal P w K mg base CX0 10 "_law_value" ["d", "depth"] (spValue 6) := ⟨⟨f__law_value, fd__law_value, g__law_value, q__law_value, b__law_value, o_value6⟩⟩
  have o_value7 : FnOk P w K mg base CX0 11 f__law_value fd__law_value ["d", "depth"] (spOf K (spValue 7)) := okD (k := 10) F__law_value sc__law_value (fun ds M Q E h => by obtain ⟨_, _, _, rfl, _⟩ := h; rfl) fun cdv A outer s0 H E hr => ⟨_, t__law_value T hr c_take (by decide) c_leaf (by decide) c_value6 (by decide), fun ds M Q E h => rd_value 7 _ (fun _ _ _ _ _ h => h) ds M Q E h⟩
  have c_value7 : Cal P w K mg base CX0 11 "_law_value" ["d", "depth"] (spValue 7) := ⟨⟨f__law_value, fd__law_value, g__law_value, q__law_value, b__law_value, o_value7⟩⟩
  have o_whole : FnOk P w K mg base CX0 1 f_is_whole fd_is_whole ["value"] (spOf K spWhole) := okD (k := 0) F_is_whole sc_is_whole (fun ds M Q E h => by obtain ⟨_, _, _, _, rfl, _⟩ := h; rfl) fun cdv A outer s0 H E hr => ⟨_, t_is_whole T hr , fun ds M Q E h => rd_whole ds M Q E h⟩
  have c_whole : Cal P w K mg base CX0 1 "is_whole" ["value"] spWhole := ⟨⟨f_is_whole, fd_is_whole, g_is_whole, q_is_whole, b_is_whole, o_whole⟩⟩
  have o_number : FnOk P w K mg base CX0 2 f_is_number fd_is_number ["value"] (spOf K spNumber) := okD (k := 1) F_is_number sc_is_number (fun ds M Q E h => by obtain ⟨_, rfl, _⟩ := h; rfl) fun cdv A outer s0 H E hr => ⟨_, t_is_number T hr c_whole (by decide), fun ds M Q E h => rd_number ds M Q E h⟩
  have c_number : Cal P w K mg base CX0 2 "is_number" ["value"] spNumber := ⟨⟨f_is_number, fd_is_number, g_is_number, q_is_number, b_is_number, o_number⟩⟩
  have o_word : FnOk P w K mg base CX0 1 f_is_word fd_is_word ["text"] (spOf K spWord) := okD (k := 0) F_is_word sc_is_word (fun ds M Q E h => by obtain ⟨_, rfl, _⟩ := h; rfl) fun cdv A outer s0 H E hr => ⟨_, t_is_word T hr tg_MOST_WORD tg_DIGITS tg_LETTERS tg_OTHERS, fun ds M Q E h => rd_word ds M Q E h⟩
  have c_word : Cal P w K mg base CX0 1 "is_word" ["text"] spWord := ⟨⟨f_is_word, fd_is_word, g_is_word, q_is_word, b_is_word, o_word⟩⟩
  have o_wf : FnOk P w K mg base (L2.CX P w) 3 f_word_for fd_word_for ["value"] (spOf K (spWf C_InputError)) := okDX (k := 2) F_word_for sc_word_for (fun ds M Q E h => by obtain ⟨_, rfl, _⟩ := h; rfl) fun cdv A outer s0 H E hr => ⟨_, fun B W tk => t_word_for T hr tg_NOTHING c_word (by decide) c_number (by decide) x_InputError (by decide) tk, fun ds M Q E h => rd_wf C_InputError ds M Q E h⟩
  have c_wf : Cal P w K mg base (L2.CX P w) 3 "word_for" ["value"] (spWf C_InputError) := ⟨⟨f_word_for, fd_word_for, g_word_for, q_word_for, b_word_for, o_wf⟩⟩
  have o_fmt : FnOk P w K mg base (L2.CX P w) 4 f_format_paper fd_format_paper ["value"] (spOf K (spFmt C_InputError)) := okDX (k := 3) F_format_paper sc_format_paper (fun ds M Q E h => by obtain ⟨_, rfl, _⟩ := h; rfl) fun cdv A outer s0 H E hr => ⟨_, fun B W tk => t_format_paper T hr c_wf (by decide) tk, fun ds M Q E h => rd_format_paper C_InputError ds M Q E h⟩
  have c_fmt : Cal P w K mg base (L2.CX P w) 4 "format_paper" ["value"] (spFmt C_InputError) := ⟨⟨f_format_paper, fd_format_paper, g_format_paper, q_format_paper, b_format_paper, o_fmt⟩⟩
  have o_vw : FnOk P w K mg base (L2.CX P w) 3 f_value_of_word fd_value_of_word ["word", "at"] (spOf K (spVw C_TextError)) := okDX (k := 2) F_value_of_word sc_value_of_word (fun ds M Q E h => by obtain ⟨_, _, rfl, _⟩ := h; rfl) fun cdv A outer s0 H E hr => ⟨_, fun B W tk => t_value_of_word T hr tg_NOTHING tg_DIGITS x_TextError (by decide) c_word (by decide) tk, fun ds M Q E h => rd_vw C_TextError ds M Q E h⟩
  have c_vw : Cal P w K mg base (L2.CX P w) 3 "value_of_word" ["word", "at"] (spVw C_TextError) := ⟨⟨f_value_of_word, fd_value_of_word, g_value_of_word, q_value_of_word, b_value_of_word, o_vw⟩⟩
  have o_parse : FnOk P w K mg base (L2.CX P w) 4 f_parse_paper fd_parse_paper ["text"] (spOf K (spParse C_TextError)) := okDX (k := 3) F_parse_paper sc_parse_paper (fun ds M Q E h => by obtain ⟨_, rfl, _⟩ := h; rfl) fun cdv A outer s0 H E hr => ⟨_, fun B W tk => t_parse_paper T hr x_TextError (by decide) c_vw (by decide) tk, fun ds M Q E h => rd_parse_paper C_TextError ds M Q E h⟩
  have c_parse : Cal P w K mg base (L2.CX P w) 4 "parse_paper" ["text"] (spParse C_TextError) := ⟨⟨f_parse_paper, fd_parse_paper, g_parse_paper, q_parse_paper, b_parse_paper, o_parse⟩⟩
  have o_told : FnOk P w K mg base CX0 5 f__law_told fd__law_told ["text"] (spOf K spTold) := okD (k := 4) F__law_told sc__law_told (fun ds M Q E h => by obtain ⟨_, rfl, _⟩ := h; rfl) fun cdv A outer s0 H E hr => ⟨_, t__law_told T hr gc_HeldError c_parse (by decide) gc_TextError, fun ds M Q E h => rd_told xt ds M Q E h⟩
  have c_told : Cal P w K mg base CX0 5 "_law_told" ["text"] spTold := ⟨⟨f__law_told, fd__law_told, g__law_told, q__law_told, b__law_told, o_told⟩⟩
  have o_refused : FnOk P w K mg base CX0 5 f__law_refused fd__law_refused ["value"] (spOf K spRefused) := okD (k := 4) F__law_refused sc__law_refused (fun ds M Q E h => by obtain ⟨_, rfl, _⟩ := h; rfl) fun cdv A outer s0 H E hr => ⟨_, t__law_refused T hr gc_HeldError c_fmt (by decide) gc_InputError, fun ds M Q E h => rd_refused xt ds M Q E h⟩
  have c_refused : Cal P w K mg base CX0 5 "_law_refused" ["value"] spRefused := ⟨⟨f__law_refused, fd__law_refused, g__law_refused, q__law_refused, b__law_refused, o_refused⟩⟩
  have o_law := runAt (P := P) (w := w) (mg := mg) (base := base) (sp := spLaw) (k := 11) F_law sc_law (fun ds M Q E h => by obtain ⟨_, rfl, _⟩ := h; rfl) room11 fun cdv outer s0 H E hr => ⟨_, t_law T hr rfl c_begin (by decide) c_take (by decide) c_value7 (by decide) c_fmt (by decide) c_parse (by decide) c_told (by decide) c_refused (by decide), fun ds M Q E h => rd_law (CI := C_InputError) (CT := C_TextError) ds M Q E h⟩
  exact o_law
end
theorem all_mk {l : PySem.W.OpenLaw} {w : World} {K : PySem.W.Frag} {h : Heap} {mg : Str → Option Value} {fa : Addr} (X : K.In h) (G : h.Ns mainGlobals mg) (hfa : mg "law" = some (.ref fa))
    {f__law_begin f__law_take f__law_pick f__law_leaf f__law_value f_is_whole f_is_number f_is_word f_word_for f_format_paper f_value_of_word f_parse_paper f__law_told f__law_refused f_law : Addr} {od__law_begin an__law_begin od__law_take an__law_take od__law_pick an__law_pick od__law_leaf an__law_leaf od__law_value an__law_value od_is_whole an_is_whole od_is_number an_is_number od_is_word an_is_word od_word_for an_word_for od_format_paper an_format_paper od_value_of_word an_value_of_word od_parse_paper an_parse_paper od__law_told an__law_told od__law_refused an__law_refused od_law an_law : Option Addr} {sl__law_begin sl__law_take sl__law_pick sl__law_leaf sl__law_value sl_is_whole sl_is_number sl_is_word sl_word_for sl_format_paper sl_value_of_word sl_parse_paper sl__law_told sl__law_refused sl_law : Array (Option Value)} {oc__law_begin kV__law_begin dc__law_begin pm__law_begin cd__law_begin ct__law_begin oc__law_take kV__law_take dc__law_take pm__law_take cd__law_take ct__law_take oc__law_pick kV__law_pick dc__law_pick pm__law_pick cd__law_pick ct__law_pick oc__law_leaf kV__law_leaf dc__law_leaf pm__law_leaf cd__law_leaf ct__law_leaf oc__law_value kV__law_value dc__law_value pm__law_value cd__law_value ct__law_value oc_is_whole kV_is_whole dc_is_whole pm_is_whole cd_is_whole ct_is_whole oc_is_number kV_is_number dc_is_number pm_is_number cd_is_number ct_is_number oc_is_word kV_is_word dc_is_word pm_is_word cd_is_word ct_is_word oc_word_for kV_word_for dc_word_for pm_word_for cd_word_for ct_word_for oc_format_paper kV_format_paper dc_format_paper pm_format_paper cd_format_paper ct_format_paper oc_value_of_word kV_value_of_word dc_value_of_word pm_value_of_word cd_value_of_word ct_value_of_word oc_parse_paper kV_parse_paper dc_parse_paper pm_parse_paper cd_parse_paper ct_parse_paper oc__law_told kV__law_told dc__law_told pm__law_told cd__law_told ct__law_told oc__law_refused kV__law_refused dc__law_refused pm__law_refused cd__law_refused ct__law_refused oc_law kV_law dc_law pm_law cd_law ct_law : Value}
    {C_HeldError : Addr}
    {C_InputError : Addr}
    {C_TextError : Addr}
    {fI_InputError cc_InputError cda_InputError N_InputError : Addr} {bm_InputError sn2_InputError : List Value} {nm_InputError qn_InputError : Str} {sb_InputError : List Value} {snn_InputError : List Str} {ab_InputError : Bool} {col_InputError : Option Bool} {dd_InputError : Option Addr} {k0_InputError k1_InputError k2_InputError k3_InputError k5_InputError : Option Value}
    {clv_InputError ccl_InputError : Value} {cld_InputError cdd_InputError : Option Addr} {csl_InputError ccs_InputError : Array (Option Value)} {vsx_InputError : Array Value} {file_InputError : Str} {tf_InputError : Tok} {oci_InputError kVi_InputError dci_InputError pmi_InputError cti_InputError : Value} {odi_InputError ani_InputError : Option Addr} {sli_InputError : Array (Option Value)}
    {fI_TextError cc_TextError cda_TextError N_TextError : Addr} {bm_TextError sn2_TextError : List Value} {nm_TextError qn_TextError : Str} {sb_TextError : List Value} {snn_TextError : List Str} {ab_TextError : Bool} {col_TextError : Option Bool} {dd_TextError : Option Addr} {k0_TextError k1_TextError k2_TextError k3_TextError k5_TextError : Option Value}
    {clv_TextError ccl_TextError : Value} {cld_TextError cdd_TextError : Option Addr} {csl_TextError ccs_TextError : Array (Option Value)} {vsx_TextError : Array Value} {file_TextError : Str} {tf_TextError : Tok} {oci_TextError kVi_TextError dci_TextError pmi_TextError cti_TextError : Value} {odi_TextError ani_TextError : Option Addr} {sli_TextError : Array (Option Value)}
    {tk_LETTERS : Tok}
    {tk_DIGITS : Tok}
    {tk_OTHERS : Tok}
    {tk_NOTHING : Tok}
    {tk_MOST_WORD : Tok}
    (aC_HeldError : PySem.W.nsIn K mainGlobals "HeldError" = some (some (.ref C_HeldError)))
    (hs_HeldError : PySem.W.subIn K (.ref C_HeldError) (.type "BaseException") = some true)
    (hd_HeldError : PySem.W.hasDictIn K C_HeldError = true)
    (ty_HeldError : PySem.W.typeIn K (.ref C_HeldError) = some (.type "type"))
    (aC_InputError : PySem.W.nsIn K mainGlobals "InputError" = some (some (.ref C_InputError)))
    (hs_InputError : PySem.W.subIn K (.ref C_InputError) (.type "BaseException") = some true)
    (hd_InputError : PySem.W.hasDictIn K C_InputError = true)
    (ty_InputError : PySem.W.typeIn K (.ref C_InputError) = some (.type "type"))
    (aC_TextError : PySem.W.nsIn K mainGlobals "TextError" = some (some (.ref C_TextError)))
    (hs_TextError : PySem.W.subIn K (.ref C_TextError) (.type "BaseException") = some true)
    (hd_TextError : PySem.W.hasDictIn K C_TextError = true)
    (ty_TextError : PySem.W.typeIn K (.ref C_TextError) = some (.type "type"))
    (sub_InputError_HeldError : PySem.W.subIn K (.ref C_InputError) (.ref C_HeldError) = some true)
    (sub_TextError_HeldError : PySem.W.subIn K (.ref C_TextError) (.ref C_HeldError) = some true)
    (hn_ : PySem.W.specialIn K (.builtin "object.__class__") "__get__" = some (some (.builtin "getset_descriptor.__get__")))
    (ht_ : PySem.W.takesIn K (.builtin "object.__class__") = some true)
    (super_ : PySem.W.nsIn K mainGlobals "super" = some none)
    (stat_ : PySem.W.nsIn K cStatics "thirdparty.any" = some none)
    (top_ : (l.prog.main.scope.names.lookup ("super" : Str)).isSome = false)
    (xL_InputError : K.lookup C_InputError = some (excClassObj nm_InputError qn_InputError C_InputError N_InputError sb_InputError bm_InputError true snn_InputError sn2_InputError ab_InputError col_InputError dd_InputError k0_InputError k1_InputError k2_InputError k3_InputError k5_InputError "ValueError.__new__"))
    (ve_InputError : PySem.HandSPX.refsVE bm_InputError = true)
    (sa_InputError : PySem.W.findIn K (.ref C_InputError) "__setattr__" = some (some (.builtin "object.__setattr__")))
    (kC_InputError : PySem.W.keepIn K (.ref C_InputError) = true)
    (iC_InputError : PySem.W.findIn K (.ref C_InputError) "__init__" = some (some (.ref fI_InputError)))
    (tI_InputError : PySem.W.typeIn K (.ref fI_InputError) = some (.type "function"))
    (lI_InputError : K.lookup fI_InputError = some ⟨oci_InputError, odi_InputError, .func (PySem.W.ksFn "__init__" "InputError.__init__" (defArgs (inClass (topS 2) 0)) (defBody (inClass (topS 2) 0)) (defScope (inClass (topS 2) 0)) .none kVi_InputError dci_InputError pmi_InputError ani_InputError (.ref cda_InputError) cti_InputError cc_InputError), sli_InputError⟩)
    (cI_InputError : PySem.W.codeIn K (.ref cda_InputError) "InputError.__init__" = true)
    (cell_InputError : K.lookup cc_InputError = some ⟨clv_InputError, cld_InputError, .cell (some (.ref C_InputError)), csl_InputError⟩)
    (code_InputError : K.lookup cda_InputError = some ⟨ccl_InputError, cdd_InputError, .fields vsx_InputError, ccs_InputError⟩)
    (vs_InputError : vsx_InputError[2]? = some (.str file_InputError tf_InputError))
    (fl_InputError : ((l.prog.main.file : Str) == file_InputError) = true)
    (icl_InputError : PySem.W.isClsIn K C_InputError = true)
    (ms_InputError : PySem.W.mroIn K C_InputError (.ref C_InputError) = some true)
    (ks_InputError : PySem.W.ks_superIn K C_InputError C_InputError "__init__" = some (some (.builtin "ValueError.__init__")))
    (sv_InputError : PySem.W.subIn K (.ref C_InputError) (.type "ValueError") = some true)
    (hg_InputError : PySem.W.findIn K (.ref C_InputError) "__getattribute__" = some (some (.builtin "BaseException.__getattribute__")))
    (hk_InputError : PySem.W.findIn K (.ref C_InputError) "__getattr__" = some none)
    (ha_InputError : PySem.W.findIn K (.ref C_InputError) "__class__" = some (some (.builtin "object.__class__")))
    (hm_InputError : PySem.W.mroIn K C_InputError (.type "object") = some true)
    (nf_InputError_code : PySem.W.findIn K (.ref C_InputError) "code" = some none)
    (xL_TextError : K.lookup C_TextError = some (excClassObj nm_TextError qn_TextError C_TextError N_TextError sb_TextError bm_TextError true snn_TextError sn2_TextError ab_TextError col_TextError dd_TextError k0_TextError k1_TextError k2_TextError k3_TextError k5_TextError "ValueError.__new__"))
    (ve_TextError : PySem.HandSPX.refsVE bm_TextError = true)
    (sa_TextError : PySem.W.findIn K (.ref C_TextError) "__setattr__" = some (some (.builtin "object.__setattr__")))
    (kC_TextError : PySem.W.keepIn K (.ref C_TextError) = true)
    (iC_TextError : PySem.W.findIn K (.ref C_TextError) "__init__" = some (some (.ref fI_TextError)))
    (tI_TextError : PySem.W.typeIn K (.ref fI_TextError) = some (.type "function"))
    (lI_TextError : K.lookup fI_TextError = some ⟨oci_TextError, odi_TextError, .func (PySem.W.ksFn "__init__" "TextError.__init__" (defArgs (inClass (topS 3) 0)) (defBody (inClass (topS 3) 0)) (defScope (inClass (topS 3) 0)) .none kVi_TextError dci_TextError pmi_TextError ani_TextError (.ref cda_TextError) cti_TextError cc_TextError), sli_TextError⟩)
    (cI_TextError : PySem.W.codeIn K (.ref cda_TextError) "TextError.__init__" = true)
    (cell_TextError : K.lookup cc_TextError = some ⟨clv_TextError, cld_TextError, .cell (some (.ref C_TextError)), csl_TextError⟩)
    (code_TextError : K.lookup cda_TextError = some ⟨ccl_TextError, cdd_TextError, .fields vsx_TextError, ccs_TextError⟩)
    (vs_TextError : vsx_TextError[2]? = some (.str file_TextError tf_TextError))
    (fl_TextError : ((l.prog.main.file : Str) == file_TextError) = true)
    (icl_TextError : PySem.W.isClsIn K C_TextError = true)
    (ms_TextError : PySem.W.mroIn K C_TextError (.ref C_TextError) = some true)
    (ks_TextError : PySem.W.ks_superIn K C_TextError C_TextError "__init__" = some (some (.builtin "ValueError.__init__")))
    (sv_TextError : PySem.W.subIn K (.ref C_TextError) (.type "ValueError") = some true)
    (hg_TextError : PySem.W.findIn K (.ref C_TextError) "__getattribute__" = some (some (.builtin "BaseException.__getattribute__")))
    (hk_TextError : PySem.W.findIn K (.ref C_TextError) "__getattr__" = some none)
    (ha_TextError : PySem.W.findIn K (.ref C_TextError) "__class__" = some (some (.builtin "object.__class__")))
    (hm_TextError : PySem.W.mroIn K C_TextError (.type "object") = some true)
    (nf_TextError_code : PySem.W.findIn K (.ref C_TextError) "code" = some none)
    (nf_TextError_at : PySem.W.findIn K (.ref C_TextError) "at" = some none)
    (tc_LETTERS : PySem.W.nsIn K mainGlobals "LETTERS" = some (some (.str "abcdefghijklmnopqrstuvwxyzABCDEFGHIJKLMNOPQRSTUVWXYZ" tk_LETTERS)))
    (tc_DIGITS : PySem.W.nsIn K mainGlobals "DIGITS" = some (some (.str "0123456789" tk_DIGITS)))
    (tc_OTHERS : PySem.W.nsIn K mainGlobals "OTHERS" = some (some (.str "$_=!<" tk_OTHERS)))
    (tc_NOTHING : PySem.W.nsIn K mainGlobals "NOTHING" = some (some (.str "-" tk_NOTHING)))
    (tc_MOST_WORD : PySem.W.nsIn K mainGlobals "MOST_WORD" = some (some (.int 40 tk_MOST_WORD)))
    (a__law_begin : PySem.W.nsIn K mainGlobals "_law_begin" = some (some (.ref f__law_begin)))
    (l__law_begin : K.lookup f__law_begin = some ⟨oc__law_begin, od__law_begin, .func (PySem.W.fnOf "_law_begin" "_law_begin" (defArgs st__law_begin) (defBody st__law_begin) (defScope st__law_begin) .none kV__law_begin dc__law_begin pm__law_begin an__law_begin cd__law_begin ct__law_begin), sl__law_begin⟩)
    (c__law_begin : PySem.W.codeIn K cd__law_begin "_law_begin" = true)
    (k__law_begin : PySem.W.keepIn K (.ref f__law_begin) = true)
    (a__law_take : PySem.W.nsIn K mainGlobals "_law_take" = some (some (.ref f__law_take)))
    (l__law_take : K.lookup f__law_take = some ⟨oc__law_take, od__law_take, .func (PySem.W.fnOf "_law_take" "_law_take" (defArgs st__law_take) (defBody st__law_take) (defScope st__law_take) .none kV__law_take dc__law_take pm__law_take an__law_take cd__law_take ct__law_take), sl__law_take⟩)
    (c__law_take : PySem.W.codeIn K cd__law_take "_law_take" = true)
    (k__law_take : PySem.W.keepIn K (.ref f__law_take) = true)
    (a__law_pick : PySem.W.nsIn K mainGlobals "_law_pick" = some (some (.ref f__law_pick)))
    (l__law_pick : K.lookup f__law_pick = some ⟨oc__law_pick, od__law_pick, .func (PySem.W.fnOf "_law_pick" "_law_pick" (defArgs st__law_pick) (defBody st__law_pick) (defScope st__law_pick) .none kV__law_pick dc__law_pick pm__law_pick an__law_pick cd__law_pick ct__law_pick), sl__law_pick⟩)
    (c__law_pick : PySem.W.codeIn K cd__law_pick "_law_pick" = true)
    (k__law_pick : PySem.W.keepIn K (.ref f__law_pick) = true)
    (a__law_leaf : PySem.W.nsIn K mainGlobals "_law_leaf" = some (some (.ref f__law_leaf)))
    (l__law_leaf : K.lookup f__law_leaf = some ⟨oc__law_leaf, od__law_leaf, .func (PySem.W.fnOf "_law_leaf" "_law_leaf" (defArgs st__law_leaf) (defBody st__law_leaf) (defScope st__law_leaf) .none kV__law_leaf dc__law_leaf pm__law_leaf an__law_leaf cd__law_leaf ct__law_leaf), sl__law_leaf⟩)
    (c__law_leaf : PySem.W.codeIn K cd__law_leaf "_law_leaf" = true)
    (k__law_leaf : PySem.W.keepIn K (.ref f__law_leaf) = true)
    (a__law_value : PySem.W.nsIn K mainGlobals "_law_value" = some (some (.ref f__law_value)))
    (l__law_value : K.lookup f__law_value = some ⟨oc__law_value, od__law_value, .func (PySem.W.fnOf "_law_value" "_law_value" (defArgs st__law_value) (defBody st__law_value) (defScope st__law_value) .none kV__law_value dc__law_value pm__law_value an__law_value cd__law_value ct__law_value), sl__law_value⟩)
    (c__law_value : PySem.W.codeIn K cd__law_value "_law_value" = true)
    (k__law_value : PySem.W.keepIn K (.ref f__law_value) = true)
    (a_is_whole : PySem.W.nsIn K mainGlobals "is_whole" = some (some (.ref f_is_whole)))
    (l_is_whole : K.lookup f_is_whole = some ⟨oc_is_whole, od_is_whole, .func (PySem.W.fnOf "is_whole" "is_whole" (defArgs st_is_whole) (defBody st_is_whole) (defScope st_is_whole) .none kV_is_whole dc_is_whole pm_is_whole an_is_whole cd_is_whole ct_is_whole), sl_is_whole⟩)
    (c_is_whole : PySem.W.codeIn K cd_is_whole "is_whole" = true)
    (k_is_whole : PySem.W.keepIn K (.ref f_is_whole) = true)
    (a_is_number : PySem.W.nsIn K mainGlobals "is_number" = some (some (.ref f_is_number)))
    (l_is_number : K.lookup f_is_number = some ⟨oc_is_number, od_is_number, .func (PySem.W.fnOf "is_number" "is_number" (defArgs st_is_number) (defBody st_is_number) (defScope st_is_number) .none kV_is_number dc_is_number pm_is_number an_is_number cd_is_number ct_is_number), sl_is_number⟩)
    (c_is_number : PySem.W.codeIn K cd_is_number "is_number" = true)
    (k_is_number : PySem.W.keepIn K (.ref f_is_number) = true)
    (a_is_word : PySem.W.nsIn K mainGlobals "is_word" = some (some (.ref f_is_word)))
    (l_is_word : K.lookup f_is_word = some ⟨oc_is_word, od_is_word, .func (PySem.W.fnOf "is_word" "is_word" (defArgs st_is_word) (defBody st_is_word) (defScope st_is_word) .none kV_is_word dc_is_word pm_is_word an_is_word cd_is_word ct_is_word), sl_is_word⟩)
    (c_is_word : PySem.W.codeIn K cd_is_word "is_word" = true)
    (k_is_word : PySem.W.keepIn K (.ref f_is_word) = true)
    (a_word_for : PySem.W.nsIn K mainGlobals "word_for" = some (some (.ref f_word_for)))
    (l_word_for : K.lookup f_word_for = some ⟨oc_word_for, od_word_for, .func (PySem.W.fnOf "word_for" "word_for" (defArgs st_word_for) (defBody st_word_for) (defScope st_word_for) .none kV_word_for dc_word_for pm_word_for an_word_for cd_word_for ct_word_for), sl_word_for⟩)
    (c_word_for : PySem.W.codeIn K cd_word_for "word_for" = true)
    (k_word_for : PySem.W.keepIn K (.ref f_word_for) = true)
    (a_format_paper : PySem.W.nsIn K mainGlobals "format_paper" = some (some (.ref f_format_paper)))
    (l_format_paper : K.lookup f_format_paper = some ⟨oc_format_paper, od_format_paper, .func (PySem.W.fnOf "format_paper" "format_paper" (defArgs st_format_paper) (defBody st_format_paper) (defScope st_format_paper) .none kV_format_paper dc_format_paper pm_format_paper an_format_paper cd_format_paper ct_format_paper), sl_format_paper⟩)
    (c_format_paper : PySem.W.codeIn K cd_format_paper "format_paper" = true)
    (k_format_paper : PySem.W.keepIn K (.ref f_format_paper) = true)
    (a_value_of_word : PySem.W.nsIn K mainGlobals "value_of_word" = some (some (.ref f_value_of_word)))
    (l_value_of_word : K.lookup f_value_of_word = some ⟨oc_value_of_word, od_value_of_word, .func (PySem.W.fnOf "value_of_word" "value_of_word" (defArgs st_value_of_word) (defBody st_value_of_word) (defScope st_value_of_word) .none kV_value_of_word dc_value_of_word pm_value_of_word an_value_of_word cd_value_of_word ct_value_of_word), sl_value_of_word⟩)
    (c_value_of_word : PySem.W.codeIn K cd_value_of_word "value_of_word" = true)
    (k_value_of_word : PySem.W.keepIn K (.ref f_value_of_word) = true)
    (a_parse_paper : PySem.W.nsIn K mainGlobals "parse_paper" = some (some (.ref f_parse_paper)))
    (l_parse_paper : K.lookup f_parse_paper = some ⟨oc_parse_paper, od_parse_paper, .func (PySem.W.fnOf "parse_paper" "parse_paper" (defArgs st_parse_paper) (defBody st_parse_paper) (defScope st_parse_paper) .none kV_parse_paper dc_parse_paper pm_parse_paper an_parse_paper cd_parse_paper ct_parse_paper), sl_parse_paper⟩)
    (c_parse_paper : PySem.W.codeIn K cd_parse_paper "parse_paper" = true)
    (k_parse_paper : PySem.W.keepIn K (.ref f_parse_paper) = true)
    (a__law_told : PySem.W.nsIn K mainGlobals "_law_told" = some (some (.ref f__law_told)))
    (l__law_told : K.lookup f__law_told = some ⟨oc__law_told, od__law_told, .func (PySem.W.fnOf "_law_told" "_law_told" (defArgs st__law_told) (defBody st__law_told) (defScope st__law_told) .none kV__law_told dc__law_told pm__law_told an__law_told cd__law_told ct__law_told), sl__law_told⟩)
    (c__law_told : PySem.W.codeIn K cd__law_told "_law_told" = true)
    (k__law_told : PySem.W.keepIn K (.ref f__law_told) = true)
    (a__law_refused : PySem.W.nsIn K mainGlobals "_law_refused" = some (some (.ref f__law_refused)))
    (l__law_refused : K.lookup f__law_refused = some ⟨oc__law_refused, od__law_refused, .func (PySem.W.fnOf "_law_refused" "_law_refused" (defArgs st__law_refused) (defBody st__law_refused) (defScope st__law_refused) .none kV__law_refused dc__law_refused pm__law_refused an__law_refused cd__law_refused ct__law_refused), sl__law_refused⟩)
    (c__law_refused : PySem.W.codeIn K cd__law_refused "_law_refused" = true)
    (k__law_refused : PySem.W.keepIn K (.ref f__law_refused) = true)
    (a_law : PySem.W.nsIn K mainGlobals "law" = some (some (.ref f_law)))
    (l_law : K.lookup f_law = some ⟨oc_law, od_law, .func (PySem.W.fnOf "law" "law" (defArgs st_law) (defBody st_law) (defScope st_law) .none kV_law dc_law pm_law an_law cd_law ct_law), sl_law⟩)
    (c_law : PySem.W.codeIn K cd_law "law" = true)
    (k_law : PySem.W.keepIn K (.ref f_law) = true)
    (z_abs : PySem.W.nsIn K mainGlobals "abs" = some none)
    (z_all : PySem.W.nsIn K mainGlobals "all" = some none)
    (z_bool : PySem.W.nsIn K mainGlobals "bool" = some none)
    (z_enumerate : PySem.W.nsIn K mainGlobals "enumerate" = some none)
    (z_int : PySem.W.nsIn K mainGlobals "int" = some none)
    (z_isinstance : PySem.W.nsIn K mainGlobals "isinstance" = some none)
    (z_len : PySem.W.nsIn K mainGlobals "len" = some none)
    (z_list : PySem.W.nsIn K mainGlobals "list" = some none)
    (z_range : PySem.W.nsIn K mainGlobals "range" = some none)
    (z_repr : PySem.W.nsIn K mainGlobals "repr" = some none)
    (z_reversed : PySem.W.nsIn K mainGlobals "reversed" = some none)
    (z_str : PySem.W.nsIn K mainGlobals "str" = some none)
    (z_tuple : PySem.W.nsIn K mainGlobals "tuple" = some none)
    : ∃ fd : FuncData, (∀ (s : Shared) (v : Value), BindsTo s fd ⟨[v], []⟩ [("script", v)]) ∧ ∀ base : Heap, K.In base → base.Ns mainGlobals mg → RunAt l.prog w K mg base callerA fa fd ["script"] (spOf K spLaw) := by
  have e := hfa.symm.trans (PySem.W.mg_of X G a_law)
  cases e
  have T : Txt K mg := ⟨PySem.W.mg_none_of X G z_abs, PySem.W.mg_none_of X G z_all, PySem.W.mg_none_of X G z_bool, PySem.W.mg_none_of X G z_enumerate, PySem.W.mg_none_of X G z_int, PySem.W.mg_none_of X G z_isinstance, PySem.W.mg_none_of X G z_len, PySem.W.mg_none_of X G z_list, PySem.W.mg_none_of X G z_range, PySem.W.mg_none_of X G z_repr, PySem.W.mg_none_of X G z_reversed, PySem.W.mg_none_of X G z_str, PySem.W.mg_none_of X G z_tuple⟩
  have F__law_begin := fun_mk (st := st__law_begin) l__law_begin c__law_begin k__law_begin
  have b__law_begin := F__law_begin.binds (ps := ["script"]) fun _ _ _ _ _ _ us hl => match us, hl with | [_], _ => rfl
  have F__law_take := fun_mk (st := st__law_take) l__law_take c__law_take k__law_take
  have b__law_take := F__law_take.binds (ps := ["d", "many"]) fun _ _ _ _ _ _ us hl => match us, hl with | [_, _], _ => rfl
  have F__law_pick := fun_mk (st := st__law_pick) l__law_pick c__law_pick k__law_pick
  have b__law_pick := F__law_pick.binds (ps := ["d", "menu"]) fun _ _ _ _ _ _ us hl => match us, hl with | [_, _], _ => rfl
  have F__law_leaf := fun_mk (st := st__law_leaf) l__law_leaf c__law_leaf k__law_leaf
  have b__law_leaf := F__law_leaf.binds (ps := ["d"]) fun _ _ _ _ _ _ us hl => match us, hl with | [_], _ => rfl
  have F__law_value := fun_mk (st := st__law_value) l__law_value c__law_value k__law_value
  have b__law_value := F__law_value.binds (ps := ["d", "depth"]) fun _ _ _ _ _ _ us hl => match us, hl with | [_, _], _ => rfl
  have F_is_whole := fun_mk (st := st_is_whole) l_is_whole c_is_whole k_is_whole
  have b_is_whole := F_is_whole.binds (ps := ["value"]) fun _ _ _ _ _ _ us hl => match us, hl with | [_], _ => rfl
  have F_is_number := fun_mk (st := st_is_number) l_is_number c_is_number k_is_number
  have b_is_number := F_is_number.binds (ps := ["value"]) fun _ _ _ _ _ _ us hl => match us, hl with | [_], _ => rfl
  have F_is_word := fun_mk (st := st_is_word) l_is_word c_is_word k_is_word
  have b_is_word := F_is_word.binds (ps := ["text"]) fun _ _ _ _ _ _ us hl => match us, hl with | [_], _ => rfl
  have F_word_for := fun_mk (st := st_word_for) l_word_for c_word_for k_word_for
  have b_word_for := F_word_for.binds (ps := ["value"]) fun _ _ _ _ _ _ us hl => match us, hl with | [_], _ => rfl
  have F_format_paper := fun_mk (st := st_format_paper) l_format_paper c_format_paper k_format_paper
  have b_format_paper := F_format_paper.binds (ps := ["value"]) fun _ _ _ _ _ _ us hl => match us, hl with | [_], _ => rfl
  have F_value_of_word := fun_mk (st := st_value_of_word) l_value_of_word c_value_of_word k_value_of_word
  have b_value_of_word := F_value_of_word.binds (ps := ["word", "at"]) fun _ _ _ _ _ _ us hl => match us, hl with | [_, _], _ => rfl
  have F_parse_paper := fun_mk (st := st_parse_paper) l_parse_paper c_parse_paper k_parse_paper
  have b_parse_paper := F_parse_paper.binds (ps := ["text"]) fun _ _ _ _ _ _ us hl => match us, hl with | [_], _ => rfl
  have F__law_told := fun_mk (st := st__law_told) l__law_told c__law_told k__law_told
  have b__law_told := F__law_told.binds (ps := ["text"]) fun _ _ _ _ _ _ us hl => match us, hl with | [_], _ => rfl
  have F__law_refused := fun_mk (st := st__law_refused) l__law_refused c__law_refused k__law_refused
  have b__law_refused := F__law_refused.binds (ps := ["value"]) fun _ _ _ _ _ _ us hl => match us, hl with | [_], _ => rfl
  have F_law := fun_mk (st := st_law) l_law c_law k_law
  have b_law := F_law.binds (ps := ["script"]) fun _ _ _ _ _ _ us hl => match us, hl with | [_], _ => rfl
  have oex_InputError : OexC K C_InputError := ⟨⟨_, _, _, _, bm_InputError, _, _, _, _, _, _, _, _, _, _, xL_InputError, ve_InputError⟩, sa_InputError, hs_InputError, ty_InputError, kC_InputError⟩
  have sup_InputError : SupC l.prog K mg C_InputError fI_InputError cc_InputError cda_InputError := ⟨oex_InputError, ⟨_, _, _, cell_InputError⟩, ⟨_, _, _, _, _, _, code_InputError, vs_InputError, fl_InputError⟩, icl_InputError, ms_InputError, PySem.W.mg_none_of X G super_, top_, stat_, ks_InputError, sv_InputError⟩
  have x_InputError : ∀ base : Heap, Xcal l.prog w K mg base 1 "InputError" C_InputError ["code"] := fun base => ⟨⟨fI_InputError, _, _, oex_InputError, iC_InputError, tI_InputError, PySem.W.mg_of X G aC_InputError, Binds.all fun us hl => match us, hl with | [_, _], _ => rfl, sup1_ok (k := 0) sup_InputError lI_InputError cI_InputError (by exact supsc_InputError) ⟨_, rfl, rfl⟩ (by rfl) (by rfl) nf_InputError_code (by decide) (fun env => ⟨_, rfl⟩)⟩⟩
  have oex_TextError : OexC K C_TextError := ⟨⟨_, _, _, _, bm_TextError, _, _, _, _, _, _, _, _, _, _, xL_TextError, ve_TextError⟩, sa_TextError, hs_TextError, ty_TextError, kC_TextError⟩
  have sup_TextError : SupC l.prog K mg C_TextError fI_TextError cc_TextError cda_TextError := ⟨oex_TextError, ⟨_, _, _, cell_TextError⟩, ⟨_, _, _, _, _, _, code_TextError, vs_TextError, fl_TextError⟩, icl_TextError, ms_TextError, PySem.W.mg_none_of X G super_, top_, stat_, ks_TextError, sv_TextError⟩
  have x_TextError : ∀ base : Heap, Xcal l.prog w K mg base 1 "TextError" C_TextError ["code", "at"] := fun base => ⟨⟨fI_TextError, _, _, oex_TextError, iC_TextError, tI_TextError, PySem.W.mg_of X G aC_TextError, Binds.all fun us hl => match us, hl with | [_, _, _], _ => rfl, sup2_ok (k := 0) sup_TextError lI_TextError cI_TextError (by exact supsc_TextError) ⟨_, rfl, rfl⟩ (by rfl) (by rfl) nf_TextError_code (by decide) (by rfl) (by rfl) nf_TextError_at (by decide) (fun env => ⟨_, rfl⟩)⟩⟩
  exact ⟨PySem.W.fnOf "law" "law" (defArgs st_law) (defBody st_law) (defScope st_law) .none kV_law dc_law pm_law an_law cd_law ct_law, fun s v => .of_eq rfl, fun base _ _ => ok_all T (PySem.W.mg_of X G aC_HeldError) (PySem.W.mg_of X G aC_InputError) (PySem.W.mg_of X G aC_TextError) (x_InputError base) (x_TextError base) ⟨_, .str "abcdefghijklmnopqrstuvwxyzABCDEFGHIJKLMNOPQRSTUVWXYZ", PySem.W.mg_of X G tc_LETTERS, ⟨_, rfl⟩, fun F => .v _⟩ ⟨_, .str "0123456789", PySem.W.mg_of X G tc_DIGITS, ⟨_, rfl⟩, fun F => .v _⟩ ⟨_, .str "$_=!<", PySem.W.mg_of X G tc_OTHERS, ⟨_, rfl⟩, fun F => .v _⟩ ⟨_, .str "-", PySem.W.mg_of X G tc_NOTHING, ⟨_, rfl⟩, fun F => .v _⟩ ⟨_, .int 40, PySem.W.mg_of X G tc_MOST_WORD, ⟨_, rfl⟩, fun F => .v _⟩ ⟨PySem.W.exm_ref hs_HeldError hd_HeldError ty_HeldError sub_InputError_HeldError, PySem.W.exm_ref hs_HeldError hd_HeldError ty_HeldError sub_TextError_HeldError, (by unfold PySem.W.kitOne; rw [if_pos (beq_self_eq_true _)]), (by unfold PySem.W.kitOne; rw [if_pos (beq_self_eq_true _)]), ⟨hg_InputError, hk_InputError, hs_InputError, hd_InputError, ha_InputError, hn_, ht_, hm_InputError⟩, ⟨hg_TextError, hk_TextError, hs_TextError, hd_TextError, ha_TextError, hn_, ht_, hm_TextError⟩, ⟨hg_InputError, hk_InputError, hs_InputError, hd_InputError⟩, ⟨hg_TextError, hk_TextError, hs_TextError, hd_TextError⟩, nf_InputError_code, nf_TextError_code, nf_TextError_at⟩ F__law_begin b__law_begin (PySem.W.mg_of X G a__law_begin) k__law_begin F__law_take b__law_take (PySem.W.mg_of X G a__law_take) k__law_take F__law_pick b__law_pick (PySem.W.mg_of X G a__law_pick) k__law_pick F__law_leaf b__law_leaf (PySem.W.mg_of X G a__law_leaf) k__law_leaf F__law_value b__law_value (PySem.W.mg_of X G a__law_value) k__law_value F_is_whole b_is_whole (PySem.W.mg_of X G a_is_whole) k_is_whole F_is_number b_is_number (PySem.W.mg_of X G a_is_number) k_is_number F_is_word b_is_word (PySem.W.mg_of X G a_is_word) k_is_word F_word_for b_word_for (PySem.W.mg_of X G a_word_for) k_word_for F_format_paper b_format_paper (PySem.W.mg_of X G a_format_paper) k_format_paper F_value_of_word b_value_of_word (PySem.W.mg_of X G a_value_of_word) k_value_of_word F_parse_paper b_parse_paper (PySem.W.mg_of X G a_parse_paper) k_parse_paper F__law_told b__law_told (PySem.W.mg_of X G a__law_told) k__law_told F__law_refused b__law_refused (PySem.W.mg_of X G a__law_refused) k__law_refused F_law b_law (PySem.W.mg_of X G a_law) k_law⟩
theorem lst_rep {K : PySem.W.Frag} {F : Hp} : ∀ ns : List Int, RepL K F (ns.map V.int) (ns.map D.int)
  | [] => .nil
  | n :: ns => .cons (.v _) (lst_rep ns)
theorem hsp {K : PySem.W.Frag} (H : Hp) (a : Addr) (ns : List Int) (hS : SqL K H a (ns.map V.int)) : spOf K spLaw [.ref a] H (fun v _ => v = .bl true) fun _ _ _ => False := by
  refine ⟨H, fun _ => none, [.lst (ns.map D.int)], fun d _ => d = .bl true, noX, ⟨Le.refl H, ?_⟩, .cons (.lst hS (lst_rep ns)) .nil, ⟨ns, rfl, fun _ => rfl⟩, ?_, ?_⟩
  · intro a m h; cases h
  · rintro v H' ⟨_, _, _, _, _, r, e⟩
    subst e
    cases r
    rfl
  · exact noX_ok
theorem walk {l : PySem.W.OpenLaw} {q : Program} {loose : List Str} {XP : (Str → Option Value) → Heap → Prop} {YP : World → Heap → Prop} {d : DefRec} {K : Params → PySem.W.Frag} (hn : l.most = some 63) (hdf : d.params.defaults = [])
    (hY : ∀ (w : World) (h : Heap), YP w h → (K w.params).In h)
    (F : ∀ (w : World) (mg : Str → Option Value) (fa : Addr) (h : Heap), (K w.params).In h → h.Ns mainGlobals mg → mg d.name = some (.ref fa) →
      ∃ fd : FuncData, (∀ (s : Shared) (u : Value), BindsTo s fd ⟨[u], []⟩ [("script", u)]) ∧ ∀ base : Heap, (K w.params).In base → base.Ns mainGlobals mg → RunAt l.prog w (K w.params) mg base callerA fa fd ["script"] (spOf (K w.params) spLaw)) :
    PySem.W.WalkO q loose XP YP l.row.toRowW d [] (fun f vs => PySem.call f vs) :=
  Y.walkAt (n := 63) (x := "script") (sp := fun w => spOf (K w.params) spLaw) hn (by decide) hdf hY F (fun w H a ns hl hS => hsp H a ns hS)
end K26


set_option Elab.async false
set_option maxRecDepth 100000
open PySem PySem.W PyProof.Rows in
set_option maxRecDepth 100000 in
set_option maxHeartbeats 0 in
theorem PySem.Challenge.cw_eachcellheld_k26_texts_of_papers_holds : PySem.Challenge.rw_eachcellheld_k26_texts_of_papers.Holds := by
  w_on; o_law; k_head; (case hw => w_witness2)
  k_fill
  refine K26.walk (l := PySem.Challenge.rw_eachcellheld_k26_texts_of_papers) rfl rfl (fun w h Y => PySem.W.kIn_of Y) ?F
  case F =>
    intro w mg fa h KX G hmg
    refine' K26.all_mk KX G hmg ?aC_HeldError ?hs_HeldError ?hd_HeldError ?ty_HeldError ?aC_InputError ?hs_InputError ?hd_InputError ?ty_InputError ?aC_TextError ?hs_TextError ?hd_TextError ?ty_TextError ?sub_InputError_HeldError ?sub_TextError_HeldError ?hn_ ?ht_ ?super_ ?stat_ ?top_ ?xL_InputError ?ve_InputError ?sa_InputError ?kC_InputError ?iC_InputError ?tI_InputError ?lI_InputError ?cI_InputError ?cell_InputError ?code_InputError ?vs_InputError ?fl_InputError ?icl_InputError ?ms_InputError ?ks_InputError ?sv_InputError ?hg_InputError ?hk_InputError ?ha_InputError ?hm_InputError ?nf_InputError_code ?xL_TextError ?ve_TextError ?sa_TextError ?kC_TextError ?iC_TextError ?tI_TextError ?lI_TextError ?cI_TextError ?cell_TextError ?code_TextError ?vs_TextError ?fl_TextError ?icl_TextError ?ms_TextError ?ks_TextError ?sv_TextError ?hg_TextError ?hk_TextError ?ha_TextError ?hm_TextError ?nf_TextError_code ?nf_TextError_at ?tc_LETTERS ?tc_DIGITS ?tc_OTHERS ?tc_NOTHING ?tc_MOST_WORD ?a__law_begin ?l__law_begin ?c__law_begin ?k__law_begin ?a__law_take ?l__law_take ?c__law_take ?k__law_take ?a__law_pick ?l__law_pick ?c__law_pick ?k__law_pick ?a__law_leaf ?l__law_leaf ?c__law_leaf ?k__law_leaf ?a__law_value ?l__law_value ?c__law_value ?k__law_value ?a_is_whole ?l_is_whole ?c_is_whole ?k_is_whole ?a_is_number ?l_is_number ?c_is_number ?k_is_number ?a_is_word ?l_is_word ?c_is_word ?k_is_word ?a_word_for ?l_word_for ?c_word_for ?k_word_for ?a_format_paper ?l_format_paper ?c_format_paper ?k_format_paper ?a_value_of_word ?l_value_of_word ?c_value_of_word ?k_value_of_word ?a_parse_paper ?l_parse_paper ?c_parse_paper ?k_parse_paper ?a__law_told ?l__law_told ?c__law_told ?k__law_told ?a__law_refused ?l__law_refused ?c__law_refused ?k__law_refused ?a_law ?l_law ?c_law ?k_law ?z_abs ?z_all ?z_bool ?z_enumerate ?z_int ?z_isinstance ?z_len ?z_list ?z_range ?z_repr ?z_reversed ?z_str ?z_tuple
    (case aC_HeldError => k_is)
    (case hs_HeldError => k_is)
    (case hd_HeldError => k_is)
    (case ty_HeldError => k_is)
    (case aC_InputError => k_is)
    (case hs_InputError => k_is)
    (case hd_InputError => k_is)
    (case ty_InputError => k_is)
    (case aC_TextError => k_is)
    (case hs_TextError => k_is)
    (case hd_TextError => k_is)
    (case ty_TextError => k_is)
    (case sub_InputError_HeldError => k_is)
    (case sub_TextError_HeldError => k_is)
    (case hn_ => k_is)
    (case ht_ => k_is)
    (case super_ => k_is)
    (case stat_ => k_is)
    (case top_ => first | rfl | decide +kernel)
    (case xL_InputError => k_is)
    (case ve_InputError => decide +kernel)
    (case sa_InputError => k_is)
    (case kC_InputError => k_is)
    (case iC_InputError => k_is)
    (case tI_InputError => k_is)
    (case lI_InputError => k_is)
    (case cI_InputError => k_is)
    (case cell_InputError => k_is)
    (case code_InputError => k_is)
    (case vs_InputError => rfl)
    (case fl_InputError => first | rfl | decide +kernel)
    (case icl_InputError => k_is)
    (case ms_InputError => k_is)
    (case ks_InputError => ks_is)
    (case sv_InputError => k_is)
    (case hg_InputError => k_is)
    (case hk_InputError => k_is)
    (case ha_InputError => k_is)
    (case hm_InputError => k_is)
    (case nf_InputError_code => k_is)
    (case xL_TextError => k_is)
    (case ve_TextError => decide +kernel)
    (case sa_TextError => k_is)
    (case kC_TextError => k_is)
    (case iC_TextError => k_is)
    (case tI_TextError => k_is)
    (case lI_TextError => k_is)
    (case cI_TextError => k_is)
    (case cell_TextError => k_is)
    (case code_TextError => k_is)
    (case vs_TextError => rfl)
    (case fl_TextError => first | rfl | decide +kernel)
    (case icl_TextError => k_is)
    (case ms_TextError => k_is)
    (case ks_TextError => ks_is)
    (case sv_TextError => k_is)
    (case hg_TextError => k_is)
    (case hk_TextError => k_is)
    (case ha_TextError => k_is)
    (case hm_TextError => k_is)
    (case nf_TextError_code => k_is)
    (case nf_TextError_at => k_is)
    (case tc_LETTERS => k_is)
    (case tc_DIGITS => k_is)
    (case tc_OTHERS => k_is)
    (case tc_NOTHING => k_is)
    (case tc_MOST_WORD => k_is)
    (case a__law_begin => k_is)
    (case l__law_begin => k_is)
    (case c__law_begin => k_is)
    (case k__law_begin => k_is)
    (case a__law_take => k_is)
    (case l__law_take => k_is)
    (case c__law_take => k_is)
    (case k__law_take => k_is)
    (case a__law_pick => k_is)
    (case l__law_pick => k_is)
    (case c__law_pick => k_is)
    (case k__law_pick => k_is)
    (case a__law_leaf => k_is)
    (case l__law_leaf => k_is)
    (case c__law_leaf => k_is)
    (case k__law_leaf => k_is)
    (case a__law_value => k_is)
    (case l__law_value => k_is)
    (case c__law_value => k_is)
    (case k__law_value => k_is)
    (case a_is_whole => k_is)
    (case l_is_whole => k_is)
    (case c_is_whole => k_is)
    (case k_is_whole => k_is)
    (case a_is_number => k_is)
    (case l_is_number => k_is)
    (case c_is_number => k_is)
    (case k_is_number => k_is)
    (case a_is_word => k_is)
    (case l_is_word => k_is)
    (case c_is_word => k_is)
    (case k_is_word => k_is)
    (case a_word_for => k_is)
    (case l_word_for => k_is)
    (case c_word_for => k_is)
    (case k_word_for => k_is)
    (case a_format_paper => k_is)
    (case l_format_paper => k_is)
    (case c_format_paper => k_is)
    (case k_format_paper => k_is)
    (case a_value_of_word => k_is)
    (case l_value_of_word => k_is)
    (case c_value_of_word => k_is)
    (case k_value_of_word => k_is)
    (case a_parse_paper => k_is)
    (case l_parse_paper => k_is)
    (case c_parse_paper => k_is)
    (case k_parse_paper => k_is)
    (case a__law_told => k_is)
    (case l__law_told => k_is)
    (case c__law_told => k_is)
    (case k__law_told => k_is)
    (case a__law_refused => k_is)
    (case l__law_refused => k_is)
    (case c__law_refused => k_is)
    (case k__law_refused => k_is)
    (case a_law => k_is)
    (case l_law => k_is)
    (case c_law => k_is)
    (case k_law => k_is)
    (case z_abs => k_is)
    (case z_all => k_is)
    (case z_bool => k_is)
    (case z_enumerate => k_is)
    (case z_int => k_is)
    (case z_isinstance => k_is)
    (case z_len => k_is)
    (case z_list => k_is)
    (case z_range => k_is)
    (case z_repr => k_is)
    (case z_reversed => k_is)
    (case z_str => k_is)
    (case z_tuple => k_is)


