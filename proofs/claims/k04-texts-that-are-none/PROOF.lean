import PyProof.Rows.All
import Wide.All
import OpenK.AllK
import Wide.FinOn
import HandS.ForMost
import HandS.Walk
import HandS.TupAny
import HandS.Deep
import HandS.Conv
import HandS.IsInst
import HandS.DictComp
import HandS.More
import HandS.TryOnly
import HandS.Small
import HandS.Iter
import HandS.TupMul
import HandS.SortInts
import HandS.Exc
import HandS.ExcInit
import HandS.ExcField
import HandS.ExcIs
import HandS.ExcOwn
import HandS.WordsExc
import HandS.FStr
import KE.KExcSuper
import KE.KExcIs
import HandS.Zip
import HandS.Rev
import HandS.Text
import HandS.RaiseMore
import PyProof.StrOps2
import PyProof.ReprRoads
import PyProof.CallFns
import HandS.StrMore
import KE.IntTextLaws
import KE.KIntText
import HandS.Ends
import PySem.Challenge.RW_eachcellheld_k04_texts_that_are_none
set_option Elab.async false
set_option linter.all false
set_option maxRecDepth 100000
set_option maxHeartbeats 1000000
/-! Y1: values as data (tuples, lists that stand still), a store of what may change; the readings of the hand layer lifted to it. -/
namespace Y
open PySem PySem.Spec PyProof.Rows L2
abbrev Sg := L2.St

/-- a value as data: v x the value itself (an int, a text, the address of something that may change); a tuple, a list that stands still -/
inductive D where
  | v (x : V) | tup (ds : List D) | lst (ds : List D)
instance : Inhabited D := ⟨.v .non⟩
abbrev D.int (i : Int) : D := .v (.int i)
abbrev D.str (x : Str) : D := .v (.str x)
abbrev D.bl (b : Bool) : D := .v (.bl b)
abbrev D.non : D := .v .non
abbrev D.ref (a : Addr) : D := .v (.ref a)

mutual
inductive Rep (K : PySem.W.Frag) (F : Hp) : V → D → Prop
  | v (x : V) : Rep K F x (.v x)
  | tup {a : Addr} {xs : List V} {ds : List D} : SqT K F a xs → RepL K F xs ds → Rep K F (.ref a) (.tup ds)
  | lst {a : Addr} {xs : List V} {ds : List D} : SqL K F a xs → RepL K F xs ds → Rep K F (.ref a) (.lst ds)
inductive RepL (K : PySem.W.Frag) (F : Hp) : List V → List D → Prop
  | nil : RepL K F [] []
  | cons {x : V} {xs : List V} {d : D} {ds : List D} : Rep K F x d → RepL K F xs ds → RepL K F (x :: xs) (d :: ds)
end

/-- F stands within H -/
def Le (F H : Hp) : Prop := ∀ a o, F a = some o → H a = some o
theorem Le.refl (F : Hp) : Le F F := fun _ _ h => h
theorem Le.trans {F G H : Hp} (a : Le F G) (b : Le G H) : Le F H := fun x o h => b x o (a x o h)
theorem Rd.le {F H : Hp} {a : Addr} {u : HO} (e : Le F H) (h : Rd F a u) : Rd H a u := by
  rcases h with h | ⟨o, h⟩
  · exact .inl (e _ _ h)
  · exact .inr ⟨o, e _ _ h⟩
theorem SqL.le {K : PySem.W.Frag} {F H : Hp} {a : Addr} {xs : List V} (e : Le F H) (h : SqL K F a xs) : SqL K H a xs := by
  rcases h with h | h
  · exact .inl (Rd.le e h)
  · exact .inr h
theorem SqT.le {K : PySem.W.Frag} {F H : Hp} {a : Addr} {xs : List V} (e : Le F H) (h : SqT K F a xs) : SqT K H a xs := by
  rcases h with h | h
  · exact .inl (Rd.le e h)
  · exact .inr h
mutual
theorem Rep.le {K : PySem.W.Frag} {F H : Hp} (e : Le F H) : ∀ {x : V} {d : D}, Rep K F x d → Rep K H x d
  | _, _, .v x => .v x
  | _, _, .tup h r => .tup (SqT.le e h) (RepL.le e r)
  | _, _, .lst h r => .lst (SqL.le e h) (RepL.le e r)
theorem RepL.le {K : PySem.W.Frag} {F H : Hp} (e : Le F H) : ∀ {xs : List V} {ds : List D}, RepL K F xs ds → RepL K H xs ds
  | _, _, .nil => .nil
  | _, _, .cons a b => .cons (Rep.le e a) (RepL.le e b)
end
section
variable {K : PySem.W.Frag} {F : Hp}
theorem RepL.length : ∀ {xs : List V} {ds : List D}, RepL K F xs ds → xs.length = ds.length
  | _, _, .nil => rfl
  | _, _, .cons _ r => by simp [RepL.length r]
theorem RepL.get : ∀ {xs : List V} {ds : List D} {i : Nat} {d : D}, RepL K F xs ds → ds[i]? = some d → ∃ x, xs[i]? = some x ∧ Rep K F x d
  | _, _, _, _, .nil, h => by simp at h
  | _, _, 0, _, .cons a b, h => by simp at h; subst h; exact ⟨_, rfl, a⟩
  | _, _, i + 1, _, .cons a b, h => by
    obtain ⟨x, h1, h2⟩ := RepL.get (i := i) b (by simpa using h)
    exact ⟨x, by simpa using h1, h2⟩
theorem RepL.get' : ∀ {xs : List V} {ds : List D} {i : Nat} {x : V}, RepL K F xs ds → xs[i]? = some x → ∃ d, ds[i]? = some d ∧ Rep K F x d
  | _, _, _, _, .nil, h => by simp at h
  | _, _, 0, _, .cons a b, h => by simp at h; subst h; exact ⟨_, rfl, a⟩
  | _, _, i + 1, _, .cons a b, h => by
    obtain ⟨x, h1, h2⟩ := RepL.get' (i := i) b (by simpa using h)
    exact ⟨x, by simpa using h1, h2⟩
theorem RepL.append : ∀ {xs ys : List V} {ds es : List D}, RepL K F xs ds → RepL K F ys es → RepL K F (xs ++ ys) (ds ++ es)
  | _, _, _, _, .nil, r => r
  | _, _, _, _, .cons a b, r => .cons a (RepL.append b r)
theorem RepL.set {x : V} {d : D} (r : Rep K F x d) : ∀ {xs : List V} {ds : List D} (i : Nat), RepL K F xs ds → RepL K F (xs.set i x) (ds.set i d)
  | _, _, _, .nil => .nil
  | _, _, 0, .cons _ b => .cons r b
  | _, _, i + 1, .cons a b => .cons a (RepL.set r i b)
theorem RepL.take : ∀ {xs : List V} {ds : List D} (n : Nat), RepL K F xs ds → RepL K F (xs.take n) (ds.take n)
  | _, _, 0, _ => .nil
  | _, _, _ + 1, .nil => .nil
  | _, _, n + 1, .cons a b => .cons a (RepL.take n b)
theorem RepL.drop : ∀ {xs : List V} {ds : List D} (n : Nat), RepL K F xs ds → RepL K F (xs.drop n) (ds.drop n)
  | _, _, 0, r => r
  | _, _, _ + 1, .nil => .nil
  | _, _, n + 1, .cons _ b => RepL.drop n b
theorem RepL.rev : ∀ {xs : List V} {ds : List D}, RepL K F xs ds → RepL K F xs.reverse ds.reverse
  | _, _, .nil => .nil
  | _, _, .cons a b => by simp only [List.reverse_cons]; exact (RepL.rev b).append (.cons a .nil)
theorem RepL.ints (ns : List Int) : RepL K F (ns.map V.int) (ns.map D.int) := by
  induction ns with
  | nil => exact .nil
  | cons n ns ih => exact .cons (.v _) ih
theorem RepL.strs (ns : List Str) : RepL K F (ns.map V.str) (ns.map D.str) := by
  induction ns with
  | nil => exact .nil
  | cons n ns ih => exact .cons (.v _) ih
theorem RepL.vals (ns : List V) : RepL K F ns (ns.map D.v) := by
  induction ns with
  | nil => exact .nil
  | cons n ns ih => exact .cons (.v _) ih
theorem Rep.int_inv {x : V} {i : Int} (h : Rep K F x (.int i)) : x = .int i := by cases h; rfl
theorem Rep.v_inv {x y : V} (h : Rep K F x (.v y)) : x = y := by cases h; rfl
end

/-- what may change, by its address -/
inductive MO where
  | lst (ds : List D) | dct (kvs : List (Key × D)) | ins (C dx : Addr) (fs : List (Str × D)) | lk (o : Obj) (xs : List (Key × V)) (kvs : List (Key × D)) | raw (o : HO)
abbrev Mm := Addr → Option MO
def put (M : Mm) (a : Addr) (m : MO) : Mm := fun b => if b = a then some m else M b
def drop (M : Mm) (a : Addr) : Mm := fun b => if b = a then none else M b
theorem put_same {M : Mm} {a : Addr} {m : MO} : put M a m a = some m := by unfold put; rw [if_pos rfl]
theorem put_ne {M : Mm} {a b : Addr} {m : MO} (h : b ≠ a) : put M a m b = M b := by unfold put; rw [if_neg h]
theorem put_put {M : Mm} {a : Addr} {m n : MO} : put (put M a m) a n = put M a n := by
  funext b; unfold put; split <;> rfl
theorem drop_same {M : Mm} {a : Addr} : drop M a a = none := by unfold drop; rw [if_pos rfl]
theorem drop_ne {M : Mm} {a b : Addr} (h : b ≠ a) : drop M a b = M b := by unfold drop; rw [if_neg h]
theorem drop_put {M : Mm} {a : Addr} {m : MO} (h : M a = none) : drop (put M a m) a = M := by
  funext b; unfold put drop
  by_cases e : b = a
  · rw [if_pos e, e, h]
  · simp only [if_neg e]
theorem put_comm {M : Mm} {a b : Addr} {m n : MO} (h : a ≠ b) : put (put M a m) b n = put (put M b n) a m := by
  funext c; unfold put; split <;> split <;> simp_all
theorem put_get {M : Mm} {a : Addr} {m : MO} (h : M a = some m) : put M a m = M := by
  funext b; unfold put; split
  · rename_i e; rw [e, h]
  · rfl

def RepKV (K : PySem.W.Frag) (F : Hp) {κ : Type} : List (κ × V) → List (κ × D) → Prop := Paired fun p q => p.1 = q.1 ∧ Rep K F p.2 q.2
theorem RepKV.le {K : PySem.W.Frag} {F G : Hp} {κ : Type} {xs : List (κ × V)} {ds : List (κ × D)} (e : Le F G) (h : RepKV K F xs ds) : RepKV K G xs ds := Paired.mapP h fun _ _ q => ⟨q.1, Rep.le e q.2⟩
theorem RepKV.length {K : PySem.W.Frag} {F : Hp} {κ : Type} {xs : List (κ × V)} {ds : List (κ × D)} (h : RepKV K F xs ds) : xs.length = ds.length := Paired.length h

inductive MRep (K : PySem.W.Frag) (F : Hp) : HO → MO → Prop
  | lst {xs : List V} {ds : List D} : RepL K F xs ds → MRep K F (.lst xs) (.lst ds)
  | dct {xs : List (Key × V)} {ds : List (Key × D)} : RepKV K F xs ds → MRep K F (.dK xs) (.dct ds)
  | ins {C dx : Addr} {xs : List (Str × V)} {ds : List (Str × D)} : RepKV K F xs ds → MRep K F (.ins C dx xs) (.ins C dx ds)
  | lk {o : Obj} {xs : List (Key × V)} {ds : List (Key × D)} : RepKV K F xs ds → MRep K F (.frz o (.dK xs)) (.lk o xs ds)
  | raw (o : HO) : MRep K F o (.raw o)
theorem MRep.le {K : PySem.W.Frag} {F G : Hp} (e : Le F G) {o : HO} {m : MO} (h : MRep K F o m) : MRep K G o m := by
  cases h with
  | lst r => exact .lst (RepL.le e r)
  | dct r => exact .dct (RepKV.le e r)
  | ins r => exact .ins (RepKV.le e r)
  | lk r => exact .lk (RepKV.le e r)
  | raw => exact .raw _

/-- the heap H holds what stands still (F) and what may change (M) -/
structure Stt (K : PySem.W.Frag) (H F : Hp) (M : Mm) : Prop where
  fz : Le F H
  mu : ∀ a m, M a = some m → F a = none ∧ ∃ o, H a = some o ∧ MRep K F o m
section
variable {K : PySem.W.Frag} {H F : Hp} {M : Mm}
theorem Stt.free (S : Stt K H F M) {p : Addr} (h : H p = none) : F p = none ∧ M p = none := by
  constructor
  · cases e : F p with
    | none => rfl
    | some o => rw [S.fz _ _ e] at h; cases h
  · cases e : M p with
    | none => rfl
    | some m =>
      obtain ⟨_, o, h2, _⟩ := S.mu _ _ e
      rw [h2] at h; cases h
theorem le_upd {F : Hp} {p : Addr} {o : HO} (h : F p = none) : Le F (upd F p o) := fun a u e => by
  rw [upd_ne (ne_of_none e h)]; exact e
/-- something new that stands still -/
theorem Stt.still (S : Stt K H F M) {p : Addr} {o : HO} (h : H p = none) : Stt K (upd H p o) (upd F p o) M := by
  obtain ⟨f0, m0⟩ := S.free h
  refine ⟨fun a u e => ?_, fun a m e => ?_⟩
  · by_cases q : a = p
    · subst q; rw [upd_same] at e ⊢; exact e
    · rw [upd_ne q] at e ⊢; exact S.fz _ _ e
  · obtain ⟨h1, u, h2, h3⟩ := S.mu _ _ e
    have q : a ≠ p := fun z => by rw [z, m0] at e; cases e
    exact ⟨by rw [upd_ne q]; exact h1, u, by rw [upd_ne q]; exact h2, h3.le (le_upd f0)⟩
/-- something new that may change -/
theorem Stt.newM (S : Stt K H F M) {p : Addr} {o : HO} {m : MO} (h : H p = none) (r : MRep K F o m) : Stt K (upd H p o) F (put M p m) := by
  obtain ⟨f0, m0⟩ := S.free h
  refine ⟨fun a u e => ?_, fun a n e => ?_⟩
  · rw [upd_ne (ne_of_none e f0)]; exact S.fz _ _ e
  · by_cases q : a = p
    · subst q; rw [put_same] at e; cases e; exact ⟨f0, o, upd_same, r⟩
    · rw [put_ne q] at e
      obtain ⟨h1, u, h2, h3⟩ := S.mu _ _ e
      exact ⟨h1, u, by rw [upd_ne q]; exact h2, h3⟩
/-- what may change is changed -/
theorem Stt.change (S : Stt K H F M) {p : Addr} {o : HO} {m m0 : MO} (h : M p = some m0) (r : MRep K F o m) : Stt K (upd H p o) F (put M p m) := by
  obtain ⟨f0, _⟩ := S.mu _ _ h
  refine ⟨fun a u e => ?_, fun a n e => ?_⟩
  · rw [upd_ne (ne_of_none e f0)]; exact S.fz _ _ e
  · by_cases q : a = p
    · subst q; rw [put_same] at e; cases e; exact ⟨f0, o, upd_same, r⟩
    · rw [put_ne q] at e
      obtain ⟨h1, u, h2, h3⟩ := S.mu _ _ e
      exact ⟨h1, u, by rw [upd_ne q]; exact h2, h3⟩
/-- what may change stands still from here on -/
theorem Stt.freeze (S : Stt K H F M) {p : Addr} {m : MO} (h : M p = some m) : ∃ o, H p = some o ∧ MRep K F o m ∧ Le F (upd F p o) ∧ Stt K H (upd F p o) (drop M p) := by
  obtain ⟨f0, o, h2, h3⟩ := S.mu _ _ h
  refine ⟨o, h2, h3, le_upd f0, fun a u e => ?_, fun a n e => ?_⟩
  · by_cases q : a = p
    · subst q; rw [upd_same] at e; cases e; exact h2
    · rw [upd_ne q] at e; exact S.fz _ _ e
  · by_cases q : a = p
    · subst q; rw [drop_same] at e; cases e
    · rw [drop_ne q] at e
      obtain ⟨k1, u, k2, k3⟩ := S.mu _ _ e
      exact ⟨by rw [upd_ne q]; exact k1, u, k2, k3.le (le_upd f0)⟩
/-- less is told -/
theorem Stt.less (S : Stt K H F M) {M' : Mm} (h : ∀ a m, M' a = some m → M a = some m) : Stt K H F M' := ⟨S.fz, fun a m e => S.mu a m (h a m e)⟩
end

/-- the names' values -/
abbrev Env := List (Option D)
inductive RepS (K : PySem.W.Frag) (F : Hp) : Sg → Env → Prop
  | nil : RepS K F [] []
  | some {x : V} {d : D} {σ : Sg} {δ : Env} : Rep K F x d → RepS K F σ δ → RepS K F (Option.some x :: σ) (Option.some d :: δ)
  | none {σ : Sg} {δ : Env} : RepS K F σ δ → RepS K F (Option.none :: σ) (Option.none :: δ)
section
variable {K : PySem.W.Frag} {F G : Hp}
theorem RepS.le (e : Le F G) : ∀ {σ : Sg} {δ : Env}, RepS K F σ δ → RepS K G σ δ
  | _, _, .nil => .nil
  | _, _, .some r t => .some (r.le e) (RepS.le e t)
  | _, _, .none t => .none (RepS.le e t)
theorem RepS.get : ∀ {σ : Sg} {δ : Env} {i : Nat} {d : D}, RepS K F σ δ → δ[i]? = Option.some (Option.some d) → ∃ x, σ[i]? = Option.some (Option.some x) ∧ Rep K F x d
  | _, _, _, _, .nil, h => by simp at h
  | _, _, 0, _, .some r _, h => by simp at h; subst h; exact ⟨_, rfl, r⟩
  | _, _, 0, _, .none _, h => by simp at h
  | _, _, i + 1, _, .some _ t, h => by
    obtain ⟨x, h1, h2⟩ := RepS.get (i := i) t (by simpa using h)
    exact ⟨x, by simpa using h1, h2⟩
  | _, _, i + 1, _, .none t, h => by
    obtain ⟨x, h1, h2⟩ := RepS.get (i := i) t (by simpa using h)
    exact ⟨x, by simpa using h1, h2⟩
theorem RepS.set {x : V} {d : D} (r : Rep K F x d) : ∀ {σ : Sg} {δ : Env} (i : Nat), RepS K F σ δ → RepS K F (σ.set i (Option.some x)) (δ.set i (Option.some d))
  | _, _, _, .nil => .nil
  | _, _, 0, .some _ t => .some r t
  | _, _, 0, .none t => .some r t
  | _, _, i + 1, .some q t => .some q (RepS.set r i t)
  | _, _, i + 1, .none t => .none (RepS.set r i t)
theorem RepS.unset : ∀ {σ : Sg} {δ : Env} (i : Nat), RepS K F σ δ → RepS K F (σ.set i Option.none) (δ.set i Option.none)
  | _, _, _, .nil => .nil
  | _, _, 0, .some _ t => .none t
  | _, _, 0, .none t => .none t
  | _, _, i + 1, .some q t => .some q (RepS.unset i t)
  | _, _, i + 1, .none t => .none (RepS.unset i t)
theorem RepS.append : ∀ {σ τ : Sg} {δ ε : Env}, RepS K F σ δ → RepS K F τ ε → RepS K F (σ ++ τ) (δ ++ ε)
  | _, _, _, _, .nil, t => t
  | _, _, _, _, .some r t, u => .some r (RepS.append t u)
  | _, _, _, _, .none t, u => .none (RepS.append t u)
theorem RepS.ofL : ∀ {xs : List V} {ds : List D}, RepL K F xs ds → RepS K F (xs.map Option.some) (ds.map Option.some)
  | _, _, .nil => .nil
  | _, _, .cons r t => .some r (RepS.ofL t)
theorem RepS.rep (n : Nat) : RepS K F (List.replicate n Option.none) (List.replicate n Option.none) := by
  induction n with
  | zero => exact .nil
  | succ n ih => exact .none ih
theorem RepS.length : ∀ {σ : Sg} {δ : Env}, RepS K F σ δ → σ.length = δ.length
  | _, _, .nil => rfl
  | _, _, .some _ t => by simp [RepS.length t]
  | _, _, .none t => by simp [RepS.length t]
end

/-! ### the readings -/
abbrev QD := D → Mm → Prop
abbrev DE := Env → Mm → QD → Prop
abbrev DT := Env → Mm → (Bool → Mm → Prop) → Prop
abbrev DA := Env → Mm → (List D → Mm → Prop) → Prop
structure DEnds where
  nx : Env → Mm → Prop
  rt : QD
  bk : Env → Mm → Prop := fun _ _ => False
  ct : Env → Mm → Prop := fun _ _ => False
abbrev DS := DEnds → Env → Mm → Prop

def LQ (K : PySem.W.Frag) (F : Hp) (Q : QD) : VK := fun v H' => ∃ F' M' d, Le F F' ∧ Stt K H' F' M' ∧ Rep K F' v d ∧ Q d M'
def LB (K : PySem.W.Frag) (F : Hp) (Q : Bool → Mm → Prop) : Bool → Hp → Prop := fun b H' => ∃ F' M', Le F F' ∧ Stt K H' F' M' ∧ Q b M'
def LL (K : PySem.W.Frag) (F : Hp) (Q : List D → Mm → Prop) : List V → Hp → Prop := fun vs H' => ∃ F' M' ds, Le F F' ∧ Stt K H' F' M' ∧ RepL K F' vs ds ∧ Q ds M'
def LS (K : PySem.W.Frag) (F : Hp) (R : Env → Mm → Prop) : Sg → Hp → Prop := fun σ' H' => ∃ F' M' δ', Le F F' ∧ Stt K H' F' M' ∧ RepS K F' σ' δ' ∧ R δ' M'
theorem LQ.le {K : PySem.W.Frag} {F G : Hp} {Q : QD} {v : V} {H : Hp} (e : Le F G) (h : LQ K G Q v H) : LQ K F Q v H := let ⟨F', M', d, a, b⟩ := h; ⟨F', M', d, e.trans a, b⟩
theorem LB.le {K : PySem.W.Frag} {F G : Hp} {Q : Bool → Mm → Prop} {v : Bool} {H : Hp} (e : Le F G) (h : LB K G Q v H) : LB K F Q v H := let ⟨F', M', a, b⟩ := h; ⟨F', M', e.trans a, b⟩
theorem LL.le {K : PySem.W.Frag} {F G : Hp} {Q : List D → Mm → Prop} {v : List V} {H : Hp} (e : Le F G) (h : LL K G Q v H) : LL K F Q v H := let ⟨F', M', d, a, b⟩ := h; ⟨F', M', d, e.trans a, b⟩
theorem LS.le {K : PySem.W.Frag} {F G : Hp} {Q : Env → Mm → Prop} {v : Sg} {H : Hp} (e : Le F G) (h : LS K G Q v H) : LS K F Q v H := let ⟨F', M', d, a, b⟩ := h; ⟨F', M', d, e.trans a, b⟩

def up (K : PySem.W.Frag) (B : Hp) (t : DE) : TE := fun σ H Q => ∃ F M δ Q', Le B F ∧ Stt K H F M ∧ RepS K F σ δ ∧ t δ M Q' ∧ ∀ v H', LQ K F Q' v H' → Q v H'
def upT (K : PySem.W.Frag) (B : Hp) (t : DT) : TT := fun σ H Q => ∃ F M δ Q', Le B F ∧ Stt K H F M ∧ RepS K F σ δ ∧ t δ M Q' ∧ ∀ v H', LB K F Q' v H' → Q v H'
def upA (K : PySem.W.Frag) (B : Hp) (t : DA) : TA := fun σ H Q => ∃ F M δ Q', Le B F ∧ Stt K H F M ∧ RepS K F σ δ ∧ t δ M Q' ∧ ∀ v H', LL K F Q' v H' → Q v H'
def upS (K : PySem.W.Frag) (B : Hp) (t : DS) : TS := fun E σ H => ∃ F M δ E', Le B F ∧ Stt K H F M ∧ RepS K F σ δ ∧ t E' δ M ∧ (∀ σ' H', LS K F E'.nx σ' H' → E.nx σ' H') ∧ (∀ v H', LQ K F E'.rt v H' → E.rt v H') ∧
  (∀ σ' H', LS K F E'.bk σ' H' → E.bk σ' H') ∧ (∀ σ' H', LS K F E'.ct σ' H' → E.ct σ' H')

theorem PE.wk {X : Cx} {e : Expr} {t t' : TE} (h : PE X e t) (w : ∀ σ H Q, t' σ H Q → t σ H Q) : PE X e t' := ⟨fun pins s σ H Q I q => h.run pins s σ H Q I (w σ H Q q)⟩
theorem PT.wk {X : Cx} {e : Expr} {t t' : TT} (h : PT X e t) (w : ∀ σ H Q, t' σ H Q → t σ H Q) : PT X e t' := ⟨fun pins s σ H Q I q => h.run pins s σ H Q I (w σ H Q q)⟩
theorem PW.wk {X : Cx} {e : Expr} {t t' : TT} (h : PW X e t) (w : ∀ σ H Q, t' σ H Q → t σ H Q) : PW X e t' := ⟨fun wh pins s σ H Q I q => h.run wh pins s σ H Q I (w σ H Q q)⟩
theorem PA.wk {X : Cx} {es : List Expr} {t t' : TA} (h : PA X es t) (w : ∀ σ H Q, t' σ H Q → t σ H Q) : PA X es t' := ⟨fun pos pins s σ H Q I q => h.run pos pins s σ H Q I (w σ H Q q)⟩
theorem PS.wk {X : Cx} {st : Stmt} {t t' : TS} (h : PS X st t) (w : ∀ E σ H, t' E σ H → t E σ H) : PS X st t' := ⟨fun pins s σ H E I q => h.run pins s σ H E I (w E σ H q)⟩
theorem PSs.wk {X : Cx} {st : List Stmt} {t t' : TS} (h : PSs X st t) (w : ∀ E σ H, t' E σ H → t E σ H) : PSs X st t' := ⟨fun pins s σ H E I q => h.run pins s σ H E I (w E σ H q)⟩

section
variable {X : Cx} {B : Hp}
/-! ### names and constants -/
def dVar (i : Nat) : DE := fun δ M Q => ∃ d, δ[i]? = some (some d) ∧ Q d M
def dC (v : V) : DE := fun _ M Q => Q (.v v) M
theorem q_var (i : Nat) {x : Str} {pos : Pos} (hN : X.N[i]? = some x := by rfl) (hv : Vis X.env.scope x := by first | exact Or.inl rfl | exact Or.inr (Or.inl rfl) | exact Or.inr (Or.inr rfl)) (hd : (x == ("__debug__" : Str)) = false := by decide)
    (hcd : (x == ("__classdict__" : Str)) = false := by decide) : PE X (.Name x pos) (up X.K B (dVar i)) :=
  PE.wk (pe_var hN hv hd hcd) fun σ H Q ⟨F, M, δ, Q', lb, S, r, ⟨d, e, q⟩, k⟩ => by
    obtain ⟨x, h1, h2⟩ := r.get e
    exact ⟨x, h1, k _ _ ⟨F, M, d, Le.refl F, S, h2, q⟩⟩
theorem q_const {e : Expr} {v : V} (h : PE X e (tC v)) : PE X e (up X.K B (dC v)) :=
  PE.wk h fun σ H Q ⟨F, M, δ, Q', lb, S, r, q, k⟩ => k _ _ ⟨F, M, _, Le.refl F, S, .v v, q⟩
theorem q_int {i j pos} : PE X (.Constant (.int i) j pos) (up X.K B (dC (.int i))) := q_const pe_int
theorem q_bl {b j pos} : PE X (.Constant (.bool b) j pos) (up X.K B (dC (.bl b))) := q_const pe_bl
theorem q_non {j pos} : PE X (.Constant .none j pos) (up X.K B (dC .non)) := q_const pe_non
theorem q_str {x j pos} : PE X (.Constant (.str x) j pos) (up X.K B (dC (.str x))) := q_const pe_str

/-! ### operators by values -/
abbrev D2 := D → D → Mm → QD → Prop
/-- a rule of the layer, told of data -/
def Lift2 (K : PySem.W.Frag) (r : R2) (r' : D2) : Prop := ∀ H F M x y d e Q' Q, Stt K H F M → Rep K F x d → Rep K F y e → r' d e M Q' → (∀ v H', LQ K F Q' v H' → Q v H') → r x y H Q
def dOp (r : D2) (ta tb : DE) : DE := fun δ M Q => ta δ M fun x M1 => tb δ M1 fun y M2 => r x y M2 Q
theorem up_bin {K : PySem.W.Frag} {B : Hp} {r : R2} {r' : D2} (L : Lift2 K r r') {ta tb : DE} {σ : Sg} {H : Hp} {Q : VK} (h : up K B (dOp r' ta tb) σ H Q) : tOp r (up K B ta) (up K B tb) σ H Q := by
  obtain ⟨F, M, δ, Q', lb, S, rs, h, k⟩ := h
  refine ⟨F, M, δ, _, lb, S, rs, h, fun x H1 ⟨F1, M1, d, l1, S1, r1, h1⟩ => ?_⟩
  refine ⟨F1, M1, δ, _, lb.trans l1, S1, rs.le l1, h1, fun y H2 ⟨F2, M2, e, l2, S2, r2, h2⟩ => ?_⟩
  exact L H2 F2 M2 x y d e Q' Q S2 (r1.le l2) r2 h2 fun v H' q => k v H' (q.le (l1.trans l2))
variable {a b c : Expr} {ta tb tc : DE} {pos : Pos}
theorem q_op {op : Operator} {r : R2} {r' : D2} (ho : OpR X (binaryOp op) r) (L : Lift2 X.K r r') (ha : PE X a (up X.K B ta)) (hb : PE X b (up X.K B tb)) : PE X (.BinOp a op b pos) (up X.K B (dOp r' ta tb)) :=
  PE.wk (pe_op ho ha hb) fun _ _ _ h => up_bin L h
theorem q_cmp {op : CmpOp} {r : R2} {r' : D2} (ho : OpR X (compareOp op) r) (L : Lift2 X.K r r') (ha : PE X a (up X.K B ta)) (hb : PE X b (up X.K B tb)) (hm : behindInMarks op b = false) : PE X (.Compare a [op] [b] pos) (up X.K B (dOp r' ta tb)) :=
  PE.wk (pe_cmpR ho ha hb hm) fun _ _ _ h => up_bin L h
theorem q_ix {r : R2} {r' : D2} (hr : IxR X r) (L : Lift2 X.K r r') (ha : PE X a (up X.K B ta)) (hb : PE X b (up X.K B tb)) (hs : PlainIx b := by intro _ _; rfl) : PE X (.Subscript a b pos) (up X.K B (dOp r' ta tb)) :=
  PE.wk (pe_ix hr ha hb hs) fun _ _ _ h => up_bin L h
/-- a value as a test -/
def dTest (t : DE) : DT := fun δ M Q => t δ M fun d M1 => ∃ k, d = .bl k ∧ Q k M1
theorem up_test {K : PySem.W.Frag} {B : Hp} {t : DE} {σ : Sg} {H : Hp} {Q : Bool → Hp → Prop} (h : upT K B (dTest t) σ H Q) : tTest (up K B t) σ H Q := by
  obtain ⟨F, M, δ, Q', lb, S, rs, h, k⟩ := h
  refine ⟨F, M, δ, _, lb, S, rs, h, fun v H' ⟨F1, M1, d, l1, S1, r1, b, e, h1⟩ => ?_⟩
  subst e
  cases r1
  exact ⟨b, rfl, k _ _ ⟨F1, M1, l1, S1, h1⟩⟩
theorem qt_cmp {op : CmpOp} {r : R2} {r' : D2} (ho : OpR X (compareOp op) r) (L : Lift2 X.K r r') (ha : PE X a (up X.K B ta)) (hb : PE X b (up X.K B tb)) (hm : behindInMarks op b = false) : PT X (.Compare a [op] [b] pos) (upT X.K B (dTest (dOp r' ta tb))) :=
  PT.wk (pt_cmpR ho ha hb hm) fun _ _ _ h => by
    obtain ⟨F, M, δ, Q', lb, S, rs, h, k⟩ := h
    refine up_bin L (Q := fun x H' => ∃ k, x = .bl k ∧ _) ⟨F, M, δ, _, lb, S, rs, h, fun v H' ⟨F1, M1, d, l1, S1, r1, b, e, h1⟩ => ?_⟩
    subst e
    cases r1
    exact ⟨b, rfl, k _ _ ⟨F1, M1, l1, S1, h1⟩⟩
theorem qt_val {e : Expr} {t : DE} (h : PE X e (up X.K B t)) (he : ∀ whole, isTrue e X.env whole = (do let v ← whole; standAt e.pos; holding [v] (truthy v)) := by intro _; rfl) : PT X e (upT X.K B (dTest t)) :=
  PT.wk (pt_val h he) fun _ _ _ h => up_test h
/-- a chain of two comparisons -/
def dChain (r r' : D2) (ta tb tc : DE) : DE := fun δ M Q => ta δ M fun x M1 => tb δ M1 fun y M2 => r x y M2 fun z M3 => ∃ k, z = .bl k ∧ (if k = true then tc δ M3 fun w' M4 => r' y w' M4 Q else Q (.bl false) M3)
theorem up_chain {K : PySem.W.Frag} {B : Hp} {r s : R2} {r' s' : D2} (L : Lift2 K r r') (L' : Lift2 K s s') {ta tb tc : DE} {σ : Sg} {H : Hp} {Q : VK} (h : up K B (dChain r' s' ta tb tc) σ H Q) : tChain r s (up K B ta) (up K B tb) (up K B tc) σ H Q := by
  obtain ⟨F, M, δ, Q', lb, S, rs, h, k⟩ := h
  refine ⟨F, M, δ, _, lb, S, rs, h, fun x H1 ⟨F1, M1, d, l1, S1, r1, h1⟩ => ?_⟩
  refine ⟨F1, M1, δ, _, lb.trans l1, S1, rs.le l1, h1, fun y H2 ⟨F2, M2, e, l2, S2, r2, h2⟩ => ?_⟩
  refine L H2 F2 M2 x y d e _ _ S2 (r1.le l2) r2 h2 fun z H3 ⟨F3, M3, f, l3, S3, r3, b, eb, h3⟩ => ?_
  subst eb
  cases r3
  refine ⟨b, rfl, ?_⟩
  cases b with
  | false => exact iteF (k _ _ ⟨F3, M3, _, (l1.trans l2).trans l3, S3, .v _, by simpa using h3⟩)
  | true =>
    rw [if_pos rfl] at h3
    refine iteT ⟨F3, M3, δ, _, lb.trans ((l1.trans l2).trans l3), S3, rs.le ((l1.trans l2).trans l3), h3, fun w H4 ⟨F4, M4, g, l4, S4, r4, h4⟩ => ?_⟩
    exact L' H4 F4 M4 y w e g Q' Q S4 (r2.le (l3.trans l4)) r4 h4 fun v H' q => k v H' (q.le (((l1.trans l2).trans l3).trans l4))
theorem q_chain {op op' : CmpOp} {r s : R2} {r' s' : D2} (ho : OpR X (compareOp op) r) (L : Lift2 X.K r r') (ho' : OpR X (compareOp op') s) (L' : Lift2 X.K s s') (ha : PE X a (up X.K B ta)) (hb : PE X b (up X.K B tb)) (hc : PE X c (up X.K B tc))
    (hm : lastMarks [op, op'] [b, c] = false := by with_unfolding_all rfl) : PE X (.Compare a [op, op'] [b, c] pos) (up X.K B (dChain r' s' ta tb tc)) :=
  PE.wk (pe_chain ho ho' ha hb hc hm) fun _ _ _ h => up_chain L L' h
theorem qt_chain {op op' : CmpOp} {r s : R2} {r' s' : D2} (ho : OpR X (compareOp op) r) (L : Lift2 X.K r r') (ho' : OpR X (compareOp op') s) (L' : Lift2 X.K s s') (ha : PE X a (up X.K B ta)) (hb : PE X b (up X.K B tb)) (hc : PE X c (up X.K B tc))
    (hm : lastMarks [op, op'] [b, c] = false := by with_unfolding_all rfl) : PT X (.Compare a [op, op'] [b, c] pos) (upT X.K B (dTest (dChain r' s' ta tb tc))) :=
  PT.wk (pt_chain ho ho' ha hb hc hm) fun _ _ _ h => by
    obtain ⟨F, M, δ, Q', lb, S, rs, h, k⟩ := h
    refine up_chain L L' (Q := fun x H' => ∃ k, x = .bl k ∧ _) ⟨F, M, δ, _, lb, S, rs, h, fun v H' ⟨F1, M1, d, l1, S1, r1, b, e, h1⟩ => ?_⟩
    subst e
    cases r1
    exact ⟨b, rfl, k _ _ ⟨F1, M1, l1, S1, h1⟩⟩

/-! ### and, or, not as tests; a conditional expression -/
variable {tA tB' : DT} {rest : List Expr}
def dAnd (t u : DT) : DT := fun δ M Q => t δ M fun c M1 => if c = true then u δ M1 Q else Q false M1
def dOr (t u : DT) : DT := fun δ M Q => t δ M fun c M1 => if c = true then Q true M1 else u δ M1 Q
def dNot (t : DT) : DT := fun δ M Q => t δ M fun c M1 => Q (!c) M1
theorem qw_and1 (ha : PT X a (upT X.K B tA)) : PW X (.BoolOp .And [a] pos) (upT X.K B tA) := pw_and1 ha
theorem qw_or1 (ha : PT X a (upT X.K B tA)) : PW X (.BoolOp .Or [a] pos) (upT X.K B tA) := pw_or1 ha
theorem qw_and (ha : PT X a (upT X.K B tA)) (hb : PW X (.BoolOp .And (b :: rest) pos) (upT X.K B tB')) : PW X (.BoolOp .And (a :: b :: rest) pos) (upT X.K B (dAnd tA tB')) :=
  PW.wk (pw_and ha hb) fun σ H Q ⟨F, M, δ, Q', lb, S, rs, h, k⟩ => ⟨F, M, δ, _, lb, S, rs, h, fun c H1 ⟨F1, M1, l1, S1, h1⟩ => by
    cases c with
    | true => exact iteT ⟨F1, M1, δ, _, lb.trans l1, S1, rs.le l1, by simpa using h1, fun v H' q => k v H' (q.le l1)⟩
    | false => exact iteF (k _ _ ⟨F1, M1, l1, S1, by simpa using h1⟩)⟩
theorem qw_or (ha : PT X a (upT X.K B tA)) (hb : PW X (.BoolOp .Or (b :: rest) pos) (upT X.K B tB')) : PW X (.BoolOp .Or (a :: b :: rest) pos) (upT X.K B (dOr tA tB')) :=
  PW.wk (pw_or ha hb) fun σ H Q ⟨F, M, δ, Q', lb, S, rs, h, k⟩ => ⟨F, M, δ, _, lb, S, rs, h, fun c H1 ⟨F1, M1, l1, S1, h1⟩ => by
    cases c with
    | false => exact iteF ⟨F1, M1, δ, _, lb.trans l1, S1, rs.le l1, by simpa using h1, fun v H' q => k v H' (q.le l1)⟩
    | true => exact iteT (k _ _ ⟨F1, M1, l1, S1, by simpa using h1⟩)⟩
theorem qt_not (ha : PT X a (upT X.K B tA)) : PT X (.UnaryOp .Not a pos) (upT X.K B (dNot tA)) :=
  PT.wk (pt_not ha) fun σ H Q ⟨F, M, δ, Q', lb, S, rs, h, k⟩ => ⟨F, M, δ, _, lb, S, rs, h, fun c H1 ⟨F1, M1, l1, S1, h1⟩ => k _ _ ⟨F1, M1, l1, S1, h1⟩⟩
def dIf (t : DT) (ta tb : DE) : DE := fun δ M Q => t δ M fun c M1 => if c = true then ta δ M1 Q else tb δ M1 Q
theorem q_ifExp (hc : PT X c (upT X.K B tA)) (ha : PE X a (up X.K B ta)) (hb : PE X b (up X.K B tb)) : PE X (.IfExp c a b pos) (up X.K B (dIf tA ta tb)) :=
  PE.wk (pe_ifExp hc ha hb) fun σ H Q ⟨F, M, δ, Q', lb, S, rs, h, k⟩ => ⟨F, M, δ, _, lb, S, rs, h, fun c H1 ⟨F1, M1, l1, S1, h1⟩ => by
    cases c with
    | true => exact iteT ⟨F1, M1, δ, _, lb.trans l1, S1, rs.le l1, by simpa using h1, fun v H' q => k v H' (q.le l1)⟩
    | false => exact iteF ⟨F1, M1, δ, _, lb.trans l1, S1, rs.le l1, by simpa using h1, fun v H' q => k v H' (q.le l1)⟩⟩
/-! ### and, or, not as values that are True or False -/
def dAndV (ta tb : DE) : DE := fun δ M Q => ta δ M fun x M1 => ∃ c, x = .bl c ∧ if c = true then tb δ M1 Q else Q (.bl false) M1
def dOrV (ta tb : DE) : DE := fun δ M Q => ta δ M fun x M1 => ∃ c, x = .bl c ∧ if c = true then Q (.bl true) M1 else tb δ M1 Q
def dNotV (ta : DE) : DE := fun δ M Q => ta δ M fun x M1 => ∃ c, x = .bl c ∧ Q (.bl (!c)) M1
theorem q_one {op} (h : PE X a (up X.K B ta)) : PE X (.BoolOp op [a] pos) (up X.K B ta) := pe_one h
theorem q_and (ha : PE X a (up X.K B ta)) (hb : PE X (.BoolOp .And (b :: rest) pos) (up X.K B tb)) : PE X (.BoolOp .And (a :: b :: rest) pos) (up X.K B (dAndV ta tb)) :=
  PE.wk (pe_and ha hb) fun σ H Q ⟨F, M, δ, Q', lb, S, rs, h, k⟩ => ⟨F, M, δ, _, lb, S, rs, h, fun v H1 ⟨F1, M1, d, l1, S1, r1, c, e, h1⟩ => by
    subst e
    cases r1
    refine ⟨c, rfl, ?_⟩
    cases c with
    | true => exact iteT ⟨F1, M1, δ, _, lb.trans l1, S1, rs.le l1, by simpa using h1, fun v H' q => k v H' (q.le l1)⟩
    | false => exact iteF (k _ _ ⟨F1, M1, _, l1, S1, .v _, by simpa using h1⟩)⟩
theorem q_or (ha : PE X a (up X.K B ta)) (hb : PE X (.BoolOp .Or (b :: rest) pos) (up X.K B tb)) : PE X (.BoolOp .Or (a :: b :: rest) pos) (up X.K B (dOrV ta tb)) :=
  PE.wk (pe_or ha hb) fun σ H Q ⟨F, M, δ, Q', lb, S, rs, h, k⟩ => ⟨F, M, δ, _, lb, S, rs, h, fun v H1 ⟨F1, M1, d, l1, S1, r1, c, e, h1⟩ => by
    subst e
    cases r1
    refine ⟨c, rfl, ?_⟩
    cases c with
    | false => exact iteF ⟨F1, M1, δ, _, lb.trans l1, S1, rs.le l1, by simpa using h1, fun v H' q => k v H' (q.le l1)⟩
    | true => exact iteT (k _ _ ⟨F1, M1, _, l1, S1, .v _, by simpa using h1⟩)⟩
theorem q_not (ha : PE X a (up X.K B ta)) : PE X (.UnaryOp .Not a pos) (up X.K B (dNotV ta)) :=
  PE.wk (pe_not ha) fun σ H Q ⟨F, M, δ, Q', lb, S, rs, h, k⟩ => ⟨F, M, δ, _, lb, S, rs, h, fun v H1 ⟨F1, M1, d, l1, S1, r1, c, e, h1⟩ => by
    subst e
    cases r1
    exact ⟨c, rfl, k _ _ ⟨F1, M1, _, l1, S1, .v _, h1⟩⟩⟩
end
end Y


set_option Elab.async false
set_option linter.all false
set_option maxRecDepth 100000
set_option maxHeartbeats 1000000
/-! Y2: arguments, displays, calls of defs, statements, loops, comprehensions. -/
namespace Y
open PySem PySem.Spec PyProof.Rows L2
section
variable {X : Cx} {B : Hp} {e : Expr} {es : List Expr} {pos : Pos}
/-! ### arguments, displays -/
def dNil : DA := fun _ M Q => Q [] M
def dCons (t : DE) (u : DA) : DA := fun δ M Q => t δ M fun d M1 => u δ M1 fun ds M2 => Q (d :: ds) M2
theorem qa_nil : PA X [] (upA X.K B dNil) := PA.wk pa_nil fun σ H Q ⟨F, M, δ, Q', lb, S, rs, h, k⟩ => k _ _ ⟨F, M, _, Le.refl F, S, .nil, h⟩
theorem qa_cons {t : DE} {u : DA} (ha : PE X e (up X.K B t)) (hr : PA X es (upA X.K B u)) (hs : starEach (e :: es) X.env = (false, eval e X.env) :: starEach es X.env := by rfl) : PA X (e :: es) (upA X.K B (dCons t u)) :=
  PA.wk (pa_cons ha hr hs) fun σ H Q ⟨F, M, δ, Q', lb, S, rs, h, k⟩ => ⟨F, M, δ, _, lb, S, rs, h, fun x H1 ⟨F1, M1, d, l1, S1, r1, h1⟩ =>
    ⟨F1, M1, δ, _, lb.trans l1, S1, rs.le l1, h1, fun xs H2 ⟨F2, M2, ds, l2, S2, r2, h2⟩ => k _ _ ⟨F2, M2, _, l1.trans l2, S2, .cons (r1.le l2) r2, h2⟩⟩⟩
def dTup (t : DA) : DE := fun δ M Q => t δ M fun ds M1 => ds.length ≤ sizeLine ∧ Q (.tup ds) M1
/-- a list that is to stand still -/
def dLst (t : DA) : DE := fun δ M Q => t δ M fun ds M1 => ds.length ≤ sizeLine ∧ Q (.lst ds) M1
/-- a list that is to change -/
def dLstM (t : DA) : DE := fun δ M Q => t δ M fun ds M1 => ds.length ≤ sizeLine ∧ ∀ p, M1 p = none → Q (.ref p) (Y.put M1 p (.lst ds))
theorem q_tup {x1} {t : DA} (h : PA X es (upA X.K B t)) : PE X (.Tuple es x1 pos) (up X.K B (dTup t)) :=
  PE.wk (pe_tup h) fun σ H Q ⟨F, M, δ, Q', lb, S, rs, h, k⟩ => ⟨F, M, δ, _, lb, S, rs, h, fun xs H1 ⟨F1, M1, ds, l1, S1, r1, hl, h1⟩ => ⟨by rw [r1.length]; exact hl, fun p hp => by
    have f0 := (S1.free hp).1
    exact k _ _ ⟨upd F1 p (.tup xs), M1, _, l1.trans (le_upd f0), S1.still hp, .tup (SqT.of upd_same) (r1.le (le_upd f0)), h1⟩⟩⟩
theorem q_lst {t : DA} (h : PA X es (upA X.K B t)) : PE X (.List es pos) (up X.K B (dLst t)) :=
  PE.wk (pe_lst h) fun σ H Q ⟨F, M, δ, Q', lb, S, rs, h, k⟩ => ⟨F, M, δ, _, lb, S, rs, h, fun xs H1 ⟨F1, M1, ds, l1, S1, r1, hl, h1⟩ => ⟨by rw [r1.length]; exact hl, fun p hp => by
    have f0 := (S1.free hp).1
    exact k _ _ ⟨upd F1 p (.lst xs), M1, _, l1.trans (le_upd f0), S1.still hp, .lst (SqL.of upd_same) (r1.le (le_upd f0)), h1⟩⟩⟩
theorem q_lstM {t : DA} (h : PA X es (upA X.K B t)) : PE X (.List es pos) (up X.K B (dLstM t)) :=
  PE.wk (pe_lst h) fun σ H Q ⟨F, M, δ, Q', lb, S, rs, h, k⟩ => ⟨F, M, δ, _, lb, S, rs, h, fun xs H1 ⟨F1, M1, ds, l1, S1, r1, hl, h1⟩ => ⟨by rw [r1.length]; exact hl, fun p hp => by
    exact k _ _ ⟨F1, Y.put M1 p (.lst ds), _, l1, S1.newM hp (.lst r1), .v _, h1 p (S1.free hp).2⟩⟩⟩
def dDict : DE := fun δ M Q => ∀ p, M p = none → Q (.ref p) (Y.put M p (.dct []))
theorem q_dict : PE X (.Dict [] [] pos) (up X.K B dDict) :=
  PE.wk pe_dnewK fun σ H Q ⟨F, M, δ, Q', lb, S, rs, h, k⟩ p hp => k _ _ ⟨F, Y.put M p (.dct []), _, Le.refl F, S.newM hp (.dct .nil), .v _, h p (S.free hp).2⟩
/-- a list that has been made stands still from here on -/
def dFrz (t : DE) : DE := fun δ M Q => t δ M fun d M1 => ∃ p ds, d = .ref p ∧ M1 p = some (.lst ds) ∧ Q (.lst ds) (Y.drop M1 p)
theorem frz_le {K : PySem.W.Frag} {F : Hp} {Q : QD} {H1 : Hp} {x : V} {d : D} {F1 : Hp} {M1 : Mm} {p : Addr} {ds : List D} (l1 : Le F F1) (S1 : Stt K H1 F1 M1) (r1 : Rep K F1 x d) (e : d = .ref p) (em : M1 p = some (.lst ds)) (h : Q (.lst ds) (Y.drop M1 p)) : LQ K F Q x H1 := by
  subst e
  cases r1
  obtain ⟨o, h1, h2, l2, S2⟩ := S1.freeze em
  cases h2 with
  | lst r => exact ⟨_, _, _, l1.trans l2, S2, .lst (SqL.of upd_same) (r.le l2), h⟩
theorem q_frz {t : DE} (h : PE X e (up X.K B t)) : PE X e (up X.K B (dFrz t)) :=
  PE.wk h fun σ H Q ⟨F, M, δ, Q', lb, S, rs, h, k⟩ => ⟨F, M, δ, _, lb, S, rs, h, fun x H1 ⟨F1, M1, d, l1, S1, r1, p, ds, e, em, h1⟩ => k _ _ (frz_le l1 S1 r1 e em h1)⟩

/-! ### what a def promises, over data -/
/-- of an exception: its class, its fields -/
abbrev DX := Value → List (Str × D) → Mm → Prop
abbrev DSp := List D → Mm → QD → DX → Prop
def LX (K : PySem.W.Frag) (F : Hp) (E : DX) : XK := fun c od H' => ∃ F' M' fs dx vs, Le F F' ∧ Stt K H' F' M' ∧ od = some dx ∧ F' dx = some (.xd vs) ∧ RepKV K F' vs fs ∧ E c fs M'
theorem LX.le {K : PySem.W.Frag} {F G : Hp} {E : DX} {c : Value} {od : Option Addr} {H : Hp} (e : Le F G) (h : LX K G E c od H) : LX K F E c od H := let ⟨F', M', fs, dx, vs, a, b⟩ := h; ⟨F', M', fs, dx, vs, e.trans a, b⟩
def spOf (K : PySem.W.Frag) (s : DSp) : Sp := fun vs H Q E => ∃ F M ds Q' E', Stt K H F M ∧ RepL K F vs ds ∧ s ds M Q' E' ∧ (∀ v H', LQ K F Q' v H' → Q v H') ∧ ∀ c od H', LX K F E' c od H' → E c od H'
abbrev noX : DX := fun _ _ _ => False
def dCall (s : DSp) (t : DA) : DE := fun δ M Q => t δ M fun ds M1 => s ds M1 Q noX
theorem noX_ok {K : PySem.W.Frag} {F : Hp} {E : XK} : ∀ c od H', LX K F noX c od H' → E c od H' := fun _ _ _ ⟨_, _, _, _, _, _, _, _, _, _, q⟩ => q.elim
theorem up_call {K : PySem.W.Frag} {s : DSp} {t : DA} {σ : Sg} {H : Hp} {Q : VK} {E : XK} (h : up K B (dCall s t) σ H Q) : tCall (spOf K s) [] E (upA K B t) σ H Q := by
  obtain ⟨F, M, δ, Q', lb, S, rs, h, k⟩ := h
  refine ⟨F, M, δ, _, lb, S, rs, h, fun vs H1 ⟨F1, M1, ds, l1, S1, r1, h1⟩ => ?_⟩
  show spOf K s (vs ++ []) H1 Q E
  rw [List.append_nil]
  exact ⟨F1, M1, ds, _, _, S1, r1, h1, fun v H' q => k v H' (q.le l1), noX_ok⟩
section
variable {CX : CXT} {k : Nat} {f C : Addr} {fd : FuncData} {ps : List Str} {s : DSp} {x m : Str} {p apos : Pos} {o : Expr} {t : DA}
/-- f(e, ..), nothing raised -/
theorem q_call (F : FnOk X.prog X.w X.K X.mg X.base CX k f fd ps (spOf X.K s)) (hr : Room k X.A) (hg : Gl X x) (hm : X.mg x = some (.ref f)) (hk : PySem.W.keepIn X.K (.ref f) = true) (hb : Binds X.K fd ps []) (hx : Passes CX X E0) (ha : PA X (e :: es) (upA X.K B t))
    (hd : (x == ("__debug__" : Str)) = false := by decide) (he : starEach (e :: es) X.env = (false, eval e X.env) :: starEach es X.env := by rfl) (hpl : (backTo pos (starEach es X.env)).any (·.1) = false := by rfl) : PE X (.Call (.Name x p) (e :: es) [] pos) (up X.K B (dCall s t)) :=
  PE.wk (pe_call F hr hg hm hk hb .nil hx ha (hdb := hd) (he := he) (hpl := hpl)) fun _ _ _ h => up_call h
end

/-! ### targets -/
abbrev DG := D → Env → Mm → (Env → Mm → Prop) → Prop
abbrev DGs := List D → Env → Mm → (Env → Mm → Prop) → Prop
def upG (K : PySem.W.Frag) (B : Hp) (t : DG) : TG := fun v σ H Q => ∃ F M δ d Q', Le B F ∧ Stt K H F M ∧ RepS K F σ δ ∧ Rep K F v d ∧ t d δ M Q' ∧ ∀ σ' H', LS K F Q' σ' H' → Q σ' H'
def upGs (K : PySem.W.Frag) (B : Hp) (t : DGs) : TGs := fun vs σ H Q => ∃ F M δ ds Q', Le B F ∧ Stt K H F M ∧ RepS K F σ δ ∧ RepL K F vs ds ∧ t ds δ M Q' ∧ ∀ σ' H', LS K F Q' σ' H' → Q σ' H'
theorem PG.wk {g : Expr} {t t' : TG} (h : PG X g t) (w : ∀ v σ H Q, t' v σ H Q → t v σ H Q) : PG X g t' := ⟨fun pins s σ H v u Q I r q => h.run pins s σ H v u Q I r (w v σ H Q q)⟩
theorem PGs.wk {g : List Expr} {t t' : TGs} (h : PGs X g t) (w : ∀ v σ H Q, t' v σ H Q → t v σ H Q) : PGs X g t' := ⟨fun pins s σ H v u Q I r q => h.run pins s σ H v u Q I r (w v σ H Q q)⟩
def dgName (i : Nat) : DG := fun d δ M Q => Q (δ.set i (some d)) M
theorem qg_name {i : Nat} {x : Str} (hN : X.N.Nodup) (hi : X.N[i]? = some x) (hx : Loc X.env.scope x) (hf : X.fn x = true ∨ X.env.scope.names.lookup x = some .local := by first | exact .inl rfl | exact .inr rfl | assumption) : PG X (.Name x pos) (upG X.K B (dgName i)) :=
  PG.wk (pg_name hN hi hx hf) fun v σ H Q ⟨F, M, δ, d, Q', lb, S, rs, r, h, k⟩ => k _ _ ⟨F, M, _, Le.refl F, S, rs.set r i, h⟩
def dgNil : DGs := fun ds δ M Q => ds = [] ∧ Q δ M
def dgCons (t : DG) (u : DGs) : DGs := fun ds δ M Q => ∃ d r, ds = d :: r ∧ t d δ M fun δ' M' => u r δ' M' Q
theorem qgs_nil : PGs X [] (upGs X.K B dgNil) := PGs.wk pgs_nil fun v σ H Q ⟨F, M, δ, d, Q', lb, S, rs, r, ⟨e, h⟩, k⟩ => by
  subst e
  cases r
  exact ⟨rfl, k _ _ ⟨F, M, _, Le.refl F, S, rs, h⟩⟩
theorem qgs_cons {t : DG} {u : DGs} (h1 : PG X e (upG X.K B t)) (h2 : PGs X es (upGs X.K B u)) (hs : (assignEach (e :: es) X.env).map (·.2) = assign e X.env :: (assignEach es X.env).map (·.2) := by rfl) : PGs X (e :: es) (upGs X.K B (dgCons t u)) :=
  PGs.wk (pgs_cons h1 h2 hs) fun v σ H Q ⟨F, M, δ, ds, Q', lb, S, rs, r, ⟨d, r', e, h⟩, k⟩ => by
    subst e
    cases r with
    | cons r1 r2 => exact ⟨_, _, rfl, F, M, δ, d, _, lb, S, rs, r1, h, fun σ' H' ⟨F1, M1, δ1, l1, S1, rs1, h1⟩ => ⟨F1, M1, δ1, _, _, lb.trans l1, S1, rs1, r2.le l1, h1, fun σ2 H2 q => k _ _ (q.le l1)⟩⟩
def dgTup (n : Nat) (t : DGs) : DG := fun d δ M Q => ∃ ds, d = .tup ds ∧ ds.length = n ∧ t ds δ M Q
theorem qg_tup {k : Nat} {t : DGs} {n : Nat} (hc : X.calm = true) (h : PGs X es (upGs X.K B t)) (hn : (assignEach es X.env).length = n := by rfl) (hst : (assignEach es X.env).findIdx? (·.1) = none := by rfl) : PG X (.Tuple es k pos) (upG X.K B (dgTup n t)) :=
  PG.wk (pg_tup hc h hn hst) fun v σ H Q ⟨F, M, δ, d, Q', lb, S, rs, r, ⟨ds, e, hl, h⟩, k⟩ => by
    subst e
    cases r with
    | tup hs rl => exact ⟨_, _, rfl, SqT.le S.fz hs, by rw [rl.length]; exact hl, F, M, δ, ds, _, lb, S, rs, rl, h, k⟩

/-! ### statements -/
def dNext : DS := fun E δ M => E.nx δ M
def dSeq (t u : DS) : DS := fun E δ M => t { E with nx := u E } δ M
theorem up_seq {K : PySem.W.Frag} {t u : DS} : ∀ E σ H, upS K B (dSeq t u) E σ H → tSeq (upS K B t) (upS K B u) E σ H := fun E σ H ⟨F, M, δ, E', lb, S, rs, h, k1, k2, k3, k4⟩ =>
  ⟨F, M, δ, { E' with nx := u E' }, lb, S, rs, h, fun σ' H' ⟨F1, M1, δ1, l1, S1, rs1, h1⟩ => ⟨F1, M1, δ1, E', lb.trans l1, S1, rs1, h1, fun _ _ q => k1 _ _ (q.le l1), fun _ _ q => k2 _ _ (q.le l1), fun _ _ q => k3 _ _ (q.le l1), fun _ _ q => k4 _ _ (q.le l1)⟩, k2, k3, k4⟩
variable {st : Stmt} {rest : List Stmt} {t u : DS}
/-- two statements, cut between them by what is known there -/
def dCut (t u : DS) : DS := fun E δ M => ∃ N : Env → Mm → Prop, (∀ δ' M', N δ' M' → u E δ' M') ∧ t { E with nx := N } δ M
theorem up_cut {K : PySem.W.Frag} {t u : DS} : ∀ E σ H, upS K B (dCut t u) E σ H → tSeq (upS K B t) (upS K B u) E σ H := fun E σ H ⟨F, M, δ, E', lb, S, rs, ⟨N, hN, h⟩, k1, k2, k3, k4⟩ =>
  ⟨F, M, δ, { E' with nx := N }, lb, S, rs, h, fun σ' H' ⟨F1, M1, δ1, l1, S1, rs1, h1⟩ => ⟨F1, M1, δ1, E', lb.trans l1, S1, rs1, hN _ _ h1, fun _ _ q => k1 _ _ (q.le l1), fun _ _ q => k2 _ _ (q.le l1), fun _ _ q => k3 _ _ (q.le l1), fun _ _ q => k4 _ _ (q.le l1)⟩, k2, k3, k4⟩
theorem qss_cut (h1 : PS X st (upS X.K B t)) (h2 : PSs X rest (upS X.K B u)) : PSs X (st :: rest) (upS X.K B (dCut t u)) := PSs.wk (pss_cons h1 h2) up_cut
theorem qss_nil : PSs X [] (upS X.K B dNext) := PSs.wk pss_nil fun E σ H ⟨F, M, δ, E', lb, S, rs, h, k1, k2, k3, k4⟩ => k1 _ _ ⟨F, M, δ, Le.refl F, S, rs, h⟩
theorem qss_cons (h1 : PS X st (upS X.K B t)) (h2 : PSs X rest (upS X.K B u)) : PSs X (st :: rest) (upS X.K B (dSeq t u)) := PSs.wk (pss_cons h1 h2) up_seq
theorem qss_one (h1 : PS X st (upS X.K B t)) : PSs X [st] (upS X.K B t) := pss_one h1
theorem qs_pass : PS X (.Pass pos) (upS X.K B dNext) := PS.wk ps_pass fun E σ H ⟨F, M, δ, E', lb, S, rs, h, k1, k2, k3, k4⟩ => k1 _ _ ⟨F, M, δ, Le.refl F, S, rs, h⟩
def dBreak : DS := fun E δ M => E.bk δ M
def dCont : DS := fun E δ M => E.ct δ M
theorem qs_break : PS X (.Break pos) (upS X.K B dBreak) := PS.wk ps_break fun E σ H ⟨F, M, δ, E', lb, S, rs, h, k1, k2, k3, k4⟩ => k3 _ _ ⟨F, M, δ, Le.refl F, S, rs, h⟩
theorem qs_continue : PS X (.Continue pos) (upS X.K B dCont) := PS.wk ps_continue fun E σ H ⟨F, M, δ, E', lb, S, rs, h, k1, k2, k3, k4⟩ => k4 _ _ ⟨F, M, δ, Le.refl F, S, rs, h⟩
def dNever : DS := fun _ _ _ => False
theorem qs_never : PS X st (upS X.K B dNever) := PS.wk ps_never fun E σ H ⟨F, M, δ, E', lb, S, rs, h, _⟩ => h
def dDrop (t : DE) : DS := fun E δ M => t δ M fun _ M1 => E.nx δ M1
theorem qs_expr {t : DE} (he : PE X e (up X.K B t)) (hs : swapsWith e none pos.line X.env = pure false := by rfl) : PS X (.Expr e pos) (upS X.K B (dDrop t)) :=
  PS.wk (ps_expr he hs) fun E σ H ⟨F, M, δ, E', lb, S, rs, h, k1, k2, k3, k4⟩ => ⟨F, M, δ, _, lb, S, rs, h, fun x H1 ⟨F1, M1, d, l1, S1, r1, h1⟩ => k1 _ _ ⟨F1, M1, δ, l1, S1, rs.le l1, h1⟩⟩
def dRet (t : DE) : DS := fun E δ M => t δ M E.rt
theorem qs_ret {t : DE} (he : PE X e (up X.K B t)) : PS X (.Return (some e) pos) (upS X.K B (dRet t)) :=
  PS.wk (ps_ret he) fun E σ H ⟨F, M, δ, E', lb, S, rs, h, k1, k2, k3, k4⟩ => ⟨F, M, δ, _, lb, S, rs, h, k2⟩
def dRetN : DS := fun E _ M => E.rt .non M
theorem qs_retN : PS X (.Return none pos) (upS X.K B dRetN) :=
  PS.wk ps_retN fun E σ H ⟨F, M, δ, E', lb, S, rs, h, k1, k2, k3, k4⟩ => k2 _ _ ⟨F, M, _, Le.refl F, S, .v _, h⟩
def dIfS (c : DT) (t u : DS) : DS := fun E δ M => c δ M fun b M1 => if b = true then t E δ M1 else u E δ M1
theorem qs_if {c : Expr} {a b : List Stmt} {tc : DT} (hc : PT X c (upT X.K B tc)) (ha : PSs X a (upS X.K B t)) (hb : PSs X b (upS X.K B u)) : PS X (.If c a b pos) (upS X.K B (dIfS tc t u)) :=
  PS.wk (ps_if hc ha hb) fun E σ H ⟨F, M, δ, E', lb, S, rs, h, k1, k2, k3, k4⟩ => ⟨F, M, δ, _, lb, S, rs, h, fun c H1 ⟨F1, M1, l1, S1, h1⟩ => by
    cases c with
    | true => exact iteT ⟨F1, M1, δ, E', lb.trans l1, S1, rs.le l1, by simpa using h1, fun _ _ q => k1 _ _ (q.le l1), fun _ _ q => k2 _ _ (q.le l1), fun _ _ q => k3 _ _ (q.le l1), fun _ _ q => k4 _ _ (q.le l1)⟩
    | false => exact iteF ⟨F1, M1, δ, E', lb.trans l1, S1, rs.le l1, by simpa using h1, fun _ _ q => k1 _ _ (q.le l1), fun _ _ q => k2 _ _ (q.le l1), fun _ _ q => k3 _ _ (q.le l1), fun _ _ q => k4 _ _ (q.le l1)⟩⟩
def dAsg (t : DE) (g : DG) : DS := fun E δ M => t δ M fun d M1 => g d δ M1 E.nx
theorem up_asg {K : PySem.W.Frag} {t : DE} {g : DG} : ∀ E σ H, upS K B (dAsg t g) E σ H → tAsg (up K B t) (upG K B g) E σ H := fun E σ H ⟨F, M, δ, E', lb, S, rs, h, k1, k2, k3, k4⟩ =>
  ⟨F, M, δ, _, lb, S, rs, h, fun x H1 ⟨F1, M1, d, l1, S1, r1, h1⟩ => ⟨F1, M1, δ, d, _, lb.trans l1, S1, rs.le l1, r1, h1, fun σ' H' q => k1 _ _ (q.le l1)⟩⟩
theorem qs_asg {tg : Expr} {t : DE} {g : DG} (he : PE X e (up X.K B t)) (hg : PG X tg (upG X.K B g)) (hs : swapsWithSole [tg] e pos.line X.env = pure false := by rfl) (hw : swappedStores [tg] e X.env = pure none := by rfl)
    (h1 : (assignEach [tg] X.env).map (·.2) = [assign tg X.env] := by rfl) : PS X (.Assign [tg] e pos) (upS X.K B (dAsg t g)) := PS.wk (ps_asg he hg hs hw h1) up_asg
theorem qs_set {i : Nat} {x : Str} {t : DE} {pos' : Pos} (hN : X.N.Nodup) (hi : X.N[i]? = some x) (hx : Loc X.env.scope x) (he : PE X e (up X.K B t)) (hs : swapsWith e (some (.Name x pos')) pos.line X.env = pure false := by rfl)
    (hf : X.fn x = true ∨ X.env.scope.names.lookup x = some .local := by first | exact .inl rfl | exact .inr rfl | assumption) : PS X (.Assign [.Name x pos'] e pos) (upS X.K B (dAsg t (dgName i))) :=
  PS.wk (ps_set hN hi hx he hs hf) fun E σ H ⟨F, M, δ, E', lb, S, rs, h, k1, k2, k3, k4⟩ => ⟨F, M, δ, _, lb, S, rs, h, fun x H1 ⟨F1, M1, d, l1, S1, r1, h1⟩ => k1 _ _ ⟨F1, M1, _, l1, S1, (rs.le l1).set r1 i, h1⟩⟩
def dPar (i j : Nat) (ta : DA) : DS := fun E δ M => ta δ M fun ds M1 => ∃ v w, ds = [v, w] ∧ E.nx ((δ.set i (some v)).set j (some w)) M1
theorem qs_par {i j : Nat} {x y : Str} {a b : Expr} {ta : DA} {px py pt : Pos} {kt k2 pt2} (hc : X.calm = true) (hN : X.N.Nodup) (hi : X.N[i]? = some x) (hj : X.N[j]? = some y) (hij : i ≠ j)
    (hx : X.env.scope.names.lookup x = some .local) (hy : X.env.scope.names.lookup y = some .local) (ha : PA X [a, b] (upA X.K B ta)) (hw : swappedStores [.Tuple [.Name x px, .Name y py] kt pt] (.Tuple [a, b] k2 pt2) X.env = pure (some [x, y]) := by rfl) (hs : swapsWithSole [.Tuple [.Name x px, .Name y py] kt pt] (.Tuple [a, b] k2 pt2) pos.line X.env = pure false := by rfl) :
    PS X (.Assign [.Tuple [.Name x px, .Name y py] kt pt] (.Tuple [a, b] k2 pt2) pos) (upS X.K B (dPar i j ta)) :=
  PS.wk (ps_par hc hN hi hj hij hx hy ha hw hs) fun E σ H ⟨F, M, δ, E', lb, S, rs, h, k1, k2, k3, k4⟩ => ⟨F, M, δ, _, lb, S, rs, h, fun vs H1 ⟨F1, M1, ds, l1, S1, r1, v, w, e, h1⟩ => by
    subst e
    cases r1 with
    | cons ra rb =>
      cases rb with
      | cons rb rc =>
        cases rc
        exact ⟨_, _, rfl, k1 _ _ ⟨F1, M1, _, l1, S1, ((rs.le l1).set ra i).set rb j, h1⟩⟩⟩
/-- x op= e, a local -/
def dAug (i : Nat) (t : DE) (r : D2) : DS := fun E δ M => ∃ x, δ[i]? = some (some x) ∧ t δ M fun y M1 => r x y M1 fun z M2 => E.nx (δ.set i (some z)) M2
theorem qs_aug {i : Nat} {x : Str} {t : DE} {op : Operator} {r : TIp} {r' : D2} {pos' : Pos} (hN : X.N.Nodup) (hi : X.N[i]? = some x) (hx : Loc X.env.scope x) (he : PE X e (up X.K B t)) (ho : PIp X op r) (L : Lift2 X.K r r')
    (hf : X.fn x = true ∨ X.env.scope.names.lookup x = some .local := by first | exact .inl rfl | exact .inr rfl | assumption) : PS X (.AugAssign (.Name x pos') op e pos) (upS X.K B (dAug i t r')) :=
  PS.wk (ps_aug hN hi hx he ho hf) fun E σ H ⟨F, M, δ, E', lb, S, rs, ⟨d, ed, h⟩, k1, k2, k3, k4⟩ => by
    obtain ⟨v, h1, h2⟩ := rs.get ed
    refine ⟨v, h1, F, M, δ, _, lb, S, rs, h, fun y H1 ⟨F1, M1, e, l1, S1, r1, h3⟩ => ?_⟩
    exact L H1 F1 M1 v y d e _ _ S1 (h2.le l1) r1 h3 fun z H2 ⟨F2, M2, f, l2, S2, r2, h4⟩ => k1 _ _ ⟨F2, M2, _, l1.trans l2, S2, (rs.le (l1.trans l2)).set r2 i, h4⟩

/-! ### while -/
def whileD (c : DT) (tb : DS) (E : DEnds) : Nat → Env → Mm → Prop
  | 0, _, _ => False
  | n + 1, δ, M => ∃ N : Env → Mm → Prop, (∀ δ' M', N δ' M' → whileD c tb E n δ' M') ∧ c δ M fun b M1 => if b = true then tb { E with nx := N, ct := N, bk := E.nx } δ M1 else E.nx δ M1
def dWhile (c : DT) (tb : DS) : DS := fun E δ M => ∃ n, whileD c tb E n δ M
theorem qs_while {c : Expr} {body : List Stmt} {tc : DT} {tb : DS} (hp : PassesOwn (model X.prog X.w) X.A X.env X.xe) (hc : PT X c (upT X.K B tc)) (hb : PSs X body (upS X.K B tb)) : PS X (.While c body [] pos) (upS X.K B (dWhile tc tb)) :=
  PS.wk (ps_while hp hc hb) fun E σ H ⟨F, M, δ, E', lb, S, rs, ⟨n, h⟩, k1, k2, k3, k4⟩ => by
    refine ⟨fun m σ H => ∃ F1 M1 δ1, Le F F1 ∧ Stt X.K H F1 M1 ∧ RepS X.K F1 σ δ1 ∧ whileD tc tb E' m δ1 M1, ⟨n, F, M, δ, Le.refl F, S, rs, h⟩, ?_⟩
    rintro m σ1 H1 ⟨F1, M1, δ1, l1, S1, rs1, h1⟩
    cases m with
    | zero => exact h1.elim
    | succ m =>
      obtain ⟨N, hN, h1⟩ := h1
      refine ⟨F1, M1, δ1, _, lb.trans l1, S1, rs1, h1, fun b H2 ⟨F2, M2, l2, S2, h2⟩ => ?_⟩
      cases b with
      | false => exact iteF (k1 _ _ ⟨F2, M2, δ1, l1.trans l2, S2, rs1.le l2, by simpa using h2⟩)
      | true =>
        rw [if_pos rfl] at h2
        refine iteT ⟨fun σ' H' => ∃ F1 M1 δ1, Le F F1 ∧ Stt X.K H' F1 M1 ∧ RepS X.K F1 σ' δ1 ∧ whileD tc tb E' m δ1 M1, fun σ' H' q => ⟨m, Nat.lt_succ_self m, q⟩, ?_⟩
        refine ⟨F2, M2, δ1, _, lb.trans (l1.trans l2), S2, rs1.le l2, h2, fun σ' H' ⟨F3, M3, δ3, l3, S3, r3, h3⟩ => ⟨F3, M3, δ3, (l1.trans l2).trans l3, S3, r3, hN _ _ h3⟩, fun v H' q => k2 _ _ (q.le (l1.trans l2)),
          fun σ' H' q => k1 _ _ (q.le (l1.trans l2)), fun σ' H' ⟨F3, M3, δ3, l3, S3, r3, h3⟩ => ⟨F3, M3, δ3, (l1.trans l2).trans l3, S3, r3, hN _ _ h3⟩⟩

/-! ### for -/
/-- what is walked: its items, what must stay meanwhile -/
abbrev DI := Env → Mm → (List D → (Mm → Prop) → Mm → Prop) → Prop
structure Yl (K : PySem.W.Frag) (J : It) (F0 : Hp) (ds : List D) (G : Mm → Prop) : Prop where
  go : ∀ i H F M, Le F0 F → Stt K H F M → G M → i < ds.length → J.go i H
  stop : ∀ H F M, Le F0 F → Stt K H F M → G M → J.stop ds.length H
  yld : ∀ i H F M x H', Le F0 F → Stt K H F M → G M → i < ds.length → J.yld i H x H' → ∃ F' d, Le F F' ∧ Stt K H' F' M ∧ ds[i]? = some d ∧ Rep K F' x d
def upI (K : PySem.W.Frag) (B : Hp) (t : DI) : TI := fun σ H R => ∃ F M δ R', Le B F ∧ Stt K H F M ∧ RepS K F σ δ ∧ t δ M R' ∧ ∀ J H', (∃ F' M' ds G, Le F F' ∧ Stt K H' F' M' ∧ Yl K J F' ds G ∧ R' ds G M') → R J H'
theorem PI.wk {tg it : Expr} {t t' : TI} (h : PI X tg it t) (w : ∀ σ H R, t' σ H R → t σ H R) : PI X tg it t' := ⟨fun pins s σ H R I q => h.run pins s σ H R I (w σ H R q)⟩
def forD (G : Mm → Prop) (g : DG) (tb : DS) (E : DEnds) : List D → Env → Mm → Prop
  | [], δ, M => G M ∧ E.nx δ M
  | d :: ds, δ, M => G M ∧ ∃ N : Env → Mm → Prop, (∀ δ' M', N δ' M' → forD G g tb E ds δ' M') ∧ g d δ M fun δ' M' => tb { E with nx := N, ct := N, bk := E.nx } δ' M'
def dFor (wi : DI) (g : DG) (tb : DS) : DS := fun E δ M => wi δ M fun ds G M1 => forD G g tb E ds δ M1
theorem forD_G {G : Mm → Prop} {g : DG} {tb : DS} {E : DEnds} {ds : List D} {δ : Env} {M : Mm} (h : forD G g tb E ds δ M) : G M := by
  cases ds with
  | nil => exact h.1
  | cons d ds => exact h.1
theorem qs_for {iter tg : Expr} {body : List Stmt} {wi : DI} {g : DG} {tb : DS} (hp : PassesOwn (model X.prog X.w) X.A X.env X.xe) (hc : X.calm = true) (hi : PI X tg iter (upI X.K B wi)) (hg : PG X tg (upG X.K B g)) (hb : PSs X body (upS X.K B tb))
    (hs : ∀ x, foldedSetIterable iter X.env x = pure x := by intro _; rfl) : PS X (.For tg iter body [] pos) (upS X.K B (dFor wi g tb)) :=
  PS.wk (ps_for hp hc hi hg hb hs) fun E σ H ⟨F, M, δ, E', lb, S, rs, h, k1, k2, k3, k4⟩ => by
    refine ⟨F, M, δ, _, lb, S, rs, h, fun J H1 ⟨F1, M1, ds, G, l1, S1, Yw, h1⟩ => ?_⟩
    let P : Nat → Sg → Hp → Prop := fun i σ H => ∃ F2 M2 δ2, Le F1 F2 ∧ Stt X.K H F2 M2 ∧ RepS X.K F2 σ δ2 ∧ forD G g tb E' (ds.drop i) δ2 M2
    refine ⟨fun i m σ H => m = ds.length - i ∧ i ≤ ds.length ∧ P i σ H, ⟨ds.length, by simp, Nat.zero_le _, F1, M1, δ, Le.refl F1, S1, rs.le l1, by simpa using h1⟩, ?_⟩
    rintro i m σ2 H2 ⟨rfl, hi, F2, M2, δ2, l2, S2, rs2, h2⟩
    have gm := forD_G h2
    by_cases hlt : i < ds.length
    · refine .inr ⟨Yw.go i H2 F2 M2 l2 S2 gm hlt, P (i + 1), fun σ' H' q => ⟨ds.length - (i + 1), by omega, rfl, hlt, q⟩, fun x H3 y => ?_⟩
      obtain ⟨F3, d, l3, S3, e3, r3⟩ := Yw.yld i H2 F2 M2 x H3 l2 S2 gm hlt y
      rw [List.drop_eq_getElem_cons hlt] at h2
      have ed : ds[i] = d := by
        rw [List.getElem?_eq_getElem hlt] at e3
        exact Option.some.inj e3
      rw [ed] at h2
      obtain ⟨_, N, hN, h2⟩ := h2
      refine ⟨F3, M2, δ2, d, _, lb.trans ((l1.trans l2).trans l3), S3, rs2.le l3, r3, h2, fun σ4 H4 ⟨F4, M4, δ4, l4, S4, rs4, h4⟩ => ?_⟩
      have l14 : Le F1 F4 := (l2.trans l3).trans l4
      have l04 : Le F F4 := l1.trans l14
      exact ⟨F4, M4, δ4, _, lb.trans l04, S4, rs4, h4, fun σ' H' ⟨F5, M5, δ5, l5, S5, r5, h5⟩ => ⟨F5, M5, δ5, l14.trans l5, S5, r5, hN _ _ h5⟩, fun v H' q => k2 _ _ (q.le l04), fun σ' H' q => k1 _ _ (q.le l04), fun σ' H' ⟨F5, M5, δ5, l5, S5, r5, h5⟩ => ⟨F5, M5, δ5, l14.trans l5, S5, r5, hN _ _ h5⟩⟩
    · have e : i = ds.length := by omega
      subst e
      rw [List.drop_eq_nil_of_le (Nat.le_refl _)] at h2
      exact .inl ⟨Yw.stop H2 F2 M2 l2 S2 gm, k1 _ _ ⟨F2, M2, δ2, l1.trans l2, S2, rs2, h2.2⟩⟩
abbrev GT : Mm → Prop := fun _ => True
/-- over a list or tuple that stands still -/
def diSeq (t : DE) : DI := fun δ M R => t δ M fun d M1 => ∃ ds, (d = .tup ds ∨ d = .lst ds) ∧ R ds GT M1
def diLst (t : DE) : DI := fun δ M R => t δ M fun d M1 => ∃ ds, d = .lst ds ∧ R ds GT M1
def diTup (t : DE) : DI := fun δ M R => t δ M fun d M1 => ∃ ds, d = .tup ds ∧ R ds GT M1
theorem qi_lst {tg l : Expr} {t : DE} (h : PE X l (up X.K B t)) : PI X tg l (upI X.K B (diLst t)) :=
  PI.wk (pi_list h) fun σ H R ⟨F, M, δ, R', lb, S, rs, h, k⟩ => ⟨F, M, δ, _, lb, S, rs, h, fun v H1 ⟨F1, M1, d, l1, S1, r1, ds, e, h1⟩ => by
    subst e
    cases r1 with
    | @lst a xs _ hs rl =>
      refine ⟨a, rfl, ⟨xs, SqL.le S1.fz hs⟩, k _ _ ⟨F1, M1, ds, GT, l1, S1, ⟨fun i H F M l S _ hi => ?_, fun H F M l S _ => ?_, fun i H F M x H' l S _ hi y => ?_⟩, h1⟩⟩
      · exact walk_list.goes i H (by rw [rl.length]; exact hi) (SqL.le S.fz (SqL.le l hs))
      · rw [← rl.length]; exact walk_list.stops H (SqL.le S.fz (SqL.le l hs))
      · obtain ⟨e1, e2⟩ := walk_list.yields i H x H' (by rw [rl.length]; exact hi) (SqL.le S.fz (SqL.le l hs)) y
        subst e1
        obtain ⟨d, h3, h4⟩ := rl.get' e2
        exact ⟨F, d, Le.refl F, S, h3, h4.le l⟩⟩
theorem qi_tup {tg l : Expr} {t : DE} (h : PE X l (up X.K B t)) : PI X tg l (upI X.K B (diTup t)) :=
  PI.wk (pi_tup h) fun σ H R ⟨F, M, δ, R', lb, S, rs, h, k⟩ => ⟨F, M, δ, _, lb, S, rs, h, fun v H1 ⟨F1, M1, d, l1, S1, r1, ds, e, h1⟩ => by
    subst e
    cases r1 with
    | @tup a xs _ hs rl =>
      refine ⟨a, rfl, ⟨xs, SqT.le S1.fz hs⟩, k _ _ ⟨F1, M1, ds, GT, l1, S1, ⟨fun i H F M l S _ hi => ?_, fun H F M l S _ => ?_, fun i H F M x H' l S _ hi y => ?_⟩, h1⟩⟩
      · exact walk_tup.goes i H (by rw [rl.length]; exact hi) (SqT.le S.fz (SqT.le l hs))
      · rw [← rl.length]; exact walk_tup.stops H (SqT.le S.fz (SqT.le l hs))
      · obtain ⟨e1, e2⟩ := walk_tup.yields i H x H' (by rw [rl.length]; exact hi) (SqT.le S.fz (SqT.le l hs)) y
        subst e1
        obtain ⟨d, h3, h4⟩ := rl.get' e2
        exact ⟨F, d, Le.refl F, S, h3, h4.le l⟩⟩
/-- range(n), range(a, b) -/
def rngD (lo : Int) (n : Nat) : List D := (List.range n).map fun i => .int (lo + (i : Nat))
def diRng1 (ta : DA) : DI := fun δ M R => ta δ M fun ds M1 => ∃ j : Int, ds = [.int j] ∧ -(2 ^ 62) ≤ j ∧ j < 2 ^ 62 ∧ R (rngD 0 j.toNat) GT M1
def diRng2 (ta : DA) : DI := fun δ M R => ta δ M fun ds M1 => ∃ i j : Int, ds = [.int i, .int j] ∧ (-(2 ^ 62) ≤ i ∧ i < 2 ^ 62 ∧ -(2 ^ 62) ≤ j ∧ j < 2 ^ 62) ∧ R (rngD i (j - i).toNat) GT M1
theorem yl_rng {K : PySem.W.Frag} {F0 : Hp} (lo : Int) (n : Nat) : Yl K (Itr lo n) F0 (rngD lo n) GT := by
  have hl : (rngD lo n).length = n := by simp [rngD]
  refine ⟨fun i H F M _ _ _ hi => (walk_range (lo := lo) (n := n)).goes i H (by rw [← hl]; exact hi) trivial, fun H F M _ _ _ => by rw [hl]; exact (walk_range (lo := lo) (n := n)).stops H trivial, fun i H F M x H' l S _ hi y => ?_⟩
  obtain ⟨e1, e2⟩ := (walk_range (lo := lo) (n := n)).yields i H x H' (by rw [← hl]; exact hi) trivial y
  subst e1 e2
  rw [hl] at hi
  exact ⟨F, .int (lo + (i : Nat)), Le.refl F, S, by simp [rngD, hi], .v _⟩
theorem qi_rng1 {tg a : Expr} {ta : DA} {p : Pos} (hg : Gl X "range") (hm : X.mg "range" = none) (ha : PA X [a] (upA X.K B ta)) (hs : starEach [a] X.env = [(false, eval a X.env)] := by rfl) : PI X tg (.Call (.Name "range" p) [a] [] pos) (upI X.K B (diRng1 ta)) :=
  PI.wk (pi_range1 hg hm ha hs) fun σ H R ⟨F, M, δ, R', lb, S, rs, h, k⟩ => ⟨F, M, δ, _, lb, S, rs, h, fun vs H1 ⟨F1, M1, ds, l1, S1, r1, j, e, h2, h3, h4⟩ => by
    subst e
    cases r1 with
    | cons ra rb => cases rb; cases ra; exact ⟨j, rfl, h2, h3, k _ _ ⟨F1, M1, _, GT, l1, S1, yl_rng 0 j.toNat, h4⟩⟩⟩
theorem qi_rng2 {tg a b : Expr} {ta : DA} {p : Pos} (hg : Gl X "range") (hm : X.mg "range" = none) (ha : PA X [a, b] (upA X.K B ta)) (hs : starEach [a, b] X.env = [(false, eval a X.env), (false, eval b X.env)] := by rfl) (hs2 : starEach [b] X.env = [(false, eval b X.env)] := by rfl) :
    PI X tg (.Call (.Name "range" p) [a, b] [] pos) (upI X.K B (diRng2 ta)) :=
  PI.wk (pi_range2 hg hm ha hs hs2) fun σ H R ⟨F, M, δ, R', lb, S, rs, h, k⟩ => ⟨F, M, δ, _, lb, S, rs, h, fun vs H1 ⟨F1, M1, ds, l1, S1, r1, i, j, e, h2, h4⟩ => by
    subst e
    cases r1 with
    | cons ra rb =>
      cases rb with
      | cons rb rc => cases rc; cases rb; cases ra; exact ⟨i, j, rfl, h2, k _ _ ⟨F1, M1, _, GT, l1, S1, yl_rng i (j - i).toNat, h4⟩⟩⟩
end
end Y


set_option Elab.async false
set_option linter.all false
set_option maxRecDepth 100000
set_option maxHeartbeats 1000000
/-! Y3: operators by values, subscripts, slices, comparisons, truth, len. -/
namespace Y
open PySem PySem.Spec PyProof.Rows L2

/-! ### what is a list, a tuple, by data -/
def lsD (d : D) (M : Mm) : Option (List D) := match d with
  | .lst ds => some ds
  | .v (.ref a) => (match M a with | some (.lst ds) => some ds | _ => none)
  | _ => none
theorem lsD_lst {ds : List D} {M : Mm} : lsD (.lst ds) M = some ds := rfl
theorem lsD_ref {a : Addr} {ds : List D} {M : Mm} (h : M a = some (.lst ds)) : lsD (.ref a) M = some ds := by simp [lsD, h]
section
variable {K : PySem.W.Frag} {H F : Hp} {M : Mm} {x y : V} {d e : D} {ds : List D}
theorem lsD_at (S : Stt K H F M) (r : Rep K F x d) (h : lsD d M = some ds) : ∃ a xs, x = .ref a ∧ SqL K H a xs ∧ RepL K F xs ds := by
  cases r with
  | v =>
    cases x with
    | ref a =>
      unfold lsD at h
      simp only at h
      cases e : M a with
      | none => rw [e] at h; cases h
      | some m =>
        rw [e] at h
        cases m with
        | lst es =>
          simp only [Option.some.injEq] at h
          subst h
          obtain ⟨_, o, h2, h3⟩ := S.mu _ _ e
          cases h3 with
          | lst r => exact ⟨a, _, rfl, SqL.of h2, r⟩
        | _ => simp at h
    | _ => simp [lsD] at h
  | tup => simp [lsD] at h
  | lst hs rl =>
    simp only [lsD, Option.some.injEq] at h
    subst h
    exact ⟨_, _, rfl, SqL.le S.fz hs, rl⟩
/-- a list that may change, at its address -/
theorem muL (S : Stt K H F M) {a : Addr} (h : M a = some (.lst ds)) : ∃ xs, H a = some (.lst xs) ∧ RepL K F xs ds := by
  obtain ⟨_, o, h2, h3⟩ := S.mu _ _ h
  cases h3 with
  | lst r => exact ⟨_, h2, r⟩
theorem muD (S : Stt K H F M) {a : Addr} {kvs : List (Key × D)} (h : M a = some (.dct kvs)) : ∃ xs, H a = some (.dK xs) ∧ RepKV K F xs kvs := by
  obtain ⟨_, o, h2, h3⟩ := S.mu _ _ h
  cases h3 with
  | dct r => exact ⟨_, h2, r⟩
theorem muI (S : Stt K H F M) {a : Addr} {C dx : Addr} {fs : List (Str × D)} (h : M a = some (.ins C dx fs)) : ∃ xs, H a = some (.ins C dx xs) ∧ RepKV K F xs fs := by
  obtain ⟨_, o, h2, h3⟩ := S.mu _ _ h
  cases h3 with
  | ins r => exact ⟨_, h2, r⟩
/-- a dict's pairs: one that may change, or one that is walked -/
def dkD (d : D) (M : Mm) : Option (List (Key × D)) := match d with
  | .v (.ref a) => (match M a with | some (.dct kvs) => some kvs | some (.lk _ _ kvs) => some kvs | _ => none)
  | _ => none
theorem dkD_at (S : Stt K H F M) (r : Rep K F x d) {kvs : List (Key × D)} (h : dkD d M = some kvs) : ∃ a xs, x = .ref a ∧ Rd H a (.dK xs) ∧ RepKV K F xs kvs := by
  cases r with
  | v =>
    cases x with
    | ref a =>
      unfold dkD at h
      simp only at h
      cases e : M a with
      | none => rw [e] at h; cases h
      | some m =>
        rw [e] at h
        cases m with
        | dct es =>
          simp only [Option.some.injEq] at h
          subst h
          obtain ⟨_, o, h2, h3⟩ := S.mu _ _ e
          cases h3 with
          | dct r => exact ⟨a, _, rfl, .inl h2, r⟩
        | lk ob ys es =>
          simp only [Option.some.injEq] at h
          subst h
          obtain ⟨_, o, h2, h3⟩ := S.mu _ _ e
          cases h3 with
          | lk r => exact ⟨a, _, rfl, .inr ⟨_, h2⟩, r⟩
        | _ => simp at h
    | _ => simp [dkD] at h
  | tup => simp [dkD] at h
  | lst => simp [dkD] at h
end

/-! ### a dict's pairs -/
section
variable {κ : Type} [DecidableEq κ]
def valD (kvs : List (κ × D)) (k : κ) : Option D := (kvs.find? fun kv => decide (kv.1 = k)).map (·.2)
def putKD (kvs : List (κ × D)) (k : κ) (v : D) : List (κ × D) :=
  if (kvs.any fun kv => decide (kv.1 = k)) = true then kvs.map (fun kv => if kv.1 = k then (kv.1, v) else kv) else kvs ++ [(k, v)]
def dropKD (kvs : List (κ × D)) (k : κ) : List (κ × D) := kvs.filter fun kv => decide (kv.1 ≠ k)
variable {K : PySem.W.Frag} {F : Hp} {xs : List (κ × V)} {ds : List (κ × D)} {k : κ}
theorem valD_rep (r : RepKV K F xs ds) : (valV xs k = none ∧ valD ds k = none) ∨ ∃ v d, valV xs k = some v ∧ valD ds k = some d ∧ Rep K F v d := by
  unfold RepKV at r
  induction r with
  | nil => exact .inl ⟨rfl, rfl⟩
  | @cons p q ps qs h _ ih =>
    obtain ⟨h1, h2⟩ := h
    by_cases e : p.1 = k
    · exact .inr ⟨p.2, q.2, valV_pos e, by simp [valD, List.find?_cons, ← h1, e], h2⟩
    · rw [valV_neg e, show valD (q :: qs) k = valD qs k by simp [valD, List.find?_cons, ← h1, e]]
      exact ih
theorem putKD_rep {v : V} {d : D} (r : RepKV K F xs ds) (rv : Rep K F v d) : RepKV K F (putK xs k v) (putKD ds k d) := by
  have ea : (xs.any fun kv => decide (kv.1 = k)) = (ds.any fun kv => decide (kv.1 = k)) := by
    unfold RepKV at r
    induction r with
    | nil => rfl
    | cons h _ ih => simp only [List.any_cons, ih, h.1]
  unfold putK putKD
  rw [ea]
  unfold RepKV at r ⊢
  split
  · clear ea
    rename_i hz
    clear hz
    induction r with
    | nil => exact .nil
    | @cons p q ps qs h _ ih =>
      refine .cons ?_ ih
      obtain ⟨h1, h2⟩ := h
      by_cases e : p.1 = k
      · show (if p.1 = k then (p.1, v) else p).1 = (if q.1 = k then (q.1, d) else q).1 ∧ Rep K F (if p.1 = k then (p.1, v) else p).2 (if q.1 = k then (q.1, d) else q).2
        rw [if_pos e, if_pos (h1 ▸ e)]; exact ⟨h1, rv⟩
      · show (if p.1 = k then (p.1, v) else p).1 = (if q.1 = k then (q.1, d) else q).1 ∧ Rep K F (if p.1 = k then (p.1, v) else p).2 (if q.1 = k then (q.1, d) else q).2
        rw [if_neg e, if_neg (h1 ▸ e)]; exact ⟨h1, h2⟩
  · clear ea
    rename_i hz
    clear hz
    induction r with
    | nil => exact .cons ⟨rfl, rv⟩ .nil
    | cons h _ ih => exact .cons h ih
theorem dropKD_rep (r : RepKV K F xs ds) : RepKV K F (dropK xs k) (dropKD ds k) := by
  unfold RepKV at r
  induction r with
  | nil => exact .nil
  | @cons p q ps qs h t ih =>
    obtain ⟨h1, h2⟩ := h
    by_cases e : p.1 = k
    · rw [show dropK (p :: ps) k = dropK ps k by simp [dropK, e], show dropKD (q :: qs) k = dropKD qs k by simp [dropKD, ← h1, e]]; exact ih
    · rw [show dropK (p :: ps) k = p :: dropK ps k by simp [dropK, e], show dropKD (q :: qs) k = q :: dropKD qs k by simp [dropKD, ← h1, e]]; exact .cons ⟨h1, h2⟩ ih
end

/-! ### arithmetic -/
section
variable {X : Cx} {B : Hp} {K : PySem.W.Frag}
def dI (C : Int → Int → Prop) (g : Int → Int → V) : D2 := fun x y M Q => ∃ i j, x = .int i ∧ y = .int j ∧ C i j ∧ Q (.v (g i j)) M
def dI0 (g : Int → Int → V) : D2 := fun x y M Q => ∃ i j, x = .int i ∧ y = .int j ∧ Q (.v (g i j)) M
theorem l_I {C : Int → Int → Prop} {g : Int → Int → V} : Lift2 K (rI C g) (dI C g) := fun H F M x y d e Q' Q S rx ry ⟨i, j, e1, e2, c, q⟩ k => by
  subst e1 e2; cases rx; cases ry
  exact ⟨i, j, rfl, rfl, c, k _ _ ⟨F, M, _, Le.refl F, S, .v _, q⟩⟩
theorem l_I0 {g : Int → Int → V} : Lift2 K (rI0 g) (dI0 g) := fun H F M x y d e Q' Q S rx ry ⟨i, j, e1, e2, q⟩ k => by
  subst e1 e2; cases rx; cases ry
  exact ⟨i, j, rfl, rfl, k _ _ ⟨F, M, _, Le.refl F, S, .v _, q⟩⟩
theorem Lift2.or {r s : R2} {r' s' : D2} (L : Lift2 K r r') (L' : Lift2 K s s') : Lift2 K (fun x y H Q => r x y H Q ∨ s x y H Q) (fun x y M Q => r' x y M Q ∨ s' x y M Q) := fun H F M x y d e Q' Q S rx ry h k =>
  h.elim (fun h => .inl (L H F M x y d e Q' Q S rx ry h k)) fun h => .inr (L' H F M x y d e Q' Q S rx ry h k)
/-- a rule told of data, by less -/
theorem Lift2.wk {r : R2} {r' s' : D2} (L : Lift2 K r r') (w : ∀ x y M Q, s' x y M Q → r' x y M Q) : Lift2 K r s' := fun H F M x y d e Q' Q S rx ry h k => L H F M x y d e Q' Q S rx ry (w _ _ _ _ h) k
/-- a + b of ints, texts, tuples, lists (the sum stands still) -/
def addD (x y : D) (M : Mm) (Q : QD) : Prop := match x, y with
  | .v (.int i), .v (.int j) => Q (.int (i + j)) M
  | .v (.str a), .v (.str b) => a.length + b.length ≤ sizeLine ∧ Q (.str (a ++ b)) M
  | .tup a, .tup b => a.length + b.length ≤ sizeLine ∧ Q (.tup (a ++ b)) M
  | _, _ => False
def dStr2 (C : Str → Str → Prop) (g : Str → Str → V) : D2 := fun x y M Q => ∃ i j, x = .str i ∧ y = .str j ∧ C i j ∧ Q (.v (g i j)) M
theorem l_str2 {C : Str → Str → Prop} {g : Str → Str → V} : Lift2 K (fun x y H Q => ∃ i j, x = .str i ∧ y = .str j ∧ C i j ∧ Q (g i j) H) (dStr2 C g) := fun H F M x y d e Q' Q S rx ry ⟨i, j, e1, e2, c, q⟩ k => by
  subst e1 e2; cases rx; cases ry
  exact ⟨i, j, rfl, rfl, c, k _ _ ⟨F, M, _, Le.refl F, S, .v _, q⟩⟩
def dCatT : D2 := fun x y M Q => ∃ a b, x = .tup a ∧ y = .tup b ∧ a.length + b.length ≤ sizeLine ∧ Q (.tup (a ++ b)) M
theorem l_catT : Lift2 K (rCatA K) dCatT := fun H F M x y d e Q' Q S rx ry ⟨a, b, e1, e2, c, q⟩ k => by
  subst e1 e2
  cases rx with
  | @tup p xs _ hp ra =>
  cases ry with
  | @tup p' ys _ hp' rb =>
  refine ⟨p, p', xs, ys, rfl, rfl, SqT.le S.fz hp, SqT.le S.fz hp', by rw [ra.length, rb.length]; exact c, fun z => ?_, fun _ z => ?_, fun _ _ t ht => ?_⟩
  · subst z
    cases ra
    exact k _ _ ⟨F, M, _, Le.refl F, S, .tup hp' rb, q⟩
  · subst z
    cases rb
    rw [List.append_nil] at q
    exact k _ _ ⟨F, M, _, Le.refl F, S, .tup hp ra, q⟩
  · have f0 := (S.free ht).1
    exact k _ _ ⟨_, M, _, le_upd f0, S.still ht, .tup (SqT.of upd_same) ((ra.append rb).le (le_upd f0)), q⟩
def addR (K : PySem.W.Frag) : R2 := fun x y H Q => rI0 (fun i j => .int (i + j)) x y H Q ∨ ((∃ i j, x = .str i ∧ y = .str j ∧ i.length + j.length ≤ sizeLine ∧ Q (.str (i ++ j)) H) ∨ rCatA K x y H Q)
theorem op_addA : OpR X (binaryOp .Add) (addR X.K) := OpR.or op_add (OpR.or op_add_str op_catA)
theorem l_add : Lift2 K (addR K) addD := (l_I0.or (l_str2.or l_catT)).wk fun x y M Q h => by
  unfold addD at h
  split at h
  · exact .inl ⟨_, _, rfl, rfl, h⟩
  · exact .inr (.inl ⟨_, _, rfl, rfl, h⟩)
  · exact .inr (.inr ⟨_, _, rfl, rfl, h⟩)
  · exact h.elim
/-! lists: a + b, a new one that is to stand still -/
def rCatL (K : PySem.W.Frag) : R2 := fun x y H Q => ∃ l b xs zs, x = .ref l ∧ y = .ref b ∧ SqL K H l xs ∧ SqL K H b zs ∧ xs.length + zs.length ≤ sizeLine ∧ ∀ p, H p = none → Q (.ref p) (upd H p (.lst (xs ++ zs)))
theorem op_catL : OpR X (binaryOp .Add) (rCatL X.K) := by
  intro pins s σ H x y v u Q I rx ry h
  obtain ⟨l, b, xs, zs, rfl, rfl, hH, hB, hz, q⟩ := h
  cases rx
  cases ry
  obtain ⟨its, r1, p1, z1⟩ := I.list hH
  obtain ⟨jts, r2, p2, z2⟩ := I.list hB
  obtain ⟨⟨cls, dd, data, sl⟩, n, ho, hc, hdd, hd⟩ := id p1
  obtain ⟨⟨cls2, dd2, data2, sl2⟩, n2, ho2, hc2, hdd2, hd2⟩ := id p2
  simp only at hc hd hc2 hd2
  subst hc hd hc2 hd2
  have e : its.toArray ++ jts.toArray = (its ++ jts).toArray := by simp
  have hz' : its.toArray.size + jts.toArray.size ≤ sizeLine := by rw [List.size_toArray, List.size_toArray, ← r1.length, ← r2.length]; exact hz
  refine concat_meets ⟨_, ho, rfl⟩ ⟨_, ho2, rfl⟩ noFill_list_add seq_list_add PySem.F.slot_list_add PySem.F.entry_list_add (PySem.F.args_list_add_2 _ _) (list_addW l b its.toArray jts.toArray n n2 dd dd2 sl sl2 hz') ⟨ho, ho2, ?_⟩
  rw [e]
  exact ⟨.ref _, _, I.lnew (t' := s.toks) (r1.append r2) (by rw [List.length_append]; omega), rfl, q _ I.fresh⟩
end
end Y


set_option Elab.async false
set_option linter.all false
set_option maxRecDepth 100000
set_option maxHeartbeats 1000000
/-! Y4: sums, comparisons, membership, subscripts, slices, calls of built-ins by data. -/
namespace Y
open PySem PySem.Spec PyProof.Rows L2

section
variable {K : PySem.W.Frag} {H F : Hp} {M : Mm} {x y : V} {d e : D} {ds : List D}
/-! ### data that == tells apart -/
/-! plain data: no addresses, texts that are texts -/
mutual
def pln : D → Bool
  | .v .non => true
  | .v (.bl _) => true
  | .v (.int _) => true
  | .v (.str x) => PyData.strOk x
  | .v _ => false
  | .tup ds => plnL ds
  | .lst ds => plnL ds
def plnL : List D → Bool
  | [] => true
  | d :: ds => pln d && plnL ds
end
mutual
def dep : D → Nat
  | .v _ => 0
  | .tup ds => depL ds + 1
  | .lst ds => depL ds + 1
def depL : List D → Nat
  | [] => 0
  | d :: ds => max (dep d) (depL ds)
end
mutual
def pyD : D → PyData
  | .v .non => .none
  | .v (.bl b) => .bool b
  | .v (.int i) => .int i
  | .v (.str x) => .str x
  | .v _ => .none
  | .tup ds => .tuple (pyL ds)
  | .lst ds => .list (pyL ds)
def pyL : List D → List PyData
  | [] => []
  | d :: ds => pyD d :: pyL ds
end
/-! == of data -/
mutual
def deq : D → D → Bool
  | .v a, .v b => eqV a b
  | .tup a, .tup b => deqL a b
  | .lst a, .lst b => deqL a b
  | .v _, .tup _ => false
  | .v _, .lst _ => false
  | .tup _, .v _ => false
  | .lst _, .v _ => false
  | .tup _, .lst _ => false
  | .lst _, .tup _ => false
def deqL : List D → List D → Bool
  | [], [] => true
  | d :: ds, e :: es => deq d e && deqL ds es
  | [], _ :: _ => false
  | _ :: _, [] => false
end
mutual
theorem py_eqv : ∀ d e : D, pln d = true → pln e = true → PyData.eqv (pyD d) (pyD e) = deq d e
  | .v a, .v b, h1, h2 => by
    cases a <;> cases b <;> simp_all [pln, pyD, PyData.eqv, deq, eqV]
  | .tup a, .tup b, h1, h2 => by
    simp only [pyD, PyData.eqv, deq]
    exact py_eqvL a b (by simpa [pln] using h1) (by simpa [pln] using h2)
  | .lst a, .lst b, h1, h2 => by
    simp only [pyD, PyData.eqv, deq]
    exact py_eqvL a b (by simpa [pln] using h1) (by simpa [pln] using h2)
  | .v a, .tup _, h1, _ => by cases a <;> simp_all [pln, pyD, PyData.eqv, deq]
  | .v a, .lst _, h1, _ => by cases a <;> simp_all [pln, pyD, PyData.eqv, deq]
  | .tup _, .v a, _, h1 => by cases a <;> simp_all [pln, pyD, PyData.eqv, deq]
  | .lst _, .v a, _, h1 => by cases a <;> simp_all [pln, pyD, PyData.eqv, deq]
  | .tup _, .lst _, _, _ => by simp [pyD, PyData.eqv, deq]
  | .lst _, .tup _, _, _ => by simp [pyD, PyData.eqv, deq]
theorem py_eqvL : ∀ d e : List D, plnL d = true → plnL e = true → PyData.eqvAll (pyL d) (pyL e) = deqL d e
  | [], [], _, _ => by simp [pyL, PyData.eqvAll, deqL]
  | d :: ds, e :: es, h1, h2 => by
    have h1' : pln d = true ∧ plnL ds = true := by simpa [plnL] using h1
    have h2' : pln e = true ∧ plnL es = true := by simpa [plnL] using h2
    simp only [pyL, PyData.eqvAll, deqL, py_eqv d e h1'.1 h2'.1, py_eqvL ds es h1'.2 h2'.2]
  | [], _ :: _, _, _ => by simp [pyL, PyData.eqvAll, deqL]
  | _ :: _, [], _, _ => by simp [pyL, PyData.eqvAll, deqL]
end
mutual
theorem py_lay : ∀ d : D, pln d = true → (pyD d).canLay0 = true
  | .v a, h => by cases a <;> simp_all [pln, pyD, PyData.canLay0]
  | .tup a, h => by
    simp only [pyD, PyData.canLay0]
    exact py_layL a (by simpa [pln] using h)
  | .lst a, h => by
    simp only [pyD, PyData.canLay0]
    exact py_layL a (by simpa [pln] using h)
theorem py_layL : ∀ d : List D, plnL d = true → PyData.canLayAll0 (pyL d) = true
  | [], _ => by simp [pyL, PyData.canLayAll0]
  | d :: ds, h => by
    have h' : pln d = true ∧ plnL ds = true := by simpa [plnL] using h
    simp only [pyL, PyData.canLayAll0, py_lay d h'.1, py_layL ds h'.2, Bool.and_self]
end
mutual
theorem py_dep : ∀ d : D, (pyD d).depth = dep d
  | .v a => by cases a <;> simp [pyD, PyData.depth, dep]
  | .tup a => by simp [pyD, PyData.depth, dep, py_depL a]
  | .lst a => by simp [pyD, PyData.depth, dep, py_depL a]
theorem py_depL : ∀ d : List D, PyData.depthAll (pyL d) = depL d
  | [] => by simp [pyL, PyData.depthAll, depL]
  | d :: ds => by simp [pyL, PyData.depthAll, depL, py_dep d, py_depL ds]
end
theorem py_shaped (h : pln d = true) (h2 : dep d ≤ 64) : SeqAt.shaped (pyD d) = true := by
  unfold SeqAt.shaped
  rw [py_lay d h, py_dep]
  simpa using h2
mutual
theorem py_dp (S : Stt K H F M) : ∀ (d : D) (x : V), Rep K F x d → pln d = true → Dp K H x (pyD d)
  | .v a, x, r, h => by
    cases r
    cases a with
    | non => exact .non
    | bl b => exact .bl b
    | int i => exact .int i
    | str z => exact .str z
    | _ => simp [pln] at h
  | .tup a, _, .tup hs rl, h => .tup (SqT.le S.fz hs) (py_dpL S a _ rl (by simpa [pln] using h))
  | .lst a, _, .lst hs rl, h => .lst (SqL.le S.fz hs) (py_dpL S a _ rl (by simpa [pln] using h))
theorem py_dpL (S : Stt K H F M) : ∀ (ds : List D) (xs : List V), RepL K F xs ds → plnL ds = true → DpAll K H xs (pyL ds)
  | [], _, .nil, _ => .nil
  | d :: ds, _, .cons r rl, h => by
    have h' : pln d = true ∧ plnL ds = true := by simpa [plnL] using h
    exact .cons (py_dp S d _ r h'.1) (py_dpL S ds _ rl h'.2)
end
mutual
theorem deq_refl : ∀ d : D, pln d = true → deq d d = true
  | .v a, h => by cases a <;> simp_all [pln, deq, eqV]
  | .tup a, h => by simp only [deq]; exact deqL_refl a (by simpa [pln] using h)
  | .lst a, h => by simp only [deq]; exact deqL_refl a (by simpa [pln] using h)
theorem deqL_refl : ∀ d : List D, plnL d = true → deqL d d = true
  | [], _ => by simp [deqL]
  | d :: ds, h => by
    have h' : pln d = true ∧ plnL ds = true := by simpa [plnL] using h
    simp only [deqL, deq_refl d h'.1, deqL_refl ds h'.2, Bool.and_self]
end
/-- a list that may change, as data -/
def rsv (d : D) (M : Mm) : D := match d with
  | .v (.ref a) => (match M a with | some (.lst ds) => .lst ds | _ => d)
  | _ => d
theorem rsv_dp (S : Stt K H F M) (r : Rep K F x d) (h : pln (rsv d M) = true) : Dp K H x (pyD (rsv d M)) := by
  by_cases z : ∃ a ds, d = .ref a ∧ M a = some (.lst ds)
  · obtain ⟨a, ds, e1, e2⟩ := z
    subst e1
    cases r
    have e3 : rsv (.ref a) M = .lst ds := by simp [rsv, e2]
    rw [e3] at h ⊢
    obtain ⟨xs, h1, h2⟩ := muL S e2
    exact .lst (SqL.of h1) (py_dpL S ds xs h2 (by simpa [pln] using h))
  · have e : rsv d M = d := by
      unfold rsv
      split
      · rename_i a
        split
        · rename_i ds e2
          exact absurd ⟨a, ds, rfl, e2⟩ z
        · rfl
      · rfl
    rw [e] at h ⊢
    exact py_dp S d x r h
end

section
variable {X : Cx} {B : Hp} {K : PySem.W.Frag}
/-! ### ==, != -/
def eqDeep (neg : Bool) (x y : D) (M : Mm) (Q : QD) : Prop := pln (rsv x M) = true ∧ pln (rsv y M) = true ∧ dep (rsv x M) ≤ 64 ∧ dep (rsv y M) ≤ 64 ∧ Q (.bl (neg ^^ deq (rsv x M) (rsv y M))) M
def eqD (neg : Bool) (x y : D) (M : Mm) (Q : QD) : Prop := match x, y with
  | .v a, .v b => if scal a b = true then Q (.bl (neg ^^ decide (a = b))) M else eqDeep neg x y M Q
  | _, _ => eqDeep neg x y M Q
theorem l_eqS : Lift2 K rEq (fun x y M Q => ∃ a b, x = .v a ∧ y = .v b ∧ scal a b = true ∧ Q (.bl (decide (a = b))) M) := fun H F M x y d e Q' Q S rx ry ⟨a, b, e1, e2, s, q⟩ k => by
  subst e1 e2; cases rx; cases ry
  exact ⟨s, k _ _ ⟨F, M, _, Le.refl F, S, .v _, q⟩⟩
theorem l_neS : Lift2 K rNe (fun x y M Q => ∃ a b, x = .v a ∧ y = .v b ∧ scal a b = true ∧ Q (.bl (!decide (a = b))) M) := fun H F M x y d e Q' Q S rx ry ⟨a, b, e1, e2, s, q⟩ k => by
  subst e1 e2; cases rx; cases ry
  exact ⟨s, k _ _ ⟨F, M, _, Le.refl F, S, .v _, q⟩⟩
theorem l_eqP : Lift2 K (rEqD K) (eqDeep false) := fun H F M x y d e Q' Q S rx ry ⟨p1, p2, d1, d2, q⟩ k => by
  refine ⟨_, _, rsv_dp S rx p1, rsv_dp S ry p2, py_shaped p1 d1, py_shaped p2 d2, k _ _ ⟨F, M, _, Le.refl F, S, .v _, ?_⟩⟩
  rw [py_eqv _ _ p1 p2]
  simpa using q
theorem l_neP : Lift2 K (rNeD K) (eqDeep true) := fun H F M x y d e Q' Q S rx ry ⟨p1, p2, d1, d2, q⟩ k => by
  refine ⟨_, _, rsv_dp S rx p1, rsv_dp S ry p2, py_shaped p1 d1, py_shaped p2 d2, k _ _ ⟨F, M, _, Le.refl F, S, .v _, ?_⟩⟩
  rw [py_eqv _ _ p1 p2]
  simpa using q
theorem op_eqA (hu : X.A.units + 64 < cLine) : OpR X (compareOp .Eq) (fun x y H Q => rEq x y H Q ∨ rEqD X.K x y H Q) := OpR.or op_eq (op_eqD hu)
theorem op_neA (hu : X.A.units + 64 < cLine) : OpR X (compareOp .NotEq) (fun x y H Q => rNe x y H Q ∨ rNeD X.K x y H Q) := OpR.or op_ne (op_neD hu)
theorem eqD_cases {neg : Bool} {x y : D} {M : Mm} {Q : QD} (h : eqD neg x y M Q) : (∃ a b, x = .v a ∧ y = .v b ∧ scal a b = true ∧ Q (.bl (neg ^^ decide (a = b))) M) ∨ eqDeep neg x y M Q := by
  unfold eqD at h
  split at h
  · rename_i a b
    by_cases s : scal a b = true
    · rw [if_pos s] at h; exact .inl ⟨a, b, rfl, rfl, s, h⟩
    · rw [if_neg s] at h; exact .inr h
  · exact .inr h
theorem l_eq : Lift2 K (fun x y H Q => rEq x y H Q ∨ rEqD K x y H Q) (eqD false) := (l_eqS.or l_eqP).wk fun x y M Q h => by
  simpa using eqD_cases h
theorem l_ne : Lift2 K (fun x y H Q => rNe x y H Q ∨ rNeD K x y H Q) (eqD true) := (l_neS.or l_neP).wk fun x y M Q h => by
  simpa using eqD_cases h
/-! ### is None -/
def nonD : D → Bool
  | .v .non => true
  | _ => false
def isN (neg : Bool) (x y : D) (M : Mm) (Q : QD) : Prop := y = .non ∧ Q (.bl (neg ^^ nonD x)) M
theorem isN_of {K : PySem.W.Frag} {F : Hp} {x : V} {d : D} (r : Rep K F x d) : decide (x = .non) = nonD d := by
  cases r with
  | v => cases x <;> simp [nonD]
  | tup => simp [nonD]
  | lst => simp [nonD]
theorem l_isN : Lift2 K (fun x y H Q => y = .non ∧ Q (.bl (decide (x = .non))) H) (isN false) := fun H F M x y d e Q' Q S rx ry ⟨e1, q⟩ k => by
  subst e1; cases ry
  refine ⟨rfl, k _ _ ⟨F, M, _, Le.refl F, S, .v _, ?_⟩⟩
  rw [isN_of rx]; simpa using q
theorem l_notN : Lift2 K (fun x y H Q => y = .non ∧ Q (.bl (!decide (x = .non))) H) (isN true) := fun H F M x y d e Q' Q S rx ry ⟨e1, q⟩ k => by
  subst e1; cases ry
  refine ⟨rfl, k _ _ ⟨F, M, _, Le.refl F, S, .v _, ?_⟩⟩
  rw [isN_of rx]; simpa using q
/-! ### lists put together -/
theorem l_catL : Lift2 K (rCatL K) (fun x y M Q => ∃ a b, lsD x M = some a ∧ lsD y M = some b ∧ a.length + b.length ≤ sizeLine ∧ Q (.lst (a ++ b)) M) := fun H F M x y d e Q' Q S rx ry ⟨a, b, e1, e2, c, q⟩ k => by
  obtain ⟨p, xs, rfl, h1, r1⟩ := lsD_at S rx e1
  obtain ⟨p', ys, rfl, h2, r2⟩ := lsD_at S ry e2
  refine ⟨p, p', xs, ys, rfl, rfl, h1, h2, by rw [r1.length, r2.length]; exact c, fun t ht => ?_⟩
  have f0 := (S.free ht).1
  exact k _ _ ⟨_, M, _, le_upd f0, S.still ht, .lst (SqL.of upd_same) ((r1.append r2).le (le_upd f0)), q⟩
theorem l_catLM : Lift2 K (rCatL K) (fun x y M Q => ∃ a b, lsD x M = some a ∧ lsD y M = some b ∧ a.length + b.length ≤ sizeLine ∧ ∀ p, M p = none → Q (.ref p) (Y.put M p (.lst (a ++ b)))) := fun H F M x y d e Q' Q S rx ry ⟨a, b, e1, e2, c, q⟩ k => by
  obtain ⟨p, xs, rfl, h1, r1⟩ := lsD_at S rx e1
  obtain ⟨p', ys, rfl, h2, r2⟩ := lsD_at S ry e2
  refine ⟨p, p', xs, ys, rfl, rfl, h1, h2, by rw [r1.length, r2.length]; exact c, fun t ht => ?_⟩
  exact k _ _ ⟨F, _, _, Le.refl F, S.newM ht (.lst (r1.append r2)), .v _, q t (S.free ht).2⟩
/-- a + b -/
def plusD (x y : D) (M : Mm) (Q : QD) : Prop := match x, y with
  | .v (.int i), .v (.int j) => Q (.int (i + j)) M
  | .v (.str a), .v (.str b) => a.length + b.length ≤ sizeLine ∧ Q (.str (a ++ b)) M
  | .tup a, .tup b => a.length + b.length ≤ sizeLine ∧ Q (.tup (a ++ b)) M
  | x, y => ∃ a b, lsD x M = some a ∧ lsD y M = some b ∧ a.length + b.length ≤ sizeLine ∧ Q (.lst (a ++ b)) M
theorem op_plus : OpR X (binaryOp .Add) (fun x y H Q => addR X.K x y H Q ∨ rCatL X.K x y H Q) := OpR.or op_addA op_catL
theorem l_plus : Lift2 K (fun x y H Q => addR K x y H Q ∨ rCatL K x y H Q) plusD := (l_add.or l_catL).wk fun x y M Q h => by
  unfold plusD at h
  split at h
  · exact .inl h
  · exact .inl h
  · exact .inl h
  · exact .inr h
/-- a + b of lists, the sum to be changed -/
def plusM : D2 := fun x y M Q => ∃ a b, lsD x M = some a ∧ lsD y M = some b ∧ a.length + b.length ≤ sizeLine ∧ ∀ p, M p = none → Q (.ref p) (Y.put M p (.lst (a ++ b)))

/-! ### a[i] -/
def rIxDict : R2 := fun x y H Q => ∃ a v, x = .ref a ∧ DGet H a y (some v) ∧ Q v H
theorem ix_dict (hu : X.A.units + 1 < cLine) : IxR X rIxDict := by
  intro value slice pins s σ H x y v u Q I rx ry h hs
  obtain ⟨a, w, rfl, g, q⟩ := h
  cases rx
  exact tail_any (dict_typeIs I g) PySem.F.slot_dict_getitem.lookup (d_getItem hu I g ry fun w' s3 I3 rw' => ⟨w, H, I3, rw', q⟩) hs
theorem atI_rep {F : Hp} {xs : List V} {ds : List D} {i : Int} {d : D} (r : RepL K F xs ds) (h : atI ds i = some d) : ∃ x, atI xs i = some x ∧ Rep K F x d := by
  unfold atI at h ⊢
  rw [r.length]
  cases e : ixN ds.length i with
  | none => rw [e] at h; cases h
  | some j =>
    rw [e] at h
    exact r.get h
def keyD : D → Option Key
  | .v (.int i) => some (.inl i)
  | .v (.str x) => some (.inr x)
  | _ => none
theorem keyD_at {F : Hp} {x : V} {d : D} {k : Key} (r : Rep K F x d) (h : keyD d = some k) : x = kV k := by
  cases r with
  | v => cases x <;> simp [keyD] at h <;> subst h <;> rfl
  | tup => simp [keyD] at h
  | lst => simp [keyD] at h
/-- a[i]: of a tuple, a list, a text, a dict -/
def subD (x y : D) (M : Mm) (Q : QD) : Prop := match x with
  | .tup ds => ∃ i d, y = .int i ∧ atI ds i = some d ∧ Q d M
  | .v (.str z) => ∃ i c, y = .int i ∧ z.length ≤ sizeLine ∧ atI z.cps.toList i = some c ∧ Q (.str ⟨#[c]⟩) M
  | x => (∃ ds i d, lsD x M = some ds ∧ y = .int i ∧ atI ds i = some d ∧ Q d M) ∨ ∃ kvs k d, dkD x M = some kvs ∧ keyD y = some k ∧ valD kvs k = some d ∧ Q d M
theorem l_ixT : Lift2 K (rIxT K) (fun x y M Q => ∃ ds i d, x = .tup ds ∧ y = .int i ∧ atI ds i = some d ∧ Q d M) := fun H F M x y d e Q' Q S rx ry ⟨ds, i, f, e1, e2, h, q⟩ k => by
  subst e1 e2; cases ry
  cases rx with
  | tup hs rl =>
    obtain ⟨v, h1, h2⟩ := atI_rep rl h
    exact ⟨_, _, i, v, rfl, rfl, SqT.le S.fz hs, h1, k _ _ ⟨F, M, f, Le.refl F, S, h2, q⟩⟩
theorem l_ixL : Lift2 K (rIxL K) (fun x y M Q => ∃ ds i d, lsD x M = some ds ∧ y = .int i ∧ atI ds i = some d ∧ Q d M) := fun H F M x y d e Q' Q S rx ry ⟨ds, i, f, e1, e2, h, q⟩ k => by
  subst e2; cases ry
  obtain ⟨a, xs, rfl, h3, rl⟩ := lsD_at S rx e1
  obtain ⟨v, h1, h2⟩ := atI_rep rl h
  exact ⟨_, _, i, v, rfl, rfl, h3, h1, k _ _ ⟨F, M, f, Le.refl F, S, h2, q⟩⟩
theorem l_ixS : Lift2 K rIxS (fun x y M Q => ∃ z i c, x = .str z ∧ y = .int i ∧ z.length ≤ sizeLine ∧ atI z.cps.toList i = some c ∧ Q (.str ⟨#[c]⟩) M) := fun H F M x y d e Q' Q S rx ry ⟨z, i, c, e1, e2, h, h1, q⟩ k => by
  subst e1 e2; cases ry; cases rx
  exact ⟨z, i, c, rfl, rfl, h, h1, k _ _ ⟨F, M, _, Le.refl F, S, .v _, q⟩⟩
theorem l_ixD : Lift2 K rIxDict (fun x y M Q => ∃ kvs k d, dkD x M = some kvs ∧ keyD y = some k ∧ valD kvs k = some d ∧ Q d M) := fun H F M x y d e Q' Q S rx ry ⟨kvs, k, f, e1, e2, h, q⟩ kk => by
  obtain ⟨a, xs, rfl, h3, rl⟩ := dkD_at S rx e1
  have ey := keyD_at ry e2
  subst ey
  rcases valD_rep (k := k) rl with ⟨_, z⟩ | ⟨v, d', h1, h2, h4⟩
  · rw [z] at h; cases h
  · rw [h2] at h; cases h
    exact ⟨a, v, rfl, .inl ⟨xs, k, h3, rfl, h1.symm⟩, kk _ _ ⟨F, M, f, Le.refl F, S, h4, q⟩⟩
theorem ix_all (hu : X.A.units + 1 < cLine) : IxR X (fun x y H Q => rIxT X.K x y H Q ∨ (rIxS x y H Q ∨ (rIxL X.K x y H Q ∨ rIxDict x y H Q))) := IxR.or ix_tup (IxR.or ix_str (IxR.or ix_list (ix_dict hu)))
theorem l_sub : Lift2 K (fun x y H Q => rIxT K x y H Q ∨ (rIxS x y H Q ∨ (rIxL K x y H Q ∨ rIxDict x y H Q))) subD := (l_ixT.or (l_ixS.or (l_ixL.or l_ixD))).wk fun x y M Q h => by
  unfold subD at h
  split at h
  · obtain ⟨i, d, e, h, q⟩ := h; exact .inl ⟨_, i, d, rfl, e, h, q⟩
  · obtain ⟨i, c, e, h, h1, q⟩ := h; exact .inr (.inl ⟨_, i, c, rfl, e, h, h1, q⟩)
  · exact .inr (.inr h)

/-! ### in -/
def rInDict (neg : Bool) : R2 := fun y x H Q => ∃ a o, x = .ref a ∧ DGet H a y o ∧ Q (.bl (neg ^^ o.isSome)) H
theorem op_inDict (hu : X.A.units + 1 < cLine) : OpR X (compareOp .In) (rInDict false) := by
  intro pins s σ H x y v u Q I rx ry h
  obtain ⟨a, o, rfl, g, q⟩ := h
  cases ry
  exact d_in hu I g rx fun s3 I3 => ⟨.bl o.isSome, H, I3, rfl, by simpa using q⟩
theorem op_notInDict (hu : X.A.units + 1 < cLine) : OpR X (compareOp .NotIn) (rInDict true) := by
  intro pins s σ H x y v u Q I rx ry h
  obtain ⟨a, o, rfl, g, q⟩ := h
  cases ry
  exact d_notIn hu I g rx fun s3 I3 => ⟨.bl (!o.isSome), H, I3, rfl, by simpa using q⟩
def flatD : D → Bool
  | .v a => flatV a
  | _ => false
/-- x among items of flat data -/
def memD (x : D) (ds : List D) : Bool := ds.any fun y => match y, x with | .v b, .v a => eqV b a | _, _ => false
theorem flat_rep {F : Hp} {x : V} {d : D} (r : Rep K F x d) (h : flatD d = true) : d = .v x ∧ flatV x = true := by
  cases r with
  | v => exact ⟨rfl, h⟩
  | tup => simp [flatD] at h
  | lst => simp [flatD] at h
theorem flatL_rep {F : Hp} {xs : List V} {ds : List D} (r : RepL K F xs ds) (h : ds.all flatD = true) : ds = xs.map D.v ∧ xs.all flatV = true := by
  match r with
  | .nil => exact ⟨rfl, rfl⟩
  | .cons r rl =>
    simp only [List.all_cons, Bool.and_eq_true] at h
    obtain ⟨e1, f1⟩ := flat_rep r h.1
    obtain ⟨e2, f2⟩ := flatL_rep rl h.2
    exact ⟨by rw [List.map_cons, ← e2, ← e1], by simp [f1, f2]⟩
theorem memD_rep {x : V} {xs : List V} : memD (.v x) (xs.map D.v) = inV x xs := by
  unfold memD inV
  rw [List.any_map]
  rfl
/-- x in y: of a tuple or list of flat items, of a text (one sign), of a dict -/
def inD (neg : Bool) (x y : D) (M : Mm) (Q : QD) : Prop := match y with
  | .tup ds => flatD x = true ∧ ds.all flatD = true ∧ Q (.bl (neg ^^ memD x ds)) M
  | .v (.str z) => ∃ c, x = .str ⟨#[c]⟩ ∧ Q (.bl (neg ^^ decide (c ∈ z.cps.toList))) M
  | y => (∃ ds, lsD y M = some ds ∧ flatD x = true ∧ ds.all flatD = true ∧ Q (.bl (neg ^^ memD x ds)) M) ∨ ∃ kvs k, dkD y M = some kvs ∧ keyD x = some k ∧ Q (.bl (neg ^^ (valD kvs k).isSome)) M
theorem l_inSeq (neg : Bool) : Lift2 K (rIn K neg) (fun x y M Q => ∃ ds, (y = .tup ds ∨ lsD y M = some ds) ∧ flatD x = true ∧ ds.all flatD = true ∧ Q (.bl (neg ^^ memD x ds)) M) := fun H F M x y d e Q' Q S rx ry ⟨ds, hy, fx, fs, q⟩ k => by
  obtain ⟨ex, fx'⟩ := flat_rep rx fx
  subst ex
  have fin : ∀ (xs : List V), RepL K F xs ds → Q (.bl (if neg = true then !inV x xs else inV x xs)) H := fun xs rl => by
    obtain ⟨e1, _⟩ := flatL_rep rl fs
    subst e1
    refine k _ _ ⟨F, M, _, Le.refl F, S, .v _, ?_⟩
    rw [memD_rep] at q
    cases neg <;> simpa using q
  rcases hy with hy | hy
  · subst hy
    cases ry with
    | tup hs rl => exact ⟨_, _, rfl, .inr (SqT.le S.fz hs), fx', (flatL_rep rl fs).2, fin _ rl⟩
  · obtain ⟨a, xs, rfl, h3, rl⟩ := lsD_at S ry hy
    exact ⟨_, _, rfl, .inl h3, fx', (flatL_rep rl fs).2, fin xs rl⟩
theorem l_inSign : Lift2 K (fun x y H Q => ∃ (c : Nat) (z : Str), x = .str ⟨#[c]⟩ ∧ y = .str z ∧ Q (.bl (decide (c ∈ z.cps.toList))) H) (fun x y M Q => ∃ c z, x = .str ⟨#[c]⟩ ∧ y = .str z ∧ Q (.bl (decide (c ∈ z.cps.toList))) M) := fun H F M x y d e Q' Q S rx ry ⟨c, z, e1, e2, q⟩ k => by
  subst e1 e2; cases rx; cases ry
  exact ⟨c, z, rfl, rfl, k _ _ ⟨F, M, _, Le.refl F, S, .v _, q⟩⟩
theorem l_notInSign : Lift2 K (fun x y H Q => ∃ (c : Nat) (z : Str), x = .str ⟨#[c]⟩ ∧ y = .str z ∧ Q (.bl (!decide (c ∈ z.cps.toList))) H) (fun x y M Q => ∃ c z, x = .str ⟨#[c]⟩ ∧ y = .str z ∧ Q (.bl (!decide (c ∈ z.cps.toList))) M) := fun H F M x y d e Q' Q S rx ry ⟨c, z, e1, e2, q⟩ k => by
  subst e1 e2; cases rx; cases ry
  exact ⟨c, z, rfl, rfl, k _ _ ⟨F, M, _, Le.refl F, S, .v _, q⟩⟩
theorem l_inDict (neg : Bool) : Lift2 K (rInDict neg) (fun x y M Q => ∃ kvs k, dkD y M = some kvs ∧ keyD x = some k ∧ Q (.bl (neg ^^ (valD kvs k).isSome)) M) := fun H F M x y d e Q' Q S rx ry ⟨kvs, k, e1, e2, q⟩ kk => by
  obtain ⟨a, xs, rfl, h3, rl⟩ := dkD_at S ry e1
  have ex := keyD_at rx e2
  subst ex
  refine ⟨a, valV xs k, rfl, .inl ⟨xs, k, h3, rfl, rfl⟩, kk _ _ ⟨F, M, _, Le.refl F, S, .v _, ?_⟩⟩
  rcases valD_rep (k := k) rl with ⟨z1, z2⟩ | ⟨v, d', h1, h2, h4⟩
  · rw [z2] at q; rw [z1]; exact q
  · rw [h2] at q; rw [h1]; exact q
theorem inD_cases {neg : Bool} {x y : D} {M : Mm} {Q : QD} (h : inD neg x y M Q) : (∃ ds, (y = .tup ds ∨ lsD y M = some ds) ∧ flatD x = true ∧ ds.all flatD = true ∧ Q (.bl (neg ^^ memD x ds)) M) ∨ ((∃ c z, x = .str ⟨#[c]⟩ ∧ y = .str z ∧ Q (.bl (neg ^^ decide (c ∈ z.cps.toList))) M) ∨
    ∃ kvs k, dkD y M = some kvs ∧ keyD x = some k ∧ Q (.bl (neg ^^ (valD kvs k).isSome)) M) := by
  unfold inD at h
  split at h
  · exact .inl ⟨_, .inl rfl, h⟩
  · obtain ⟨c, e, q⟩ := h; exact .inr (.inl ⟨c, _, e, rfl, q⟩)
  · rcases h with ⟨ds, h⟩ | h
    · exact .inl ⟨ds, .inr h.1, h.2⟩
    · exact .inr (.inr h)
theorem op_inA (hu : X.A.units + 1 < cLine) : OpR X (compareOp .In) (fun x y H Q => rIn X.K false x y H Q ∨ ((∃ (c : Nat) (z : Str), x = .str ⟨#[c]⟩ ∧ y = .str z ∧ Q (.bl (decide (c ∈ z.cps.toList))) H) ∨ rInDict false x y H Q)) := OpR.or op_in_seq (OpR.or op_in_sign (op_inDict hu))
theorem op_notInA (hu : X.A.units + 1 < cLine) : OpR X (compareOp .NotIn) (fun x y H Q => rIn X.K true x y H Q ∨ ((∃ (c : Nat) (z : Str), x = .str ⟨#[c]⟩ ∧ y = .str z ∧ Q (.bl (!decide (c ∈ z.cps.toList))) H) ∨ rInDict true x y H Q)) := OpR.or op_notIn_seq (OpR.or op_notIn_sign (op_notInDict hu))
theorem l_in : Lift2 K (fun x y H Q => rIn K false x y H Q ∨ ((∃ (c : Nat) (z : Str), x = .str ⟨#[c]⟩ ∧ y = .str z ∧ Q (.bl (decide (c ∈ z.cps.toList))) H) ∨ rInDict false x y H Q)) (inD false) :=
  ((l_inSeq false).or (l_inSign.or (l_inDict false))).wk fun x y M Q h => by simpa using inD_cases h
theorem l_notIn : Lift2 K (fun x y H Q => rIn K true x y H Q ∨ ((∃ (c : Nat) (z : Str), x = .str ⟨#[c]⟩ ∧ y = .str z ∧ Q (.bl (!decide (c ∈ z.cps.toList))) H) ∨ rInDict true x y H Q)) (inD true) :=
  ((l_inSeq true).or (l_notInSign.or (l_inDict true))).wk fun x y M Q h => by simpa using inD_cases h
end
end Y


set_option Elab.async false
set_option linter.all false
set_option maxRecDepth 100000
set_option maxHeartbeats 1000000
/-! Y5: slices, truth, len, calls of built-ins, comprehensions, dicts, methods of lists and dicts, fields. -/
namespace Y
open PySem PySem.Spec PyProof.Rows L2

section
variable {X : Cx} {B : Hp} {K : PySem.W.Frag}
/-! ### slices -/
def cut {α : Type} (xs : List α) (lo hi : Option Int) : List α := (xs.drop (HT.sIx xs.length 0 lo)).take (HT.sIx xs.length xs.length hi - HT.sIx xs.length 0 lo)
theorem cut_rep {F : Hp} {xs : List V} {ds : List D} (r : RepL K F xs ds) (lo hi : Option Int) : RepL K F (cutV xs lo hi) (cut ds lo hi) := by
  unfold cutV cut
  rw [r.length]
  exact (r.drop _).take _
theorem cut_whole {α : Type} {xs : List α} {lo hi : Option Int} (h : HT.sIx xs.length 0 lo = 0 ∧ HT.sIx xs.length xs.length hi = xs.length) : cut xs lo hi = xs := by
  unfold cut
  rw [h.1, h.2]
  simp
abbrev DO := Env → Mm → (Option Int → Mm → Prop) → Prop
def LO (K : PySem.W.Frag) (F : Hp) (Q : Option Int → Mm → Prop) : Option Int → Hp → Prop := fun b H' => ∃ F' M', Le F F' ∧ Stt K H' F' M' ∧ Q b M'
def upO (K : PySem.W.Frag) (B : Hp) (t : DO) : TO := fun σ H Q => ∃ F M δ Q', Le B F ∧ Stt K H F M ∧ RepS K F σ δ ∧ t δ M Q' ∧ ∀ v H', LO K F Q' v H' → Q v H'
def doNone : DO := fun _ M Q => Q none M
def doSome (t : DE) : DO := fun δ M Q => t δ M fun d M1 => ∃ i, d = .int i ∧ Q (some i) M1
theorem PO.wk {e : Option Expr} {t t' : TO} (h : PO X e t) (w : ∀ σ H Q, t' σ H Q → t σ H Q) : PO X e t' := ⟨fun pins s σ H Q I q => h.run pins s σ H Q I (w σ H Q q)⟩
theorem qo_none : PO X none (upO X.K B doNone) := PO.wk po_none fun σ H Q ⟨F, M, δ, Q', lb, S, rs, h, k⟩ => k _ _ ⟨F, M, Le.refl F, S, h⟩
theorem qo_some {e : Expr} {t : DE} (h : PE X e (up X.K B t)) : PO X (some e) (upO X.K B (doSome t)) := PO.wk (po_some h) fun σ H Q ⟨F, M, δ, Q', lb, S, rs, h, k⟩ => ⟨F, M, δ, _, lb, S, rs, h, fun x H1 ⟨F1, M1, d, l1, S1, r1, i, e, h1⟩ => by
  subst e; cases r1
  exact ⟨i, rfl, k _ _ ⟨F1, M1, l1, S1, h1⟩⟩⟩
/-- x[lo:hi]: of a tuple, a list (the part stands still), a text -/
def sliceD (x : D) (lo hi : Option Int) (M : Mm) (Q : QD) : Prop := match x with
  | .tup ds => Q (.tup (cut ds lo hi)) M
  | .v (.str z) => z.length ≤ sizeLine ∧ Q (.str (cutS z lo hi)) M
  | x => ∃ ds, lsD x M = some ds ∧ Q (.lst (cut ds lo hi)) M
def dSlice (te : DE) (tl th : DO) : DE := fun δ M Q => te δ M fun x M1 => tl δ M1 fun l M2 => th δ M2 fun u M3 => sliceD x l u M3 Q
def slAll (K : PySem.W.Frag) : V → Option Int → Option Int → Hp → VK → Prop := fun x lo hi H Q => rSlA K x lo hi H Q ∨ (rSlS x lo hi H Q ∨ rSlL K x lo hi H Q)
theorem sl_all : SlR X (slAll X.K) := SlR.or sl_tupA (SlR.or sl_str sl_list)
theorem slice_lift {H F : Hp} {M : Mm} {x : V} {d : D} {lo hi : Option Int} {Q' : QD} {Q : VK} (S : Stt K H F M) (rx : Rep K F x d) (h : sliceD d lo hi M Q') (k : ∀ v H', LQ K F Q' v H' → Q v H') : slAll K x lo hi H Q := by
  unfold sliceD at h
  split at h
  · rename_i ds
    cases rx with
    | @tup a xs _ hs rl =>
      refine .inl ⟨a, xs, rfl, SqT.le S.fz hs, fun z => ?_, fun _ p hp => ?_⟩
      · rw [rl.length] at z
        rw [cut_whole z] at h
        exact k _ _ ⟨F, M, _, Le.refl F, S, .tup hs rl, h⟩
      · have f0 := (S.free hp).1
        exact k _ _ ⟨_, M, _, le_upd f0, S.still hp, .tup (SqT.of upd_same) ((cut_rep rl lo hi).le (le_upd f0)), h⟩
  · cases rx
    exact .inr (.inl ⟨_, rfl, h.1, k _ _ ⟨F, M, _, Le.refl F, S, .v _, h.2⟩⟩)
  · obtain ⟨ds, e, h⟩ := h
    obtain ⟨a, xs, rfl, h3, rl⟩ := lsD_at S rx e
    refine .inr (.inr ⟨a, xs, rfl, h3, fun p hp => ?_⟩)
    have f0 := (S.free hp).1
    exact k _ _ ⟨_, M, _, le_upd f0, S.still hp, .lst (SqL.of upd_same) ((cut_rep rl lo hi).le (le_upd f0)), h⟩
theorem q_slice {e : Expr} {lo hi : Option Expr} {te : DE} {tl th : DO} {pos p2 : Pos} (he : PE X e (up X.K B te)) (hl : PO X lo (upO X.K B tl)) (hu : PO X hi (upO X.K B th)) : PE X (.Subscript e (.Slice lo hi none p2) pos) (up X.K B (dSlice te tl th)) :=
  PE.wk (pe_slice sl_all he hl hu) fun σ H Q ⟨F, M, δ, Q', lb, S, rs, h, k⟩ => ⟨F, M, δ, _, lb, S, rs, h, fun x H1 ⟨F1, M1, d, l1, S1, r1, h1⟩ =>
    ⟨F1, M1, δ, _, lb.trans l1, S1, rs.le l1, h1, fun l H2 ⟨F2, M2, l2, S2, h2⟩ => ⟨F2, M2, δ, _, lb.trans (l1.trans l2), S2, rs.le (l1.trans l2), h2, fun u H3 ⟨F3, M3, l3, S3, h3⟩ =>
      slice_lift S3 (r1.le (l2.trans l3)) h3 fun v H' q => k v H' (q.le ((l1.trans l2).trans l3))⟩⟩⟩

/-! ### truth -/
def truD (d : D) (M : Mm) : Option Bool := match d with
  | .v .non => some false
  | .v (.bl b) => some b
  | .v (.int i) => some (i != 0)
  | .v (.str z) => if z.length ≤ sizeLine then some ((z.length : Int) != 0) else none
  | .tup ds => some (!ds.isEmpty)
  | .lst ds => some (!ds.isEmpty)
  | .v (.ref a) => (match M a with | some (.lst ds) => some (!ds.isEmpty) | some (.dct kvs) => some (!kvs.isEmpty) | _ => none)
  | _ => none
theorem empty_rep {F : Hp} {xs : List V} {ds : List D} (r : RepL K F xs ds) : xs.isEmpty = ds.isEmpty := by cases r <;> rfl
theorem truD_at {H F : Hp} {M : Mm} {x : V} {d : D} {b : Bool} (S : Stt K H F M) (r : Rep K F x d) (h : truD d M = some b) : TruV K x H b := by
  cases r with
  | v =>
    cases x with
    | non => simp [truD] at h; subst h; rfl
    | bl c => simp [truD] at h; subst h; rfl
    | int i => simp only [truD, Option.some.injEq] at h; exact h.symm
    | str z =>
      simp only [truD] at h
      split at h
      · rename_i hz
        exact ⟨hz, (Option.some.inj h).symm⟩
      · cases h
    | ref a =>
      simp only [truD] at h
      cases e : M a with
      | none => rw [e] at h; cases h
      | some m =>
        rw [e] at h
        cases m with
        | lst ds =>
          obtain ⟨xs, h1, h2⟩ := muL S e
          exact .inl ⟨xs, SqL.of h1, by rw [empty_rep h2]; exact (Option.some.inj h).symm⟩
        | dct ds =>
          obtain ⟨xs, h1, h2⟩ := muD S e
          refine .inr (.inr ⟨xs, h1, ?_⟩)
          rw [show xs.isEmpty = ds.isEmpty from by unfold RepKV at h2; cases h2 <;> rfl]
          exact (Option.some.inj h).symm
        | _ => simp at h
    | _ => simp [truD] at h
  | tup hs rl => exact .inr (.inl ⟨_, SqT.le S.fz hs, by rw [empty_rep rl]; exact (Option.some.inj h).symm⟩)
  | lst hs rl => exact .inl ⟨_, SqL.le S.fz hs, by rw [empty_rep rl]; exact (Option.some.inj h).symm⟩
def dTru (t : DE) : DT := fun δ M Q => t δ M fun d M1 => ∃ b, truD d M1 = some b ∧ Q b M1
theorem qt_truth {a : Expr} {t : DE} (ha : PE X a (up X.K B t)) (he : ∀ whole, isTrue a X.env whole = (do let v ← whole; standAt a.pos; holding [v] (truthy v)) := by intro _; rfl) : PT X a (upT X.K B (dTru t)) :=
  PT.wk (pt_truth ha he) fun σ H Q ⟨F, M, δ, Q', lb, S, rs, h, k⟩ => ⟨F, M, δ, _, lb, S, rs, h, fun x H1 ⟨F1, M1, d, l1, S1, r1, b, e, h1⟩ => ⟨b, truD_at S1 r1 e, k _ _ ⟨F1, M1, l1, S1, h1⟩⟩⟩

/-! ### calls of built-ins -/
abbrev DC := List D → Mm → QD → Prop
def LiftC (K : PySem.W.Frag) (r : List V → Hp → VK → Prop) (r' : DC) : Prop := ∀ H F M xs ds Q' Q, Stt K H F M → RepL K F xs ds → r' ds M Q' → (∀ v H', LQ K F Q' v H' → Q v H') → r xs H Q
def dCB (r : DC) (t : DA) : DE := fun δ M Q => t δ M fun ds M1 => r ds M1 Q
theorem up_cb {r : List V → Hp → VK → Prop} {r' : DC} (L : LiftC K r r') {t : DA} {σ : Sg} {H : Hp} {Q : VK} (h : up K B (dCB r' t) σ H Q) : tCB r (upA K B t) σ H Q := by
  obtain ⟨F, M, δ, Q', lb, S, rs, h, k⟩ := h
  exact ⟨F, M, δ, _, lb, S, rs, h, fun vs H1 ⟨F1, M1, ds, l1, S1, r1, h1⟩ => L H1 F1 M1 vs ds Q' Q S1 r1 h1 fun v H' q => k v H' (q.le l1)⟩
section
variable {x : Str} {p pos : Pos} {e : Expr} {es : List Expr} {t : DA} {id T : String} {r : List V → Hp → VK → Prop} {r' : DC}
theorem q_callB (hc : CallR X (.builtin id) r) (L : LiftC X.K r r') (hg : Gl X x) (hm : X.mg x = none) (hv : bootBuiltins x = some (.builtin id)) (ha : PA X (e :: es) (upA X.K B t)) (hn : x ≠ "__name__" := by decide) (hdb : (x == ("__debug__" : Str)) = false := by decide)
    (he : starEach (e :: es) X.env = (false, eval e X.env) :: starEach es X.env := by rfl) (hpl : (backTo pos (starEach es X.env)).any (·.1) = false := by rfl) : PE X (.Call (.Name x p) (e :: es) [] pos) (up X.K B (dCB r' t)) :=
  PE.wk (pe_callB hc hg hm hv ha hn hdb he hpl) fun _ _ _ h => up_cb L h
theorem q_callTy (hc : CallR X (.type T) r) (L : LiftC X.K r r') (hg : Gl X x) (hm : X.mg x = none) (hv : bootBuiltins x = some (.type T)) (ha : PA X (e :: es) (upA X.K B t)) (hn : x ≠ "__name__" := by decide) (hdb : (x == ("__debug__" : Str)) = false := by decide)
    (he : starEach (e :: es) X.env = (false, eval e X.env) :: starEach es X.env := by rfl) (hpl : (backTo pos (starEach es X.env)).any (·.1) = false := by rfl) : PE X (.Call (.Name x p) (e :: es) [] pos) (up X.K B (dCB r' t)) :=
  PE.wk (pe_callTy hc hg hm hv ha hn hdb he hpl) fun _ _ _ h => up_cb L h
end
theorem rep1 {F : Hp} {xs : List V} {d : D} (r : RepL K F xs [d]) : ∃ x, xs = [x] ∧ Rep K F x d := by
  cases r with
  | cons a b => cases b; exact ⟨_, rfl, a⟩
theorem rep2 {F : Hp} {xs : List V} {d e : D} (r : RepL K F xs [d, e]) : ∃ x y, xs = [x, y] ∧ Rep K F x d ∧ Rep K F y e := by
  cases r with
  | cons a b =>
    obtain ⟨y, rfl, h⟩ := rep1 b
    exact ⟨_, _, rfl, a, h⟩
/-- len -/
def lenD (d : D) (M : Mm) : Option Nat := match d with
  | .v (.str z) => if z.length ≤ sizeLine then some z.length else none
  | .tup ds => some ds.length
  | .lst ds => some ds.length
  | .v (.ref a) => (match M a with | some (.lst ds) => some ds.length | some (.dct kvs) => some kvs.length | _ => none)
  | _ => none
def cLen : DC := fun ds M Q => ∃ d n, ds = [d] ∧ lenD d M = some n ∧ Q (.int (n : Int)) M
def rLenA (K : PySem.W.Frag) : List V → Hp → VK → Prop := fun xs H Q => (∃ x n, xs = [x] ∧ LenV K x H n ∧ Q (.int n) H) ∨ (∃ a kvs, xs = [.ref a] ∧ H a = some (.dK kvs) ∧ Q (.int kvs.length) H)
theorem call_lenA : CallR X (.builtin "len") (rLenA X.K) := CallR.or call_len (by
  intro pins s σ H xs us Q I r h
  obtain ⟨a, kvs, e, ea, q⟩ := h
  exact call_lenD pins s σ H xs us Q I r ⟨a, kvs, e, ea, q⟩)
theorem l_len : LiftC K (rLenA K) cLen := fun H F M xs ds Q' Q S r ⟨d, n, e, h, q⟩ k => by
  subst e
  obtain ⟨x, rfl, rx⟩ := rep1 r
  have fin : ∀ m : Nat, m = n → Q (.int (m : Int)) H := fun m hm => by subst hm; exact k _ _ ⟨F, M, _, Le.refl F, S, .v _, q⟩
  cases rx with
  | v =>
    cases x with
    | str z =>
      simp only [lenD] at h
      split at h
      · rename_i hz; exact .inl ⟨_, z.length, rfl, ⟨hz, rfl⟩, fin _ (Option.some.inj h)⟩
      · cases h
    | ref a =>
      simp only [lenD] at h
      cases e : M a with
      | none => rw [e] at h; cases h
      | some m =>
        rw [e] at h
        cases m with
        | lst ds =>
          obtain ⟨xs, h1, h2⟩ := muL S e
          exact .inl ⟨_, xs.length, rfl, .inl ⟨xs, SqL.of h1, rfl⟩, fin _ (by rw [h2.length]; exact Option.some.inj h)⟩
        | dct ds =>
          obtain ⟨xs, h1, h2⟩ := muD S e
          exact .inr ⟨a, xs, rfl, h1, fin _ (by rw [h2.length]; exact Option.some.inj h)⟩
        | _ => simp at h
    | _ => simp [lenD] at h
  | tup hs rl => exact .inl ⟨_, _, rfl, .inr ⟨_, SqT.le S.fz hs, rfl⟩, fin _ (by rw [rl.length]; exact Option.some.inj h)⟩
  | lst hs rl => exact .inl ⟨_, _, rfl, .inl ⟨_, SqL.le S.fz hs, rfl⟩, fin _ (by rw [rl.length]; exact Option.some.inj h)⟩
/-- int(n), abs(n), str(n) -/
def cInt : DC := fun ds M Q => ∃ i, ds = [.int i] ∧ Q (.int i) M
theorem l_int : LiftC K (fun xs H Q => (∃ i, xs = [.int i] ∧ Q (.int i) H) ∨ ∃ k, xs = [.bl k] ∧ Q (.int (if k then 1 else 0)) H) cInt := fun H F M xs ds Q' Q S r ⟨i, e, q⟩ k => by
  subst e
  obtain ⟨x, rfl, rx⟩ := rep1 r
  cases rx
  exact .inl ⟨i, rfl, k _ _ ⟨F, M, _, Le.refl F, S, .v _, q⟩⟩
def cAbs : DC := fun ds M Q => ∃ i, ds = [.int i] ∧ Q (.int (if i < 0 then -i else i)) M
theorem l_abs : LiftC K (fun xs H Q => ∃ i, xs = [.int i] ∧ Q (.int (if i < 0 then -i else i)) H) cAbs := fun H F M xs ds Q' Q S r ⟨i, e, q⟩ k => by
  subst e
  obtain ⟨x, rfl, rx⟩ := rep1 r
  cases rx
  exact ⟨i, rfl, k _ _ ⟨F, M, _, Le.refl F, S, .v _, q⟩⟩
def cStrI : DC := fun ds M Q => ∃ i, ds = [.int i] ∧ i.natAbs.log2 < 1920 ∧ Q (.str (Str.ofString (toString i))) M
theorem l_strI : LiftC K (fun xs H Q => ∃ i, xs = [.int i] ∧ i.natAbs.log2 < 1920 ∧ Q (.str (Str.ofString (toString i))) H) cStrI := fun H F M xs ds Q' Q S r ⟨i, e, h, q⟩ k => by
  subst e
  obtain ⟨x, rfl, rx⟩ := rep1 r
  cases rx
  exact ⟨i, rfl, h, k _ _ ⟨F, M, _, Le.refl F, S, .v _, q⟩⟩
/-- list(x) of a list or tuple: a new one; tuple(x) -/
def itD (d : D) (M : Mm) : Option (List D) := match d with
  | .tup ds => some ds
  | d => lsD d M
theorem itD_at {H F : Hp} {M : Mm} {x : V} {d : D} {ds : List D} (S : Stt K H F M) (r : Rep K F x d) (h : itD d M = some ds) : ∃ a xs, x = .ref a ∧ (SqL K H a xs ∨ SqT K H a xs) ∧ RepL K F xs ds := by
  unfold itD at h
  split at h
  · cases h
    cases r with
    | tup hs rl => exact ⟨_, _, rfl, .inr (SqT.le S.fz hs), rl⟩
  · obtain ⟨a, xs, e, h1, h2⟩ := lsD_at S r h
    exact ⟨a, xs, e, .inl h1, h2⟩
def cList : DC := fun ds M Q => ∃ d es, ds = [d] ∧ itD d M = some es ∧ Q (.lst es) M
def cListM : DC := fun ds M Q => ∃ d es, ds = [d] ∧ itD d M = some es ∧ ∀ p, M p = none → Q (.ref p) (Y.put M p (.lst es))
def rListOf (K : PySem.W.Frag) : List V → Hp → VK → Prop := fun xs H Q => ∃ p ys, xs = [.ref p] ∧ (SqL K H p ys ∨ SqT K H p ys) ∧ ∀ l, H l = none → Q (.ref l) (upd H l (.lst ys))
theorem l_list : LiftC K (rListOf K) cList := fun H F M xs ds Q' Q S r ⟨d, es, e, h, q⟩ k => by
  subst e
  obtain ⟨x, rfl, rx⟩ := rep1 r
  obtain ⟨a, ys, rfl, h1, rl⟩ := itD_at S rx h
  refine ⟨a, ys, rfl, h1, fun l hl => ?_⟩
  have f0 := (S.free hl).1
  exact k _ _ ⟨_, M, _, le_upd f0, S.still hl, .lst (SqL.of upd_same) (rl.le (le_upd f0)), q⟩
theorem l_listM : LiftC K (rListOf K) cListM := fun H F M xs ds Q' Q S r ⟨d, es, e, h, q⟩ k => by
  subst e
  obtain ⟨x, rfl, rx⟩ := rep1 r
  obtain ⟨a, ys, rfl, h1, rl⟩ := itD_at S rx h
  exact ⟨a, ys, rfl, h1, fun l hl => k _ _ ⟨F, _, _, Le.refl F, S.newM hl (.lst rl), .v _, q l (S.free hl).2⟩⟩
def cTuple : DC := fun ds M Q => ∃ d es, ds = [d] ∧ itD d M = some es ∧ Q (.tup es) M
theorem l_tuple : LiftC K (fun xs H Q => ∃ p ys, xs = [.ref p] ∧ ((SqL K H p ys ∧ ∀ l, H l = none → Q (.ref l) (upd H l (.tup ys))) ∨ (SqT K H p ys ∧ Q (.ref p) H))) cTuple := fun H F M xs ds Q' Q S r ⟨d, es, e, h, q⟩ k => by
  subst e
  obtain ⟨x, rfl, rx⟩ := rep1 r
  by_cases z : ∃ fs, d = .tup fs
  · obtain ⟨fs, rfl⟩ := z
    cases h
    cases rx with
    | tup hs rl => exact ⟨_, _, rfl, .inr ⟨SqT.le S.fz hs, k _ _ ⟨F, M, _, Le.refl F, S, .tup hs rl, q⟩⟩⟩
  · have h' : lsD d M = some es := by
      unfold itD at h
      split at h
      · exact absurd ⟨_, rfl⟩ z
      · exact h
    obtain ⟨a, ys, rfl, h1, rl⟩ := lsD_at S rx h'
    refine ⟨a, ys, rfl, .inl ⟨h1, fun l hl => ?_⟩⟩
    have f0 := (S.free hl).1
    exact k _ _ ⟨_, M, _, le_upd f0, S.still hl, .tup (SqT.of upd_same) (rl.le (le_upd f0)), q⟩
/-- all, any over a list of bools -/
def blsD : List D → Option (List Bool)
  | [] => some []
  | .v (.bl b) :: ds => (blsD ds).map (b :: ·)
  | _ :: _ => none
theorem blsD_at {F : Hp} : ∀ {xs : List V} {ds : List D} {bs : List Bool}, RepL K F xs ds → blsD ds = some bs → xs = bs.map V.bl
  | _, [], _, .nil, h => by simp [blsD] at h; subst h; rfl
  | x :: xs, d :: ds, bs, .cons r rl, h => by
    cases d with
    | v z =>
      have ez := Rep.v_inv r
      subst ez
      clear r
      cases x with
      | bl b =>
        cases e : blsD ds with
        | none => simp [blsD, e] at h
        | some cs =>
          simp [blsD, e] at h
          subst h
          rw [blsD_at rl e]
          rfl
      | _ => simp [blsD] at h
    | tup => simp [blsD] at h
    | lst => simp [blsD] at h
def cAll : DC := fun ds M Q => ∃ d es bs, ds = [d] ∧ lsD d M = some es ∧ blsD es = some bs ∧ Q (.bl (bs.all id)) M
def cAny : DC := fun ds M Q => ∃ d es bs, ds = [d] ∧ lsD d M = some es ∧ blsD es = some bs ∧ Q (.bl (bs.any id)) M
theorem l_all : LiftC K (rAll K) cAll := fun H F M xs ds Q' Q S r ⟨d, es, bs, e, h, hb, q⟩ k => by
  subst e
  obtain ⟨x, rfl, rx⟩ := rep1 r
  obtain ⟨a, ys, rfl, h1, rl⟩ := lsD_at S rx h
  have e := blsD_at rl hb
  subst e
  exact ⟨a, bs, rfl, h1, k _ _ ⟨F, M, _, Le.refl F, S, .v _, q⟩⟩
theorem l_any : LiftC K (rAny K) cAny := fun H F M xs ds Q' Q S r ⟨d, es, bs, e, h, hb, q⟩ k => by
  subst e
  obtain ⟨x, rfl, rx⟩ := rep1 r
  obtain ⟨a, ys, rfl, h1, rl⟩ := lsD_at S rx h
  have e := blsD_at rl hb
  subst e
  exact ⟨a, bs, rfl, h1, k _ _ ⟨F, M, _, Le.refl F, S, .v _, q⟩⟩
/-- isinstance(x, T), T a built-in class -/
def typD (d : D) (M : Mm) : Option String := match d with
  | .v .non => some "NoneType"
  | .v (.bl _) => some "bool"
  | .v (.int _) => some "int"
  | .v (.str _) => some "str"
  | .tup _ => some "tuple"
  | .v (.ref a) => (match M a with | some (.lst _) => some "list" | some (.dct _) => some "dict" | _ => none)
  | _ => none
theorem typD_at {H F : Hp} {M : Mm} {x : V} {d : D} {t : String} (S : Stt K H F M) (r : Rep K F x d) (h : typD d M = some t) : TyX K H x (.type t) := by
  cases r with
  | v =>
    cases x with
    | non => cases h; exact .base .non
    | bl c => cases h; exact .base (.bl _)
    | int i => cases h; exact .base (.int _)
    | str z => cases h; exact .base (.str _)
    | ref a =>
      simp only [typD] at h
      cases e : M a with
      | none => rw [e] at h; cases h
      | some m =>
        rw [e] at h
        cases m with
        | lst ds => cases h; obtain ⟨xs, h1, h2⟩ := muL S e; exact .base (.lst h1)
        | dct ds => cases h; obtain ⟨xs, h1, h2⟩ := muD S e; exact .base (.dK h1)
        | _ => simp at h
    | _ => simp [typD] at h
  | tup hs rl =>
    cases h
    rcases SqT.le S.fz hs with (z | ⟨o, z⟩) | ⟨o, its, n, h1, h2, _⟩
    · exact .base (.tup z)
    · exact .fTuple z
    · exact .kTuple h1 h2
  | lst => simp [typD] at h
def cIsi : DC := fun ds M Q => ∃ d t n b, ds = [d, .v (.ty n)] ∧ typD d M = some t ∧ kitB t n = some b ∧ Q (.bl b) M
theorem l_isi : LiftC K (rIsi K) cIsi := fun H F M xs ds Q' Q S r ⟨d, t, n, b, e, h, hb, q⟩ k => by
  subst e
  obtain ⟨x, y, rfl, rx, ry⟩ := rep2 r
  cases ry
  exact ⟨x, _, _, _, b, rfl, .ty n, typD_at S rx h, kit_ty hb, k _ _ ⟨F, M, _, Le.refl F, S, .v _, q⟩⟩
end
end Y


set_option Elab.async false
set_option linter.all false
set_option maxRecDepth 100000
set_option maxHeartbeats 1000000
/-! Y6: comprehensions, dicts, methods of lists and dicts, stores, fields, objects, bodies of defs. -/
namespace Y
open PySem PySem.Spec PyProof.Rows L2

section
variable {X : Cx} {B : Hp} {K : PySem.W.Frag}
/-! ### the slots of a block forgotten -/
def wipeD (δ : Env) : List Nat → Env
  | [] => δ
  | v :: vs => (wipeD δ vs).set v none
theorem RepS.wipe {F : Hp} {σ : Sg} {δ : Env} (r : RepS K F σ δ) : ∀ vs : List Nat, RepS K F (L2.wipe σ vs) (wipeD δ vs)
  | [] => r
  | v :: vs => RepS.unset v (RepS.wipe r vs)
theorem wipe_get (σ : Sg) : ∀ (vs : List Nat) (j : Nat), (L2.wipe σ vs)[j]? = if j ∈ vs then (σ[j]?).map (fun _ => none) else σ[j]?
  | [], j => by simp [L2.wipe]
  | v :: vs, j => by
    unfold L2.wipe
    by_cases e : v = j
    · subst e
      rw [List.getElem?_set_self', wipe_get σ vs v, if_pos List.mem_cons_self]
      split <;> simp [Option.map_map] <;> cases σ[v]? <;> rfl
    · rw [List.getElem?_set_ne e, wipe_get σ vs j]
      have : (j ∈ v :: vs) ↔ j ∈ vs := by simp [List.mem_cons, Ne.symm e]
      by_cases h : j ∈ vs
      · rw [if_pos h, if_pos (this.mpr h)]
      · rw [if_neg h, if_neg fun z => h (this.mp z)]
theorem wipe_set {σ : Sg} {vs : List Nat} {i : Nat} {x : Option V} (h : i ∈ vs) : L2.wipe (σ.set i x) vs = L2.wipe σ vs := by
  apply List.ext_getElem?
  intro j
  rw [wipe_get, wipe_get]
  by_cases e : j = i
  · subst e
    rw [if_pos h, if_pos h]
    rw [List.getElem?_set_self']
    cases σ[j]? <;> rfl
  · rw [List.getElem?_set_ne (Ne.symm e)]
theorem wipe_wipe {σ : Sg} {vs : List Nat} : L2.wipe (L2.wipe σ vs) vs = L2.wipe σ vs := by
  apply List.ext_getElem?
  intro j
  rw [wipe_get, wipe_get]
  by_cases h : j ∈ vs
  · rw [if_pos h, if_pos h]; cases σ[j]? <;> rfl
  · rw [if_neg h, if_neg h]
/-- a target of a block: it stores into the block's own slots alone -/
def LiftG (K : PySem.W.Frag) (vs : List Nat) (g : TG) (g' : DG) : Prop := ∀ H F M δ d v σ Q' Q, Stt K H F M → RepS K F σ δ → Rep K F v d → g' d δ M Q' → (∀ σ' H', L2.wipe σ' vs = L2.wipe σ vs → LS K F Q' σ' H' → Q σ' H') → g v σ H Q
def LiftGs (K : PySem.W.Frag) (vs : List Nat) (g : TGs) (g' : DGs) : Prop := ∀ H F M δ ds xs σ Q' Q, Stt K H F M → RepS K F σ δ → RepL K F xs ds → g' ds δ M Q' → (∀ σ' H', L2.wipe σ' vs = L2.wipe σ vs → LS K F Q' σ' H' → Q σ' H') → g xs σ H Q
theorem lg_name {vs : List Nat} {i : Nat} (h : i ∈ vs) : LiftG K vs (gName i) (dgName i) := fun H F M δ d v σ Q' Q S rs r q k => k _ _ (wipe_set h) ⟨F, M, _, Le.refl F, S, rs.set r i, q⟩
theorem lgs_nil {vs : List Nat} : LiftGs K vs gNil dgNil := fun H F M δ ds xs σ Q' Q S rs r ⟨e, q⟩ k => by
  subst e; cases r
  exact ⟨rfl, k _ _ rfl ⟨F, M, _, Le.refl F, S, rs, q⟩⟩
theorem lgs_cons {vs : List Nat} {g : TG} {g' : DG} {u : TGs} {u' : DGs} (h1 : LiftG K vs g g') (h2 : LiftGs K vs u u') : LiftGs K vs (gCons g u) (dgCons g' u') := fun H F M δ ds xs σ Q' Q S rs r ⟨d, r', e, q⟩ k => by
  subst e
  cases r with
  | cons ra rb =>
    refine ⟨_, _, rfl, h1 H F M δ d _ σ _ _ S rs ra q fun σ1 H1 w1 ⟨F1, M1, δ1, l1, S1, rs1, q1⟩ => ?_⟩
    exact h2 H1 F1 M1 δ1 r' _ σ1 Q' Q S1 rs1 (rb.le l1) q1 fun σ2 H2 w2 q2 => k _ _ (w2.trans w1) (q2.le l1)
theorem lg_tup {vs : List Nat} {n : Nat} {u : TGs} {u' : DGs} (h : LiftGs K vs u u') : LiftG K vs (gTup K n u) (dgTup n u') := fun H F M δ d v σ Q' Q S rs r ⟨ds, e, hl, q⟩ k => by
  subst e
  cases r with
  | tup hs rl => exact ⟨_, _, rfl, SqT.le S.fz hs, by rw [rl.length]; exact hl, h H F M δ ds _ σ Q' Q S rs rl q k⟩
/-- (a, b) = a list of that length -/
def dgLst (n : Nat) (t : DGs) : DG := fun d δ M Q => ∃ ds, lsD d M = some ds ∧ ds.length = n ∧ t ds δ M Q
theorem qg_lst {es : List Expr} {k : Nat} {t : DGs} {n : Nat} {pos : Pos} (hc : X.calm = true) (h : PGs X es (upGs X.K B t)) (hn : (assignEach es X.env).length = n := by rfl) (hst : (assignEach es X.env).findIdx? (·.1) = none := by rfl) : PG X (.Tuple es k pos) (upG X.K B (dgLst n t)) :=
  PG.wk (pg_lst hc h hn hst) fun v σ H Q ⟨F, M, δ, d, Q', lb, S, rs, r, ⟨ds, e, hl, h⟩, k⟩ => by
    obtain ⟨a, xs, rfl, h1, rl⟩ := lsD_at S r e
    exact ⟨_, _, rfl, h1, by rw [rl.length]; exact hl, F, M, δ, ds, _, lb, S, rs, rl, h, k⟩

/-! ### list comprehensions -/
def tYesD : DT := fun _ M Q => Q true M
theorem qts_nil : PTs X [] (upT X.K B tYesD) := ⟨fun pins s σ H Q I ⟨F, M, δ, Q', lb, S, rs, h, k⟩ => pts_nil.run pins s σ H Q I (k _ _ ⟨F, M, Le.refl F, S, h⟩)⟩
theorem qts_one {c : Expr} {t : DT} (h : PT X c (upT X.K B t)) : PTs X [c] (upT X.K B t) := pts_one h
def lcD (G : Mm → Prop) (g : DG) (tt : DT) (te : DE) (δ0 : Env) (p : Addr) (Q : Mm → Prop) : List D → Mm → Prop
  | [], M => G M ∧ Q M
  | d :: ds, M => G M ∧ ∃ N : Mm → Prop, (∀ M', N M' → lcD G g tt te δ0 p Q ds M') ∧ g d δ0 M fun δ' M1 => tt δ' M1 fun b M2 => if b = true then te δ' M2 fun e M3 => ∃ acc, M3 p = some (.lst acc) ∧ acc.length < sizeLine ∧ N (Y.put M3 p (.lst (acc ++ [e]))) else N M2
theorem lcD_G {G : Mm → Prop} {g : DG} {tt : DT} {te : DE} {δ0 : Env} {p : Addr} {Q : Mm → Prop} {ds : List D} {M : Mm} (h : lcD G g tt te δ0 p Q ds M) : G M := by
  cases ds with
  | nil => exact h.1
  | cons d ds => exact h.1
def dLc (wi : DI) (g : DG) (tt : DT) (te : DE) (vs : List Nat) : DE := fun δ M Q => wi δ M fun ds G M1 => ∀ p, M1 p = none → lcD G g tt te (wipeD δ vs) p (fun M' => Q (.ref p) M') ds (Y.put M1 p (.lst []))
theorem up_lc {wi : DI} {g : TG} {g' : DG} {tt : DT} {te : DE} {vs : List Nat} (L : LiftG K vs g g') {σ : Sg} {H : Hp} {Q : VK} (h : up K B (dLc wi g' tt te vs) σ H Q) : tLc (upI K B wi) g (upT K B tt) (up K B te) vs σ H Q := by
  obtain ⟨F, M, δ, Q', lb, S, rs, h, k⟩ := h
  refine ⟨F, M, δ, _, lb, S, rs, h, fun J H1 ⟨F1, M1, ds, G, l1, S1, Yw, h1⟩ p hp => ?_⟩
  have h1 := h1 p (S1.free hp).2
  have S2 := S1.newM (o := .lst []) hp (.lst .nil)
  refine ⟨fun i m H => m = ds.length - i ∧ i ≤ ds.length ∧ ∃ F2 M2, Le F1 F2 ∧ Stt K H F2 M2 ∧ lcD G g' tt te (wipeD δ vs) p (fun M' => Q' (.ref p) M') (ds.drop i) M2, ⟨ds.length, by simp, Nat.zero_le _, F1, _, Le.refl F1, S2, by simpa using h1⟩, ?_⟩
  rintro i m H2 ⟨rfl, hi, F2, M2, l2, S3, h2⟩
  have gm := lcD_G h2
  have l02 := l1.trans l2
  by_cases hlt : i < ds.length
  · refine .inr ⟨Yw.go i H2 F2 M2 l2 S3 gm hlt, fun H' => i + 1 ≤ ds.length ∧ ∃ F2 M2, Le F1 F2 ∧ Stt K H' F2 M2 ∧ lcD G g' tt te (wipeD δ vs) p (fun M' => Q' (.ref p) M') (ds.drop (i + 1)) M2, fun H' q => ⟨ds.length - (i + 1), by omega, rfl, q⟩, fun x H3 y => ?_⟩
    obtain ⟨F3, d, l3, S4, e3, r3⟩ := Yw.yld i H2 F2 M2 x H3 l2 S3 gm hlt y
    rw [List.drop_eq_getElem_cons hlt] at h2
    have ed : ds[i] = d := by
      rw [List.getElem?_eq_getElem hlt] at e3
      exact Option.some.inj e3
    rw [ed] at h2
    obtain ⟨_, N, hN, h2⟩ := h2
    refine L H3 F3 M2 (wipeD δ vs) d x (L2.wipe σ vs) _ _ S4 ((rs.wipe vs).le (l02.trans l3)) r3 h2 fun σ4 H4 w4 ⟨F4, M4, δ4, l4, S5, rs4, h4⟩ => ?_
    refine ⟨w4.trans wipe_wipe, F4, M4, δ4, _, lb.trans ((l02.trans l3).trans l4), S5, rs4, h4, fun b H5 ⟨F5, M5, l5, S6, h5⟩ => ?_⟩
    have l15 : Le F1 F5 := ((l2.trans l3).trans l4).trans l5
    cases b with
    | false => exact iteF ⟨hlt, F5, M5, l15, S6, hN _ (by simpa using h5)⟩
    | true =>
      rw [if_pos rfl] at h5
      refine iteT ⟨F5, M5, δ4, _, lb.trans (l1.trans l15), S6, rs4.le l5, h5, fun y H6 ⟨F6, M6, e, l6, S7, r6, acc, ea, hz, h6⟩ => ?_⟩
      obtain ⟨xs, hx, rx⟩ := muL S7 ea
      exact ⟨xs, hx, by rw [rx.length]; exact hz, hlt, F6, _, l15.trans l6, S7.change ea (.lst (rx.append (.cons r6 .nil))), hN _ h6⟩
  · have e : i = ds.length := by omega
    subst e
    rw [List.drop_eq_nil_of_le (Nat.le_refl _)] at h2
    exact .inl ⟨Yw.stop H2 F2 M2 l2 S3 gm, k _ _ ⟨F2, M2, _, l02, S3, .v _, h2.2⟩⟩
variable {elt tg iter : Expr} {ifs : List Expr} {scope : Scope} {own : List (Str × Nat)} {pos spos : Pos} {wi : DI} {g : TG} {g' : DG} {tt : DT} {te : DE}
theorem q_lc (hc : X.calm = true) (hN : X.N.Nodup) (hi : PI X tg iter (upI X.K B wi)) (ok : BlkOk X.N X.env.scope scope own)
    (hg : ∀ (s : Shared) (H : Hp) (C : Addr) (cl : List (Str × Addr)) (fp : List Addr), PG (X.blk s H scope (compEnvC scope cl C X.env) fp) tg g) (L : LiftG X.K (own.map (·.2)) g g')
    (ht : ∀ (s : Shared) (H : Hp) (C : Addr) (cl : List (Str × Addr)) (fp : List Addr), PTs (X.blk s H scope (compEnvC scope cl C X.env) fp) ifs (upT X.K B tt))
    (he : ∀ (s : Shared) (H : Hp) (C : Addr) (cl : List (Str × Addr)) (fp : List Addr), PE (X.blk s H scope (compEnvC scope cl C X.env) fp) elt (up X.K B te)) (hs : ∀ x, foldedSetIterable iter X.env x = pure x := by intro _; rfl) :
    PE X (.ListComp elt [⟨tg, iter, ifs, 0⟩] scope pos) (up X.K B (dLc wi g' tt te (own.map (·.2)))) :=
  PE.wk (pe_lc hc hN hi ok hg ht he hs) fun _ _ _ h => up_lc L h
theorem qs_setLc {i : Nat} {y : Str} {py : Pos} (hc : X.calm = true) (hN : X.N.Nodup) (hy : X.N[i]? = some y) (hyl : X.env.scope.names.lookup y = some .local)
    (hsw : swapsWith (.ListComp elt [⟨tg, iter, ifs, 0⟩] scope pos) (some (.Name y py)) spos.line X.env = pure true) (hi : PI X tg iter (upI X.K B wi)) (ok : BlkOk X.N X.env.scope scope own)
    (hg : ∀ (s : Shared) (H : Hp) (C : Addr) (cl : List (Str × Addr)) (fp : List Addr), PG (X.blk s H scope (compEnvC scope cl C X.env) fp) tg g) (L : LiftG X.K (own.map (·.2)) g g')
    (ht : ∀ (s : Shared) (H : Hp) (C : Addr) (cl : List (Str × Addr)) (fp : List Addr), PTs (X.blk s H scope (compEnvC scope cl C X.env) fp) ifs (upT X.K B tt))
    (he : ∀ (s : Shared) (H : Hp) (C : Addr) (cl : List (Str × Addr)) (fp : List Addr), PE (X.blk s H scope (compEnvC scope cl C X.env) fp) elt (up X.K B te)) (hs : ∀ x, foldedSetIterable iter X.env x = pure x := by intro _; rfl) :
    PS X (.Assign [.Name y py] (.ListComp elt [⟨tg, iter, ifs, 0⟩] scope pos) spos) (upS X.K B (dAsg (dLc wi g' tt te (own.map (·.2))) (dgName i))) :=
  PS.wk (ps_setLc hc hN hy hyl hsw hi ok hg ht he hs) fun E σ H h => by
    have h := up_asg E σ H h
    obtain ⟨F, M, δ, E', lb, S, rs, h, k⟩ := h
    exact up_lc L ⟨F, M, δ, _, lb, S, rs, h, fun v H' q => by
      obtain ⟨F1, M1, δ1, d1, Q1, _, S1, rs1, r1, q1, k1⟩ := k v H' q
      exact k1 _ _ ⟨F1, M1, _, Le.refl F1, S1, rs1.set r1 i, q1⟩⟩

/-! ### dict comprehensions -/
def dcD (G : Mm → Prop) (g : DG) (tt : DT) (tk te : DE) (δ0 : Env) (p : Addr) (Q : Mm → Prop) : List D → Mm → Prop
  | [], M => G M ∧ Q M
  | d :: ds, M => G M ∧ ∃ N : Mm → Prop, (∀ M', N M' → dcD G g tt tk te δ0 p Q ds M') ∧ g d δ0 M fun δ' M1 => tt δ' M1 fun b M2 => if b = true then tk δ' M2 fun y M3 => te δ' M3 fun e M4 => ∃ kvs k, keyD y = some k ∧ M4 p = some (.dct kvs) ∧ kvs.length < sizeLine ∧ N (Y.put M4 p (.dct (putKD kvs k e))) else N M2
theorem dcD_G {G : Mm → Prop} {g : DG} {tt : DT} {tk te : DE} {δ0 : Env} {p : Addr} {Q : Mm → Prop} {ds : List D} {M : Mm} (h : dcD G g tt tk te δ0 p Q ds M) : G M := by
  cases ds with
  | nil => exact h.1
  | cons d ds => exact h.1
def dDc (wi : DI) (g : DG) (tt : DT) (tk te : DE) (vs : List Nat) : DE := fun δ M Q => wi δ M fun ds G M1 => ∀ p, M1 p = none → dcD G g tt tk te (wipeD δ vs) p (fun M' => Q (.ref p) M') ds (Y.put M1 p (.dct []))
theorem up_dc {wi : DI} {g : TG} {g' : DG} {tt : DT} {tk te : DE} {vs : List Nat} (L : LiftG K vs g g') {σ : Sg} {H : Hp} {Q : VK} (h : up K B (dDc wi g' tt tk te vs) σ H Q) : tDc (upI K B wi) g (upT K B tt) (up K B tk) (up K B te) vs σ H Q := by
  obtain ⟨F, M, δ, Q', lb, S, rs, h, k⟩ := h
  refine ⟨F, M, δ, _, lb, S, rs, h, fun J H1 ⟨F1, M1, ds, G, l1, S1, Yw, h1⟩ p hp => ?_⟩
  have h1 := h1 p (S1.free hp).2
  have S2 := S1.newM (o := .dK []) (m := .dct []) hp (.dct .nil)
  refine ⟨fun i m H => m = ds.length - i ∧ i ≤ ds.length ∧ ∃ F2 M2, Le F1 F2 ∧ Stt K H F2 M2 ∧ dcD G g' tt tk te (wipeD δ vs) p (fun M' => Q' (.ref p) M') (ds.drop i) M2, ⟨ds.length, by simp, Nat.zero_le _, F1, _, Le.refl F1, S2, by simpa using h1⟩, ?_⟩
  rintro i m H2 ⟨rfl, hi, F2, M2, l2, S3, h2⟩
  have gm := dcD_G h2
  have l02 := l1.trans l2
  by_cases hlt : i < ds.length
  · refine .inr ⟨Yw.go i H2 F2 M2 l2 S3 gm hlt, fun H' => i + 1 ≤ ds.length ∧ ∃ F2 M2, Le F1 F2 ∧ Stt K H' F2 M2 ∧ dcD G g' tt tk te (wipeD δ vs) p (fun M' => Q' (.ref p) M') (ds.drop (i + 1)) M2, fun H' q => ⟨ds.length - (i + 1), by omega, rfl, q⟩, fun x H3 y => ?_⟩
    obtain ⟨F3, d, l3, S4, e3, r3⟩ := Yw.yld i H2 F2 M2 x H3 l2 S3 gm hlt y
    rw [List.drop_eq_getElem_cons hlt] at h2
    have ed : ds[i] = d := by
      rw [List.getElem?_eq_getElem hlt] at e3
      exact Option.some.inj e3
    rw [ed] at h2
    obtain ⟨_, N, hN, h2⟩ := h2
    refine L H3 F3 M2 (wipeD δ vs) d x (L2.wipe σ vs) _ _ S4 ((rs.wipe vs).le (l02.trans l3)) r3 h2 fun σ4 H4 w4 ⟨F4, M4, δ4, l4, S5, rs4, h4⟩ => ?_
    refine ⟨w4.trans wipe_wipe, F4, M4, δ4, _, lb.trans ((l02.trans l3).trans l4), S5, rs4, h4, fun b H5 ⟨F5, M5, l5, S6, h5⟩ => ?_⟩
    have l15 : Le F1 F5 := ((l2.trans l3).trans l4).trans l5
    cases b with
    | false => exact iteF ⟨hlt, F5, M5, l15, S6, hN _ (by simpa using h5)⟩
    | true =>
      rw [if_pos rfl] at h5
      refine iteT ⟨F5, M5, δ4, _, lb.trans (l1.trans l15), S6, rs4.le l5, h5, fun y H6 ⟨F6, M6, dk, l6, S7, r6, h6⟩ => ?_⟩
      refine ⟨F6, M6, δ4, _, lb.trans ((l1.trans l15).trans l6), S7, rs4.le (l5.trans l6), h6, fun z H7 ⟨F7, M7, e, l7, S8, r7, kvs, kk, ek, ea, hz, h7⟩ => ?_⟩
      obtain ⟨xs, hx, rx⟩ := muD S8 ea
      exact ⟨xs, kk, keyD_at r6 ek, hx, by rw [rx.length]; exact hz, hlt, F7, _, (l15.trans l6).trans l7, S8.change ea (.dct (putKD_rep rx r7)), hN _ h7⟩
  · have e : i = ds.length := by omega
    subst e
    rw [List.drop_eq_nil_of_le (Nat.le_refl _)] at h2
    exact .inl ⟨Yw.stop H2 F2 M2 l2 S3 gm, k _ _ ⟨F2, M2, _, l02, S3, .v _, h2.2⟩⟩
theorem q_dc {kx vx : Expr} {tk : DE} (hc : X.calm = true) (hN : X.N.Nodup) (hi : PI X tg iter (upI X.K B wi)) (ok : BlkOk X.N X.env.scope scope own)
    (hg : ∀ (s : Shared) (H : Hp) (C : Addr) (cl : List (Str × Addr)) (fp : List Addr), PG (X.blk s H scope (compEnvC scope cl C X.env) fp) tg g) (L : LiftG X.K (own.map (·.2)) g g')
    (ht : ∀ (s : Shared) (H : Hp) (C : Addr) (cl : List (Str × Addr)) (fp : List Addr), PTs (X.blk s H scope (compEnvC scope cl C X.env) fp) ifs (upT X.K B tt))
    (hk : ∀ (s : Shared) (H : Hp) (C : Addr) (cl : List (Str × Addr)) (fp : List Addr), PE (X.blk s H scope (compEnvC scope cl C X.env) fp) kx (up X.K B tk))
    (he : ∀ (s : Shared) (H : Hp) (C : Addr) (cl : List (Str × Addr)) (fp : List Addr), PE (X.blk s H scope (compEnvC scope cl C X.env) fp) vx (up X.K B te)) (hs : ∀ x, foldedSetIterable iter X.env x = pure x := by intro _; rfl) :
    PE X (.DictComp kx vx [⟨tg, iter, ifs, 0⟩] scope pos) (up X.K B (dDc wi g' tt tk te (own.map (·.2)))) :=
  PE.wk (pe_dc hc hN hi ok hg ht hk he hs) fun _ _ _ h => up_dc L h

/-! ### a name's list stands still from here on -/
def dFrzS (i : Nat) (u : DS) : DS := fun E δ M => ∃ p ds, δ[i]? = some (some (.ref p)) ∧ M p = some (.lst ds) ∧ u E (δ.set i (some (.lst ds))) (Y.drop M p)
theorem RepS.turn {F : Hp} {i : Nat} {x : V} {d : D} (r : Rep K F x d) : ∀ {σ : Sg} {δ : Env} {j : Nat}, RepS K F σ δ → σ[j]? = Option.some (Option.some x) → RepS K F σ (δ.set j (Option.some d))
  | _, _, _, .nil, h => .nil
  | _, _, 0, .some _ t, h => by
    simp at h
    subst h
    exact .some r t
  | _, _, 0, .none _, h => by simp at h
  | _, _, j + 1, .some q t, h => .some q (RepS.turn (i := i) r t (by simpa using h))
  | _, _, j + 1, .none t, h => .none (RepS.turn (i := i) r t (by simpa using h))
theorem qss_frz (i : Nat) {sts : List Stmt} {u : DS} (h : PSs X sts (upS X.K B u)) : PSs X sts (upS X.K B (dFrzS i u)) := PSs.wk h fun E σ H ⟨F, M, δ, E', lb, S, rs, ⟨p, ds, e1, e2, h⟩, k1, k2, k3, k4⟩ => by
  obtain ⟨x, h1, h2⟩ := rs.get e1
  cases h2
  obtain ⟨o, g1, g2, l2, S2⟩ := S.freeze e2
  cases g2 with
  | lst r => exact ⟨_, _, _, E', lb.trans l2, S2, (RepS.turn (i := i) (.lst (SqL.of upd_same) (r.le l2)) (rs.le l2) h1), h, fun _ _ q => k1 _ _ (q.le l2), fun _ _ q => k2 _ _ (q.le l2), fun _ _ q => k3 _ _ (q.le l2), fun _ _ q => k4 _ _ (q.le l2)⟩
end
end Y


set_option Elab.async false
set_option linter.all false
set_option maxRecDepth 100000
set_option maxHeartbeats 1000000
/-! Y7: stores, methods of lists and dicts, fields, objects, bodies of defs, dicts walked. -/
namespace Y
open PySem PySem.Spec PyProof.Rows L2

section
variable {X : Cx} {B : Hp} {K : PySem.W.Frag}
/-! ### o[i] = e -/
def setD (o i v : D) (M : Mm) (Q : Mm → Prop) : Prop := match o with
  | .v (.ref a) => (match M a with
    | some (.lst ds) => ∃ k j, i = .int k ∧ ixN ds.length k = some j ∧ Q (Y.put M a (.lst (ds.set j v)))
    | some (.dct kvs) => ∃ k, keyD i = some k ∧ kvs.length < sizeLine ∧ Q (Y.put M a (.dct (putKD kvs k v)))
    | _ => False)
  | _ => False
def rSetA : TSet := fun o i v H Q => rSetL o i v H Q ∨ rSetD o i v H Q
theorem set_all (hu : X.A.units + 1 < cLine) : PSet X rSetA := by
  intro pins s σ H o i v ov iv u Q I ro ri rv h
  rcases h with h | h
  · exact set_list pins s σ H o i v ov iv u Q I ro ri rv h
  · exact set_dict hu pins s σ H o i v ov iv u Q I ro ri rv h
theorem set_lift {H F : Hp} {M : Mm} {o i v : V} {od id vd : D} {Q' : Mm → Prop} {Q : Hp → Prop} (S : Stt K H F M) (ro : Rep K F o od) (ri : Rep K F i id) (rv : Rep K F v vd) (h : setD od id vd M Q') (k : ∀ H' M', Stt K H' F M' → Q' M' → Q H') : rSetA o i v H Q := by
  unfold setD at h
  split at h
  · rename_i a
    cases ro
    split at h
    · rename_i ds e
      obtain ⟨n, j, rfl, hj, q⟩ := h
      cases ri
      obtain ⟨xs, h1, r1⟩ := muL S e
      exact .inl ⟨a, xs, n, j, rfl, rfl, h1, by rw [r1.length]; exact hj, k _ _ (S.change e (.lst (RepL.set rv j r1))) q⟩
    · rename_i kvs e
      obtain ⟨n, hk, hz, q⟩ := h
      have ei := keyD_at ri hk
      subst ei
      obtain ⟨xs, h1, r1⟩ := muD S e
      exact .inr ⟨a, _, rfl, DPut.k h1 (by rw [r1.length]; exact hz), k _ _ (S.change e (.dct (putKD_rep r1 rv))) q⟩
    · exact h.elim
  · exact h.elim
def dgSub (to ti : DE) : DG := fun v δ M Q => to δ M fun o M1 => ti δ M1 fun i M2 => setD o i v M2 fun M3 => Q δ M3
theorem qg_sub {o i : Expr} {to ti : DE} {pos : Pos} (hu : X.A.units + 1 < cLine) (ho : PE X o (up X.K B to)) (hi : PE X i (up X.K B ti))
    (ha : ∀ v, assign (.Subscript o i pos) X.env v = (do
      let ov ← holding [v] (eval o X.env)
      let iv ← holding [v, ov] (eval i X.env)
      standAt pos
      holding [v, ov, iv] (setItem ov iv v)
      release [v, ov, iv] []) := by intro _; rfl) : PG X (.Subscript o i pos) (upG X.K B (dgSub to ti)) :=
  PG.wk (pg_sub ho hi (set_all hu) ha) fun v σ H Q ⟨F, M, δ, d, Q', lb, S, rs, r, h, k⟩ => ⟨F, M, δ, _, lb, S, rs, h, fun x H1 ⟨F1, M1, d1, l1, S1, r1, h1⟩ =>
    ⟨F1, M1, δ, _, lb.trans l1, S1, rs.le l1, h1, fun y H2 ⟨F2, M2, d2, l2, S2, r2, h2⟩ => set_lift S2 (r1.le l2) r2 (r.le (l1.trans l2)) h2 fun H3 M3 S3 q => k _ _ ⟨F2, M3, δ, l1.trans l2, S3, rs.le (l1.trans l2), q⟩⟩⟩
/-! ### del d[k] -/
def dDel (to ti : DE) : DS := fun E δ M => to δ M fun o M1 => ti δ M1 fun i M2 => ∃ a kvs k, o = .ref a ∧ M2 a = some (.dct kvs) ∧ keyD i = some k ∧ (valD kvs k).isSome = true ∧ E.nx δ (Y.put M2 a (.dct (dropKD kvs k)))
theorem qs_del {o i : Expr} {to ti : DE} {tpos pos : Pos} (ho : PE X o (up X.K B to)) (hi : PE X i (up X.K B ti)) : PS X (.Delete [.Subscript o i tpos] pos) (upS X.K B (dDel to ti)) :=
  PS.wk (ps_ddel ho hi) fun E σ H ⟨F, M, δ, E', lb, S, rs, h, k1, k2, k3, k4⟩ => ⟨F, M, δ, _, lb, S, rs, h, fun x H1 ⟨F1, M1, d1, l1, S1, r1, h1⟩ =>
    ⟨F1, M1, δ, _, lb.trans l1, S1, rs.le l1, h1, fun y H2 ⟨F2, M2, d2, l2, S2, r2, a, kvs, k, e, em, ek, hs, h2⟩ => by
      subst e
      cases r1
      obtain ⟨xs, hx, rx⟩ := muD S2 em
      have ey := keyD_at r2 ek
      subst ey
      refine ⟨a, xs, k, rfl, hx, rfl, ?_, k1 _ _ ⟨F2, _, δ, l1.trans l2, S2.change em (.dct (dropKD_rep rx)), rs.le (l1.trans l2), h2⟩⟩
      rcases valD_rep (k := k) rx with ⟨_, z⟩ | ⟨v, d, z, _, _⟩
      · rw [z] at hs; cases hs
      · rw [z]; rfl⟩⟩

/-! ### methods of built-in types, by values -/
abbrev DM := D → List D → Mm → QD → Prop
def LiftM (K : PySem.W.Frag) (r : V → List V → Hp → VK → Prop) (r' : DM) : Prop := ∀ H F M x d xs ds Q' Q, Stt K H F M → Rep K F x d → RepL K F xs ds → r' d ds M Q' → (∀ v H', LQ K F Q' v H' → Q v H') → r x xs H Q
/-- what stands ahead of the dot, by its type -/
def tyD (T : String) (d : D) (M : Mm) : Prop := match d with
  | .v (.str _) => T = "str"
  | .lst _ => T = "list"
  | .v (.ref a) => (match M a with | some (.lst _) => T = "list" | some (.dct _) => T = "dict" | _ => False)
  | _ => False
theorem tyD_at {H F : Hp} {M : Mm} {x : V} {d : D} {T : String} (S : Stt K H F M) (r : Rep K F x d) (h : tyD T d M) : tyV K T x H := by
  cases r with
  | v =>
    cases x with
    | str z => exact h
    | ref a =>
      simp only [tyD] at h
      cases e : M a with
      | none => rw [e] at h; exact h.elim
      | some m =>
        rw [e] at h
        cases m with
        | lst ds => obtain ⟨xs, h1, h2⟩ := muL S e; exact .inl ⟨h, xs, SqL.of h1⟩
        | dct ds => obtain ⟨xs, h1, h2⟩ := muD S e; exact .inr (.inr (.inl ⟨h, .inl ⟨xs, h1⟩⟩))
        | _ => exact h.elim
    | _ => exact h.elim
  | tup => exact h.elim
  | lst hs rl => exact .inl ⟨h, _, SqL.le S.fz hs⟩
def dBM0 (T : String) (r : DM) (to : DE) : DE := fun δ M Q => to δ M fun x M1 => tyD T x M1 ∧ r x [] M1 Q
def dBM (T : String) (r : DM) (to : DE) (t : DA) : DE := fun δ M Q => to δ M fun x M1 => tyD T x M1 ∧ t δ M1 fun xs M2 => r x xs M2 Q
section
variable {o e : Expr} {es : List Expr} {to : DE} {t : DA} {name : Str} {apos cpos : Pos} {T id : String} {r : V → List V → Hp → VK → Prop} {r' : DM}
theorem q_bm0 (pa : PlainAttrs T) (slot : Slot T name id) (hty : typeOf (.builtin id) = pure (.type "method_descriptor")) (hm : MtR X id r) (L : LiftM X.K r r') (ho : PE X o (up X.K B to))
    (hbase : attributeBase o name X.env (eval o X.env) = eval o X.env := by rfl) (hline : (apos.endLine == cpos.line) = true := by rfl) : PE X (.Call (.Attribute o name apos) [] [] cpos) (up X.K B (dBM0 T r' to)) :=
  PE.wk (pe_bm0 pa slot hty hm ho hbase hline) fun σ H Q ⟨F, M, δ, Q', lb, S, rs, h, k⟩ => ⟨F, M, δ, _, lb, S, rs, h, fun x H1 ⟨F1, M1, d1, l1, S1, r1, ty, h1⟩ => ⟨tyD_at S1 r1 ty, L H1 F1 M1 x d1 [] [] Q' Q S1 r1 .nil h1 fun v H' q => k v H' (q.le l1)⟩⟩
theorem q_bm (pa : PlainAttrs T) (slot : Slot T name id) (hty : typeOf (.builtin id) = pure (.type "method_descriptor")) (hm : MtR X id r) (L : LiftM X.K r r') (ho : PE X o (up X.K B to)) (ha : PA X (e :: es) (upA X.K B t))
    (hbase : attributeBase o name X.env (eval o X.env) = eval o X.env := by rfl)
    (hfew : ((backTo cpos (starEach (e :: es) X.env)).all (fun x => !x.1) && (backToKw cpos (keywordEach [] X.env)).all (fun x => x.1.isSome)
      && decide ((e :: es).length + ([] : List Keyword).length + (if ([] : List Keyword).isEmpty then 0 else 1) < 30)) = true := by rfl)
    (hline : (apos.endLine == cpos.line) = true := by rfl) (hs : starEach (e :: es) X.env = (false, eval e X.env) :: starEach es X.env := by rfl) (hplain : (backTo cpos (starEach es X.env)).any (·.1) = false := by rfl) :
    PE X (.Call (.Attribute o name apos) (e :: es) [] cpos) (up X.K B (dBM T r' to t)) :=
  PE.wk (pe_bm pa slot hty hm ho ha hbase hfew hline hs hplain) fun σ H Q ⟨F, M, δ, Q', lb, S, rs, h, k⟩ => ⟨F, M, δ, _, lb, S, rs, h, fun x H1 ⟨F1, M1, d1, l1, S1, r1, ty, h1⟩ => ⟨tyD_at S1 r1 ty, F1, M1, δ, _, lb.trans l1, S1, rs.le l1, h1,
    fun xs H2 ⟨F2, M2, ds, l2, S2, r2, h2⟩ => L H2 F2 M2 x d1 xs ds Q' Q S2 (r1.le l2) r2 h2 fun v H' q => k v H' (q.le (l1.trans l2))⟩⟩
end
def mAppend : DM := fun x vs M Q => ∃ a ds d, x = .ref a ∧ vs = [d] ∧ M a = some (.lst ds) ∧ ds.length < sizeLine ∧ Q .non (Y.put M a (.lst (ds ++ [d])))
theorem l_append : LiftM K rAppend mAppend := fun H F M x d xs ds Q' Q S r rl ⟨a, es, e, e1, e2, em, hz, q⟩ k => by
  subst e1 e2
  cases r
  obtain ⟨y, rfl, ry⟩ := rep1 rl
  obtain ⟨ys, hy, rys⟩ := muL S em
  exact ⟨a, ys, y, rfl, rfl, hy, by rw [rys.length]; exact hz, k _ _ ⟨F, _, _, Le.refl F, S.change em (.lst (rys.append (.cons ry .nil))), .v _, q⟩⟩
def mPop : DM := fun x vs M Q => ∃ a ds d, x = .ref a ∧ vs = [] ∧ M a = some (.lst ds) ∧ ds[ds.length - 1]? = some d ∧ Q d (Y.put M a (.lst ds.dropLast))
theorem RepL.dropLast {F : Hp} {xs : List V} {ds : List D} (r : RepL K F xs ds) : RepL K F xs.dropLast ds.dropLast := by
  rw [List.dropLast_eq_take, List.dropLast_eq_take, r.length]
  exact r.take _
theorem l_pop : LiftM K rPop mPop := fun H F M x d xs ds Q' Q S r rl ⟨a, es, e, e1, e2, em, hz, q⟩ k => by
  subst e1 e2
  cases r
  cases rl
  obtain ⟨ys, hy, rys⟩ := muL S em
  obtain ⟨y, h1, h2⟩ := rys.get hz
  exact ⟨a, ys, y, rfl, rfl, hy, by rw [rys.length]; exact h1, k _ _ ⟨F, _, _, Le.refl F, S.change em (.lst rys.dropLast), h2, q⟩⟩
/-- texts' methods -/
def strsD : List D → Option (List Str)
  | [] => some []
  | .v (.str x) :: ds => (strsD ds).map (x :: ·)
  | _ :: _ => none
theorem strsD_at {F : Hp} : ∀ {xs : List V} {ds : List D} {bs : List Str}, RepL K F xs ds → strsD ds = some bs → xs = bs.map V.str
  | _, [], _, .nil, h => by simp [strsD] at h; subst h; rfl
  | x :: xs, d :: ds, bs, .cons r rl, h => by
    cases d with
    | v z =>
      have ez := Rep.v_inv r
      subst ez
      clear r
      cases x with
      | str b =>
        cases e : strsD ds with
        | none => simp [strsD, e] at h
        | some cs =>
          simp [strsD, e] at h
          subst h
          rw [strsD_at rl e]
          rfl
      | _ => simp [strsD] at h
    | tup => simp [strsD] at h
    | lst => simp [strsD] at h
theorem strsD_map (xs : List Str) : strsD (xs.map D.str) = some xs := by
  induction xs with
  | nil => rfl
  | cons x xs ih => simp [strsD, ih]
def mJoin : DM := fun x vs M Q => ∃ a d ds ys, x = .str a ∧ vs = [d] ∧ itD d M = some ds ∧ strsD ds = some ys ∧ (ys.map (·.length)).sum + ys.length * a.length ≤ 16777216 ∧ Q (.str (Txt.join a ys)) M
theorem l_join : LiftM K (fun x xs H Q => ∃ a p, ∃ ys : List Str, x = .str a ∧ xs = [.ref p] ∧ (SqL K H p (ys.map V.str) ∨ SqT K H p (ys.map V.str)) ∧
    (ys.map (·.length)).sum + ys.length * a.length ≤ 16777216 ∧ Q (.str (Txt.join a ys)) H) mJoin := fun H F M x d xs ds Q' Q S r rl ⟨a, e, es, ys, e1, e2, h1, h2, hz, q⟩ k => by
  subst e1 e2
  cases r
  obtain ⟨y, rfl, ry⟩ := rep1 rl
  obtain ⟨p, zs, rfl, h3, r3⟩ := itD_at S ry h1
  have ez := strsD_at r3 h2
  subst ez
  exact ⟨a, p, ys, rfl, rfl, h3, hz, k _ _ ⟨F, M, _, Le.refl F, S, .v _, q⟩⟩

/-! ### d.get(k), d.get(k, x), d.pop(k, x) -/
def isDk (d : D) (M : Mm) : Prop := ∃ kvs, dkD d M = some kvs
theorem isDk_at {H F : Hp} {M : Mm} {x : V} {d : D} (S : Stt K H F M) (r : Rep K F x d) (h : isDk d M) : ∃ a, x = .ref a ∧ IsD H a := by
  obtain ⟨kvs, h⟩ := h
  obtain ⟨a, xs, e, h1, _⟩ := dkD_at S r h
  exact ⟨a, e, .inl ⟨xs, h1⟩⟩
def dGet1 (td ty : DE) : DE := fun δ M Q => td δ M fun x M1 => isDk x M1 ∧ ty δ M1 fun y M2 => ∃ kvs k, dkD x M2 = some kvs ∧ keyD y = some k ∧ Q ((valD kvs k).getD .non) M2
def dGet2 (td ty tx : DE) : DE := fun δ M Q => td δ M fun x M1 => isDk x M1 ∧ ty δ M1 fun y M2 => tx δ M2 fun z M3 => ∃ kvs k, dkD x M3 = some kvs ∧ keyD y = some k ∧ Q ((valD kvs k).getD z) M3
theorem q_get1 {o e : Expr} {td ty : DE} {apos cpos : Pos} (hu : X.A.units + 1 < cLine) (ho : PE X o (up X.K B td)) (he : PE X e (up X.K B ty)) (m : M1 X o "get" apos e cpos := by exact ⟨rfl, rfl, rfl, rfl⟩) : PE X (.Call (.Attribute o "get" apos) [e] [] cpos) (up X.K B (dGet1 td ty)) :=
  PE.wk (pe_dget1 hu ho he m) fun σ H Q ⟨F, M, δ, Q', lb, S, rs, h, k⟩ => ⟨F, M, δ, _, lb, S, rs, h, fun x H1 ⟨F1, M1, d1, l1, S1, r1, hd, h1⟩ => by
    obtain ⟨a, rfl, ha⟩ := isDk_at S1 r1 hd
    refine ⟨a, rfl, ha, F1, M1, δ, _, lb.trans l1, S1, rs.le l1, h1, fun y H2 ⟨F2, M2, d2, l2, S2, r2, kvs, kk, h3, h4, h5⟩ => ?_⟩
    obtain ⟨a', xs, e, h6, r6⟩ := dkD_at S2 (r1.le l2) h3
    cases e
    have ey := keyD_at r2 h4
    subst ey
    refine ⟨valV xs kk, .inl ⟨xs, kk, h6, rfl, rfl⟩, ?_⟩
    rcases valD_rep (k := kk) r6 with ⟨z1, z2⟩ | ⟨v, d, z1, z2, z3⟩
    · rw [z2] at h5; rw [z1]; exact k _ _ ⟨F2, M2, _, l1.trans l2, S2, .v _, h5⟩
    · rw [z2] at h5; rw [z1]; exact k _ _ ⟨F2, M2, _, l1.trans l2, S2, z3, h5⟩⟩
theorem q_get2 {o e f : Expr} {td ty tx : DE} {apos cpos : Pos} (hu : X.A.units + 1 < cLine) (ho : PE X o (up X.K B td)) (he : PE X e (up X.K B ty)) (hf : PE X f (up X.K B tx)) (m : M2 X o "get" apos e f cpos := by exact ⟨rfl, rfl, rfl, rfl⟩) : PE X (.Call (.Attribute o "get" apos) [e, f] [] cpos) (up X.K B (dGet2 td ty tx)) :=
  PE.wk (pe_dget2 hu ho he hf m) fun σ H Q ⟨F, M, δ, Q', lb, S, rs, h, k⟩ => ⟨F, M, δ, _, lb, S, rs, h, fun x H1 ⟨F1, M1, d1, l1, S1, r1, hd, h1⟩ => by
    obtain ⟨a, rfl, ha⟩ := isDk_at S1 r1 hd
    refine ⟨a, rfl, ha, F1, M1, δ, _, lb.trans l1, S1, rs.le l1, h1, fun y H2 ⟨F2, M2, d2, l2, S2, r2, h2⟩ => ?_⟩
    refine ⟨F2, M2, δ, _, lb.trans (l1.trans l2), S2, rs.le (l1.trans l2), h2, fun z H3 ⟨F3, M3, d3, l3, S3, r3, kvs, kk, h3, h4, h5⟩ => ?_⟩
    obtain ⟨a', xs, e, h6, r6⟩ := dkD_at S3 (r1.le (l2.trans l3)) h3
    cases e
    have ey := keyD_at r2 h4
    subst ey
    refine ⟨valV xs kk, .inl ⟨xs, kk, h6, rfl, rfl⟩, ?_⟩
    have l13 := (l1.trans l2).trans l3
    rcases valD_rep (k := kk) r6 with ⟨z1, z2⟩ | ⟨v, d, z1, z2, z3⟩
    · rw [z2] at h5; rw [z1]; exact k _ _ ⟨F3, M3, _, l13, S3, r3, h5⟩
    · rw [z2] at h5; rw [z1]; exact k _ _ ⟨F3, M3, _, l13, S3, z3, h5⟩⟩

/-! ### a display of a dict -/
def dPairs : List (DE × DE) → Env → Mm → (List (D × D) → Mm → Prop) → Prop
  | [], _, M, Q => Q [] M
  | (tk, tv) :: r, δ, M, Q => tk δ M fun x M1 => tv δ M1 fun y M2 => dPairs r δ M2 fun ps M3 => Q ((x, y) :: ps) M3
def keysD : List (D × D) → Option (List (Key × D))
  | [] => some []
  | (x, y) :: r => (keyD x).bind fun k => (keysD r).map ((k, y) :: ·)
def mergeD (kvs : List (Key × D)) : List (Key × D) := kvs.foldl (fun acc kv => putKD acc kv.1 kv.2) []
def upP (K : PySem.W.Frag) (B : Hp) (l : List (DE × DE)) : List (TE × TE) := l.map fun p => (up K B p.1, up K B p.2)
def RepP (K : PySem.W.Frag) (F : Hp) : List (V × V) → List (D × D) → Prop := Paired fun p q => Rep K F p.1 q.1 ∧ Rep K F p.2 q.2
theorem RepP.le {F G : Hp} {xs : List (V × V)} {ds : List (D × D)} (e : Le F G) (h : RepP K F xs ds) : RepP K G xs ds := Paired.mapP h fun _ _ q => ⟨q.1.le e, q.2.le e⟩
theorem up_pairs : ∀ (l : List (DE × DE)) {σ : Sg} {H F : Hp} {M : Mm} {δ : Env} {Q' : List (D × D) → Mm → Prop} {Q : List (V × V) → Hp → Prop}, Le B F → Stt K H F M → RepS K F σ δ → dPairs l δ M Q' →
    (∀ ps H', (∃ F' M' ds, Le F F' ∧ Stt K H' F' M' ∧ RepP K F' ps ds ∧ Q' ds M') → Q ps H') → tPairs (upP K B l) σ H Q
  | [], σ, H, F, M, δ, Q', Q, lb, S, rs, h, k => k _ _ ⟨F, M, [], Le.refl F, S, .nil, h⟩
  | (tk, tv) :: r, σ, H, F, M, δ, Q', Q, lb, S, rs, h, k => by
    refine ⟨F, M, δ, _, lb, S, rs, h, fun x H1 ⟨F1, M1, d1, l1, S1, r1, h1⟩ => ?_⟩
    refine ⟨F1, M1, δ, _, lb.trans l1, S1, rs.le l1, h1, fun y H2 ⟨F2, M2, d2, l2, S2, r2, h2⟩ => ?_⟩
    exact up_pairs r (lb.trans (l1.trans l2)) S2 (rs.le (l1.trans l2)) h2 fun ps H3 ⟨F3, M3, ds, l3, S3, r3, h3⟩ => k _ _ ⟨F3, M3, _, (l1.trans l2).trans l3, S3, .cons ⟨r1.le (l2.trans l3), r2.le l3⟩ r3, h3⟩
theorem keysD_at {F : Hp} : ∀ {ps : List (V × V)} {ds : List (D × D)} {kvs : List (Key × D)}, RepP K F ps ds → keysD ds = some kvs → ∃ xs : List (Key × V), ps = xs.map (fun kv => (kV kv.1, kv.2)) ∧ RepKV K F xs kvs := by
  intro ps ds kvs r
  unfold RepP at r
  induction r generalizing kvs with
  | nil => intro h; cases h; exact ⟨[], rfl, .nil⟩
  | @cons p q ps qs h _ ih =>
    intro hk
    obtain ⟨x, y⟩ := q
    cases ek : keyD x with
    | none => simp [keysD, ek] at hk
    | some k =>
      cases er : keysD qs with
      | none => simp [keysD, ek, er] at hk
      | some rs =>
        simp [keysD, ek, er] at hk
        subst hk
        obtain ⟨xs, e1, r1⟩ := ih er
        have e2 := keyD_at h.1 ek
        exact ⟨(k, p.2) :: xs, by rw [List.map_cons, ← e1, ← e2], .cons ⟨rfl, h.2⟩ r1⟩
theorem merge_rep {F : Hp} {xs : List (Key × V)} {kvs : List (Key × D)} (r : RepKV K F xs kvs) : RepKV K F (mergeK [] xs) (mergeD kvs) := by
  have : ∀ (a : List (Key × V)) (b : List (Key × D)), RepKV K F a b → RepKV K F (mergeK a xs) (kvs.foldl (fun acc kv => putKD acc kv.1 kv.2) b) := by
    unfold RepKV at r
    induction r with
    | nil => intro a b h; exact h
    | @cons p q ps qs h _ ih =>
      intro a b hab
      have h1 : p.1 = q.1 := h.1
      show RepKV K F (mergeK (putK a p.1 p.2) ps) (qs.foldl _ (putKD b q.1 q.2))
      rw [h1]
      exact ih _ _ (putKD_rep hab h.2)
  exact this [] [] .nil
def dDisp (l : List (DE × DE)) : DE := fun δ M Q => ∀ p, M p = none → dPairs l δ (Y.put M p (.dct [])) fun ps M2 => M2 p = some (.dct []) ∧ ∃ kvs, keysD ps = some kvs ∧ kvs.length ≤ 15 ∧ Q (.ref p) (Y.put M2 p (.dct (mergeD kvs)))
theorem q_disp {pos : Pos} {keys : List (Option Expr)} {values : List Expr} {l : List (DE × DE)} (h : PPs X pos keys values (upP X.K B l)) (hall : keys.all (·.isSome) = true := by rfl) (hl : keys.length = values.length := by rfl) (h0 : keys ≠ [] := by exact fun z => nomatch z)
    (h15 : keys.length ≤ 15 := by decide) : PE X (.Dict keys values pos) (up X.K B (dDisp l)) :=
  PE.wk (pe_disp h hall hl h0 h15) fun σ H Q ⟨F, M, δ, Q', lb, S, rs, h, k⟩ p hp => by
    have S1 := S.newM (o := .dK []) (m := .dct []) hp (.dct .nil)
    refine up_pairs l lb S1 rs (h p (S.free hp).2) fun ps H2 ⟨F2, M2, ds, l2, S2, r2, em, kvs, ek, hz, q⟩ => ?_
    obtain ⟨xs, hx, rx⟩ := muD S2 em
    cases rx
    obtain ⟨ys, ey, ry⟩ := keysD_at r2 ek
    exact ⟨hx, ys, ey, by rw [ry.length]; exact hz, k _ _ ⟨F2, _, _, l2, S2.change em (.dct (merge_rep ry)), .v _, q⟩⟩
theorem qps_nil {pos : Pos} : PPs X pos [] [] (upP X.K B []) := pps_nil
theorem qps_cons {pos : Pos} {k v : Expr} {ks : List (Option Expr)} {vs : List Expr} {tk tv : DE} {l : List (DE × DE)} (hk : PE X k (up X.K B tk)) (hv : PE X v (up X.K B tv)) (hr : PPs X pos ks vs (upP X.K B l)) : PPs X pos (some k :: ks) (v :: vs) (upP X.K B ((tk, tv) :: l)) := pps_cons hk hv hr

/-! ### a dict walked -/
theorem lk_at {H F : Hp} {M : Mm} {a : Addr} {o : Obj} {xs : List (Key × V)} {kvs : List (Key × D)} (S : Stt K H F M) (h : M a = some (.lk o xs kvs)) : H a = some (.frz o (.dK xs)) ∧ RepKV K F xs kvs := by
  obtain ⟨_, u, h2, h3⟩ := S.mu _ _ h
  cases h3 with
  | lk r => exact ⟨h2, r⟩
def lkEnd (a : Addr) (od : Obj) (xs : List (Key × V)) (kvs : List (Key × D)) (R : Mm → Prop) : Mm → Prop := fun M' => M' a = some (.lk od xs kvs) ∧ R (Y.put M' a (.dct kvs))
def dLock (t : DS) : DS := fun E δ M => ∃ a kvs, M a = some (.dct kvs) ∧ ∀ od xs, t ⟨fun δ' => lkEnd a od xs kvs (E.nx δ'), fun v => lkEnd a od xs kvs (E.rt v), fun δ' => lkEnd a od xs kvs (E.bk δ'), fun δ' => lkEnd a od xs kvs (E.ct δ')⟩ δ (Y.put M a (.lk od xs kvs))
def dLockE (t : DE) : DE := fun δ M Q => ∃ a kvs, M a = some (.dct kvs) ∧ ∀ od xs, t δ (Y.put M a (.lk od xs kvs)) fun v => lkEnd a od xs kvs (Q v)
theorem qs_lock {st : Stmt} {t : DS} (h : PS X st (upS X.K B t)) : PS X st (upS X.K B (dLock t)) := PS.wk (ps_lock h) fun E σ H ⟨F, M, δ, E', lb, S, rs, ⟨a, kvs, em, h⟩, k1, k2, k3, k4⟩ => by
  obtain ⟨xs, hx, rx⟩ := muD S em
  refine ⟨a, .dK xs, hx, trivial, fun od => ?_⟩
  refine ⟨F, _, δ, _, lb, S.change em (.lk rx), rs, h od xs, fun σ' H' ⟨F1, M1, δ1, l1, S1, rs1, e1, q⟩ => ?_, fun v H' ⟨F1, M1, d1, l1, S1, r1, e1, q⟩ => ?_, fun σ' H' ⟨F1, M1, δ1, l1, S1, rs1, e1, q⟩ => ?_, fun σ' H' ⟨F1, M1, δ1, l1, S1, rs1, e1, q⟩ => ?_⟩
  · exact ⟨(lk_at S1 e1).1, k1 _ _ ⟨F1, _, δ1, l1, S1.change e1 (.dct (RepKV.le l1 rx)), rs1, q⟩⟩
  · exact ⟨(lk_at S1 e1).1, k2 _ _ ⟨F1, _, d1, l1, S1.change e1 (.dct (RepKV.le l1 rx)), r1, q⟩⟩
  · exact ⟨(lk_at S1 e1).1, k3 _ _ ⟨F1, _, δ1, l1, S1.change e1 (.dct (RepKV.le l1 rx)), rs1, q⟩⟩
  · exact ⟨(lk_at S1 e1).1, k4 _ _ ⟨F1, _, δ1, l1, S1.change e1 (.dct (RepKV.le l1 rx)), rs1, q⟩⟩
theorem q_lock {e : Expr} {t : DE} (h : PE X e (up X.K B t)) : PE X e (up X.K B (dLockE t)) := PE.wk (pe_lock h) fun σ H Q ⟨F, M, δ, Q', lb, S, rs, ⟨a, kvs, em, h⟩, k⟩ => by
  obtain ⟨xs, hx, rx⟩ := muD S em
  refine ⟨a, .dK xs, hx, trivial, fun od => ?_⟩
  exact ⟨F, _, δ, _, lb, S.change em (.lk rx), rs, h od xs, fun v H' ⟨F1, M1, d1, l1, S1, r1, e1, q⟩ => ⟨(lk_at S1 e1).1, k _ _ ⟨F1, _, d1, l1, S1.change e1 (.dct (RepKV.le l1 rx)), r1, q⟩⟩⟩
def kD : Key → D
  | .inl i => .int i
  | .inr x => .str x
/-- the keys of a dict that is walked -/
def diKeys (t : DE) : DI := fun δ M R => t δ M fun d M1 => ∃ a o xs kvs, d = .ref a ∧ M1 a = some (.lk o xs kvs) ∧ R (kvs.map fun kv => kD kv.1) (fun M => M a = some (.lk o xs kvs)) M1
theorem qi_keys {tg e : Expr} {t : DE} (h : PE X e (up X.K B t)) : PI X tg e (upI X.K B (diKeys t)) :=
  PI.wk (pi_keys h) fun σ H R ⟨F, M, δ, R', lb, S, rs, h, k⟩ => ⟨F, M, δ, _, lb, S, rs, h, fun v H1 ⟨F1, M1, d, l1, S1, r1, a, o, xs, kvs, e, em, h1⟩ => by
    subst e
    cases r1
    obtain ⟨hx, rx⟩ := lk_at S1 em
    have hl := rx.length
    refine ⟨a, o, rfl, .inl ⟨xs, hx, k _ _ ⟨F1, M1, _, _, l1, S1, ⟨fun i H F M l S g hi => ?_, fun H F M l S g => ?_, fun i H F M x H' l S g hi y => ?_⟩, h1⟩⟩⟩
    · exact walk_keys.goes i H (by rw [hl]; simpa using hi) (lk_at S g).1
    · rw [List.length_map, ← hl]; exact walk_keys.stops H (lk_at S g).1
    · obtain ⟨e1, kk, v, e2, e3⟩ := walk_keys.yields i H x H' (by rw [hl]; simpa using hi) (lk_at S g).1 y
      subst e1 e3
      have hi' : i < kvs.length := by simpa using hi
      refine ⟨F, kD kk, Le.refl F, S, ?_, by cases kk <;> exact .v _⟩
      have hk : ∀ {l1 : List (Key × V)} {l2 : List (Key × D)} {i : Nat}, RepKV X.K F1 l1 l2 → l1[i]? = some (kk, v) → (l2.map fun kv => kD kv.1)[i]? = some (kD kk) := by
        intro l1 l2 i r
        unfold RepKV at r
        induction r generalizing i with
        | nil => intro z; simp at z
        | @cons p q ps qs h _ ih =>
          intro z
          cases i with
          | zero => simp at z; subst z; simp [← h.1]
          | succ i => simpa using ih (by simpa using z)
      exact hk rx e2⟩

/-! ### fields, objects -/
def putFD (f : Str) (v : D) : List (Str × D) → List (Str × D)
  | [] => [(f, v)]
  | (g, x) :: r => if g = f then (g, v) :: r else (g, x) :: putFD f v r
theorem lookup_rep {F : Hp} {xs : List (Str × V)} {ds : List (Str × D)} {f : Str} {d : D} (r : RepKV K F xs ds) (h : ds.lookup f = some d) : ∃ v, xs.lookup f = some v ∧ Rep K F v d := by
  unfold RepKV at r
  induction r with
  | nil => simp at h
  | @cons p q ps qs hh _ ih =>
    obtain ⟨p1, p2⟩ := p
    obtain ⟨q1, q2⟩ := q
    obtain ⟨h1, h2⟩ := hh
    have h1 : p1 = q1 := h1
    subst h1
    by_cases e : f = p1
    · subst e
      simp only [List.lookup_cons, beq_self_eq_true, Option.some.injEq] at h ⊢
      subst h
      exact ⟨p2, rfl, h2⟩
    · have eb : (f == p1) = false := by simpa using e
      simp only [List.lookup_cons, eb] at h ⊢
      exact ih h
theorem lookup_none {F : Hp} {xs : List (Str × V)} {ds : List (Str × D)} {f : Str} (r : RepKV K F xs ds) (h : ds.lookup f = none) : xs.lookup f = none := by
  unfold RepKV at r
  induction r with
  | nil => rfl
  | @cons p q ps qs hh _ ih =>
    obtain ⟨p1, p2⟩ := p
    obtain ⟨q1, q2⟩ := q
    obtain ⟨h1, h2⟩ := hh
    have h1 : p1 = q1 := h1
    subst h1
    by_cases e : f = p1
    · subst e
      simp at h
    · have eb : (f == p1) = false := by simpa using e
      simp only [List.lookup_cons, eb] at h ⊢
      exact ih h
theorem putFD_rep {F : Hp} {xs : List (Str × V)} {ds : List (Str × D)} {f : Str} {v : V} {d : D} (r : RepKV K F xs ds) (rv : Rep K F v d) : RepKV K F (putF f v xs) (putFD f d ds) := by
  unfold RepKV at r
  induction r with
  | nil => exact .cons ⟨rfl, rv⟩ .nil
  | @cons p q ps qs hh t ih =>
    obtain ⟨p1, p2⟩ := p
    obtain ⟨q1, q2⟩ := q
    obtain ⟨h1, h2⟩ := hh
    have h1 : p1 = q1 := h1
    subst h1
    show RepKV K F (if p1 = f then (p1, v) :: ps else (p1, p2) :: putF f v ps) (if p1 = f then (p1, d) :: qs else (p1, q2) :: putFD f d qs)
    by_cases e : p1 = f
    · rw [if_pos e, if_pos e]; exact .cons ⟨rfl, rv⟩ t
    · rw [if_neg e, if_neg e]; exact .cons ⟨rfl, h2⟩ ih
def dFld (K : PySem.W.Frag) (f : Str) (ta : DE) : DE := fun δ M Q => ta δ M fun x M1 => ∃ a C dx fs d, x = .ref a ∧ M1 a = some (.ins C dx fs) ∧ Cls K C ∧ NoAttr K C f ∧ fs.lookup f = some d ∧ Q d M1
theorem q_fld {e : Expr} {f : Str} {ta : DE} {pos : Pos} (he : PE X e (up X.K B ta)) (hb : attributeBase e f X.env (eval e X.env) = eval e X.env := by rfl) : PE X (.Attribute e f pos) (up X.K B (dFld X.K f ta)) :=
  PE.wk (pe_fld he hb) fun σ H Q ⟨F, M, δ, Q', lb, S, rs, h, k⟩ => ⟨F, M, δ, _, lb, S, rs, h, fun x H1 ⟨F1, M1, d1, l1, S1, r1, a, C, dx, fs, d, e, em, c, n, hl, h1⟩ => by
    subst e
    cases r1
    obtain ⟨xs, hx, rx⟩ := muI S1 em
    obtain ⟨v, h2, h3⟩ := lookup_rep rx hl
    exact ⟨a, C, dx, xs, v, rfl, hx, c, n, h2, k _ _ ⟨F1, M1, d, l1, S1, h3, h1⟩⟩⟩
def dsFld (K : PySem.W.Frag) (f : Str) (ta tv : DE) : DS := fun E δ M => tv δ M fun y M1 => ta δ M1 fun x M2 => ∃ a C dx fs, x = .ref a ∧ M2 a = some (.ins C dx fs) ∧ Cls K C ∧ NoAttr K C f ∧ fs.length < 1000 ∧ E.nx δ (Y.put M2 a (.ins C dx (putFD f y fs)))
theorem qs_fld {o value : Expr} {f : Str} {ta tv : DE} {pos pos' : Pos} (ha : PE X o (up X.K B ta)) (hv : PE X value (up X.K B tv)) (hs : swapsWith value (some (.Attribute o f pos')) pos.line X.env = pure false := by rfl) : PS X (.Assign [.Attribute o f pos'] value pos) (upS X.K B (dsFld X.K f ta tv)) :=
  PS.wk (ps_fld ha hv hs) fun E σ H ⟨F, M, δ, E', lb, S, rs, h, k1, k2, k3, k4⟩ => ⟨F, M, δ, _, lb, S, rs, h, fun y H1 ⟨F1, M1, d1, l1, S1, r1, h1⟩ =>
    ⟨F1, M1, δ, _, lb.trans l1, S1, rs.le l1, h1, fun x H2 ⟨F2, M2, d2, l2, S2, r2, a, C, dx, fs, e, em, c, n, hz, h2⟩ => by
      subst e
      cases r2
      obtain ⟨xs, hx, rx⟩ := muI S2 em
      exact ⟨a, C, dx, xs, rfl, hx, c, n, by rw [rx.length]; exact hz, k1 _ _ ⟨F2, _, δ, l1.trans l2, S2.change em (.ins (putFD_rep rx (r1.le l2))), rs.le (l1.trans l2), h2⟩⟩⟩⟩
def dsFldAug (K : PySem.W.Frag) (f : Str) (ta tv : DE) (r : D2) : DS := fun E δ M => ta δ M fun x M1 => ∃ a C dx fs d, x = .ref a ∧ M1 a = some (.ins C dx fs) ∧ Cls K C ∧ NoAttr K C f ∧ fs.lookup f = some d ∧
  tv δ M1 fun y M2 => r d y M2 fun z M3 => ∃ dx' fs', M3 a = some (.ins C dx' fs') ∧ fs'.length < 1000 ∧ E.nx δ (Y.put M3 a (.ins C dx' (putFD f z fs')))
theorem qs_fldaug {op : Operator} {o value : Expr} {f : Str} {ta tv : DE} {pos tpos : Pos} {rd : V → V → Hp → VK → Prop} {r' : D2} (ha : PE X o (up X.K B ta)) (hv : PE X value (up X.K B tv)) (hop : InOp X op rd) (L : Lift2 X.K rd r') : PS X (.AugAssign (.Attribute o f tpos) op value pos) (upS X.K B (dsFldAug X.K f ta tv r')) :=
  PS.wk (ps_fldaug ha hv hop) fun E σ H ⟨F, M, δ, E', lb, S, rs, h, k1, k2, k3, k4⟩ => ⟨F, M, δ, _, lb, S, rs, h, fun x H1 ⟨F1, M1, d1, l1, S1, r1, a, C, dx, fs, d, e, em, c, n, hl, h1⟩ => by
    subst e
    cases r1
    obtain ⟨xs, hx, rx⟩ := muI S1 em
    obtain ⟨v, h2, h3⟩ := lookup_rep rx hl
    refine ⟨a, C, dx, xs, v, rfl, hx, c, n, h2, F1, M1, δ, _, lb.trans l1, S1, rs.le l1, h1, fun y H2 ⟨F2, M2, d2, l2, S2, r2, h4⟩ => ?_⟩
    refine L H2 F2 M2 v y d d2 _ _ S2 (h3.le l2) r2 h4 fun z H3 ⟨F3, M3, d3, l3, S3, r3, dx', fs', em', hz, h5⟩ => ?_
    obtain ⟨xs', hx', rx'⟩ := muI S3 em'
    have l13 := (l1.trans l2).trans l3
    exact ⟨dx', xs', hx', by rw [rx'.length]; exact hz, k1 _ _ ⟨F3, _, δ, l13, S3.change em' (.ins (putFD_rep rx' r3)), rs.le l13, h5⟩⟩⟩
theorem l_fadd : Lift2 K rAdd (dI0 fun i j => .int (i + j)) := fun H F M x y d e Q' Q S rx ry ⟨i, j, e1, e2, q⟩ k => by
  subst e1 e2; cases rx; cases ry
  exact ⟨i, j, rfl, rfl, k _ _ ⟨F, M, _, Le.refl F, S, .v _, q⟩⟩
theorem l_fsub : Lift2 K rSub (dI0 fun i j => .int (i - j)) := fun H F M x y d e Q' Q S rx ry ⟨i, j, e1, e2, q⟩ k => by
  subst e1 e2; cases rx; cases ry
  exact ⟨i, j, rfl, rfl, k _ _ ⟨F, M, _, Le.refl F, S, .v _, q⟩⟩
section
variable {CX : CXT} {k : Nat} {f C : Addr} {fd : FuncData} {ps : List Str} {s : DSp} {x m : Str} {p pos apos : Pos} {o e : Expr} {es : List Expr} {t : DA} {ta : DE}
def dMeth (C : Addr) (m : Str) (s : DSp) (ta : DE) (t : DA) : DE := fun δ M Q => ta δ M fun x M1 => ∃ a dx fs, x = .ref a ∧ M1 a = some (.ins C dx fs) ∧ fs.lookup m = none ∧ t δ M1 fun ds M2 => s (x :: ds) M2 Q noX
theorem q_meth {pl : Sem Bool} (he : PE X o (up X.K B ta)) (c : Cls X.K C) (hm : Meth X.K C m f) (F : FnOk X.prog X.w X.K X.mg X.base CX k f fd ps (spOf X.K s)) (hr : Room k X.A) (hb : Binds X.K fd ps []) (hx : Passes CX X E0) (ha : PA X (e :: es) (upA X.K B t))
    (hst : starEach (e :: es) X.env = (false, eval e X.env) :: starEach es X.env := by rfl) (hpl : (backTo pos (starEach es X.env)).any (·.1) = false := by rfl)
    (ht : eval (.Call (.Attribute o m apos) (e :: es) [] pos) X.env = (do
      let ov ← eval o X.env
      standAt apos.atName
      let (f, first) ← holding [ov] (getMethod ov m pl)
      callWith pos f first (backTo pos (starEach (e :: es) X.env)) (backToKw pos (keywordEach [] X.env))) := by rfl) :
    PE X (.Call (.Attribute o m apos) (e :: es) [] pos) (up X.K B (dMeth C m s ta t)) :=
  PE.wk (pe_meth he c hm F hr hb .nil hx ha hst hpl ht) fun σ H Q ⟨F, M, δ, Q', lb, S, rs, h, k⟩ => ⟨F, M, δ, _, lb, S, rs, h, fun x H1 ⟨F1, M1, d1, l1, S1, r1, a, dx, fs, e, em, hl, h1⟩ => by
    subst e
    cases r1
    obtain ⟨xs, hx, rx⟩ := muI S1 em
    refine ⟨a, dx, xs, rfl, hx, lookup_none rx hl, F1, M1, δ, _, lb.trans l1, S1, rs.le l1, h1, fun vs H2 ⟨F2, M2, ds, l2, S2, r2, h2⟩ => ?_⟩
    show spOf X.K s (_ :: (vs ++ [])) H2 Q E0
    rw [List.append_nil]
    exact ⟨F2, M2, _, _, _, S2, .cons (.v _) r2, h2, fun v H' q => k v H' (q.le (l1.trans l2)), noX_ok⟩⟩
theorem q_meth0 {pl : Sem Bool} (he : PE X o (up X.K B ta)) (c : Cls X.K C) (hm : Meth X.K C m f) (F : FnOk X.prog X.w X.K X.mg X.base CX k f fd ps (spOf X.K s)) (hr : Room k X.A) (hb : Binds X.K fd ps []) (hx : Passes CX X E0)
    (ht : eval (.Call (.Attribute o m apos) [] [] pos) X.env = (do
      let ov ← eval o X.env
      standAt apos.atName
      let (f, first) ← holding [ov] (getMethod ov m pl)
      callWith pos f first (backTo pos (starEach [] X.env)) (backToKw pos (keywordEach [] X.env))) := by rfl) :
    PE X (.Call (.Attribute o m apos) [] [] pos) (up X.K B (dMeth C m s ta dNil)) :=
  PE.wk (pe_meth0 he c hm F hr hb .nil hx ht) fun σ H Q ⟨F, M, δ, Q', lb, S, rs, h, k⟩ => ⟨F, M, δ, _, lb, S, rs, h, fun x H1 ⟨F1, M1, d1, l1, S1, r1, a, dx, fs, e, em, hl, h1⟩ => by
    subst e
    cases r1
    obtain ⟨xs, hx, rx⟩ := muI S1 em
    exact ⟨a, dx, xs, rfl, hx, lookup_none rx hl, F1, M1, _, _, _, S1, .cons (.v _) .nil, h1, fun v H' q => k v H' (q.le l1), noX_ok⟩⟩
theorem Stt.bury {H F : Hp} {M : Mm} (S : Stt K H F M) {p : Addr} {o : HO} (h : H p = none) : Stt K (upd H p o) F M := by
  obtain ⟨f0, m0⟩ := S.free h
  refine ⟨fun a u e => ?_, fun a n e => ?_⟩
  · rw [upd_ne (ne_of_none e f0)]; exact S.fz _ _ e
  · obtain ⟨h1, u, h2, h3⟩ := S.mu _ _ e
    have q : a ≠ p := fun z => by rw [z, m0] at e; cases e
    exact ⟨h1, u, by rw [upd_ne q]; exact h2, h3⟩
def dMake (C : Addr) (s : DSp) (t : DA) : DE := fun δ M Q => t δ M fun ds M1 => ∀ x dx, M1 x = none → s (.ref x :: ds) (Y.put M1 x (.ins C dx [])) (fun d M2 => d = .non ∧ Q (.ref x) M2) noX
theorem q_make (Mk_ : Mk X.K C f) (F : FnOk X.prog X.w X.K X.mg X.base CX k f fd ps (spOf X.K s)) (hr : Room (k + 1) X.A) (hg : Gl X x) (hm : X.mg x = some (.ref C)) (hb : Binds X.K fd ps []) (hx : Passes CX X E0) (ha : PA X (e :: es) (upA X.K B t))
    (hdb : (x == ("__debug__" : Str)) = false := by decide) (he : starEach (e :: es) X.env = (false, eval e X.env) :: starEach es X.env := by rfl) (hpl : (backTo pos (starEach es X.env)).any (·.1) = false := by rfl) : PE X (.Call (.Name x p) (e :: es) [] pos) (up X.K B (dMake C s t)) :=
  PE.wk (pe_make Mk_ F hr hg hm hb .nil hx ha hdb he hpl) fun σ H Q ⟨F, M, δ, Q', lb, S, rs, h, k⟩ => ⟨F, M, δ, _, lb, S, rs, h, fun vs H1 ⟨F1, M1, ds, l1, S1, r1, h1⟩ y dx hy hd nyd => by
    show spOf X.K s (_ :: (vs ++ [])) _ _ E0
    rw [List.append_nil]
    have hy' : upd H1 dx (.own y) y = none := by rw [upd_ne (Ne.symm nyd)]; exact hy
    have S2 := (S1.bury (o := .own y) hd).newM (o := .ins C dx []) (m := .ins C dx []) hy' (.ins .nil)
    exact ⟨F1, _, _, _, _, S2, .cons (.v _) r1, h1 y dx (S1.free hy).2, fun v H' ⟨F2, M2, d, l2, S3, r2, e, q⟩ => by
      subst e
      cases r2
      exact ⟨rfl, k _ _ ⟨F2, M2, _, l1.trans l2, S3, .v _, q⟩⟩, noX_ok⟩⟩
theorem q_make0 (Mk_ : Mk X.K C f) (F : FnOk X.prog X.w X.K X.mg X.base CX k f fd ps (spOf X.K s)) (hr : Room (k + 1) X.A) (hg : Gl X x) (hm : X.mg x = some (.ref C)) (hb : Binds X.K fd ps []) (hx : Passes CX X E0)
    (hdb : (x == ("__debug__" : Str)) = false := by decide) : PE X (.Call (.Name x p) [] [] pos) (up X.K B (dMake C s dNil)) :=
  PE.wk (pe_make0 Mk_ F hr hg hm hb .nil hx hdb) fun σ H Q ⟨F1, M1, δ, Q', lb, S1, rs, h1, k⟩ y dx hy hd nyd => by
    have hy' : upd H dx (.own y) y = none := by rw [upd_ne (Ne.symm nyd)]; exact hy
    have S2 := (S1.bury (o := .own y) hd).newM (o := .ins C dx []) (m := .ins C dx []) hy' (.ins .nil)
    exact ⟨F1, _, _, _, _, S2, .cons (.v _) .nil, h1 y dx (S1.free hy).2, fun v H' ⟨F2, M2, d, l2, S3, r2, e, q⟩ => by
      subst e
      cases r2
      exact ⟨rfl, k _ _ ⟨F2, M2, _, l2, S3, .v _, q⟩⟩, noX_ok⟩
end
end

/-! ### a def's body -/
def startD (n : Nat) (ds : List D) : Env := ds.map some ++ List.replicate (n - ds.length) none
theorem startD_rep {K : PySem.W.Frag} {F : Hp} {N : List Str} {xs : List V} {ds : List D} (r : RepL K F xs ds) : RepS K F (L2.start N xs) (startD N.length ds) := by
  unfold L2.start startD
  rw [r.length]
  exact (RepS.ofL r).append (RepS.rep _)
section
variable {P : Program} {w : World} {K : PySem.W.Frag} {mg : Str → Option Value} {base : Heap}
/-- less is told of what may change -/
def Sub (M' M : Mm) : Prop := ∀ a m, M' a = some m → M a = some m
theorem Sub.refl (M : Mm) : Sub M M := fun _ _ h => h
/-- what a def has made for itself is forgotten where it hands back -/
def less (Q : QD) : QD := fun d M => ∃ M', Sub M' M ∧ Q d M'
theorem LQ_less {K : PySem.W.Frag} {F : Hp} {Q : QD} {v : V} {H : Hp} (h : LQ K F (less Q) v H) : LQ K F Q v H :=
  let ⟨F', M', d, l, S, r, M2, hs, q⟩ := h; ⟨F', M2, d, l, S.less hs, r, q⟩
abbrev B0 : Hp := fun _ => none
theorem B0_le (F : Hp) : Le B0 F := fun _ _ h => by cases h
/-- a def from which nothing is raised -/
theorem okD {x qual : Str} {st : Stmt} {f : Addr} {fd : FuncData} {N ps : List Str} {k : Nat} {s : DSp} (F : Fun K x qual st f fd) (S : FnScope N ps (defScope st)) (len : ∀ ds M Q E, s ds M Q E → ds.length = ps.length)
    (hbody : ∀ (cdv : Value) (A : Around) (outer : List PySem.Env) (s0 : Shared) (H : Hp) (E : XK), Room k (A.deeper (envOfC qual (defScope st) s0.heap.objs.size f cdv)) →
      ∃ t : DS, PSs (cxOf CX0 P w K mg base N qual (defScope st) f cdv A outer s0 H E).nox (defBody st) (upS K B0 t) ∧ ∀ ds M Q E', s ds M Q E' → t { nx := fun _ M' => less Q .non M', rt := less Q } (startD N.length ds) M) : FnOk P w K mg base CX0 (k + 1) f fd ps (spOf K s) := by
  refine F.ok S (fun vs H Q E h => ?_) (fun cdv A outer s0 H vs Q E hr h => ?_)
  · obtain ⟨F, M, ds, Q', E', S, r, h, _⟩ := h
    rw [r.length]
    exact len _ _ _ _ h
  · obtain ⟨t, ht, hq⟩ := hbody cdv A outer s0 H E hr
    obtain ⟨F, M, ds, Q', E', S, r, h, k1, k2⟩ := h
    exact ⟨_, ht, F, M, _, _, B0_le F, S, startD_rep r, hq ds M Q' E' h, fun σ' H' ⟨F1, M1, δ1, l1, S1, r1, q⟩ => k1 _ _ (LQ_less ⟨F1, M1, _, l1, S1, .v _, q⟩), fun v H' q => k1 _ _ (LQ_less q), fun _ _ ⟨_, _, _, _, _, _, q⟩ => q.elim, fun _ _ ⟨_, _, _, _, _, _, q⟩ => q.elim⟩
end
end Y


set_option Elab.async false
set_option linter.all false
set_option maxRecDepth 100000
set_option maxHeartbeats 1000000
/-! Y8: calls by name, what a for walks, constants of the module. -/
namespace Y
open PySem PySem.Spec PyProof.Rows L2

/-! ### a def by its name -/
structure GD (K : PySem.W.Frag) (mg : Str → Option Value) (x : Str) (st : Stmt) (ps : List Str) (f : Addr) (fd : FuncData) : Prop where
  fn : Fun K x x st f fd
  mg : mg x = some (.ref f)
  kp : PySem.W.keepIn K (.ref f) = true
  bd : L2.Binds K fd ps []
structure Cal (P : Program) (w : World) (K : PySem.W.Frag) (mg : Str → Option Value) (base : Heap) (CX : CXT) (k : Nat) (x : Str) (ps : List Str) (s : DSp) : Prop where
  ex : ∃ f fd, mg x = some (.ref f) ∧ PySem.W.keepIn K (.ref f) = true ∧ L2.Binds K fd ps [] ∧ FnOk P w K mg base CX k f fd ps (spOf K s)
section
variable {P : Program} {w : World} {K : PySem.W.Frag} {mg : Str → Option Value} {base : Heap}
theorem GD.cal {CX : CXT} {x : Str} {st : Stmt} {ps : List Str} {f : Addr} {fd : FuncData} {k : Nat} {s : DSp} (G : GD K mg x st ps f fd) (h : FnOk P w K mg base CX k f fd ps (spOf K s)) : Cal P w K mg base CX k x ps s := ⟨f, fd, G.mg, G.kp, G.bd, h⟩
theorem Cal.mono {CX : CXT} {x : Str} {ps : List Str} {j k : Nat} {s : DSp} (c : Cal P w K mg base CX j x ps s) (h : j ≤ k) : Cal P w K mg base CX k x ps s := let ⟨f, fd, a, b, d, F⟩ := c; ⟨f, fd, a, b, d, F.mono h⟩
end
/-- a weaker promise -/
theorem spOf_imp {K : PySem.W.Frag} {s s' : DSp} (h : ∀ ds M Q E, s' ds M Q E → s ds M Q E) : ∀ vs H Q E, spOf K s' vs H Q E → spOf K s vs H Q E := fun vs H Q E ⟨F, M, ds, Q', E', S, r, q, k1, k2⟩ => ⟨F, M, ds, Q', E', S, r, h _ _ _ _ q, k1, k2⟩
theorem Cal.imp {P : Program} {w : World} {K : PySem.W.Frag} {mg : Str → Option Value} {base : Heap} {CX : CXT} {x : Str} {ps : List Str} {k : Nat} {s s' : DSp} (c : Cal P w K mg base CX k x ps s) (h : ∀ ds M Q E, s' ds M Q E → s ds M Q E) : Cal P w K mg base CX k x ps s' :=
  let ⟨f, fd, a, b, d, F⟩ := c; ⟨f, fd, a, b, d, F.imp (spOf_imp h)⟩
/-- a class, a method of it -/
structure CD (K : PySem.W.Frag) (mg : Str → Option Value) (x : Str) (C : Addr) : Prop where
  cl : Cls K C
  mg : mg x = some (.ref C)
structure Mcal (P : Program) (w : World) (K : PySem.W.Frag) (mg : Str → Option Value) (base : Heap) (CX : CXT) (k : Nat) (C : Addr) (m : Str) (ps : List Str) (s : DSp) : Prop where
  ex : ∃ f fd, Meth K C m f ∧ L2.Binds K fd ps [] ∧ FnOk P w K mg base CX k f fd ps (spOf K s)
structure Kcal (P : Program) (w : World) (K : PySem.W.Frag) (mg : Str → Option Value) (base : Heap) (CX : CXT) (k : Nat) (x : Str) (C : Addr) (ps : List Str) (s : DSp) : Prop where
  ex : ∃ f fd, Mk K C f ∧ mg x = some (.ref C) ∧ L2.Binds K fd ps [] ∧ FnOk P w K mg base CX k f fd ps (spOf K s)
theorem Mcal.mono {P : Program} {w : World} {K : PySem.W.Frag} {mg : Str → Option Value} {base : Heap} {CX : CXT} {C : Addr} {m : Str} {ps : List Str} {j k : Nat} {s : DSp} (c : Mcal P w K mg base CX j C m ps s) (h : j ≤ k) : Mcal P w K mg base CX k C m ps s := let ⟨f, fd, a, b, F⟩ := c; ⟨f, fd, a, b, F.mono h⟩

section
variable {X : Cx} {B : Hp} {x m : Str} {p pos apos : Pos} {e o : Expr} {es : List Expr} {t : DA} {ta : DE} {j k : Nat} {ps : List Str} {s : DSp}
theorem q_c (c : Cal X.prog X.w X.K X.mg X.base CX0 j x ps s) (hr : Room k X.A) (hk : j ≤ k) (hg : Gl X x) (ha : PA X (e :: es) (upA X.K B t))
    (hd : (x == ("__debug__" : Str)) = false := by decide) (he : starEach (e :: es) X.env = (false, eval e X.env) :: starEach es X.env := by rfl) (hpl : (backTo pos (starEach es X.env)).any (·.1) = false := by rfl) : PE X (.Call (.Name x p) (e :: es) [] pos) (up X.K B (dCall s t)) :=
  let ⟨_, _, a, b, d, F⟩ := c.ex
  q_call F (hr.mono hk) hg a b d pass0 ha hd he hpl
theorem q_mc {C : Addr} {pl : Sem Bool} (he : PE X o (up X.K B ta)) (c : Mcal X.prog X.w X.K X.mg X.base CX0 j C m ps s) (cl : Cls X.K C) (hr : Room k X.A) (hk : j ≤ k) (ha : PA X (e :: es) (upA X.K B t))
    (hst : starEach (e :: es) X.env = (false, eval e X.env) :: starEach es X.env := by rfl) (hpl : (backTo pos (starEach es X.env)).any (·.1) = false := by rfl)
    (ht : eval (.Call (.Attribute o m apos) (e :: es) [] pos) X.env = (do
      let ov ← eval o X.env
      standAt apos.atName
      let (f, first) ← holding [ov] (getMethod ov m pl)
      callWith pos f first (backTo pos (starEach (e :: es) X.env)) (backToKw pos (keywordEach [] X.env))) := by rfl) :
    PE X (.Call (.Attribute o m apos) (e :: es) [] pos) (up X.K B (dMeth C m s ta t)) :=
  let ⟨_, _, a, b, F⟩ := c.ex
  q_meth (pl := pl) he cl a F (hr.mono hk) b pass0 ha hst hpl ht
theorem q_mc0 {C : Addr} {pl : Sem Bool} (he : PE X o (up X.K B ta)) (c : Mcal X.prog X.w X.K X.mg X.base CX0 j C m ps s) (cl : Cls X.K C) (hr : Room k X.A) (hk : j ≤ k)
    (ht : eval (.Call (.Attribute o m apos) [] [] pos) X.env = (do
      let ov ← eval o X.env
      standAt apos.atName
      let (f, first) ← holding [ov] (getMethod ov m pl)
      callWith pos f first (backTo pos (starEach [] X.env)) (backToKw pos (keywordEach [] X.env))) := by rfl) :
    PE X (.Call (.Attribute o m apos) [] [] pos) (up X.K B (dMeth C m s ta dNil)) :=
  let ⟨_, _, a, b, F⟩ := c.ex
  q_meth0 (pl := pl) he cl a F (hr.mono hk) b pass0 ht
theorem q_kc {C : Addr} (c : Kcal X.prog X.w X.K X.mg X.base CX0 j x C ps s) (hr : Room k X.A) (hk : j + 1 ≤ k) (hg : Gl X x) (ha : PA X (e :: es) (upA X.K B t))
    (hdb : (x == ("__debug__" : Str)) = false := by decide) (he : starEach (e :: es) X.env = (false, eval e X.env) :: starEach es X.env := by rfl) (hpl : (backTo pos (starEach es X.env)).any (·.1) = false := by rfl) : PE X (.Call (.Name x p) (e :: es) [] pos) (up X.K B (dMake C s t)) :=
  let ⟨_, _, a, b, d, F⟩ := c.ex
  q_make a F (hr.mono hk) hg b d pass0 ha hdb he hpl

/-! ### constants of the module -/
def dCD (d : D) : DE := fun _ M Q => Q d M
theorem q_gl {v : V} {u : Value} {d : D} (hg : Gl X x) (hm : X.mg x = some u) (r : RelV v u) (rd : ∀ F, Rep X.K F v d) (hd : (x == ("__debug__" : Str)) = false := by decide) : PE X (.Name x pos) (up X.K B (dCD d)) :=
  PE.wk (pe_glob hg hm r hd) fun σ H Q ⟨F, M, δ, Q', lb, S, rs, h, k⟩ => k _ _ ⟨F, M, d, Le.refl F, S, rd F, h⟩
theorem q_bltn {v : V} {u : Value} (hg : Gl X x) (hm : X.mg x = none) (hv : bootBuiltins x = some u) (r : RelV v u) (hn : x ≠ "__name__" := by decide) (hd : (x == ("__debug__" : Str)) = false := by decide) : PE X (.Name x pos) (up X.K B (dC v)) := q_const (pe_bltn hg hm hv r hn hd)
def dU (g : Int → Int) (ta : DE) : DE := fun δ M Q => ta δ M fun x M1 => ∃ i, x = .int i ∧ Q (.int (g i)) M1
theorem q_un {op : UnaryOp} {g : Int → Int} {a : Expr} (ho : UnR X (unaryOp op) (rU fun i => .int (g i))) (ha : PE X a (up X.K B ta)) : PE X (.UnaryOp op a pos) (up X.K B (dU g ta)) :=
  PE.wk (pe_un ho ha) fun σ H Q ⟨F, M, δ, Q', lb, S, rs, h, k⟩ => ⟨F, M, δ, _, lb, S, rs, h, fun y H1 ⟨F1, M1, d1, l1, S1, r1, i, e, h1⟩ => by
    subst e; cases r1
    exact ⟨i, rfl, k _ _ ⟨F1, M1, _, l1, S1, .v _, h1⟩⟩⟩
theorem q_neg {a : Expr} (ha : PE X a (up X.K B ta)) : PE X (.UnaryOp .USub a pos) (up X.K B (dU (fun i => -i) ta)) := q_un un_neg ha

/-! ### what a for walks: a list, a tuple, a text's signs -/
def signs (z : Str) : List D := z.cps.toList.map fun c => .str ⟨#[c]⟩
def itsD (d : D) (M : Mm) : Option (List D) := match d with
  | .tup ds => some ds
  | .lst ds => some ds
  | .v (.str z) => some (signs z)
  | _ => none
def iAny (K : PySem.W.Frag) (tl : TE) : TI := fun σ H R => tl σ H fun x H1 => (∃ a, x = .ref a ∧ (∃ xs, SqL K H1 a xs) ∧ R (Itl K a) H1) ∨ ((∃ a, x = .ref a ∧ (∃ xs, SqT K H1 a xs) ∧ R (Itt K a) H1) ∨ ∃ z, x = .str z ∧ R (Its z) H1)
theorem pi_any {tg l : Expr} {tl : TE} (hl : PE X l tl) : PI X tg l (iAny X.K tl) := by
  refine ⟨fun pins s σ H R I h => ?_⟩
  refine thn (hl.run pins s σ H _ I h) fun v s1 ⟨x, H1, I1, r1, q1⟩ => ?_
  rcases q1 with ⟨a, e, ⟨xs, hq⟩, q⟩ | ⟨a, e, ⟨xs, hq⟩, q⟩ | ⟨z, e, q⟩
  · subst e
    cases r1
    obtain ⟨its, rv, p, hz⟩ := I1.list hq
    refine wpAny_pyIter_list p.isList ?_
    refine ⟨s1.heap.objs.size, [s1.heap.objs.size], _, _, H1, rfl, I1.kept (t' := s1.toks) fun b o e => Heap.get?_push_of_some _ e, turn_list a _, ⟨_, Heap.get?_push_size _ rfl, rfl, rfl⟩, fun b hb => ?_, q⟩
    have e : b = s1.heap.objs.size := by simpa using hb
    subst e
    exact I1.fpOk (Nat.le_refl _) (I1.hok.fresh (Nat.le_refl _))
  · subst e
    cases r1
    obtain ⟨its, rv, p, hz⟩ := I1.tuple hq
    refine wpAny_pyIter_tuple (show s1.heap.IsTuple a its.toArray from p) ?_
    refine ⟨s1.heap.objs.size, [s1.heap.objs.size], _, _, H1, rfl, I1.kept (t' := s1.toks) fun b o e => Heap.get?_push_of_some _ e, turn_tuple a _, ⟨_, Heap.get?_push_size _ rfl, rfl, rfl⟩, fun b hb => ?_, q⟩
    have e : b = s1.heap.objs.size := by simpa using hb
    subst e
    exact I1.fpOk (Nat.le_refl _) (I1.hok.fresh (Nat.le_refl _))
  · subst e
    obtain ⟨t, rfl⟩ := r1
    cases ha : z.cps.all (· < 128)
    · exact wpAny_pyIter_wide ha (pi_one (tk := s1.toks) I1 _ (turn_str _ z t "str_iterator" (.inr rfl)) ⟨_, Heap.get?_push_size _ rfl, rfl, rfl⟩ q)
    · exact wpAny_pyIter_ascii ha (pi_one (tk := s1.toks) I1 _ (turn_str _ z t "str_ascii_iterator" (.inl rfl)) ⟨_, Heap.get?_push_size _ rfl, rfl, rfl⟩ q)
def diIt (t : DE) : DI := fun δ M R => t δ M fun d M1 => ∃ ds, itsD d M1 = some ds ∧ R ds GT M1
theorem yl_lst {K : PySem.W.Frag} {F1 : Hp} {a : Addr} {xs : List V} {ds : List D} (hs : SqL K F1 a xs) (rl : RepL K F1 xs ds) : Yl K (Itl K a) F1 ds GT := by
  refine ⟨fun i H F M l S _ hi => ?_, fun H F M l S _ => ?_, fun i H F M x H' l S _ hi y => ?_⟩
  · exact walk_list.goes i H (by rw [rl.length]; exact hi) (SqL.le S.fz (SqL.le l hs))
  · rw [← rl.length]; exact walk_list.stops H (SqL.le S.fz (SqL.le l hs))
  · obtain ⟨e1, e2⟩ := walk_list.yields i H x H' (by rw [rl.length]; exact hi) (SqL.le S.fz (SqL.le l hs)) y
    subst e1
    obtain ⟨d, h3, h4⟩ := rl.get' e2
    exact ⟨F, d, Le.refl F, S, h3, h4.le l⟩
theorem yl_tup {K : PySem.W.Frag} {F1 : Hp} {a : Addr} {xs : List V} {ds : List D} (hs : SqT K F1 a xs) (rl : RepL K F1 xs ds) : Yl K (Itt K a) F1 ds GT := by
  refine ⟨fun i H F M l S _ hi => ?_, fun H F M l S _ => ?_, fun i H F M x H' l S _ hi y => ?_⟩
  · exact walk_tup.goes i H (by rw [rl.length]; exact hi) (SqT.le S.fz (SqT.le l hs))
  · rw [← rl.length]; exact walk_tup.stops H (SqT.le S.fz (SqT.le l hs))
  · obtain ⟨e1, e2⟩ := walk_tup.yields i H x H' (by rw [rl.length]; exact hi) (SqT.le S.fz (SqT.le l hs)) y
    subst e1
    obtain ⟨d, h3, h4⟩ := rl.get' e2
    exact ⟨F, d, Le.refl F, S, h3, h4.le l⟩
theorem yl_str {K : PySem.W.Frag} {F1 : Hp} {z : Str} : Yl K (Its z) F1 (signs z) GT := by
  have hl : (signs z).length = z.cps.size := by simp [signs]
  refine ⟨fun i H F M l S _ hi => walk_str.goes i H (by rw [← hl]; exact hi) trivial, fun H F M l S _ => by rw [hl]; exact walk_str.stops H trivial, fun i H F M x H' l S _ hi y => ?_⟩
  obtain ⟨e1, c, e2, e3⟩ := walk_str.yields i H x H' (by rw [← hl]; exact hi) trivial y
  subst e1 e3
  refine ⟨F, .str ⟨#[c]⟩, Le.refl F, S, ?_, .v _⟩
  simp [signs, e2]
theorem qi_it {tg l : Expr} {t : DE} (h : PE X l (up X.K B t)) : PI X tg l (upI X.K B (diIt t)) :=
  PI.wk (pi_any h) fun σ H R ⟨F, M, δ, R', lb, S, rs, h, k⟩ => ⟨F, M, δ, _, lb, S, rs, h, fun v H1 ⟨F1, M1, d, l1, S1, r1, ds, e, h1⟩ => by
    cases r1 with
    | v =>
      cases v with
      | str z =>
        simp only [itsD, Option.some.injEq] at e
        subst e
        exact .inr (.inr ⟨z, rfl, k _ _ ⟨F1, M1, _, GT, l1, S1, yl_str, h1⟩⟩)
      | _ => simp [itsD] at e
    | @tup a xs _ hs rl =>
      simp only [itsD, Option.some.injEq] at e
      subst e
      exact .inr (.inl ⟨a, rfl, ⟨xs, SqT.le S1.fz hs⟩, k _ _ ⟨F1, M1, _, GT, l1, S1, yl_tup hs rl, h1⟩⟩)
    | @lst a xs _ hs rl =>
      simp only [itsD, Option.some.injEq] at e
      subst e
      exact .inl ⟨a, rfl, ⟨xs, SqL.le S1.fz hs⟩, k _ _ ⟨F1, M1, _, GT, l1, S1, yl_lst hs rl, h1⟩⟩⟩
end
/-- a list that may change, but does not while it is walked -/
def diMut (t : DE) : DI := fun δ M R => t δ M fun d M1 => ∃ a ds, d = .ref a ∧ M1 a = some (.lst ds) ∧ R ds (fun M => M a = some (.lst ds)) M1
theorem qi_mut {X : Cx} {B : Hp} {tg l : Expr} {t : DE} (h : PE X l (up X.K B t)) : PI X tg l (upI X.K B (diMut t)) :=
  PI.wk (pi_any h) fun σ H R ⟨F, M, δ, R', lb, S, rs, h, k⟩ => ⟨F, M, δ, _, lb, S, rs, h, fun v H1 ⟨F1, M1, d, l1, S1, r1, a, ds, e, em, h1⟩ => by
    subst e
    cases r1
    obtain ⟨xs, hx, rx⟩ := muL S1 em
    refine .inl ⟨a, rfl, ⟨xs, .inl (.inl hx)⟩, k _ _ ⟨F1, M1, ds, _, l1, S1, ⟨fun i H F M l S g hi => ?_, fun H F M l S g => ?_, fun i H F M x H' l S g hi y => ?_⟩, h1⟩⟩
    · obtain ⟨ys, hy, ry⟩ := muL S g
      exact walk_list.goes i H (by rw [ry.length]; exact hi) (.inl (.inl hy))
    · obtain ⟨ys, hy, ry⟩ := muL S g
      rw [← ry.length]; exact walk_list.stops H (.inl (.inl hy))
    · obtain ⟨ys, hy, ry⟩ := muL S g
      obtain ⟨e1, e2⟩ := walk_list.yields i H x H' (by rw [ry.length]; exact hi) (.inl (.inl hy)) y
      subst e1
      obtain ⟨d, h3, h4⟩ := ry.get' e2
      exact ⟨F, d, Le.refl F, S, h3, h4⟩⟩
theorem cx_K {CX : CXT} {P : Program} {w : World} {K : PySem.W.Frag} {mg : Str → Option Value} {base : Heap} {N : List Str} {qual : Str} {scope : Scope} {f : Addr} {cd : Value} {A : Around} {outer : List PySem.Env} {s : Shared} {H : Hp} {E : XK} : (cxOf CX P w K mg base N qual scope f cd A outer s H E).nox.K = K := rfl
end Y


set_option Elab.async false
set_option linter.all false
set_option maxRecDepth 100000
set_option maxHeartbeats 1000000
/-! Y9: the readings step by step: one lemma for each word, to be applied from the outside. -/
namespace Y
open PySem PySem.Spec PyProof.Rows L2
section
variable {E : DEnds} {δ : Env} {M : Mm} {Q : QD} {QB : Bool → Mm → Prop} {QL : List D → Mm → Prop} {QO : Option Int → Mm → Prop} {t u : DS} {te ta tb tc : DE} {g : DG} {r r' : D2} {c c' : DT} {a b : Addr} {ds es : List D} {d e : D} {R : Env → Mm → Prop}
theorem i_seq (h : t { E with nx := u E } δ M) : dSeq t u E δ M := h
theorem i_next (h : E.nx δ M) : dNext E δ M := h
theorem i_asg (h : te δ M fun d M1 => g d δ M1 E.nx) : dAsg te g E δ M := h
theorem i_ret (h : te δ M E.rt) : dRet te E δ M := h
theorem i_retN (h : E.rt .non M) : dRetN E δ M := h
theorem i_drop (h : te δ M fun _ M1 => E.nx δ M1) : dDrop te E δ M := h
theorem i_cont (h : E.ct δ M) : dCont E δ M := h
theorem i_break (h : E.bk δ M) : dBreak E δ M := h
theorem i_ifs (h : c δ M fun b M1 => if b = true then t E δ M1 else u E δ M1) : dIfS c t u E δ M := h
theorem i_if (h : c δ M fun b M1 => if b = true then ta δ M1 Q else tb δ M1 Q) : dIf c ta tb δ M Q := h
theorem i_and (h : c δ M fun b M1 => if b = true then c' δ M1 QB else QB false M1) : dAnd c c' δ M QB := h
theorem i_or (h : c δ M fun b M1 => if b = true then QB true M1 else c' δ M1 QB) : dOr c c' δ M QB := h
theorem i_not (h : c δ M fun b M1 => QB (!b) M1) : dNot c δ M QB := h
theorem i_test (h : te δ M fun d M1 => ∃ k, d = .bl k ∧ QB k M1) : dTest te δ M QB := h
theorem i_tru (h : te δ M fun d M1 => ∃ b, truD d M1 = some b ∧ QB b M1) : dTru te δ M QB := h
theorem i_andV (h : ta δ M fun x M1 => ∃ c, x = .bl c ∧ if c = true then tb δ M1 Q else Q (.bl false) M1) : dAndV ta tb δ M Q := h
theorem i_orV (h : ta δ M fun x M1 => ∃ c, x = .bl c ∧ if c = true then Q (.bl true) M1 else tb δ M1 Q) : dOrV ta tb δ M Q := h
theorem i_notV (h : ta δ M fun x M1 => ∃ c, x = .bl c ∧ Q (.bl (!c)) M1) : dNotV ta δ M Q := h
theorem i_bl {P : Bool → Prop} {k : Bool} (h : P k) : ∃ c, D.bl k = .bl c ∧ P c := ⟨k, rfl, h⟩
theorem i_op (h : ta δ M fun x M1 => tb δ M1 fun y M2 => r x y M2 Q) : dOp r ta tb δ M Q := h
theorem i_chain (h : ta δ M fun x M1 => tb δ M1 fun y M2 => r x y M2 fun z M3 => ∃ k, z = .bl k ∧ (if k = true then tc δ M3 fun w' M4 => r' y w' M4 Q else Q (.bl false) M3)) : dChain r r' ta tb tc δ M Q := h
theorem i_var {i : Nat} (e : δ[i]? = some (some d)) (h : Q d M) : dVar i δ M Q := ⟨d, e, h⟩
theorem i_c {v : V} (h : Q (.v v) M) : dC v δ M Q := h
theorem i_cd (h : Q d M) : dCD d δ M Q := h
theorem i_nil (h : QL [] M) : dNil δ M QL := h
theorem i_cons {u : DA} (h : te δ M fun d M1 => u δ M1 fun ds M2 => QL (d :: ds) M2) : dCons te u δ M QL := h
theorem i_call {s : DSp} {t : DA} (h : t δ M fun ds M1 => s ds M1 Q noX) : dCall s t δ M Q := h
theorem i_cb {r : DC} {t : DA} (h : t δ M fun ds M1 => r ds M1 Q) : dCB r t δ M Q := h
theorem i_tup {t : DA} (h : t δ M fun ds M1 => ds.length ≤ sizeLine ∧ Q (.tup ds) M1) : dTup t δ M Q := h
theorem i_lst {t : DA} (h : t δ M fun ds M1 => ds.length ≤ sizeLine ∧ Q (.lst ds) M1) : dLst t δ M Q := h
theorem i_lstM {t : DA} (h : t δ M fun ds M1 => ds.length ≤ sizeLine ∧ ∀ p, M1 p = none → Q (.ref p) (put M1 p (.lst ds))) : dLstM t δ M Q := h
theorem i_dict (h : ∀ p, M p = none → Q (.ref p) (put M p (.dct []))) : dDict δ M Q := h
theorem i_frz (h : te δ M fun d M1 => ∃ p ds, d = .ref p ∧ M1 p = some (.lst ds) ∧ Q (.lst ds) (drop M1 p)) : dFrz te δ M Q := h
theorem i_frzd {p : Addr} (e : M p = some (.lst ds)) (h : Q (.lst ds) (drop M p)) : ∃ q es, D.ref p = .ref q ∧ M q = some (.lst es) ∧ Q (.lst es) (drop M q) := ⟨p, ds, rfl, e, h⟩
theorem i_name {i : Nat} (h : R (δ.set i (some d)) M) : dgName i d δ M R := h
theorem i_gtup {n : Nat} {t : DGs} (hl : ds.length = n) (h : t ds δ M R) : dgTup n t (.tup ds) δ M R := ⟨ds, rfl, hl, h⟩
theorem i_glst {n : Nat} {t : DGs} (e : lsD d M = some ds) (hl : ds.length = n) (h : t ds δ M R) : dgLst n t d δ M R := ⟨ds, e, hl, h⟩
theorem i_glst' {n : Nat} {t : DGs} (hl : ds.length = n) (h : t ds δ M R) : dgLst n t (.lst ds) δ M R := ⟨ds, rfl, hl, h⟩
theorem i_gcons {t : DGs} (h : g d δ M fun δ' M' => t ds δ' M' R) : dgCons g t (d :: ds) δ M R := ⟨d, ds, rfl, h⟩
theorem i_gnil (h : R δ M) : dgNil [] δ M R := ⟨rfl, h⟩
theorem i_gsub (h : ta δ M fun o M1 => tb δ M1 fun i M2 => setD o i d M2 fun M3 => R δ M3) : dgSub ta tb d δ M R := h
theorem i_par {i j : Nat} {t : DA} (h : t δ M fun ds M1 => ∃ v w, ds = [v, w] ∧ E.nx ((δ.set i (some v)).set j (some w)) M1) : dPar i j t E δ M := h
theorem i_par2 {P : D → D → Prop} (h : P d e) : ∃ v w, [d, e] = [v, w] ∧ P v w := ⟨d, e, rfl, h⟩
theorem i_un {f : Int → Int} (h : te δ M fun x M1 => ∃ i, x = .int i ∧ Q (.int (f i)) M1) : dU f te δ M Q := h
theorem i_int {P : Int → Prop} {i : Int} (h : P i) : ∃ j, D.int i = .int j ∧ P j := ⟨i, rfl, h⟩
theorem i_slice {tl th : DO} (h : te δ M fun x M1 => tl δ M1 fun l M2 => th δ M2 fun u M3 => sliceD x l u M3 Q) : dSlice te tl th δ M Q := h
theorem i_onone (h : QO none M) : doNone δ M QO := h
theorem i_osome (h : te δ M fun d M1 => ∃ i, d = .int i ∧ QO (some i) M1) : doSome te δ M QO := h
theorem i_bm {T : String} {r : DM} {t : DA} (h : te δ M fun x M1 => tyD T x M1 ∧ t δ M1 fun xs M2 => r x xs M2 Q) : dBM T r te t δ M Q := h
theorem i_bm0 {T : String} {r : DM} (h : te δ M fun x M1 => tyD T x M1 ∧ r x [] M1 Q) : dBM0 T r te δ M Q := h
theorem i_get1 (h : ta δ M fun x M1 => isDk x M1 ∧ tb δ M1 fun y M2 => ∃ kvs k, dkD x M2 = some kvs ∧ keyD y = some k ∧ Q ((valD kvs k).getD .non) M2) : dGet1 ta tb δ M Q := h
theorem i_get2 (h : ta δ M fun x M1 => isDk x M1 ∧ tb δ M1 fun y M2 => tc δ M2 fun z M3 => ∃ kvs k, dkD x M3 = some kvs ∧ keyD y = some k ∧ Q ((valD kvs k).getD z) M3) : dGet2 ta tb tc δ M Q := h
theorem i_del (h : ta δ M fun o M1 => tb δ M1 fun i M2 => ∃ a kvs k, o = .ref a ∧ M2 a = some (.dct kvs) ∧ keyD i = some k ∧ (valD kvs k).isSome = true ∧ E.nx δ (put M2 a (.dct (dropKD kvs k)))) : dDel ta tb E δ M := h
theorem i_for {wi : DI} (h : wi δ M fun ds G M1 => forD G g t E ds δ M1) : dFor wi g t E δ M := h
theorem i_lc {wi : DI} {vs : List Nat} (h : wi δ M fun ds G M1 => ∀ p, M1 p = none → lcD G g c te (wipeD δ vs) p (fun M' => Q (.ref p) M') ds (put M1 p (.lst []))) : dLc wi g c te vs δ M Q := h
theorem i_dc {wi : DI} {vs : List Nat} (h : wi δ M fun ds G M1 => ∀ p, M1 p = none → dcD G g c ta te (wipeD δ vs) p (fun M' => Q (.ref p) M') ds (put M1 p (.dct []))) : dDc wi g c ta te vs δ M Q := h
theorem i_yes (h : QB true M) : tYesD δ M QB := h
theorem i_it {RI : List D → (Mm → Prop) → Mm → Prop} (h : te δ M fun d M1 => ∃ ds, itsD d M1 = some ds ∧ RI ds GT M1) : diIt te δ M RI := h
theorem i_its {P : List D → Prop} (e : itsD d M = some ds) (h : P ds) : ∃ es, itsD d M = some es ∧ P es := ⟨ds, e, h⟩
theorem i_rng1 {t : DA} {RI : List D → (Mm → Prop) → Mm → Prop} (h : t δ M fun ds M1 => ∃ j : Int, ds = [.int j] ∧ -(2 ^ 62) ≤ j ∧ j < 2 ^ 62 ∧ RI (rngD 0 j.toNat) GT M1) : diRng1 t δ M RI := h
theorem i_rng1d {j : Int} {P : Int → Prop} (h1 : -(2 ^ 62) ≤ j ∧ j < 2 ^ 62) (h : P j) : ∃ k : Int, [D.int j] = [.int k] ∧ -(2 ^ 62) ≤ k ∧ k < 2 ^ 62 ∧ P k := ⟨j, rfl, h1.1, h1.2, h⟩
theorem i_frzS {i : Nat} {p : Addr} (e : δ[i]? = some (some (.ref p))) (em : M p = some (.lst ds)) (h : t E (δ.set i (some (.lst ds))) (drop M p)) : dFrzS i t E δ M := ⟨p, ds, e, em, h⟩
theorem i_fld {K : PySem.W.Frag} {f : Str} (h : te δ M fun x M1 => ∃ a C dx fs d, x = .ref a ∧ M1 a = some (.ins C dx fs) ∧ Cls K C ∧ NoAttr K C f ∧ fs.lookup f = some d ∧ Q d M1) : dFld K f te δ M Q := h
theorem i_sfld {K : PySem.W.Frag} {f : Str} (h : tb δ M fun y M1 => ta δ M1 fun x M2 => ∃ a C dx fs, x = .ref a ∧ M2 a = some (.ins C dx fs) ∧ Cls K C ∧ NoAttr K C f ∧ fs.length < 1000 ∧ E.nx δ (put M2 a (.ins C dx (putFD f y fs)))) : dsFld K f ta tb E δ M := h
theorem i_meth {C : Addr} {m : Str} {s : DSp} {t : DA} (h : te δ M fun x M1 => ∃ a dx fs, x = .ref a ∧ M1 a = some (.ins C dx fs) ∧ fs.lookup m = none ∧ t δ M1 fun ds M2 => s (x :: ds) M2 Q noX) : dMeth C m s te t δ M Q := h
theorem i_make {C : Addr} {s : DSp} {t : DA} (h : t δ M fun ds M1 => ∀ x dx, M1 x = none → s (.ref x :: ds) (put M1 x (.ins C dx [])) (fun d M2 => d = .non ∧ Q (.ref x) M2) noX) : dMake C s t δ M Q := h
/-! values -/
theorem v_I0 {f : Int → Int → V} {i j : Int} (h : Q (.v (f i j)) M) : dI0 f (.int i) (.int j) M Q := ⟨i, j, rfl, rfl, h⟩
theorem v_I {C : Int → Int → Prop} {f : Int → Int → V} {i j : Int} (hc : C i j) (h : Q (.v (f i j)) M) : dI C f (.int i) (.int j) M Q := ⟨i, j, rfl, rfl, hc, h⟩
theorem v_plusI {i j : Int} (h : Q (.int (i + j)) M) : plusD (.int i) (.int j) M Q := h
theorem v_plusS {x y : Str} (hl : x.length + y.length ≤ sizeLine) (h : Q (.str (x ++ y)) M) : plusD (.str x) (.str y) M Q := ⟨hl, h⟩
theorem v_plusT (hl : ds.length + es.length ≤ sizeLine) (h : Q (.tup (ds ++ es)) M) : plusD (.tup ds) (.tup es) M Q := ⟨hl, h⟩
theorem v_plusL (h1 : lsD d M = some ds) (h2 : lsD e M = some es) (hl : ds.length + es.length ≤ sizeLine) (h : Q (.lst (ds ++ es)) M) : plusD d e M Q := by
  unfold plusD
  split
  · simp [lsD] at h1
  · simp [lsD] at h1
  · simp [lsD] at h1
  · exact ⟨ds, es, h1, h2, hl, h⟩
theorem v_subT {i : Int} (e : atI ds i = some d) (h : Q d M) : subD (.tup ds) (.int i) M Q := ⟨i, d, rfl, e, h⟩
theorem v_subL {i : Int} (e : atI ds i = some d) (h : Q d M) : subD (.lst ds) (.int i) M Q := .inl ⟨ds, i, d, rfl, rfl, e, h⟩
theorem v_subM {i : Int} (em : M a = some (.lst ds)) (e : atI ds i = some d) (h : Q d M) : subD (.ref a) (.int i) M Q := .inl ⟨ds, i, d, lsD_ref em, rfl, e, h⟩
theorem v_subK {kvs : List (Key × D)} {k : Key} (em : M a = some (.dct kvs)) (ek : keyD e = some k) (ev : valD kvs k = some d) (h : Q d M) : subD (.ref a) e M Q := .inr ⟨kvs, k, d, by simp [dkD, em], ek, ev, h⟩
theorem v_eqI {neg : Bool} {i j : Int} (h : Q (.bl (neg ^^ decide (i = j))) M) : eqD neg (.int i) (.int j) M Q := by
  unfold eqD
  simpa [scal] using h
theorem v_eqS {neg : Bool} {i j : Str} (h : Q (.bl (neg ^^ decide (i = j))) M) : eqD neg (.str i) (.str j) M Q := by
  unfold eqD
  simpa [scal] using h
theorem v_isN {neg : Bool} (h : Q (.bl (neg ^^ nonD d)) M) : isN neg d .non M Q := ⟨rfl, h⟩
theorem itD_ref (em : M a = some (.lst ds)) : itD (.ref a) M = some ds := lsD_ref em
theorem lenD_ref (em : M a = some (.lst ds)) : lenD (.ref a) M = some ds.length := by simp [lenD, em]
theorem v_len {n : Nat} (e : lenD d M = some n) (h : Q (.int (n : Int)) M) : cLen [d] M Q := ⟨d, n, rfl, e, h⟩
theorem v_int {i : Int} (h : Q (.int i) M) : cInt [.int i] M Q := ⟨i, rfl, h⟩
theorem v_abs {i : Int} (h : Q (.int (if i < 0 then -i else i)) M) : cAbs [.int i] M Q := ⟨i, rfl, h⟩
theorem v_list (e : itD d M = some es) (h : Q (.lst es) M) : cList [d] M Q := ⟨d, es, rfl, e, h⟩
theorem v_listM (e : itD d M = some es) (h : ∀ p, M p = none → Q (.ref p) (put M p (.lst es))) : cListM [d] M Q := ⟨d, es, rfl, e, h⟩
theorem v_tuple (e : itD d M = some es) (h : Q (.tup es) M) : cTuple [d] M Q := ⟨d, es, rfl, e, h⟩
theorem v_setL {RM : Mm → Prop} {k : Int} {j : Nat} (em : M a = some (.lst ds)) (hj : ixN ds.length k = some j) (h : RM (put M a (.lst (ds.set j d)))) : setD (.ref a) (.int k) d M RM := by
  show (match M a with | some (.lst ds) => _ | some (.dct kvs) => _ | _ => False)
  rw [em]
  exact ⟨k, j, rfl, hj, h⟩
theorem v_setK {RM : Mm → Prop} {k : Key} {kvs : List (Key × D)} (em : M a = some (.dct kvs)) (ek : keyD e = some k) (hl : kvs.length < sizeLine) (h : RM (put M a (.dct (putKD kvs k d)))) : setD (.ref a) e d M RM := by
  show (match M a with | some (.lst ds) => _ | some (.dct kvs) => _ | _ => False)
  rw [em]
  exact ⟨k, ek, hl, h⟩
theorem v_append (em : M a = some (.lst ds)) (hl : ds.length < sizeLine) (h : Q .non (put M a (.lst (ds ++ [d])))) : tyD "list" (.ref a) M ∧ mAppend (.ref a) [d] M Q := ⟨by simp [tyD, em], a, ds, d, rfl, rfl, em, hl, h⟩
theorem i_tyL {P : Prop} (em : M a = some (.lst ds)) (h : P) : tyD "list" (.ref a) M ∧ P := ⟨by simp [tyD, em], h⟩
theorem i_tyl {P : Prop} (h : P) : tyD "list" (.lst ds) M ∧ P := ⟨by simp [tyD], h⟩
theorem v_app (em : M a = some (.lst ds)) (hl : ds.length < sizeLine) (h : Q .non (put M a (.lst (ds ++ [d])))) : mAppend (.ref a) [d] M Q := ⟨a, ds, d, rfl, rfl, em, hl, h⟩
theorem v_sliceT {lo hi : Option Int} (h : Q (.tup (cut ds lo hi)) M) : sliceD (.tup ds) lo hi M Q := h
theorem v_sliceL {lo hi : Option Int} (h : Q (.lst (cut ds lo hi)) M) : sliceD (.lst ds) lo hi M Q := ⟨ds, rfl, h⟩
theorem v_sliceM {lo hi : Option Int} (em : M a = some (.lst ds)) (h : Q (.lst (cut ds lo hi)) M) : sliceD (.ref a) lo hi M Q := ⟨ds, lsD_ref em, h⟩
theorem v_inT {neg : Bool} (h1 : flatD d = true ∧ ds.all flatD = true) (h : Q (.bl (neg ^^ memD d ds)) M) : inD neg d (.tup ds) M Q := ⟨h1.1, h1.2, h⟩
/-! tests -/
theorem b_dec {p : Prop} [Decidable p] {A C : Prop} (h1 : p → A) (h2 : ¬ p → C) : if decide p = true then A else C := by
  by_cases h : p
  · rw [decide_eq_true h]; exact h1 h
  · rw [decide_eq_false h, if_neg Bool.false_ne_true]; exact h2 h
theorem b_ndec {p : Prop} [Decidable p] {A C : Prop} (h1 : ¬ p → A) (h2 : p → C) : if (!decide p) = true then A else C := by
  by_cases h : p
  · rw [decide_eq_true h]; exact iteF (h2 h)
  · rw [decide_eq_false h]; exact iteT (h1 h)
theorem b_fx {p A C : Prop} [Decidable p] (h : if decide p = true then A else C) : if (false ^^ decide p) = true then A else C := by simpa using h
theorem b_tx {p A C : Prop} [Decidable p] (h : if (!decide p) = true then A else C) : if (true ^^ decide p) = true then A else C := by simpa using h
theorem b_var {k : Bool} {A C : Prop} (h1 : k = true → A) (h2 : k = false → C) : if k = true then A else C := by
  cases k with
  | true => exact iteT (h1 rfl)
  | false => exact iteF (h2 rfl)
end
theorem atI_nn {α : Type} (xs : List α) (n : Nat) : atI xs (n : Int) = xs[n]? := by
  unfold atI ixN
  by_cases h : n < xs.length
  · simp [h]
  · simp [h]
theorem put_none {M : Mm} {a p : Addr} {m : MO} (h : put M a m p = none) : p ≠ a ∧ M p = none := by
  by_cases e : p = a
  · subst e; rw [put_same] at h; cases h
  · exact ⟨e, by rwa [put_ne e] at h⟩
theorem ne_none {M : Mm} {a p : Addr} {m : MO} (h1 : M a = some m) (h2 : M p = none) : a ≠ p := fun e => by subst e; rw [h1] at h2; cases h2
/-- all but what S names is as it was -/
def Fr (M M' : Mm) (S : List Addr) : Prop := ∀ b, b ∉ S → M' b = M b
theorem Fr.refl (M : Mm) (S : List Addr) : Fr M M S := fun _ _ => rfl
theorem Fr.put {M M' : Mm} {S : List Addr} {a : Addr} {m : MO} (h : Fr M M' S) (ha : a ∈ S) : Fr M (Y.put M' a m) S := fun b hb => by
  rw [put_ne (show b ≠ a from fun e => hb (by rw [e]; exact ha))]; exact h b hb
theorem Fr.drop {M M' : Mm} {S : List Addr} {a : Addr} (h : Fr M M' S) (ha : a ∈ S) : Fr M (Y.drop M' a) S := fun b hb => by
  rw [drop_ne (show b ≠ a from fun e => hb (by rw [e]; exact ha))]; exact h b hb
theorem Fr.more {M M' : Mm} {S T : List Addr} (h : Fr M M' S) (ht : ∀ a ∈ S, a ∈ T) : Fr M M' T := fun b hb => h b fun z => hb (ht b z)
theorem less_of {Q : QD} {d : D} {M M' : Mm} (h : Q d M') (e : M = M') : less Q d M := ⟨M', by rw [e]; exact Sub.refl _, h⟩
/-- at a return: what was made here is forgotten, a holds m -/
theorem less_fr {Q : QD} {d : D} {M M' : Mm} {a : Addr} {m : MO} {L : List Addr} (k : Q d (Y.put M a m)) (ea : M' a = some m) (h : Fr M M' (a :: L)) (hL : ∀ p ∈ L, M p = none) : less Q d M' := by
  refine ⟨Y.put M a m, fun b n hb => ?_, k⟩
  by_cases e : b = a
  · subst e; rw [put_same] at hb; rw [ea]; exact hb
  · rw [put_ne e] at hb
    rw [h b]
    · exact hb
    · intro z
      rcases List.mem_cons.mp z with z | z
      · exact e z
      · rw [hL b z] at hb; cases hb
theorem less_fr0 {Q : QD} {d : D} {M M' : Mm} {L : List Addr} (k : Q d M) (h : Fr M M' L) (hL : ∀ p ∈ L, M p = none) : less Q d M' := by
  refine ⟨M, fun b n hb => ?_, k⟩
  rw [h b]
  · exact hb
  · intro z
    rw [hL b z] at hb; cases hb
/-! plain data by its depth -/
def Pl (k : Nat) (d : D) : Prop := pln d = true ∧ dep d ≤ k
def PlL (k : Nat) (ds : List D) : Prop := ∀ d ∈ ds, Pl k d
theorem Pl.mono {j k : Nat} {d : D} (h : Pl j d) (hk : j ≤ k) : Pl k d := ⟨h.1, Nat.le_trans h.2 hk⟩
theorem Pl.int {k : Nat} (i : Int) : Pl k (.int i) := ⟨rfl, Nat.zero_le _⟩
theorem Pl.non {k : Nat} : Pl k .non := ⟨rfl, Nat.zero_le _⟩
theorem Pl.bl {k : Nat} (b : Bool) : Pl k (.bl b) := ⟨rfl, Nat.zero_le _⟩
theorem Pl.str {k : Nat} {x : Str} (h : PyData.strOk x = true) : Pl k (.str x) := ⟨h, Nat.zero_le _⟩
theorem PlL.pln : ∀ {k : Nat} {ds : List D}, PlL k ds → plnL ds = true ∧ depL ds ≤ k
  | _, [], _ => ⟨rfl, Nat.zero_le _⟩
  | k, d :: ds, h => by
    have h1 := h d List.mem_cons_self
    have h2 := PlL.pln (k := k) (ds := ds) fun e he => h e (List.mem_cons_of_mem _ he)
    exact ⟨by simp [plnL, h1.1, h2.1], by simp only [depL]; exact Nat.max_le.mpr ⟨h1.2, h2.2⟩⟩
theorem Pl.tup {k : Nat} {ds : List D} (h : PlL k ds) : Pl (k + 1) (.tup ds) := ⟨by simpa [Y.pln] using h.pln.1, by simp only [dep]; exact Nat.succ_le_succ h.pln.2⟩
theorem Pl.lst {k : Nat} {ds : List D} (h : PlL k ds) : Pl (k + 1) (.lst ds) := ⟨by simpa [Y.pln] using h.pln.1, by simp only [dep]; exact Nat.succ_le_succ h.pln.2⟩
theorem PlL.nil {k : Nat} : PlL k [] := fun _ h => by cases h
theorem PlL.cons {k : Nat} {d : D} {ds : List D} (h : Pl k d) (t : PlL k ds) : PlL k (d :: ds) := fun e he => by
  rcases List.mem_cons.mp he with rfl | he
  · exact h
  · exact t e he
theorem PlL.append {k : Nat} {ds es : List D} (h : PlL k ds) (t : PlL k es) : PlL k (ds ++ es) := fun e he => (List.mem_append.mp he).elim (h e) (t e)
theorem PlL.mono {j k : Nat} {ds : List D} (h : PlL j ds) (hk : j ≤ k) : PlL k ds := fun d hd => (h d hd).mono hk
theorem i_sz {P : Prop} {ds : List D} (hl : ds.length ≤ sizeLine) (h : P) : ds.length ≤ sizeLine ∧ P := ⟨hl, h⟩
theorem i_szl {P : Prop} {ds : List D} (hl : ds.length < sizeLine) (h : P) : ds.length < sizeLine ∧ P := ⟨hl, h⟩
/-- something new: where it lies, nothing lay -/
theorem i_new {P : Addr → Prop} {M : Mm} (h : ∀ p, M p = none → P p) : ∀ p, M p = none → P p := h
/-- a for by a word that holds between the turns -/
theorem for_word {g : DG} {tb : DS} {E : DEnds} {ds : List D} {δ : Env} {M : Mm} (I : Nat → Env → Mm → Prop) (h0 : I 0 δ M) (hs : ∀ i d δ M, ds[i]? = some d → I i δ M → g d δ M fun δ' M' => tb { E with nx := I (i + 1), ct := I (i + 1), bk := E.nx } δ' M')
    (hd : ∀ δ M, I ds.length δ M → E.nx δ M) : forD GT g tb E ds δ M := by
  induction ds generalizing I δ M with
  | nil => exact ⟨trivial, hd _ _ h0⟩
  | cons d ds ih =>
    refine ⟨trivial, I 1, fun δ' M' h => ?_, hs 0 d δ M rfl h0⟩
    exact ih (fun i => I (i + 1)) h (fun i d δ M e h => hs (i + 1) d δ M (by simpa using e) h) hd
theorem b_emp {ds : List D} {A C : Prop} (h1 : 0 < ds.length → A) (h2 : ds = [] → C) : if (!ds.isEmpty) = true then A else C := by
  cases ds with
  | nil => exact iteF (h2 rfl)
  | cons d ds => exact iteT (h1 (by simp))
theorem i_trul {ds : List D} {M : Mm} {QB : Bool → Prop} (h : QB (!ds.isEmpty)) : ∃ b, truD (.lst ds) M = some b ∧ QB b := ⟨_, rfl, h⟩
theorem i_trut {ds : List D} {M : Mm} {QB : Bool → Prop} (h : QB (!ds.isEmpty)) : ∃ b, truD (.tup ds) M = some b ∧ QB b := ⟨_, rfl, h⟩
theorem i_trub {c : Bool} {M : Mm} {QB : Bool → Prop} (h : QB c) : ∃ b, truD (.bl c) M = some b ∧ QB b := ⟨_, rfl, h⟩
theorem pl_rsv {k : Nat} {d : D} {M : Mm} (h : Pl k d) : rsv d M = d := by
  cases d with
  | v x => cases x <;> first | rfl | (have := h.1; simp [pln] at this)
  | tup ds => rfl
  | lst ds => rfl
theorem v_eqP {neg : Bool} {x y : D} {M : Mm} {Q : QD} (hx : Pl 64 x) (hy : Pl 64 y) (h : ∀ b, Q (.bl b) M) : eqD neg x y M Q := by
  have e : eqDeep neg x y M Q := ⟨by rw [pl_rsv hx]; exact hx.1, by rw [pl_rsv hy]; exact hy.1, by rw [pl_rsv hx]; exact hx.2, by rw [pl_rsv hy]; exact hy.2, h _⟩
  unfold eqD
  split
  · split
    · exact h _
    · exact e
  · exact e
end Y


set_option Elab.async false
set_option linter.all false
set_option maxRecDepth 100000
set_option maxHeartbeats 1000000
/-! Y10: sorted over keys, copies of dicts. -/
namespace Y
open PySem PySem.Spec PyProof.Rows L2
section
variable {K : PySem.W.Frag}
theorem keys_rep {F : Hp} {xs : List (Key × V)} {ds : List (Key × D)} (r : RepKV K F xs ds) : xs.map (·.1) = ds.map (·.1) := by
  unfold RepKV at r
  induction r with
  | nil => rfl
  | cons h _ ih => simp only [List.map_cons, ih, h.1]
theorem rep_ints {F : Hp} : ∀ ns : List Int, RepL K F (ns.map V.int) (ns.map D.int)
  | [] => .nil
  | n :: ns => .cons (.v _) (rep_ints ns)
theorem rep_strs {F : Hp} : ∀ ns : List Str, RepL K F (ns.map V.str) (ns.map D.str)
  | [] => .nil
  | n :: ns => .cons (.v _) (rep_strs ns)
def cSortDI : DC := fun ds M Q => ∃ (a : Addr) (kvs : List (Key × D)) (ks : List Int), ds = [.ref a] ∧ M a = some (.dct kvs) ∧ kvs.map (·.1) = ks.map Sum.inl ∧ ks.length < 64 ∧ ∀ ys : List Int, ys.Perm ks → ys.Pairwise (· ≤ ·) → Q (.lst (ys.map D.int)) M
def cSortDS : DC := fun ds M Q => ∃ (a : Addr) (kvs : List (Key × D)) (ks : List Str), ds = [.ref a] ∧ M a = some (.dct kvs) ∧ kvs.map (·.1) = ks.map Sum.inr ∧ ks.length < 64 ∧ ∀ ys : List Str, ys.Perm ks → sortedS ys = true → Q (.lst (ys.map D.str)) M
def cDictD : DC := fun ds M Q => ∃ (a : Addr) (kvs : List (Key × D)), ds = [.ref a] ∧ M a = some (.dct kvs) ∧ ∀ p, M p = none → Q (.ref p) (Y.put M p (.dct kvs))
theorem l_sortDI : LiftC K (fun xs H Q => ∃ (a : Addr) (kvs : List (Key × V)) (ks : List Int), xs = [.ref a] ∧ Rd H a (.dK kvs) ∧ kvs.map (·.1) = ks.map Sum.inl ∧ ks.length < 64 ∧
    ∀ (ys : List Int) (p : Addr), ys.Perm ks → ys.Pairwise (· ≤ ·) → H p = none → Q (.ref p) (upd H p (.lst (ys.map V.int)))) cSortDI := fun H F M xs ds Q' Q S r ⟨a, kvs, ks, e, em, hk, hl, q⟩ k => by
  subst e
  obtain ⟨x, rfl, rx⟩ := rep1 r
  cases rx
  obtain ⟨ws, hx, rw'⟩ := muD S em
  refine ⟨a, ws, ks, rfl, .inl hx, (keys_rep rw').trans hk, hl, fun ys p hp hs hn => ?_⟩
  have f0 := (S.free hn).1
  exact k _ _ ⟨_, M, _, le_upd f0, S.still hn, .lst (SqL.of upd_same) (rep_ints ys), q ys hp hs⟩
theorem l_sortDS : LiftC K (fun xs H Q => ∃ (a : Addr) (kvs : List (Key × V)) (ks : List Str), xs = [.ref a] ∧ Rd H a (.dK kvs) ∧ kvs.map (·.1) = ks.map Sum.inr ∧ ks.length < 64 ∧
    ∀ ys p, ys.Perm ks → sortedS ys = true → H p = none → Q (.ref p) (upd H p (.lst (ys.map V.str)))) cSortDS := fun H F M xs ds Q' Q S r ⟨a, kvs, ks, e, em, hk, hl, q⟩ k => by
  subst e
  obtain ⟨x, rfl, rx⟩ := rep1 r
  cases rx
  obtain ⟨ws, hx, rw'⟩ := muD S em
  refine ⟨a, ws, ks, rfl, .inl hx, (keys_rep rw').trans hk, hl, fun ys p hp hs hn => ?_⟩
  have f0 := (S.free hn).1
  exact k _ _ ⟨_, M, _, le_upd f0, S.still hn, .lst (SqL.of upd_same) (rep_strs ys), q ys hp hs⟩
theorem l_dictD : LiftC K (fun xs H Q => ∃ (a : Addr) (kvs : List (Key × V)), xs = [.ref a] ∧ Rd H a (.dK kvs) ∧ ∀ p, H p = none → Q (.ref p) (upd H p (.dK kvs))) cDictD := fun H F M xs ds Q' Q S r ⟨a, kvs, e, em, q⟩ k => by
  subst e
  obtain ⟨x, rfl, rx⟩ := rep1 r
  cases rx
  obtain ⟨ws, hx, rw'⟩ := muD S em
  exact ⟨a, ws, rfl, .inl hx, fun p hn => k _ _ ⟨F, _, _, Le.refl F, S.newM hn (.dct rw'), .v _, q p (S.free hn).2⟩⟩
end
end Y


set_option Elab.async false
set_option linter.all false
set_option maxRecDepth 100000
set_option maxHeartbeats 2000000
/-! YX1: an own exception's __init__ that says super().__init__(f'..') first, then stores its fields. -/
namespace Y
open PySem PySem.Spec PyProof.Rows L2

/-- the context of such an __init__'s body -/
def cxS (CX : CXT) (P : Program) (w : World) (K : PySem.W.Frag) (mg : Str → Option Value) (base : Heap) (N : List Str) (qual : Str) (scope : Scope) (f : Addr) (cd : Value) (cc : Addr) (A : Around) (outer : List PySem.Env) (s : Shared) (H : Hp) (E : XK) : Cx where
  prog := P
  w := w
  K := K
  mg := mg
  base := base
  A := A.deeper (PySem.W.ksEnv qual scope s.heap.objs.size f cd cc)
  N := N
  s_0 := s
  H_0 := H
  env := PySem.W.ksEnv qual scope s.heap.objs.size f cd cc
  outer := outer
  stack := PySem.W.ksEnv qual scope s.heap.objs.size f cd cc :: outer
  ex := []
  calm := true
  fn := fun _ => false
  pn := []
  xe := fun e s' => wpAny (model P w) (A.deeper (PySem.W.ksEnv qual scope s.heap.objs.size f cd cc)) (leaving (PySem.W.ksEnv qual scope s.heap.objs.size f cd cc) e) (fun _ s'' => CX outer H s E e s'') (fun e' s'' => CX outer H s E e' s'') s'

/-- the scope of such an __init__ -/
structure SupScope (ps : List Str) (sc : Scope) : Prop where
  kind : sc.kind = .function
  co : sc.isCoroutine = false
  gen : sc.isGenerator = false
  nd : ps.Nodup
  par : ∀ x ∈ ps, sc.names.lookup x = some .local
  nocell : ∀ y ∈ sc.names, y.2 ≠ .cell
  free : ∀ y ∈ sc.names, y.2 = .free → y.1 = ("__class__" : Str)
  sup : sc.names.lookup ("super" : Str) = some .globalImplicit
  cls : sc.names.lookup ("__class__" : Str) = some .free

theorem rev_lookup {ps : List Str} {us : List Value} {i : Nat} {x : Str} {u : Value} (nd : ps.Nodup) (hx : ps[i]? = some x) (hu : us[i]? = some u) : (ps.zip us).reverse.lookup x = some u := by
  have hz : (ps.zip us)[i]? = some (x, u) := by rw [List.getElem?_zip_eq_some]; exact ⟨hx, hu⟩
  have key : ∀ (l : List (Str × Value)), (l.map (·.1)).Nodup → (x, u) ∈ l → l.lookup x = some u := by
    intro l
    induction l with
    | nil => intro _ h; cases h
    | cons p l ih =>
      intro hn hm
      obtain ⟨y, v⟩ := p
      simp only [List.map_cons, List.nodup_cons] at hn
      rcases List.mem_cons.mp hm with e | e
      · cases e; simp [List.lookup]
      · have ne : x ≠ y := fun z => hn.1 (by rw [← z]; exact List.mem_map.mpr ⟨(x, u), e, rfl⟩)
        have eb : (x == y) = false := by simpa using ne
        simp only [List.lookup, eb]
        exact ih hn.2 e
  refine key _ ?_ (List.mem_reverse.mpr (List.mem_of_getElem? hz))
  rw [List.map_reverse]
  refine (List.reverse_perm _).nodup_iff.mpr ?_
  have : (ps.zip us).map (·.1) = ps.take us.length := by
    clear hx hu hz key nd
    induction ps generalizing us with
    | nil => simp
    | cons p ps ih => cases us with
      | nil => simp
      | cons v us => simp [ih]
  rw [this]
  exact nd.sublist (List.take_sublist _ _)

section
variable {CX : CXT} {P : Program} {w : World} {K : PySem.W.Frag} {mg : Str → Option Value} {base : Heap} {ps : List Str} {qual : Str} {scope : Scope} {f cc C : Addr} {cd : Value} {A : Around} {outer : List PySem.Env} {s : Shared} {H : Hp} {E : XK} {us : List Value} {vs : List V}
theorem invS_start {clv : Value} {cld : Option Addr} {csl : Array (Option Value)} (S : SupScope ps scope) (hd : A.handled = none) (e0 : Env0 P w K mg base A outer s H) (hl : vs.length = ps.length) (r : Vals vs us) (hcell : K.lookup cc = some ⟨clv, cld, .cell (some (.ref C)), csl⟩)
    {h1 : Heap} {tk : Nat} (hns : h1.Ns s.heap.objs.size (fun x => (ps.zip us).reverse.lookup x)) (hk : ∀ b o, s.heap.get? b = some o → h1.get? b = some o) :
    Inv (cxS CX P w K mg base ps qual scope f cd cc A outer s H E) [] (L2.start ps vs) H { s with heap := h1, toks := tk } := by
  have noA : ∀ b : Addr, b ∉ (cxS CX P w K mg base ps qual scope f cd cc A outer s H E).ex := fun b z => absurd (show b ∈ ([] : List Addr) from z) (by simp)
  have one : ∀ {x : Str} {c : Addr}, (cxS CX P w K mg base ps qual scope f cd cc A outer s H E).env.cells.lookup x = some c → x = "__class__" ∧ c = cc := fun {x c} h => by
    have h : List.lookup x [(("__class__" : Str), cc)] = some c := h
    simp only [List.lookup] at h
    split at h
    · rename_i e
      cases h
      exact ⟨by simpa using e, rfl⟩
    · cases h
  have hb := e0.bs cc _ (e0.mod.kin _ _ hcell)
  refine ⟨⟨e0.mod, S.kind, rfl, rfl, Nat.le_refl _, fun y z c h1 h2 => by rw [(one h1).1, (one h2).1], fun y hy => ?_, fun y c h _ => ?_, fun _ => hd, Around.frames_deeper e0.frames, .inr ⟨rfl, rfl⟩, fun b z => absurd z (noA b), e0.bs, e0.bsz, fun b _ _ => noA b, fun b z => absurd z (noA b), e0.funs, e0.frf⟩,
    rfl, e0.bare, Un.kept hk, ⟨_, hns, fun i y v h1 h2 h3 => ?_⟩, fun y c h => ?_, e0.hok.fresh (Nat.le_refl _), fun y c h => ?_, fun p hp => absurd (show p ∈ ([] : List (Addr × Obj)) from hp) (by simp), e0.hok.kept hk, ?_⟩
  · have hy : scope.names.lookup y = some .cell ∨ scope.names.lookup y = some .free := hy
    rcases hy with hy | hy
    · exact absurd rfl (S.nocell _ (PySem.mem_of_lookup hy))
    · have e := S.free _ (PySem.mem_of_lookup hy) rfl
      have e : y = "__class__" := e
      subst e
      exact ⟨cc, by show List.lookup _ [(("__class__" : Str), cc)] = some cc; simp [List.lookup]⟩
  · have h : false = true := h
    cases h
  · have hi : i < vs.length := by
      unfold L2.start at h2
      by_cases hi : i < vs.length
      · exact hi
      · rw [List.getElem?_append_right (by simpa using hi)] at h2
        rw [List.getElem?_replicate] at h2
        split at h2 <;> cases h2
    have ha : vs[i]? = some v := by
      unfold L2.start at h2
      rw [List.getElem?_append_left (by simpa using hi), List.getElem?_map] at h2
      cases e : vs[i]? with
      | none => rw [e] at h2; cases h2
      | some a => rw [e] at h2; cases h2; rfl
    obtain ⟨u, hu, rv⟩ := r.get ha
    have h1 : ps[i]? = some y := h1
    exact ⟨u, rv, .inl ⟨S.par y (List.mem_of_getElem? h1), rev_lookup S.nd h1 hu⟩⟩
  · rw [(one h).2]
    exact ⟨_, _, hk _ _ hb.1, rfl⟩
  · rw [(one h).2]
    exact hb.2
  · unfold L2.start
    show _ = ps.length
    rw [List.length_append, List.length_map, List.length_replicate]
    omega
end
end Y


set_option Elab.async false
set_option linter.all false
set_option maxRecDepth 100000
set_option maxHeartbeats 4000000
/-! YX2: such an __init__ keeps its promise. -/
namespace Y
open PySem PySem.Spec PyProof.Rows L2
/-- what the written part says of such a class and its __init__ -/
structure SupC (P : Program) (K : PySem.W.Frag) (mg : Str → Option Value) (C fI cc cda : Addr) : Prop where
  ex : OexC K C
  cell : ∃ clv cld csl, K.lookup cc = some ⟨clv, cld, .cell (some (.ref C)), csl⟩
  code : ∃ ccl cdd vs ccs file tf, K.lookup cda = some ⟨ccl, cdd, .fields vs, ccs⟩ ∧ vs[2]? = some (.str file tf) ∧ ((P.main.file : Str) == file) = true
  cls : PySem.W.isClsIn K C = true
  sub : PySem.W.mroIn K C (.ref C) = some true
  sup : mg "super" = none
  top : (P.main.scope.names.lookup ("super" : Str)).isSome = false
  any : PySem.W.nsIn K cStatics "thirdparty.any" = some none
  ini : PySem.W.ks_superIn K C C "__init__" = some (some (.builtin "ValueError.__init__"))
  isVE : PySem.W.subIn K (.ref C) (.type "ValueError") = some true
/-- the wrapper of the built-in __init__ is called: the exception's args are laid anew -/
theorem sup_call {X : Cx} {pins : List (Addr × Obj)} {σ : L2.St} {H : Hp} {s : Shared} {u a C : Addr} {us : List Value} {Q : Value → Shared → Prop} (T : OexC X.K C) (I : Inv X pins σ H s) (e : H a = some (exo a C none)) (hu : s.heap.get? u = some (PySem.W.kxs_mw "ValueError.__init__" a)) (hl : us.length ≤ sizeLine)
    (h : ∀ s', Inv X pins σ H s' → Q .none s') : wpAny (model X.prog X.w) X.A (call (.ref u) us) Q X.xe s := by
  obtain ⟨nm, q, N, bs, bm, sn, sub, ab, col, dd, k0, k1, k2, k3, k5, hC, hbm⟩ := T.cls
  obtain ⟨t1, ho⟩ := exo_at I.hok e
  have hCC := I.kIn _ _ hC
  have FB := F.excBase_ValueError
  obtain ⟨hp, g, d, t, os⟩ := s
  refine wpAny_call (codeAny_of_tree ?_)
  show wpAny _ X.A.in1 (callAny (.ref u) ⟨us, []⟩) _ _ _
  simp only [callAny]
  refine wpAny_bind (wpAny_load hu ?_)
  simp only [PySem.W.kxs_mw, show (Value.type "method-wrapper" == Value.type "method" || Value.type "method-wrapper" == Value.type "builtin_function_or_method" || Value.type "method-wrapper" == Value.type "method-wrapper") = true by decide, if_true]
  refine PySem.W.KFB.if_so (by decide) ?_
  refine wpAny_bind (PySem.W.check_bound_init FB.toExcCallFacts hCC ho rfl ?_)
  refine wpAny_bind (wpAny_pure (wpAny_pure ?_))
  refine ⟨plainId_quiet FB.init.plain _, codeAny_builtin FB.initEntry ?_⟩
  refine PySem.W.exc_init_tree (cls := .ref C) (t0 := t1) (dv := none) (c2 := .none) (c3 := .none) (b4 := .bool false) ho hl fun h' k hx ht => ?_
  have J := I.write (t' := t) (x := a) (e := a) (o := exo a C none) (by rw [e]; exact True.intro) (.inl rfl) k ⟨_, hx⟩ (exo_ok hx)
  have eu : upd H a (exo a C none) = H := by
    funext b
    by_cases hb : b = a
    · rw [hb, upd_same, e]
    · rw [upd_ne hb]
  rw [eu] at J
  exact h _ J
section
variable {CX : CXT} {P : Program} {w : World} {K : PySem.W.Frag} {mg : Str → Option Value} {base : Heap} {k : Nat} {ps : List Str} {name qual : Str} {params : Arguments} {scope : Scope} {fI cc cda C : Addr} {dV kV doc pm ct oc : Value} {an od : Option Addr} {osl : Array (Option Value)} {sp : Sp}
  {e : Expr} {rest : List Stmt} {p0 p1 p2 p4 p5 : Pos} {ta : TA}
theorem init_ok (T : SupC P K mg C fI cc cda)
    (lk : K.lookup fI = some ⟨oc, od, .func (PySem.W.ksFn name qual params (.Expr (.Call (.Attribute (.Call (.Name "super" p0) [] [] p1) "__init__" p2) [e] [] p4) p5 :: rest) scope dV kV doc pm an (.ref cda) ct cc), osl⟩) (hcd : PySem.W.codeIn K (.ref cda) qual = true)
    (S : SupScope ((("self" : Str)) :: ps) scope) (hpar : ∃ ar, (params.posonlyargs ++ params.args).head? = some ar ∧ ar.arg = "self")
    (len : ∀ vs H Q E, sp vs H Q E → vs.length = ((("self" : Str)) :: ps).length)
    (ha : ∀ A outer s H E, PA (cxS CX P w K mg base ((("self" : Str)) :: ps) qual scope fI (.ref cda) cc A outer s H E) [e] ta)
    (hbody : ∀ (A : Around) (outer : List PySem.Env) (s : Shared) (H : Hp) (vs : List V) (Q : VK) (E : XK), sp vs H Q E → ∃ a xs, vs = .ref a :: xs ∧ H a = some (exo a C none) ∧
      ∃ t, PSs (cxS CX P w K mg base ((("self" : Str)) :: ps) qual scope fI (.ref cda) cc A outer s H E) rest t ∧ ta (L2.start ((("self" : Str)) :: ps) vs) H fun us H1 => us.length ≤ 1000 ∧ H1 a = some (exo a C none) ∧ t { nx := fun _ H' => Q .non H', rt := Q } (L2.start ((("self" : Str)) :: ps) vs) H1)
    (hs : ∀ env, swapsWith (.Call (.Attribute (.Call (.Name "super" p0) [] [] p1) "__init__" p2) [e] [] p4) none p5.line env = pure false)
    (hev : ∀ env, ∃ pl, eval (.Call (.Attribute (.Call (.Name "super" p0) [] [] p1) "__init__" p2) [e] [] p4) env = (do
      let ov ← attributeBase (.Call (.Name "super" p0) [] [] p1) "__init__" env (eval (.Call (.Name "super" p0) [] [] p1) env)
      standAt p2.atName
      let (f, first) ← holding [ov] (getMethod ov "__init__" pl)
      callWith p4 f first (backTo p4 (starEach [e] env)) []))
    (hst : ∀ env, starEach (e :: []) env = (false, eval e env) :: starEach [] env) :
    FnOk P w K mg base CX (k + 1) fI (PySem.W.ksFn name qual params (.Expr (.Call (.Attribute (.Call (.Name "super" p0) [] [] p1) "__init__" p2) [e] [] p4) p5 :: rest) scope dV kV doc pm an (.ref cda) ct cc) ((("self" : Str)) :: ps) sp := by
  refine ⟨len, fun A outer s H args us vs Q E hr e0 hb r hsp => ?_⟩
  have hl := len _ _ _ _ hsp
  have KX : K.In s.heap := e0.mod.kin.keeps fun b o e => (e0.bs b o e).1
  have lim : s.heap.NoLimit := e0.mod.nolimit.keeps fun b o e => (e0.bs b o e).1
  obtain ⟨clv, cld, csl, hcell⟩ := T.cell
  obtain ⟨ccl, cdd, cvs, ccs, file, tf, hcode, hvs, hfile⟩ := T.code
  obtain ⟨ar, hp, har⟩ := hpar
  obtain ⟨cdC, hcdC⟩ : ∃ cdC, PySem.W.clsIn K C = some cdC := by
    have := T.cls
    unfold PySem.W.isClsIn at this
    exact Option.isSome_iff_exists.mp this
  have hloc : ∀ y ∈ ((("self" : Str)) :: ps).zip us, scope.names.lookup y.1 = some .local := fun ⟨n, v⟩ hy => S.par n (List.of_mem_zip hy).1
  refine PySem.ks_codeAny_call_defAt (binds := ((("self" : Str)) :: ps).zip us) (body := .Expr (.Call (.Attribute (.Call (.Name "super" p0) [] [] p1) "__init__" p2) [e] [] p4) p5 :: rest) hr.depth (KX _ _ lk) rfl lim (PySem.W.codeRec_of KX hcd) rfl hb S.nocell hloc (fun h₀ hns hk => ?_) S.co S.gen S.kind
  have I : Inv (cxS CX P w K mg base ((("self" : Str)) :: ps) qual scope fI (.ref cda) cc A outer s H E) [] (L2.start ((("self" : Str)) :: ps) vs) H { s with heap := h₀, toks := s.toks + (((("self" : Str)) :: ps).zip us).length } := invS_start S hr.hd e0 hl r hcell hns hk
  obtain ⟨a, xs, rfl, hHa, t, ht, hq⟩ := hbody A outer s H vs Q E hsp
  have ha := ha A outer s H E
  obtain ⟨t1, ho⟩ := exo_at I.hok hHa
  obtain ⟨mb, hb1, hb2⟩ := I.mod.blt
  have kIn0 : K.In h₀ := KX.keeps hk
  have IA0 : PySem.W.InstAt h₀ a { cls := .ref C, dict := none, data := .fields #[.ref t1, .none, .none, .none, .bool false, .none] } C none := ⟨ho, rfl, rfl, trivial⟩
  have hxC : a ≠ C := PySem.W.ks_ne kIn0 IA0 hcdC
  obtain ⟨oD, hD1, hD2⟩ : ∃ oD, h₀.get? C = some oD ∧ oD.data = .cls cdC := by
    unfold PySem.W.clsIn at hcdC
    split at hcdC
    · rename_i c d cd' sl hoo
      cases hcdC
      exact ⟨_, kIn0 _ _ hoo, rfl⟩
    · cases hcdC
  have hini := T.ini
  unfold PySem.W.ks_superIn at hini
  rw [hcdC] at hini
  have hself : ∃ u0 us', us = u0 :: us' ∧ u0 = .ref a := by
    cases r with
    | cons rv rn => exact ⟨_, _, rfl, rv⟩
  obtain ⟨u0, us', rfl, rfl⟩ := hself
  refine PySem.ks_wpAt_execs_cons (PySem.ks_wpAt_Expr_any ?_ (by show interactive _ = false; simp [interactive, PySem.W.ksEnv, PySem.W.envX, callEnv, newEnv, S.kind]) (hs _))
  obtain ⟨pl, hev⟩ := hev (PySem.W.ksEnv qual scope s.heap.objs.size fI (.ref cda) cc)
  refine PySem.ks_wpAt_MethodCall (pl := pl) (PySem.ks_wpAt_super_base (env := PySem.W.ksEnv qual scope s.heap.objs.size fI (.ref cda) cc) S.sup S.cls (by decide) rfl (hk _ _ (KX _ _ lk)) rfl hp rfl (hk _ _ (KX _ _ hcode)) rfl hvs hfile T.top ?_) hev
  refine PySem.W.ks_loadName_global S.kind S.sup (Calls.loadGlobal_builtin (I.mod.glob.keeps I.bk) T.sup (hb1.keeps I.bk) ((hb2 _ (by decide)).trans (show bootBuiltins "super" = some (.type "super") from (by decide +kernel))) ⟨rfl, ?_⟩)
  refine wpAny_loadName_free S.kind S.cls (c := cc) rfl ⟨_, kIn0 _ _ hcell, rfl⟩ ?_
  rw [har]
  refine wpAny_loadName_local (v := .ref a) S.kind (S.par "self" List.mem_cons_self) hns (rev_lookup (i := 0) S.nd rfl rfl) ?_
  refine PySem.ks_wpAny_isType_cls hD1 hD2 ⟨rfl, ?_⟩
  refine PySem.ks_wpAny_call_super hD1 hD2 ho rfl (fun c z => by cases z) (PySem.W.looks_mroIn kIn0 T.sub) (fun h2 e2 k2 => ?_)
  have kIn2 : K.In h2 := kIn0.keeps k2
  have IA2 : PySem.W.InstAt h2 a { cls := .ref C, dict := none, data := .fields #[.ref t1, .none, .none, .none, .bool false, .none] } C none := ⟨k2 _ _ ho, rfl, rfl, trivial⟩
  refine PySem.W.kxs_getMethod PySem.W.kxs_ValueError e2 (PySem.W.looks_opaque kIn2 T.any) (l₀ := cdC.mro) (fun A Q E s k q => wpAny_bind ((PySem.W.looks_clsIn kIn2 hcdC) A _ E s k (wpAny_pure q))) rfl kIn2 hini (IA2.type.andThen (PySem.W.looks_subIn kIn2 T.isVE)) hxC (by decide) ?_
  have k3 : ∀ b o, h₀.get? b = some o → (h2.push (PySem.W.kxs_mw "ValueError.__init__" a)).get? b = some o := fun b o z => Heap.get?_push_of_some _ (k2 b o z)
  have I2 := I.kept (h' := h2) (t' := s.toks + (((("self" : Str)) :: ps).zip (Value.ref a :: us')).length + 1) k2
  have I3 := I2.kept (h' := h2.push (PySem.W.kxs_mw "ValueError.__init__" a)) (t' := s.toks + (((("self" : Str)) :: ps).zip (Value.ref a :: us')).length + 1) fun b o z => Heap.get?_push_of_some _ z
  have hu : (h2.push (PySem.W.kxs_mw "ValueError.__init__" a)).get? h2.objs.size = some (PySem.W.kxs_mw "ValueError.__init__" a) := Heap.get?_push_at rfl rfl
  have I4 := I3.pins_of (pins' := [(h2.objs.size, PySem.W.kxs_mw "ValueError.__init__" a)]) fun p hp => by
    rw [List.mem_singleton.mp hp]
    exact ⟨hu, I2.hok.fresh (Nat.le_refl _), Nat.ne_of_gt I2.lt, I2.nofs (Nat.le_refl _), fun v z => by cases z⟩
  rw [hst]
  refine PySem.W.kxs_callWith (i := "ValueError.__init__") (x := a) rfl (Calls.evalArgs_plain ?_)
  have hrun := ha.run p4 [(h2.objs.size, PySem.W.kxs_mw "ValueError.__init__" a)] _ _ _ _ I4 hq
  rw [show starEach [e] (cxS CX P w K mg base ((("self" : Str)) :: ps) qual scope fI (.ref cda) cc A outer s H E).env = (false, eval e _) :: starEach [] _ from hst _] at hrun
  refine wpAny_mono hrun (fun vs4 s4 ⟨ws, H4, J4, rv4, hl4, he4, q4⟩ => ?_) fun _ _ z => z
  have hu4 := (J4.pin (h2.objs.size, PySem.W.kxs_mw "ValueError.__init__" a) (List.mem_append_right _ List.mem_cons_self)).1
  refine ⟨hu4, ?_⟩
  have hlen : vs4.length ≤ sizeLine := by
    rw [← Paired.length rv4, sizeLine_eq]
    omega
  refine sup_call (X := cxS CX P w K mg base ((("self" : Str)) :: ps) qual scope fI (.ref cda) cc A outer s H E) (us := [] ++ vs4) T.ex J4 he4 hu4 hlen fun s5 J5 => ?_
  refine wpAt_of_wpAny ?_
  have J6 : Inv (cxS CX P w K mg base ((("self" : Str)) :: ps) qual scope fI (.ref cda) cc A outer s H E) [] (L2.start ((("self" : Str)) :: ps) (V.ref a :: xs)) H4 s5 := J5.pins_of fun p hp => absurd hp (by simp)
  refine wpAny_mono (ht.run [] s5 _ H4 _ J6 q4) (fun fl s' hs => ?_) fun e s' hs => hs
  have fin : ∀ {σ' : L2.St} {H' : Hp} {v : V} {u : Value}, Inv (cxS CX P w K mg base ((("self" : Str)) :: ps) qual scope fI (.ref cda) cc A outer s H E) [] σ' H' s' → RelV v u → Q v H' → CE outer P w H s Q u s' :=
    fun {σ' H' v u} J rv q => ⟨v, H', J.os, J.bare, J.base, J.hok, rv, q⟩
  cases fl with
  | ret u =>
    obtain ⟨v, σ', H', J, rv, q⟩ := hs
    exact fin J rv q
  | next =>
    obtain ⟨σ', H', J, q⟩ := hs
    exact fin (v := V.non) (u := Value.none) J rfl q
  | brk =>
    obtain ⟨_, _, _, q⟩ := hs
    exact False.elim q
  | cont =>
    obtain ⟨_, _, _, q⟩ := hs
    exact False.elim q
end
end Y


set_option Elab.async false
set_option linter.all false
set_option maxRecDepth 100000
set_option maxHeartbeats 4000000
/-! YX3: the exceptions of the program: InputError(code), TextError(code, at), Refused(name, place, why): made. -/
namespace Y
open PySem PySem.Spec PyProof.Rows L2
/-- a part of the text that super().__init__ is told -/
def okx : V → Prop
  | .str y => y.length ≤ 1000
  | .int i => i.natAbs < 10 ^ 100
  | _ => False
theorem okx_int {i : Int} (h : i.natAbs < 10 ^ 100) : i.natAbs.log2 < 1920 := by
  by_cases hz : i.natAbs = 0
  · rw [hz]; decide
  · refine (Nat.log2_lt hz).mpr (Nat.lt_of_lt_of_le h ?_)
    decide +kernel
/-- the parts of the f-string: told texts and parameters -/
inductive FPart where
  | lit (x : Str) | par (i : Nat)
def txtOf (x : V) : Str := match x with
  | .str y => y
  | .int i => toString i
  | _ => Str.empty
theorem txt_len {x : V} (h : okx x) : (txtOf x).length ≤ 1000 := by
  cases x with
  | str y => exact h
  | int i =>
    have := int_text_length_le10 (a := i) (k := 100) (by decide) h
    show (Str.ofString (toString i)).length ≤ _
    rw [PySem.ofString_length]
    omega
  | _ => exact h.elim
def Near (a dx : Addr) (H H' : Hp) : Prop := ∀ b, b ≠ a → b ≠ dx → H' b = H b
/-- an exception that is made: the fields of its dict -/
def spSup (C : Addr) (ps : List Str) : Sp := fun vs H Q _ => ∃ a xs, vs = .ref a :: xs ∧ xs.length = ps.length ∧ (∀ x ∈ xs, okx x) ∧ H a = some (exo a C none) ∧
  ∀ dx H', dx ≠ a → H dx = none → H' a = some (exo a C (some dx)) → H' dx = some (exd dx (ps.zip xs).reverse) → Near a dx H H' → Q .non H'
section
variable {X : Cx} {x1 x2 x3 : V} {z1 z2 : Str}
theorem fmt_at {i : Nat} {σ : L2.St} {H : Hp} {x : V} {R : V → Hp → Prop} (e : σ[i]? = some (some x)) (h : okx x) (q : R (.str (txtOf x)) H) : tFmt (tVar i) σ H R := by
  refine ⟨x, e, ?_⟩
  cases x with
  | str y => exact .inl ⟨y, rfl, by rw [sizeLine_eq]; exact Nat.le_trans h (by decide), q⟩
  | int i => exact .inr ⟨i, rfl, okx_int h, q⟩
  | _ => exact h.elim
end

section
variable {CX : CXT} {P : Program} {w : World} {K : PySem.W.Frag} {mg : Str → Option Value} {base : Heap} {k : Nat} {name qual : Str} {params : Arguments} {scope : Scope} {fI cc cda C : Addr} {dV kV doc pm ct oc : Value} {an od : Option Addr} {osl : Array (Option Value)}
theorem ka_var {N : List Str} {f : Addr} {cd : Value} {A : Around} {outer : List PySem.Env} {s : Shared} {H : Hp} {E : XK} {x : Str} {pos : Pos} (i : Nat) (S : SupScope N scope) (h : N[i]? = some x) (hd : (x == ("__debug__" : Str)) = false) (hcd : (x == ("__classdict__" : Str)) = false) : PE (cxS CX P w K mg base N qual scope f cd cc A outer s H E) (.Name x pos) (tVar i) :=
  pe_var (X := cxS CX P w K mg base N qual scope f cd cc A outer s H E) h (.inl (S.par x (List.mem_of_getElem? h))) hd hcd

theorem sup1_ok {f1 z1 : Str} {p0 p1 p2 p4 p5 q0 q01 q02 q03 r01 r02 r03 r04 : Pos} {j0 : Nat} (T : SupC P K mg C fI cc cda)
    (lk : K.lookup fI = some ⟨oc, od, .func (PySem.W.ksFn name qual params (.Expr (.Call (.Attribute (.Call (.Name "super" p0) [] [] p1) "__init__" p2) [.JoinedStr [.Constant (.str z1) j0 q01, .FormattedValue (.Name f1 q02) (-1) none q03] q0] [] p4) p5 :: [.Assign [.Attribute (.Name "self" r01) f1 r02] (.Name f1 r03) r04]) scope dV kV doc pm an (.ref cda) ct cc), osl⟩) (hcd : PySem.W.codeIn K (.ref cda) qual = true)
    (S : SupScope [("self" : Str), f1] scope) (hpar : ∃ ar, (params.posonlyargs ++ params.args).head? = some ar ∧ ar.arg = ("self" : Str)) (d0 : (f1 == ("__debug__" : Str)) = false) (e0 : (f1 == ("__classdict__" : Str)) = false) (n0 : PySem.W.findIn K (.ref C) f1 = some none) (l0 : z1.length ≤ 100)
    (hev : ∀ env, ∃ pl, eval (.Call (.Attribute (.Call (.Name "super" p0) [] [] p1) "__init__" p2) [.JoinedStr [.Constant (.str z1) j0 q01, .FormattedValue (.Name f1 q02) (-1) none q03] q0] [] p4) env = (do
      let ov ← attributeBase (.Call (.Name "super" p0) [] [] p1) "__init__" env (eval (.Call (.Name "super" p0) [] [] p1) env)
      standAt p2.atName
      let (f, first) ← holding [ov] (getMethod ov "__init__" pl)
      callWith p4 f first (backTo p4 (starEach [.JoinedStr [.Constant (.str z1) j0 q01, .FormattedValue (.Name f1 q02) (-1) none q03] q0] env)) [])) :
    FnOk P w K mg base CX (k + 1) fI (PySem.W.ksFn name qual params (.Expr (.Call (.Attribute (.Call (.Name "super" p0) [] [] p1) "__init__" p2) [.JoinedStr [.Constant (.str z1) j0 q01, .FormattedValue (.Name f1 q02) (-1) none q03] q0] [] p4) p5 :: [.Assign [.Attribute (.Name "self" r01) f1 r02] (.Name f1 r03) r04]) scope dV kV doc pm an (.ref cda) ct cc) [("self" : Str), f1] (spSup C [f1]) := by
  refine init_ok (ps := [f1]) (ta := tCons (fun σ H Q => tJs [tC (.str z1), tFmt (tVar 1)] Str.empty σ H fun out H1 => Q (.str out) H1) tNil) T lk hcd S hpar ?_ (fun A outer s H E => pa_cons (pe_joined (.cons pe_str (.cons (pe_fmt (ka_var 1 S rfl d0 e0)) PJ.nil))) pa_nil) ?_ (fun env => by rfl) hev (fun env => by rfl)
  · rintro vs H Q E ⟨a, xs, rfl, hl, _⟩
    simp [hl]
  · rintro A outer s H vs Q E ⟨a, xs, rfl, hl, hx, hH, kk⟩
    obtain ⟨x1, rfl⟩ : ∃ x1, xs = [x1] := by
      match xs, hl with
      | [x1], _ => exact ⟨x1, rfl⟩
    have g1 : okx x1 := hx _ (by simp)
    have t1 := txt_len g1
    refine ⟨a, [x1], rfl, hH, _, (pss_one (ps_ost (ka_var 0 S rfl (by decide) (by decide)) (ka_var 1 S rfl d0 e0) (by rfl))), ?_⟩
    have zl : (16777216 : Nat) = sizeLine := sizeLine_eq.symm
    have ze : Str.empty.length = 0 := rfl
    refine ⟨z1, rfl, by simp only [Str.length_append, ze]; omega, ?_⟩
    refine fmt_at (x := x1) rfl g1 ⟨_, rfl, by simp only [Str.length_append, ze]; omega, ?_⟩
    refine ⟨by simp, hH, ?_⟩
    refine ⟨x1, rfl, .ref a, rfl, a, C, rfl, T.ex, n0, .inl ⟨hH, fun dx hd hne => ?_⟩⟩
    have ea : ∀ (H2 : Hp), upd H2 a (exo a C (some dx)) a = some (exo a C (some dx)) := fun H2 => upd_same
    refine kk dx _ hne hd (by exact upd_same) (by rw [upd_ne hne]; exact upd_same) ?_
    intro b h1 h2
    exact (upd_ne h1).trans (upd_ne h2)

theorem sup2_ok {f1 f2 z1 z2 : Str} {p0 p1 p2 p4 p5 q0 q01 q02 q03 q11 q12 q13 r01 r02 r03 r04 r11 r12 r13 r14 : Pos} {j0 j1 : Nat} (T : SupC P K mg C fI cc cda)
    (lk : K.lookup fI = some ⟨oc, od, .func (PySem.W.ksFn name qual params (.Expr (.Call (.Attribute (.Call (.Name "super" p0) [] [] p1) "__init__" p2) [.JoinedStr [.Constant (.str z1) j0 q01, .FormattedValue (.Name f1 q02) (-1) none q03, .Constant (.str z2) j1 q11, .FormattedValue (.Name f2 q12) (-1) none q13] q0] [] p4) p5 :: [.Assign [.Attribute (.Name "self" r01) f1 r02] (.Name f1 r03) r04, .Assign [.Attribute (.Name "self" r11) f2 r12] (.Name f2 r13) r14]) scope dV kV doc pm an (.ref cda) ct cc), osl⟩) (hcd : PySem.W.codeIn K (.ref cda) qual = true)
    (S : SupScope [("self" : Str), f1, f2] scope) (hpar : ∃ ar, (params.posonlyargs ++ params.args).head? = some ar ∧ ar.arg = ("self" : Str)) (d0 : (f1 == ("__debug__" : Str)) = false) (e0 : (f1 == ("__classdict__" : Str)) = false) (n0 : PySem.W.findIn K (.ref C) f1 = some none) (l0 : z1.length ≤ 100) (d1 : (f2 == ("__debug__" : Str)) = false) (e1 : (f2 == ("__classdict__" : Str)) = false) (n1 : PySem.W.findIn K (.ref C) f2 = some none) (l1 : z2.length ≤ 100)
    (hev : ∀ env, ∃ pl, eval (.Call (.Attribute (.Call (.Name "super" p0) [] [] p1) "__init__" p2) [.JoinedStr [.Constant (.str z1) j0 q01, .FormattedValue (.Name f1 q02) (-1) none q03, .Constant (.str z2) j1 q11, .FormattedValue (.Name f2 q12) (-1) none q13] q0] [] p4) env = (do
      let ov ← attributeBase (.Call (.Name "super" p0) [] [] p1) "__init__" env (eval (.Call (.Name "super" p0) [] [] p1) env)
      standAt p2.atName
      let (f, first) ← holding [ov] (getMethod ov "__init__" pl)
      callWith p4 f first (backTo p4 (starEach [.JoinedStr [.Constant (.str z1) j0 q01, .FormattedValue (.Name f1 q02) (-1) none q03, .Constant (.str z2) j1 q11, .FormattedValue (.Name f2 q12) (-1) none q13] q0] env)) [])) :
    FnOk P w K mg base CX (k + 1) fI (PySem.W.ksFn name qual params (.Expr (.Call (.Attribute (.Call (.Name "super" p0) [] [] p1) "__init__" p2) [.JoinedStr [.Constant (.str z1) j0 q01, .FormattedValue (.Name f1 q02) (-1) none q03, .Constant (.str z2) j1 q11, .FormattedValue (.Name f2 q12) (-1) none q13] q0] [] p4) p5 :: [.Assign [.Attribute (.Name "self" r01) f1 r02] (.Name f1 r03) r04, .Assign [.Attribute (.Name "self" r11) f2 r12] (.Name f2 r13) r14]) scope dV kV doc pm an (.ref cda) ct cc) [("self" : Str), f1, f2] (spSup C [f1, f2]) := by
  refine init_ok (ps := [f1, f2]) (ta := tCons (fun σ H Q => tJs [tC (.str z1), tFmt (tVar 1), tC (.str z2), tFmt (tVar 2)] Str.empty σ H fun out H1 => Q (.str out) H1) tNil) T lk hcd S hpar ?_ (fun A outer s H E => pa_cons (pe_joined (.cons pe_str (.cons (pe_fmt (ka_var 1 S rfl d0 e0)) (.cons pe_str (.cons (pe_fmt (ka_var 2 S rfl d1 e1)) PJ.nil))))) pa_nil) ?_ (fun env => by rfl) hev (fun env => by rfl)
  · rintro vs H Q E ⟨a, xs, rfl, hl, _⟩
    simp [hl]
  · rintro A outer s H vs Q E ⟨a, xs, rfl, hl, hx, hH, kk⟩
    obtain ⟨x1, x2, rfl⟩ : ∃ x1 x2, xs = [x1, x2] := by
      match xs, hl with
      | [x1, x2], _ => exact ⟨x1, x2, rfl⟩
    have g1 : okx x1 := hx _ (by simp)
    have t1 := txt_len g1
    have g2 : okx x2 := hx _ (by simp)
    have t2 := txt_len g2
    refine ⟨a, [x1, x2], rfl, hH, _, (pss_cons (ps_ost (ka_var 0 S rfl (by decide) (by decide)) (ka_var 1 S rfl d0 e0) (by rfl)) (pss_one (ps_ost (ka_var 0 S rfl (by decide) (by decide)) (ka_var 2 S rfl d1 e1) (by rfl)))), ?_⟩
    have zl : (16777216 : Nat) = sizeLine := sizeLine_eq.symm
    have ze : Str.empty.length = 0 := rfl
    refine ⟨z1, rfl, by simp only [Str.length_append, ze]; omega, ?_⟩
    refine fmt_at (x := x1) rfl g1 ⟨_, rfl, by simp only [Str.length_append, ze]; omega, ?_⟩
    refine ⟨z2, rfl, by simp only [Str.length_append, ze]; omega, ?_⟩
    refine fmt_at (x := x2) rfl g2 ⟨_, rfl, by simp only [Str.length_append, ze]; omega, ?_⟩
    refine ⟨by simp, hH, ?_⟩
    refine ⟨x1, rfl, .ref a, rfl, a, C, rfl, T.ex, n0, .inl ⟨hH, fun dx hd hne => ?_⟩⟩
    have ea : ∀ (H2 : Hp), upd H2 a (exo a C (some dx)) a = some (exo a C (some dx)) := fun H2 => upd_same
    refine ⟨x2, rfl, .ref a, rfl, a, C, rfl, T.ex, n1, .inr ⟨dx, _, upd_same, (by rw [upd_ne hne]; exact upd_same), by simp, ?_⟩⟩
    refine kk dx _ hne hd (by rw [upd_ne (Ne.symm hne)]; exact upd_same) upd_same ?_
    intro b h1 h2
    rw [upd_ne h2]; exact (upd_ne h1).trans (upd_ne h2)

theorem sup3_ok {f1 f2 f3 z1 z2 z3 : Str} {p0 p1 p2 p4 p5 q0 q01 q02 q03 q11 q12 q13 q21 q22 q23 r01 r02 r03 r04 r11 r12 r13 r14 r21 r22 r23 r24 : Pos} {j0 j1 j2 : Nat} (T : SupC P K mg C fI cc cda)
    (lk : K.lookup fI = some ⟨oc, od, .func (PySem.W.ksFn name qual params (.Expr (.Call (.Attribute (.Call (.Name "super" p0) [] [] p1) "__init__" p2) [.JoinedStr [.Constant (.str z1) j0 q01, .FormattedValue (.Name f1 q02) (-1) none q03, .Constant (.str z2) j1 q11, .FormattedValue (.Name f2 q12) (-1) none q13, .Constant (.str z3) j2 q21, .FormattedValue (.Name f3 q22) (-1) none q23] q0] [] p4) p5 :: [.Assign [.Attribute (.Name "self" r01) f1 r02] (.Name f1 r03) r04, .Assign [.Attribute (.Name "self" r11) f2 r12] (.Name f2 r13) r14, .Assign [.Attribute (.Name "self" r21) f3 r22] (.Name f3 r23) r24]) scope dV kV doc pm an (.ref cda) ct cc), osl⟩) (hcd : PySem.W.codeIn K (.ref cda) qual = true)
    (S : SupScope [("self" : Str), f1, f2, f3] scope) (hpar : ∃ ar, (params.posonlyargs ++ params.args).head? = some ar ∧ ar.arg = ("self" : Str)) (d0 : (f1 == ("__debug__" : Str)) = false) (e0 : (f1 == ("__classdict__" : Str)) = false) (n0 : PySem.W.findIn K (.ref C) f1 = some none) (l0 : z1.length ≤ 100) (d1 : (f2 == ("__debug__" : Str)) = false) (e1 : (f2 == ("__classdict__" : Str)) = false) (n1 : PySem.W.findIn K (.ref C) f2 = some none) (l1 : z2.length ≤ 100) (d2 : (f3 == ("__debug__" : Str)) = false) (e2 : (f3 == ("__classdict__" : Str)) = false) (n2 : PySem.W.findIn K (.ref C) f3 = some none) (l2 : z3.length ≤ 100)
    (hev : ∀ env, ∃ pl, eval (.Call (.Attribute (.Call (.Name "super" p0) [] [] p1) "__init__" p2) [.JoinedStr [.Constant (.str z1) j0 q01, .FormattedValue (.Name f1 q02) (-1) none q03, .Constant (.str z2) j1 q11, .FormattedValue (.Name f2 q12) (-1) none q13, .Constant (.str z3) j2 q21, .FormattedValue (.Name f3 q22) (-1) none q23] q0] [] p4) env = (do
      let ov ← attributeBase (.Call (.Name "super" p0) [] [] p1) "__init__" env (eval (.Call (.Name "super" p0) [] [] p1) env)
      standAt p2.atName
      let (f, first) ← holding [ov] (getMethod ov "__init__" pl)
      callWith p4 f first (backTo p4 (starEach [.JoinedStr [.Constant (.str z1) j0 q01, .FormattedValue (.Name f1 q02) (-1) none q03, .Constant (.str z2) j1 q11, .FormattedValue (.Name f2 q12) (-1) none q13, .Constant (.str z3) j2 q21, .FormattedValue (.Name f3 q22) (-1) none q23] q0] env)) [])) :
    FnOk P w K mg base CX (k + 1) fI (PySem.W.ksFn name qual params (.Expr (.Call (.Attribute (.Call (.Name "super" p0) [] [] p1) "__init__" p2) [.JoinedStr [.Constant (.str z1) j0 q01, .FormattedValue (.Name f1 q02) (-1) none q03, .Constant (.str z2) j1 q11, .FormattedValue (.Name f2 q12) (-1) none q13, .Constant (.str z3) j2 q21, .FormattedValue (.Name f3 q22) (-1) none q23] q0] [] p4) p5 :: [.Assign [.Attribute (.Name "self" r01) f1 r02] (.Name f1 r03) r04, .Assign [.Attribute (.Name "self" r11) f2 r12] (.Name f2 r13) r14, .Assign [.Attribute (.Name "self" r21) f3 r22] (.Name f3 r23) r24]) scope dV kV doc pm an (.ref cda) ct cc) [("self" : Str), f1, f2, f3] (spSup C [f1, f2, f3]) := by
  refine init_ok (ps := [f1, f2, f3]) (ta := tCons (fun σ H Q => tJs [tC (.str z1), tFmt (tVar 1), tC (.str z2), tFmt (tVar 2), tC (.str z3), tFmt (tVar 3)] Str.empty σ H fun out H1 => Q (.str out) H1) tNil) T lk hcd S hpar ?_ (fun A outer s H E => pa_cons (pe_joined (.cons pe_str (.cons (pe_fmt (ka_var 1 S rfl d0 e0)) (.cons pe_str (.cons (pe_fmt (ka_var 2 S rfl d1 e1)) (.cons pe_str (.cons (pe_fmt (ka_var 3 S rfl d2 e2)) PJ.nil))))))) pa_nil) ?_ (fun env => by rfl) hev (fun env => by rfl)
  · rintro vs H Q E ⟨a, xs, rfl, hl, _⟩
    simp [hl]
  · rintro A outer s H vs Q E ⟨a, xs, rfl, hl, hx, hH, kk⟩
    obtain ⟨x1, x2, x3, rfl⟩ : ∃ x1 x2 x3, xs = [x1, x2, x3] := by
      match xs, hl with
      | [x1, x2, x3], _ => exact ⟨x1, x2, x3, rfl⟩
    have g1 : okx x1 := hx _ (by simp)
    have t1 := txt_len g1
    have g2 : okx x2 := hx _ (by simp)
    have t2 := txt_len g2
    have g3 : okx x3 := hx _ (by simp)
    have t3 := txt_len g3
    refine ⟨a, [x1, x2, x3], rfl, hH, _, (pss_cons (ps_ost (ka_var 0 S rfl (by decide) (by decide)) (ka_var 1 S rfl d0 e0) (by rfl)) (pss_cons (ps_ost (ka_var 0 S rfl (by decide) (by decide)) (ka_var 2 S rfl d1 e1) (by rfl)) (pss_one (ps_ost (ka_var 0 S rfl (by decide) (by decide)) (ka_var 3 S rfl d2 e2) (by rfl))))), ?_⟩
    have zl : (16777216 : Nat) = sizeLine := sizeLine_eq.symm
    have ze : Str.empty.length = 0 := rfl
    refine ⟨z1, rfl, by simp only [Str.length_append, ze]; omega, ?_⟩
    refine fmt_at (x := x1) rfl g1 ⟨_, rfl, by simp only [Str.length_append, ze]; omega, ?_⟩
    refine ⟨z2, rfl, by simp only [Str.length_append, ze]; omega, ?_⟩
    refine fmt_at (x := x2) rfl g2 ⟨_, rfl, by simp only [Str.length_append, ze]; omega, ?_⟩
    refine ⟨z3, rfl, by simp only [Str.length_append, ze]; omega, ?_⟩
    refine fmt_at (x := x3) rfl g3 ⟨_, rfl, by simp only [Str.length_append, ze]; omega, ?_⟩
    refine ⟨by simp, hH, ?_⟩
    refine ⟨x1, rfl, .ref a, rfl, a, C, rfl, T.ex, n0, .inl ⟨hH, fun dx hd hne => ?_⟩⟩
    have ea : ∀ (H2 : Hp), upd H2 a (exo a C (some dx)) a = some (exo a C (some dx)) := fun H2 => upd_same
    refine ⟨x2, rfl, .ref a, rfl, a, C, rfl, T.ex, n1, .inr ⟨dx, _, upd_same, (by rw [upd_ne hne]; exact upd_same), by simp, ?_⟩⟩
    refine ⟨x3, rfl, .ref a, rfl, a, C, rfl, T.ex, n2, .inr ⟨dx, _, (by rw [upd_ne (Ne.symm hne)]; exact upd_same), upd_same, by simp, ?_⟩⟩
    refine kk dx _ hne hd (by rw [upd_ne (Ne.symm hne)]; rw [upd_ne (Ne.symm hne)]; exact upd_same) upd_same ?_
    intro b h1 h2
    rw [upd_ne h2]; rw [upd_ne h2]; exact (upd_ne h1).trans (upd_ne h2)
end
end Y


set_option Elab.async false
set_option linter.all false
set_option maxRecDepth 100000
set_option maxHeartbeats 4000000
/-! YX4: raise, try, calls that may raise: the readings. -/
namespace Y
open PySem PySem.Spec PyProof.Rows L2
/-- what is wanted of an exception, at the names' values -/
abbrev DW := Env → DX
def upX (K : PySem.W.Frag) (B : Hp) (W : DW) : WX := fun cls d σ H => ∃ F M δ fs dx vs, Le B F ∧ Stt K H F M ∧ RepS K F σ δ ∧ d = some dx ∧ F dx = some (.xd vs) ∧ RepKV K F vs fs ∧ W δ cls fs M
/-- a call's exception, at the caller's names -/
theorem LX.up {K : PySem.W.Frag} {B F : Hp} {W : DW} {σ : Sg} {δ : Env} (lb : Le B F) (rs : RepS K F σ δ) : ∀ c od H', LX K F (W δ) c od H' → upX K B W c od σ H' := fun c od H' ⟨F', M', fs, dx, vs, l, S, e, h, r, w⟩ => ⟨F', M', δ, fs, dx, vs, lb.trans l, S, rs.le l, e, h, r, w⟩

section
variable {X : Cx} {B : Hp} {W : DW} {x m : Str} {p pos apos : Pos} {e o : Expr} {es : List Expr} {t : DA} {ta : DE} {j k : Nat} {ps : List Str} {s : DSp}
/-- f(..), f may raise -/
def dCallX (W : DW) (s : DSp) (t : DA) : DE := fun δ M Q => t δ M fun ds M1 => s ds M1 Q (W δ)
theorem up_callX {K : PySem.W.Frag} {σ : Sg} {H : Hp} {Q : VK} (h : up K B (dCallX W s t) σ H Q) : tCallS (spOf K s) (WE (upX K B W)) (upA K B t) σ H Q := by
  obtain ⟨F, M, δ, Q', lb, S, rs, h, kk⟩ := h
  refine ⟨F, M, δ, _, lb, S, rs, h, fun vs H1 ⟨F1, M1, ds, l1, S1, r1, h1⟩ => ?_⟩
  exact ⟨F1, M1, ds, _, _, S1, r1, h1, fun v H' q => kk v H' (q.le l1), LX.up (lb.trans l1) (rs.le l1)⟩
theorem q_cX (c : Cal X.prog X.w X.K X.mg X.base (L2.CX X.prog X.w) j x ps s) (hr : Room k X.A) (hk : j ≤ k) (hg : Gl X x) (tk : Takes X (upX X.K B W)) (ha : PA X (e :: es) (upA X.K B t))
    (hd : (x == ("__debug__" : Str)) = false := by decide) (he : starEach (e :: es) X.env = (false, eval e X.env) :: starEach es X.env := by rfl) (hpl : (backTo pos (starEach es X.env)).any (·.1) = false := by rfl) : PE X (.Call (.Name x p) (e :: es) [] pos) (up X.K B (dCallX W s t)) :=
  let ⟨_, _, a, b, d, F⟩ := c.ex
  PE.wk (pe_callS F (hr.mono hk) hg a b d (fun σ => passAt tk σ) ha hd he hpl) fun _ _ _ h => up_callX h
/-- f(..), f may raise, but does not here -/
theorem q_cN (c : Cal X.prog X.w X.K X.mg X.base (L2.CX X.prog X.w) j x ps s) (hr : Room k X.A) (hk : j ≤ k) (hg : Gl X x) (ha : PA X (e :: es) (upA X.K B t))
    (hd : (x == ("__debug__" : Str)) = false := by decide) (he : starEach (e :: es) X.env = (false, eval e X.env) :: starEach es X.env := by rfl) (hpl : (backTo pos (starEach es X.env)).any (·.1) = false := by rfl) : PE X (.Call (.Name x p) (e :: es) [] pos) (up X.K B (dCall s t)) :=
  let ⟨_, _, a, b, d, F⟩ := c.ex
  q_call F (hr.mono hk) hg a b d passL ha hd he hpl

/-! ### methods that may raise -/
def tMethS' (C : Addr) (m : Str) (sp : Sp) (E : L2.St → XK) (ta : TE) (t : TA) : TE := fun σ H Q => ta σ H fun x H1 => ∃ a dx fs, x = .ref a ∧ H1 a = some (.ins C dx fs) ∧ fs.lookup m = none ∧ t σ H1 fun vs H2 => sp (x :: vs) H2 Q (E σ)
section
variable {CX : CXT} {C f : Addr} {fd : FuncData} {sp : Sp} {E : L2.St → XK} {tb : TE} {tt : TA}
theorem pe_methX {pl : Sem Bool} (he : PE X o tb) (c : Cls X.K C) (hm : Meth X.K C m f) (F : FnOk X.prog X.w X.K X.mg X.base CX k f fd ps sp) (hr : Room k X.A) (hb : Binds X.K fd ps []) (hx : ∀ σ, PassesAt CX X σ (E σ)) (ha : PA X (e :: es) tt)
    (hst : starEach (e :: es) X.env = (false, eval e X.env) :: starEach es X.env := by rfl) (hpl : (backTo pos (starEach es X.env)).any (·.1) = false := by rfl)
    (ht : eval (.Call (.Attribute o m apos) (e :: es) [] pos) X.env = (do
      let ov ← eval o X.env
      standAt apos.atName
      let (f, first) ← holding [ov] (getMethod ov m pl)
      callWith pos f first (backTo pos (starEach (e :: es) X.env)) (backToKw pos (keywordEach [] X.env))) := by rfl) :
    PE X (.Call (.Attribute o m apos) (e :: es) [] pos) (tMethS' C m sp E tb tt) := by
  refine ⟨fun pins s σ H Q I h => ?_⟩
  refine PySem.W.methodCall_KW (pl := pl) (thn (he.run pins s σ H _ I h) fun u s1 ⟨x, H1, I1, rx, a, dx, fs, ex, ea, l, q⟩ => ?_) ht
  subst ex
  obtain rfl : u = Value.ref a := rx
  refine getmeth_ok I1 ea c hm l ?_
  refine PySem.W.callWith_K (first := [.ref a]) (h₀ := X.base) I.ok.mod.kin hm.kp (thn (ha.run pos pins s1 σ H1 _ I1 q) fun us s2 ⟨vs, H2, I2, r, q2⟩ => ⟨I2.kIn, ?_⟩) hst hpl
  exact run_fnS (us := .ref a :: us) (vs := .ref a :: vs) F hr hb (hx σ) I2 (.cons rfl r) q2
theorem pe_methX0 {pl : Sem Bool} (he : PE X o tb) (c : Cls X.K C) (hm : Meth X.K C m f) (F : FnOk X.prog X.w X.K X.mg X.base CX k f fd ps sp) (hr : Room k X.A) (hb : Binds X.K fd ps []) (hx : ∀ σ, PassesAt CX X σ (E σ))
    (ht : eval (.Call (.Attribute o m apos) [] [] pos) X.env = (do
      let ov ← eval o X.env
      standAt apos.atName
      let (f, first) ← holding [ov] (getMethod ov m pl)
      callWith pos f first (backTo pos (starEach [] X.env)) (backToKw pos (keywordEach [] X.env))) := by rfl) :
    PE X (.Call (.Attribute o m apos) [] [] pos) (tMethS' C m sp E tb tNil) := by
  refine ⟨fun pins s σ H Q I h => ?_⟩
  refine PySem.W.methodCall_KW (pl := pl) (thn (he.run pins s σ H _ I h) fun u s1 ⟨x, H1, I1, rx, a, dx, fs, ex, ea, l, q⟩ => ?_) ht
  subst ex
  obtain rfl : u = Value.ref a := rx
  refine getmeth_ok I1 ea c hm l ?_
  exact PySem.W.callWith_K0 (first := [.ref a]) I1.kIn hm.kp (run_fnS (us := [.ref a]) (vs := [.ref a]) F hr hb (hx σ) I1 (.cons rfl .nil) q)
end
def dMethX (W : DW) (C : Addr) (m : Str) (s : DSp) (ta : DE) (t : DA) : DE := fun δ M Q => ta δ M fun x M1 => ∃ a dx fs, x = .ref a ∧ M1 a = some (.ins C dx fs) ∧ fs.lookup m = none ∧ t δ M1 fun ds M2 => s (x :: ds) M2 Q (W δ)
theorem q_mcX {C : Addr} {pl : Sem Bool} (he : PE X o (up X.K B ta)) (c : Mcal X.prog X.w X.K X.mg X.base (L2.CX X.prog X.w) j C m ps s) (cl : Cls X.K C) (hr : Room k X.A) (hk : j ≤ k) (tk : Takes X (upX X.K B W)) (ha : PA X (e :: es) (upA X.K B t))
    (hst : starEach (e :: es) X.env = (false, eval e X.env) :: starEach es X.env := by rfl) (hpl : (backTo pos (starEach es X.env)).any (·.1) = false := by rfl)
    (ht : eval (.Call (.Attribute o m apos) (e :: es) [] pos) X.env = (do
      let ov ← eval o X.env
      standAt apos.atName
      let (f, first) ← holding [ov] (getMethod ov m pl)
      callWith pos f first (backTo pos (starEach (e :: es) X.env)) (backToKw pos (keywordEach [] X.env))) := by rfl) :
    PE X (.Call (.Attribute o m apos) (e :: es) [] pos) (up X.K B (dMethX W C m s ta t)) :=
  let ⟨_, _, a, b, F⟩ := c.ex
  PE.wk (pe_methX (pl := pl) he cl a F (hr.mono hk) b (fun σ => passAt tk σ) ha hst hpl ht) fun σ H Q ⟨F, M, δ, Q', lb, S, rs, h, k⟩ => ⟨F, M, δ, _, lb, S, rs, h, fun x H1 ⟨F1, M1, d1, l1, S1, r1, a, dx, fs, e, em, hl, h1⟩ => by
    subst e
    cases r1
    obtain ⟨xs, hx, rx⟩ := muI S1 em
    refine ⟨a, dx, xs, rfl, hx, lookup_none rx hl, F1, M1, δ, _, lb.trans l1, S1, rs.le l1, h1, fun vs H2 ⟨F2, M2, ds, l2, S2, r2, h2⟩ => ?_⟩
    exact ⟨F2, M2, _, _, _, S2, .cons (.v _) r2, h2, fun v H' q => k v H' (q.le (l1.trans l2)), LX.up (lb.trans (l1.trans l2)) (rs.le (l1.trans l2))⟩⟩
theorem q_mc0X {C : Addr} {pl : Sem Bool} (he : PE X o (up X.K B ta)) (c : Mcal X.prog X.w X.K X.mg X.base (L2.CX X.prog X.w) j C m ps s) (cl : Cls X.K C) (hr : Room k X.A) (hk : j ≤ k) (tk : Takes X (upX X.K B W))
    (ht : eval (.Call (.Attribute o m apos) [] [] pos) X.env = (do
      let ov ← eval o X.env
      standAt apos.atName
      let (f, first) ← holding [ov] (getMethod ov m pl)
      callWith pos f first (backTo pos (starEach [] X.env)) (backToKw pos (keywordEach [] X.env))) := by rfl) :
    PE X (.Call (.Attribute o m apos) [] [] pos) (up X.K B (dMethX W C m s ta dNil)) :=
  let ⟨_, _, a, b, F⟩ := c.ex
  PE.wk (pe_methX0 (pl := pl) he cl a F (hr.mono hk) b (fun σ => passAt tk σ) ht) fun σ H Q ⟨F, M, δ, Q', lb, S, rs, h, k⟩ => ⟨F, M, δ, _, lb, S, rs, h, fun x H1 ⟨F1, M1, d1, l1, S1, r1, a, dx, fs, e, em, hl, h1⟩ => by
    subst e
    cases r1
    obtain ⟨xs, hx, rx⟩ := muI S1 em
    exact ⟨a, dx, xs, rfl, hx, lookup_none rx hl, F1, M1, _, _, _, S1, .cons (.v _) .nil, h1, fun v H' q => k v H' (q.le l1), LX.up (lb.trans l1) (rs.le l1)⟩⟩
theorem q_mcN {C : Addr} {pl : Sem Bool} (he : PE X o (up X.K B ta)) (c : Mcal X.prog X.w X.K X.mg X.base (L2.CX X.prog X.w) j C m ps s) (cl : Cls X.K C) (hr : Room k X.A) (hk : j ≤ k) (ha : PA X (e :: es) (upA X.K B t))
    (hst : starEach (e :: es) X.env = (false, eval e X.env) :: starEach es X.env := by rfl) (hpl : (backTo pos (starEach es X.env)).any (·.1) = false := by rfl)
    (ht : eval (.Call (.Attribute o m apos) (e :: es) [] pos) X.env = (do
      let ov ← eval o X.env
      standAt apos.atName
      let (f, first) ← holding [ov] (getMethod ov m pl)
      callWith pos f first (backTo pos (starEach (e :: es) X.env)) (backToKw pos (keywordEach [] X.env))) := by rfl) :
    PE X (.Call (.Attribute o m apos) (e :: es) [] pos) (up X.K B (dMeth C m s ta t)) :=
  let ⟨_, _, a, b, F⟩ := c.ex
  q_meth (pl := pl) he cl a F (hr.mono hk) b passL ha hst hpl ht
theorem q_mc0N {C : Addr} {pl : Sem Bool} (he : PE X o (up X.K B ta)) (c : Mcal X.prog X.w X.K X.mg X.base (L2.CX X.prog X.w) j C m ps s) (cl : Cls X.K C) (hr : Room k X.A) (hk : j ≤ k)
    (ht : eval (.Call (.Attribute o m apos) [] [] pos) X.env = (do
      let ov ← eval o X.env
      standAt apos.atName
      let (f, first) ← holding [ov] (getMethod ov m pl)
      callWith pos f first (backTo pos (starEach [] X.env)) (backToKw pos (keywordEach [] X.env))) := by rfl) :
    PE X (.Call (.Attribute o m apos) [] [] pos) (up X.K B (dMeth C m s ta dNil)) :=
  let ⟨_, _, a, b, F⟩ := c.ex
  q_meth0 (pl := pl) he cl a F (hr.mono hk) b passL ht

/-! ### raise -/
structure Xcal (P : Program) (w : World) (K : PySem.W.Frag) (mg : Str → Option Value) (base : Heap) (k : Nat) (x : Str) (C : Addr) (fs : List Str) : Prop where
  ex : ∃ fI fd ps, OexC K C ∧ PySem.W.findIn K (.ref C) "__init__" = some (some (.ref fI)) ∧ PySem.W.typeIn K (.ref fI) = some (.type "function") ∧ mg x = some (.ref C) ∧ L2.Binds K fd ps [] ∧ FnOk P w K mg base CX0 k fI fd ps (spSup C fs)
def okxD : D → Prop
  | .v x => okx x
  | _ => False
def dRaise (W : DW) (C : Addr) (fs : List Str) (t : DA) : DS := fun _ δ M => t δ M fun ds M1 => ds.length = fs.length ∧ (∀ d ∈ ds, okxD d) ∧ W δ (.ref C) (fs.zip ds).reverse M1
theorem repKV_zip {K : PySem.W.Frag} {F : Hp} : ∀ {fs : List Str} {vs : List V} {ds : List D}, RepL K F vs ds → RepKV K F (fs.zip vs) (fs.zip ds)
  | [], _, _, _ => by simp only [List.zip_nil_left]; exact .nil
  | f :: fs, _, _, .nil => by simp only [List.zip_nil_right]; exact .nil
  | f :: fs, _, _, .cons a b => .cons ⟨rfl, a⟩ (repKV_zip b)
theorem paired_append {α β : Type} {R : α → β → Prop} {xs : List α} {ys : List β} {xs' : List α} {ys' : List β} (h : Paired R xs ys) (h' : Paired R xs' ys') : Paired R (xs ++ xs') (ys ++ ys') := by
  induction h with
  | nil => exact h'
  | cons a _ ih => exact .cons a ih
theorem repKV_rev {K : PySem.W.Frag} {F : Hp} {κ : Type} {xs : List (κ × V)} {ds : List (κ × D)} (h : RepKV K F xs ds) : RepKV K F xs.reverse ds.reverse := by
  unfold RepKV at *
  induction h with
  | nil => exact .nil
  | cons a _ ih =>
    simp only [List.reverse_cons]
    exact paired_append ih (.cons a .nil)
theorem okx_of {K : PySem.W.Frag} {F : Hp} : ∀ {vs : List V} {ds : List D}, RepL K F vs ds → (∀ d ∈ ds, okxD d) → ∀ x ∈ vs, okx x
  | _, _, .nil, _, _, h => by cases h
  | _, _, .cons a b, h, x, hx => by
    rcases List.mem_cons.mp hx with e | e
    · subst e
      have := h _ List.mem_cons_self
      cases a with
      | v => exact this
      | tup => exact this.elim
      | lst => exact this.elim
    · exact okx_of b (fun d hd => h d (List.mem_cons_of_mem _ hd)) x e
theorem qs_raise {C : Addr} {fs : List Str} {pos2 : Pos} (hc : X.calm = true) (T : Xcal X.prog X.w X.K X.mg X.base j x C fs) (hr : Room k X.A) (hk : j + 1 ≤ k) (hg : Gl X x) (tk : Takes X (upX X.K B W)) (hfs : fs.length ≤ 1000) (ha : PA X (e :: es) (upA X.K B t))
    (hd : (x == ("__debug__" : Str)) = false := by decide) (he : starEach (e :: es) X.env = (false, eval e X.env) :: starEach es X.env := by rfl) (hpl : (backTo pos (starEach es X.env)).any (·.1) = false := by rfl) : PS X (.Raise (some (.Call (.Name x p) (e :: es) [] pos)) none pos2) (upS X.K B (dRaise W C fs t)) :=
  let ⟨_, _, _, T1, iC, tI, hm, hb, F1⟩ := T.ex
  PS.wk (ps_raise hc tk (pmk_oex T1 iC tI F1 (hr.mono hk) hb .nil pass0 hg hm ha hd he hpl)) fun E σ H ⟨F, M, δ, E', lb, S, rs, h, _⟩ => ⟨F, M, δ, _, lb, S, rs, h, fun vs H1 ⟨F1, M1, ds, l1, S1, r1, hl, hx, hw⟩ => by
    refine ⟨by rw [r1.length]; omega, fun a ha => ?_⟩
    rw [List.append_nil]
    refine ⟨a, vs, rfl, by rw [r1.length]; exact hl, okx_of r1 hx, upd_same, fun dx H' hne hd e1 e2 hn => ⟨rfl, dx, _, e1, e2, ?_, ?_⟩⟩
    · rwa [upd_ne hne] at hd
    · have hd1 : H1 dx = none := by rwa [upd_ne hne] at hd
      have eh : upd (del H' a) dx (.xd (fs.zip vs).reverse) = upd H1 dx (.xd (fs.zip vs).reverse) := by
        funext b
        by_cases q1 : b = dx
        · subst q1; rw [upd_same, upd_same]
        · rw [upd_ne q1, upd_ne q1]
          by_cases q2 : b = a
          · subst q2; rw [del_same, ha]
          · rw [del_ne q2, hn b q2 q1, upd_ne q2]
      rw [eh]
      have f0 := (S1.free hd1).1
      have l2 := le_upd (o := (.xd (fs.zip vs).reverse)) f0
      exact ⟨_, M1, δ, _, dx, _, lb.trans (l1.trans l2), S1.still hd1, rs.le (l1.trans l2), rfl, upd_same, (repKV_rev (repKV_zip r1)).le l2, hw⟩⟩
end

/-! ### try -/
section
variable {X : Cx} {B : Hp} {x n : Str} {c : Value} {i : Nat} {body suite : List Stmt} {b₀ : Stmt} {np pos pos' : Pos} {tb : DW → DS} {ts : Addr → Value → List (Str × D) → DS} {Wout : DW}
def wAsD (K : PySem.W.Frag) (c : Value) (i : Nat) (ts : Addr → Value → List (Str × D) → DS) (Wout : DW) (E : DEnds) : DW := fun δ cls fs M => ∃ b, PySem.W.exmOne K cls c = some b ∧
  (b = true → ∀ a, M a = none → ts a cls fs { nx := fun δ' M' => E.nx (δ'.set i none) M', rt := E.rt, bk := fun δ' M' => E.bk (δ'.set i none) M', ct := fun δ' M' => E.ct (δ'.set i none) M' } (δ.set i (some (.ref a))) M) ∧ (b = false → Wout δ cls fs M)
def wOnlyD (K : PySem.W.Frag) (c : Value) (ts : Addr → Value → List (Str × D) → DS) (Wout : DW) (E : DEnds) : DW := fun δ cls fs M => ∃ b, PySem.W.exmOne K cls c = some b ∧
  (b = true → ∀ a, M a = none → ts a cls fs E δ M) ∧ (b = false → Wout δ cls fs M)
def dTryAs (K : PySem.W.Frag) (c : Value) (i : Nat) (tb : DW → DS) (ts : Addr → Value → List (Str × D) → DS) (Wout : DW) : DS := fun E δ M => tb (wAsD K c i ts Wout E) E δ M
def dTryOnly (K : PySem.W.Frag) (c : Value) (tb : DW → DS) (ts : Addr → Value → List (Str × D) → DS) (Wout : DW) : DS := fun E δ M => tb (wOnlyD K c ts Wout E) E δ M
/-- a try's body, for any wish that what is known of the data serves -/
def tBody (K : PySem.W.Frag) (tb : DW → DS) (W : WX) : TS := fun D σ H => ∃ (B' : Hp) (WD : DW), (∀ cls d σ H, upX K B' WD cls d σ H → W cls d σ H) ∧ upS K B' (tb WD) D σ H
/-- an except suite: what the caught exception's dict holds stands in the base -/
def tSuite (K : PySem.W.Frag) (ts : Addr → Value → List (Str × D) → DS) (a : Addr) (cls : Value) (d : Option Addr) : TS := fun EE σ H => ∃ (B1 : Hp) (dx : Addr) (vs : List (Str × V)) (fs : List (Str × D)), d = some dx ∧ B1 dx = some (.xd vs) ∧ RepKV K B1 vs fs ∧ upS K B1 (ts a cls fs) EE σ H
theorem body_of (hb : ∀ (W : DW) (B' : Hp) (pn : List (Addr × Obj)) (xe : Value → Shared → Prop), Takes (X.tr pn xe) (upX X.K B' W) → PassesOwn (model X.prog X.w) X.A X.env xe → PSs (X.tr pn xe) body (upS X.K B' (tb W))) :
    ∀ (W : WX) (pn : List (Addr × Obj)) (xe : Value → Shared → Prop), Takes (X.tr pn xe) W → PassesOwn (model X.prog X.w) X.A X.env xe → PSs (X.tr pn xe) body (tBody X.K tb W) := fun W pn xe tk hp =>
  ⟨fun pins s σ H D I ⟨B', WD, imp, h⟩ => (hb WD B' pn xe (tk.imp imp) hp).run pins s σ H D I h⟩
theorem suite_of (hsu : ∀ (a : Addr) (oe : Obj) (cls : Value) (dx : Addr) (pn : List (Addr × Obj)) (B1 : Hp) (vs : List (Str × V)) (fs : List (Str × D)), Zc cls (some dx) oe → (∃ vs, oe.data = .fields vs) → B1 dx = some (.xd vs) → RepKV X.K B1 vs fs → PSs (X.suite a ((a, oe) :: pn)) suite (upS X.K B1 (ts a cls fs))) :
    ∀ (a : Addr) (oe : Obj) (cls : Value) (d : Option Addr) (pn : List (Addr × Obj)), Zc cls d oe → (∃ vs, oe.data = .fields vs) → PSs (X.suite a ((a, oe) :: pn)) suite (tSuite X.K ts a cls d) := fun a oe cls d pn hz hf =>
  ⟨fun pins s σ H D I ⟨B1, dx, vs, fs, e, h1, h2, h⟩ => by subst e; exact (hsu a oe cls dx pn B1 vs fs hz hf h1 h2).run pins s σ H D I h⟩
theorem qs_try_as (hs : X.stack = X.env :: X.outer) (hf : X.env.frame = some X.env.locals) (hN : X.N.Nodup) (hi : X.N[i]? = some n) (hln : X.env.kindOf n = some .local) (hc : Names X x c) (tk : Takes X (upX X.K B Wout))
    (hb : ∀ (W : DW) (B' : Hp) (pn : List (Addr × Obj)) (xe : Value → Shared → Prop), Takes (X.tr pn xe) (upX X.K B' W) → PassesOwn (model X.prog X.w) X.A X.env xe → PSs (X.tr pn xe) body (upS X.K B' (tb W)))
    (hsu : ∀ (a : Addr) (oe : Obj) (cls : Value) (dx : Addr) (pn : List (Addr × Obj)) (B1 : Hp) (vs : List (Str × V)) (fs : List (Str × D)), Zc cls (some dx) oe → (∃ vs, oe.data = .fields vs) → B1 dx = some (.xd vs) → RepKV X.K B1 vs fs → PSs (X.suite a ((a, oe) :: pn)) (b₀ :: suite) (upS X.K B1 (ts a cls fs))) :
    PS X (.Try body [.ExceptHandler (some (.Name x np)) (some n) (b₀ :: suite) pos'] [] [] pos) (upS X.K B (dTryAs X.K c i tb ts Wout)) :=
  PS.wk (ps_try_as hs hf hN hi hln hc tk (body_of hb) (suite_of hsu)) fun D σ H ⟨F, M, δ, E', lb, S, rs, h, k1, k2, k3, k4⟩ =>
    ⟨F, wAsD X.K c i ts Wout E', fun cls d σ1 H1 ⟨F1, M1, δ1, fs, dx, vs, l1, S1, r1, ed, hx, rx, b, hb1, hy, hn⟩ => ⟨b, hb1, fun e a ha => ⟨F1, dx, vs, fs, ed, hx, rx, F1, M1, _, { nx := fun δ' M' => E'.nx (δ'.set i none) M', rt := E'.rt, bk := fun δ' M' => E'.bk (δ'.set i none) M', ct := fun δ' M' => E'.ct (δ'.set i none) M' }, Le.refl F1, S1, r1.set (.v _) i, hy e a (S1.free ha).2,
        fun σ' H' ⟨F2, M2, δ2, l2, S2, r2, q⟩ => k1 _ _ ⟨F2, M2, _, l1.trans l2, S2, r2.unset i, q⟩, fun v H' q => k2 _ _ (q.le l1), fun σ' H' ⟨F2, M2, δ2, l2, S2, r2, q⟩ => k3 _ _ ⟨F2, M2, _, l1.trans l2, S2, r2.unset i, q⟩, fun σ' H' ⟨F2, M2, δ2, l2, S2, r2, q⟩ => k4 _ _ ⟨F2, M2, _, l1.trans l2, S2, r2.unset i, q⟩⟩,
      fun e => ⟨F1, M1, δ1, fs, dx, vs, lb.trans l1, S1, r1, ed, hx, rx, hn e⟩⟩, F, M, δ, E', Le.refl F, S, rs, h, k1, k2, k3, k4⟩
theorem qs_try_only (hs : X.stack = X.env :: X.outer) (hf : X.env.frame = some X.env.locals) (hc : Names X x c) (tk : Takes X (upX X.K B Wout))
    (hb : ∀ (W : DW) (B' : Hp) (pn : List (Addr × Obj)) (xe : Value → Shared → Prop), Takes (X.tr pn xe) (upX X.K B' W) → PassesOwn (model X.prog X.w) X.A X.env xe → PSs (X.tr pn xe) body (upS X.K B' (tb W)))
    (hsu : ∀ (a : Addr) (oe : Obj) (cls : Value) (dx : Addr) (pn : List (Addr × Obj)) (B1 : Hp) (vs : List (Str × V)) (fs : List (Str × D)), Zc cls (some dx) oe → (∃ vs, oe.data = .fields vs) → B1 dx = some (.xd vs) → RepKV X.K B1 vs fs → PSs (X.suite a ((a, oe) :: pn)) (b₀ :: suite) (upS X.K B1 (ts a cls fs))) :
    PS X (.Try body [.ExceptHandler (some (.Name x np)) none (b₀ :: suite) pos'] [] [] pos) (upS X.K B (dTryOnly X.K c tb ts Wout)) :=
  PS.wk (ps_try_only hs hf hc tk (body_of hb) (suite_of hsu)) fun D σ H ⟨F, M, δ, E', lb, S, rs, h, k1, k2, k3, k4⟩ =>
    ⟨F, wOnlyD X.K c ts Wout E', fun cls d σ1 H1 ⟨F1, M1, δ1, fs, dx, vs, l1, S1, r1, ed, hx, rx, b, hb1, hy, hn⟩ => ⟨b, hb1, fun e a ha => ⟨F1, dx, vs, fs, ed, hx, rx, F1, M1, _, _, Le.refl F1, S1, r1, hy e a (S1.free ha).2,
        fun σ' H' q => k1 _ _ (q.le l1), fun v H' q => k2 _ _ (q.le l1), fun σ' H' q => k3 _ _ (q.le l1), fun σ' H' q => k4 _ _ (q.le l1)⟩,
      fun e => ⟨F1, M1, δ1, fs, dx, vs, lb.trans l1, S1, r1, ed, hx, rx, hn e⟩⟩, F, M, δ, E', Le.refl F, S, rs, h, k1, k2, k3, k4⟩
end

/-! ### in an except suite: e.f, isinstance(e, C) -/
section
variable {X : Cx} {B : Hp} {a dx C : Addr} {oe : Obj} {cls : Value} {pn : List (Addr × Obj)} {e : Expr} {te : DE} {pos : Pos} {f : Str} {vs : List (Str × V)} {fs : List (Str × D)}
def dXf (K : PySem.W.Frag) (a : Addr) (cls : Value) (fs : List (Str × D)) (f : Str) (te : DE) : DE := fun δ M Q => te δ M fun x M1 => x = .ref a ∧ ∃ C d, cls = .ref C ∧ XfC K C ∧ PySem.W.findIn K (.ref C) f = some none ∧ fs.lookup f = some d ∧ Q d M1
theorem q_xf (hz : Zc cls (some dx) oe) (hf : ∃ vs, oe.data = .fields vs) (hB : B dx = some (.xd vs)) (hr : RepKV X.K B vs fs) (he : PE (X.suite a ((a, oe) :: pn)) e (up X.K B te)) (hb : attributeBase e f X.env (eval e X.env) = eval e X.env := by rfl) :
    PE (X.suite a ((a, oe) :: pn)) (.Attribute e f pos) (up X.K B (dXf X.K a cls fs f te)) := by
  refine ⟨fun pins s σ H Q I ⟨F, M, δ, Q', lb, S, rs, h, k⟩ => ?_⟩
  refine attr_of hb (thn (he.run pins s σ H (fun x H1 => x = .ref a ∧ ∃ C v, cls = .ref C ∧ XfC X.K C ∧ PySem.W.findIn X.K (.ref C) f = some none ∧ H1 dx = some (.xd vs) ∧ vs.lookup f = some v ∧ Q v H1) I ⟨F, M, δ, _, lb, S, rs, h, fun x H1 ⟨F1, M1, d1, l1, S1, r1, e1, C, d, ec, xc, hno, hl, q⟩ => ?_⟩) fun u s1 hh => ?_)
  · subst e1
    cases r1
    obtain ⟨v, h1, h2⟩ := lookup_rep (hr.le (lb.trans l1)) hl
    exact ⟨rfl, C, v, ec, xc, hno, S1.fz _ _ ((lb.trans l1) _ _ hB), h1, k _ _ ⟨F1, M1, d, l1, S1, h2, q⟩⟩
  · obtain ⟨x, H1, I1, rx, ex, C, v, ec, T, hno, ea, l, q⟩ := hh
    subst ex
    obtain rfl : u = Value.ref a := rx
    subst ec
    obtain ⟨ha, _⟩ := I1.pin (a, oe) (List.mem_append_left _ List.mem_cons_self)
    obtain ⟨ws, hd⟩ := hf
    have hx : ObjOk X.prog X.w H1 s1.heap dx (.xd vs) := I1.hok dx _ ea
    obtain ⟨mA, hns, hr'⟩ := hx
    obtain ⟨od, ho, hl'⟩ := lookIn_ns hns
    obtain ⟨u, hu, ru⟩ := RelO.some_of (v := v) (o := mA f) (by rw [← l]; exact hr' f)
    have J : PySem.W.InstAt s1.heap a oe C (some od) := ⟨ha, hz.1, by unfold PySem.W.notCls; rw [hd] <;> rfl, by rw [hz.2]; exact ho⟩
    exact HandSPX.exc_get I1.kIn J T.ga T.gg T.exC (PySem.W.findObj_own T.hdC hno rfl (by rw [hl', hu])) (handed_of ru) ⟨v, H1, I1.tok _, ru, q⟩
/-- isinstance(e, c), e the exception that the suite holds -/
def dIsE (K : PySem.W.Frag) (a : Addr) (cls : Value) (te : DE) (Cy : Addr) : DE := fun δ M Q => te δ M fun x M1 => x = .ref a ∧ ∃ C b, cls = .ref C ∧ ExcC K C ∧ PySem.W.kitOne K (.ref C) (.ref Cy) = some b ∧ Q (.bl b) M1
theorem q_isE {Cy : Addr} {y : Str} {p1 p2 : Pos} (hz : Zc cls (some dx) oe) (hf : ∃ vs, oe.data = .fields vs) (hB : B dx = some (.xd vs)) (he : PE (X.suite a ((a, oe) :: pn)) e (up X.K B te)) (hy : X.mg y = some (.ref Cy)) (hgy : Gl X y) (hm : X.mg "isinstance" = none) (hg : Gl X "isinstance")
    (hd : (y == ("__debug__" : Str)) = false := by decide)
    (hst : starEach [e, .Name y p2] (X.suite a ((a, oe) :: pn)).env = (false, eval e (X.suite a ((a, oe) :: pn)).env) :: starEach [.Name y p2] (X.suite a ((a, oe) :: pn)).env := by rfl) :
    PE (X.suite a ((a, oe) :: pn)) (.Call (.Name "isinstance" p1) [e, .Name y p2] [] pos) (up X.K B (dIsE X.K a cls te Cy)) := by
  have hcall : CallR (X.suite a ((a, oe) :: pn)) (.builtin "isinstance") (fun xs H Q => xs = [.ref a, .ref Cy] ∧ H dx = some (.xd vs) ∧ ∃ C b, cls = .ref C ∧ ExcC X.K C ∧ PySem.W.kitOne X.K (.ref C) (.ref Cy) = some b ∧ Q (.bl b) H) := by
    intro pins s σ H xs us Q I r ⟨ex, hdx, C, b, ec, T, hk, q⟩
    subst ex ec
    cases r with
    | cons rx rr =>
      cases rr with
      | cons rt rr =>
        cases rr
        cases rx
        cases rt
        obtain ⟨hget, _⟩ := I.pin (a, oe) (List.mem_append.mpr (.inl List.mem_cons_self))
        obtain ⟨ws, hv⟩ := hf
        have hx : ObjOk X.prog X.w H s.heap dx (.xd vs) := I.hok dx _ hdx
        obtain ⟨mA, hns, hr'⟩ := hx
        obtain ⟨od, ho, hl'⟩ := lookIn_ns hns
        have J : PySem.W.InstAt s.heap a oe C (some od) := ⟨hget, hz.1, by unfold PySem.W.notCls; rw [hv] <;> rfl, by rw [hz.2]; exact ho⟩
        have hcl : (PySem.W.clsIn X.K C).isSome = true := by
          obtain ⟨cd, hc, _⟩ := PySem.W.any_some T.hd
          rw [hc]; rfl
        exact PySem.W.kia_one (PySem.W.kitx_exc hcl T.hg T.hk T.hs T.ha T.hn T.ht T.hm) I.kIn J hk (fun z => nomatch z) fun tk => ⟨.bl b, H, I.kept (t' := tk) fun _ _ z => z, rfl, q⟩
  refine PE.wk (pe_callB hcall hg hm (by decide +kernel) (pa_cons he (pa_cons (pe_glob (v := .ref Cy) hgy hy rfl hd) pa_nil) hst) (by decide) (by decide) hst) fun σ H Q ⟨F, M, δ, Q', lb, S, rs, h, k⟩ => ⟨F, M, δ, _, lb, S, rs, h, fun x H1 ⟨F1, M1, d1, l1, S1, r1, e1, C, b, ec, T, hk, q⟩ => ?_⟩
  subst e1
  cases r1
  exact ⟨rfl, S1.fz _ _ ((lb.trans l1) _ _ hB), C, b, ec, T, hk, k _ _ ⟨F1, M1, _, l1, S1, .v _, q⟩⟩
end

/-! ### a def that may raise -/
section
variable {P : Program} {w : World} {K : PySem.W.Frag} {mg : Str → Option Value} {base : Heap}
def lessX (E : DX) : DX := fun c fs M => ∃ M', Sub M' M ∧ E c fs M'
theorem okDX {x qual : Str} {st : Stmt} {f : Addr} {fd : FuncData} {N ps : List Str} {k : Nat} {s : DSp} (F : Fun K x qual st f fd) (S : FnScope N ps (defScope st)) (len : ∀ ds M Q E, s ds M Q E → ds.length = ps.length)
    (hbody : ∀ (cdv : Value) (A : Around) (outer : List PySem.Env) (s0 : Shared) (H : Hp) (E : XK), Room k (A.deeper (envOfC qual (defScope st) s0.heap.objs.size f cdv)) →
      ∃ t : DW → DS, (∀ (B : Hp) (W : DW), Takes (cxOf (L2.CX P w) P w K mg base N qual (defScope st) f cdv A outer s0 H E) (upX K B W) → PSs (cxOf (L2.CX P w) P w K mg base N qual (defScope st) f cdv A outer s0 H E) (defBody st) (upS K B (t W))) ∧
        ∀ ds M Q E', s ds M Q E' → t (fun _ => lessX E') { nx := fun _ M' => less Q .non M', rt := less Q } (startD N.length ds) M) : FnOk P w K mg base (L2.CX P w) (k + 1) f fd ps (spOf K s) := by
  refine F.okX S (fun vs H Q E h => ?_) (fun cdv A outer s0 H vs Q E hr h => ?_)
  · obtain ⟨F, M, ds, Q', E', S, r, h, _⟩ := h
    rw [r.length]
    exact len _ _ _ _ h
  · obtain ⟨t, ht, hq⟩ := hbody cdv A outer s0 H E hr
    obtain ⟨F, M, ds, Q', E', S, r, h, k1, k2⟩ := h
    have tk : Takes (cxOf (L2.CX P w) P w K mg base N qual (defScope st) f cdv A outer s0 H E) (upX K F (fun _ => lessX E')) :=
      (takes_of rfl rfl rfl rfl).imp fun c d σ H' ⟨F1, M1, δ, fs, dx, vs, l1, S1, _, e, hx, rx, M2, hs, he⟩ => k2 _ _ _ ⟨F1, M2, fs, dx, vs, l1, S1.less hs, e, hx, rx, he⟩
    exact ⟨_, ht F _ tk, F, M, _, _, Le.refl F, S, startD_rep r, hq ds M Q' E' h, fun σ' H' ⟨F1, M1, δ1, l1, S1, r1, q⟩ => k1 _ _ (LQ_less ⟨F1, M1, _, l1, S1, .v _, q⟩), fun v H' q => k1 _ _ (LQ_less q), fun _ _ ⟨_, _, _, _, _, _, q⟩ => q.elim, fun _ _ ⟨_, _, _, _, _, _, q⟩ => q.elim⟩
end
end Y


set_option Elab.async false
set_option linter.all false
set_option maxRecDepth 100000
set_option maxHeartbeats 2000000
/-! YX5: small rules besides. -/
namespace Y
open PySem PySem.Spec PyProof.Rows L2
theorem takesN {X : Cx} {K : PySem.W.Frag} {B : Hp} : Takes X (upX K B fun _ _ _ _ => False) := fun _ _ x => by
  obtain ⟨_, _, _, _, _, _, _, _, _, _, _, _, _, _, _, _, z⟩ := x
  obtain ⟨_, _, _, _, _, _, _, _, _, _, _, _, z⟩ := z
  exact z.elim
section
variable {E : DEnds} {δ : Env} {M : Mm} {Q : QD} {W Wout : DW} {s : DSp} {t : DA} {te : DE}
theorem i_callX (h : t δ M fun ds M1 => s ds M1 Q (W δ)) : dCallX W s t δ M Q := h
theorem i_methX {C : Addr} {m : Str} (h : te δ M fun x M1 => ∃ a dx fs, x = .ref a ∧ M1 a = some (.ins C dx fs) ∧ fs.lookup m = none ∧ t δ M1 fun ds M2 => s (x :: ds) M2 Q (W δ)) : dMethX W C m s te t δ M Q := h
theorem i_raise {C : Addr} {fs : List Str} (h : t δ M fun ds M1 => ds.length = fs.length ∧ (∀ d ∈ ds, okxD d) ∧ W δ (.ref C) (fs.zip ds).reverse M1) : dRaise W C fs t E δ M := h
theorem i_tryAs {K : PySem.W.Frag} {c : Value} {i : Nat} {tb : DW → DS} {ts : Addr → Value → List (Str × D) → DS} (h : tb (wAsD K c i ts Wout E) E δ M) : dTryAs K c i tb ts Wout E δ M := h
theorem i_tryOnly {K : PySem.W.Frag} {c : Value} {tb : DW → DS} {ts : Addr → Value → List (Str × D) → DS} (h : tb (wOnlyD K c ts Wout E) E δ M) : dTryOnly K c tb ts Wout E δ M := h
theorem i_xf {K : PySem.W.Frag} {a : Addr} {cls : Value} {fs : List (Str × D)} {f : Str} (h : te δ M fun x M1 => x = .ref a ∧ ∃ C d, cls = .ref C ∧ XfC K C ∧ PySem.W.findIn K (.ref C) f = some none ∧ fs.lookup f = some d ∧ Q d M1) : dXf K a cls fs f te δ M Q := h
theorem i_isE {K : PySem.W.Frag} {a Cy : Addr} {cls : Value} (h : te δ M fun x M1 => x = .ref a ∧ ∃ C b, cls = .ref C ∧ ExcC K C ∧ PySem.W.kitOne K (.ref C) (.ref Cy) = some b ∧ Q (.bl b) M1) : dIsE K a cls te Cy δ M Q := h
/-- the way out of a def -/
theorem lessX_of {Ex : DX} {c : Value} {fs : List (Str × D)} {M M' : Mm} (h : Ex c fs M') (e : M = M') : lessX Ex c fs M := ⟨M', by rw [e]; exact Sub.refl _, h⟩
theorem lessX_fr0 {Ex : DX} {c : Value} {fs : List (Str × D)} {M M' : Mm} {L : List Addr} (k : Ex c fs M) (h : Fr M M' L) (hL : ∀ p ∈ L, M p = none) : lessX Ex c fs M' := by
  refine ⟨M, fun b n hb => ?_, k⟩
  rw [h b]
  · exact hb
  · intro z
    rw [hL b z] at hb; cases hb
end

/-! ### zip, enumerate, reversed over what stands still -/
section
variable {X : Cx} {B : Hp} {K : PySem.W.Frag} {F1 : Hp} {a b : Addr} {xs ys : List V} {ds es : List D}
def zipD (ds es : List D) : List D := (ds.zip es).map fun p => .tup [p.1, p.2]
theorem yl_pair {J : It} {n : Nat} {G : Hp → Prop} {f g : Nat → Option V} {r : List D} {f' g' : Nat → Option D} (wk : Walk J n G (YPair f g)) (hn : r.length = n) (hG : ∀ H F M, Le F1 F → Stt K H F M → G H)
    (hr : ∀ i x y, i < n → f i = some x → g i = some y → ∃ d e, r[i]? = some (.tup [d, e]) ∧ Rep K F1 x d ∧ Rep K F1 y e) : Yl K J F1 r GT := by
  refine ⟨fun i H F M l S _ hi => wk.goes i H (by omega) (hG _ _ _ l S), fun H F M l S _ => by rw [hn]; exact wk.stops H (hG _ _ _ l S), fun i H F M x H' l S _ hi y => ?_⟩
  obtain ⟨T, v, u, e1, e2, e3, h1, h2⟩ := wk.yields i H x H' (by omega) (hG _ _ _ l S) y
  subst e1 e3
  obtain ⟨d, e, h3, h4, h5⟩ := hr i v u (by omega) h1 h2
  have f0 := (S.free e2).1
  have l2 := le_upd (o := (.tup [v, u])) f0
  exact ⟨_, _, l2, S.still e2, h3, .tup (SqT.of upd_same) (.cons (h4.le (l.trans l2)) (.cons (h5.le (l.trans l2)) .nil))⟩
theorem zip_at {i : Nat} {x y : V} (r1 : RepL K F1 xs ds) (r2 : RepL K F1 ys es) (h1 : xs[i]? = some x) (h2 : ys[i]? = some y) : ∃ d e, (zipD ds es)[i]? = some (.tup [d, e]) ∧ Rep K F1 x d ∧ Rep K F1 y e := by
  obtain ⟨d, h3, h4⟩ := r1.get' h1
  obtain ⟨e, h5, h6⟩ := r2.get' h2
  refine ⟨d, e, ?_, h4, h6⟩
  unfold zipD
  rw [List.getElem?_map]
  have : (ds.zip es)[i]? = some (d, e) := by rw [List.getElem?_zip_eq_some]; exact ⟨h3, h5⟩
  rw [this]; rfl
theorem yl_zipL (hs : SqL K F1 a xs) (hs2 : SqL K F1 b ys) (r1 : RepL K F1 xs ds) (r2 : RepL K F1 ys es) : Yl K (Itz K a b) F1 (zipD ds es) GT :=
  yl_pair (f' := fun i => ds[i]?) (g' := fun i => es[i]?) (walk_zip rfl) (by simp [zipD, r1.length, r2.length]) (fun H F M l S => ⟨SqL.le S.fz (SqL.le l hs), SqL.le S.fz (SqL.le l hs2)⟩) fun i x y _ h1 h2 => zip_at r1 r2 h1 h2
theorem walk_zipT {n : Nat} (hn : n = min xs.length ys.length) : Walk (RZ.ItzT K a b) n (fun H => SqT K H a xs ∧ SqT K H b ys) (YPair (fun i => xs[i]?) (fun i => ys[i]?)) := by
  subst hn
  refine ⟨fun i _ hi q => ?_, fun _ q => ⟨xs, ys, q.1, q.2, by omega⟩, fun i H v H' _ q y => ?_⟩
  · have h1 : i < xs.length := by omega
    have h2 : i < ys.length := by omega
    exact ⟨xs, ys, xs[i], ys[i], q.1, q.2, by simp [h1], by simp [h2]⟩
  · obtain ⟨T, x, z, h1, h2, h3, h4, h5⟩ := y
    exact ⟨T, x, z, h1, h2, h3, h4 xs q.1, h5 ys q.2⟩
theorem yl_zipT (hs : SqT K F1 a xs) (hs2 : SqT K F1 b ys) (r1 : RepL K F1 xs ds) (r2 : RepL K F1 ys es) : Yl K (RZ.ItzT K a b) F1 (zipD ds es) GT :=
  yl_pair (f' := fun i => ds[i]?) (g' := fun i => es[i]?) (walk_zipT rfl) (by simp [zipD, r1.length, r2.length]) (fun H F M l S => ⟨SqT.le S.fz (SqT.le l hs), SqT.le S.fz (SqT.le l hs2)⟩) fun i x y _ h1 h2 => zip_at r1 r2 h1 h2
/-- zip of two tuples, or of two lists, that stand still -/
def diZip (t : DA) : DI := fun δ M R => t δ M fun vs M1 => ∃ x y ds es, vs = [x, y] ∧ ((x = .tup ds ∧ y = .tup es) ∨ (x = .lst ds ∧ y = .lst es)) ∧ R (zipD ds es) GT M1
theorem qi_zip {e e2 : Expr} {p pos tpos : Pos} {elts : List Expr} {kk : Nat} {t : DA} (hg : Gl X "zip") (hm : X.mg "zip" = none) (ha : PA X [e, e2] (upA X.K B t))
    (hs : starEach [e, e2] X.env = (false, eval e X.env) :: starEach [e2] X.env := by rfl) (hpl : (backTo pos (starEach [e2] X.env)).any (·.1) = false := by rfl) :
    PI X (.Tuple elts kk tpos) (.Call (.Name "zip" p) [e, e2] [] pos) (upI X.K B (diZip t)) :=
  PI.wk (RZ.pi_zipA hg hm ha hs hpl) fun σ H R ⟨F, M, δ, R', lb, S, rs, h, k⟩ => ⟨F, M, δ, _, lb, S, rs, h, fun vs H1 ⟨F1, M1, ds0, l1, S1, r1, x, y, ds, es, e1, e2, h1⟩ => by
    subst e1
    cases r1 with
    | cons ra rb =>
      cases rb with
      | cons rb rc =>
        cases rc
        rcases e2 with ⟨rfl, rfl⟩ | ⟨rfl, rfl⟩
        · cases ra with
          | @tup a xs _ h2 r2 =>
            cases rb with
            | @tup b ys _ h3 r3 => exact ⟨a, b, xs, ys, rfl, .inr ⟨SqT.le S1.fz h2, SqT.le S1.fz h3, k _ _ ⟨F1, M1, _, GT, l1, S1, yl_zipT h2 h3 r2 r3, h1⟩⟩⟩
        · cases ra with
          | @lst a xs _ h2 r2 =>
            cases rb with
            | @lst b ys _ h3 r3 => exact ⟨a, b, xs, ys, rfl, .inl ⟨SqL.le S1.fz h2, SqL.le S1.fz h3, k _ _ ⟨F1, M1, _, GT, l1, S1, yl_zipL h2 h3 r2 r3, h1⟩⟩⟩⟩
def enumFrom : Nat → List D → List D
  | _, [] => []
  | n, d :: ds => .tup [.int (n : Int), d] :: enumFrom (n + 1) ds
theorem enum_len : ∀ (n : Nat) (ds : List D), (enumFrom n ds).length = ds.length
  | _, [] => rfl
  | n, d :: ds => by simp [enumFrom, enum_len (n + 1) ds]
theorem enum_at : ∀ (n : Nat) (ds : List D) (i : Nat) (d : D), ds[i]? = some d → (enumFrom n ds)[i]? = some (.tup [.int ((n + i : Nat) : Int), d])
  | n, [], i, d, h => by simp at h
  | n, d :: ds, 0, e, h => by simp at h; subst h; simp [enumFrom]
  | n, d :: ds, i + 1, e, h => by
    have := enum_at (n + 1) ds i e (by simpa using h)
    simp only [enumFrom, List.getElem?_cons_succ, this]
    congr 4
    omega
theorem yl_enum (hs : SqL K F1 a xs) (r1 : RepL K F1 xs ds) : Yl K (Ite K a) F1 (enumFrom 0 ds) GT :=
  yl_pair (f' := fun _ => none) (g' := fun _ => none) walk_enum (by rw [enum_len, r1.length]) (fun H F M l S => SqL.le S.fz (SqL.le l hs)) fun i x y hi h1 h2 => by
    obtain ⟨d, h3, h4⟩ := r1.get' h2
    have h1 : V.int (i : Nat) = x := Option.some.inj h1
    subst h1
    exact ⟨.int (i : Nat), d, by rw [enum_at 0 ds i d h3, Nat.zero_add], .v _, h4⟩
/-- enumerate of a list that stands still -/
def diEnum (t : DA) : DI := fun δ M R => t δ M fun vs M1 => ∃ ds, vs = [.lst ds] ∧ R (enumFrom 0 ds) GT M1
theorem qi_enum {e : Expr} {p pos tpos : Pos} {elts : List Expr} {kk : Nat} {t : DA} (hg : Gl X "enumerate") (hm : X.mg "enumerate" = none) (ha : PA X [e] (upA X.K B t)) (hs : starEach [e] X.env = [(false, eval e X.env)] := by rfl) :
    PI X (.Tuple elts kk tpos) (.Call (.Name "enumerate" p) [e] [] pos) (upI X.K B (diEnum t)) :=
  PI.wk (pi_enum hg hm ha hs) fun σ H R ⟨F, M, δ, R', lb, S, rs, h, k⟩ => ⟨F, M, δ, _, lb, S, rs, h, fun vs H1 ⟨F1, M1, ds0, l1, S1, r1, ds, e1, h1⟩ => by
    subst e1
    cases r1 with
    | cons ra rb =>
      cases rb
      cases ra with
      | @lst a xs _ h2 r2 => exact ⟨a, xs, rfl, SqL.le S1.fz h2, k _ _ ⟨F1, M1, _, GT, l1, S1, yl_enum h2 r2, h1⟩⟩⟩
theorem rev_at {i : Nat} {x : V} (r1 : RepL K F1 xs ds) (hi : i < ds.length) (h : xs[xs.length - 1 - i]? = some x) : ∃ d, ds.reverse[i]? = some d ∧ Rep K F1 x d := by
  obtain ⟨d, h3, h4⟩ := r1.get' h
  refine ⟨d, ?_, h4⟩
  rw [List.getElem?_reverse hi, ← r1.length]
  exact h3
theorem yl_revL (hs : SqL K F1 a xs) (r1 : RepL K F1 xs ds) : Yl K (Itv K a xs.length) F1 ds.reverse GT := by
  have hl : ds.reverse.length = xs.length := by rw [List.length_reverse, r1.length]
  refine ⟨fun i H F M l S _ hi => (walk_rev (K := K) (a := a) (xs := xs)).goes i H (by omega) (SqL.le S.fz (SqL.le l hs)), fun H F M l S _ => by rw [hl]; exact (walk_rev (K := K) (a := a) (xs := xs)).stops H (SqL.le S.fz (SqL.le l hs)), fun i H F M x H' l S _ hi y => ?_⟩
  obtain ⟨e1, e2⟩ := (walk_rev (K := K) (a := a) (xs := xs)).yields i H x H' (by omega) (SqL.le S.fz (SqL.le l hs)) y
  subst e1
  obtain ⟨d, h3, h4⟩ := rev_at r1 (by rw [List.length_reverse] at hi; exact hi) e2
  exact ⟨F, d, Le.refl F, S, h3, h4.le l⟩
theorem yl_revT (hs : SqT K F1 a xs) (r1 : RepL K F1 xs ds) : Yl K (RT.ItvT K a xs.length) F1 ds.reverse GT := by
  have hl : ds.reverse.length = xs.length := by rw [List.length_reverse, r1.length]
  have wk : Walk (RT.ItvT K a xs.length) xs.length (fun H => SqT K H a xs) (fun i H x H' => H' = H ∧ xs[xs.length - 1 - i]? = some x) :=
    ⟨fun i _ hi q => ⟨hi, xs, xs[xs.length - 1 - i]'(by omega), q, by simp [show xs.length - 1 - i < xs.length by omega]⟩, fun _ _ => Nat.le_refl _, fun _ _ _ _ _ q y => ⟨y.1, y.2 xs q⟩⟩
  refine ⟨fun i H F M l S _ hi => wk.goes i H (by omega) (SqT.le S.fz (SqT.le l hs)), fun H F M l S _ => by rw [hl]; exact wk.stops H (SqT.le S.fz (SqT.le l hs)), fun i H F M x H' l S _ hi y => ?_⟩
  obtain ⟨e1, e2⟩ := wk.yields i H x H' (by omega) (SqT.le S.fz (SqT.le l hs)) y
  subst e1
  obtain ⟨d, h3, h4⟩ := rev_at r1 (by rw [List.length_reverse] at hi; exact hi) e2
  exact ⟨F, d, Le.refl F, S, h3, h4.le l⟩
/-- reversed of a tuple or a list that stands still -/
def diRev (t : DE) : DI := fun δ M R => t δ M fun v M1 => ∃ ds, (v = .tup ds ∨ v = .lst ds) ∧ R ds.reverse GT M1
theorem qi_rev {tg e : Expr} {t : DE} {p pos : Pos} (hg : Gl X "reversed") (hm : X.mg "reversed" = none) (he : PE X e (up X.K B t)) (hs : starEach [e] X.env = (false, eval e X.env) :: starEach [] X.env := by rfl) : PI X tg (.Call (.Name "reversed" p) [e] [] pos) (upI X.K B (diRev t)) :=
  PI.wk (RT.pi_revA hg hm he hs) fun σ H R ⟨F, M, δ, R', lb, S, rs, h, k⟩ => ⟨F, M, δ, _, lb, S, rs, h, fun v H1 ⟨F1, M1, d1, l1, S1, r1, ds, e1, h1⟩ => by
    rcases e1 with rfl | rfl
    · cases r1 with
      | @tup a xs _ h2 r2 => exact ⟨a, xs, rfl, .inr ⟨SqT.le S1.fz h2, k _ _ ⟨F1, M1, _, GT, l1, S1, yl_revT h2 r2, h1⟩⟩⟩
    · cases r1 with
      | @lst a xs _ h2 r2 => exact ⟨a, xs, rfl, .inl ⟨SqL.le S1.fz h2, k _ _ ⟨F1, M1, _, GT, l1, S1, yl_revL h2 r2, h1⟩⟩⟩⟩
theorem i_zip {t : DA} {δ : Env} {M : Mm} {R : List D → (Mm → Prop) → Mm → Prop} (h : t δ M fun vs M1 => ∃ x y ds es, vs = [x, y] ∧ ((x = .tup ds ∧ y = .tup es) ∨ (x = .lst ds ∧ y = .lst es)) ∧ R (zipD ds es) GT M1) : diZip t δ M R := h
theorem i_enum {t : DA} {δ : Env} {M : Mm} {R : List D → (Mm → Prop) → Mm → Prop} (h : t δ M fun vs M1 => ∃ ds, vs = [.lst ds] ∧ R (enumFrom 0 ds) GT M1) : diEnum t δ M R := h
theorem i_rev {t : DE} {δ : Env} {M : Mm} {R : List D → (Mm → Prop) → Mm → Prop} (h : t δ M fun v M1 => ∃ ds, (v = .tup ds ∨ v = .lst ds) ∧ R ds.reverse GT M1) : diRev t δ M R := h
end
end Y


set_option Elab.async false
set_option linter.all false
set_option maxRecDepth 100000
set_option maxHeartbeats 2000000
/-! YX6: texts: a text repeated, split(), str and int of texts, repr. -/
namespace Y
open PySem PySem.Spec PyProof.Rows L2
section
variable {X : Cx} {K : PySem.W.Frag} {B : Hp}
def repS (x : Str) (n : Nat) : Str := ⟨(List.replicate n x.cps).foldl (· ++ ·) #[]⟩
theorem rep_fold (x : Array Nat) : ∀ (n : Nat) (acc : Array Nat), (List.replicate n x).foldl (· ++ ·) acc = acc ++ ((List.replicate n x.toList).flatten).toArray
  | 0, acc => by simp
  | n + 1, acc => by
    rw [List.replicate_succ, List.foldl_cons, rep_fold x n, List.replicate_succ, List.flatten_cons]
    apply Array.ext'
    simp
theorem repS_cps (x : Str) (n : Nat) : (repS x n).cps.toList = (List.replicate n x.cps.toList).flatten := by
  unfold repS
  rw [rep_fold]
  simp
theorem repS_len (x : Str) (n : Nat) : (repS x n).length = n * x.length := by
  have h : (repS x n).length = (repS x n).cps.toList.length := Array.length_toList.symm
  rw [h, repS_cps]
  simp [List.length_flatten]
  rfl
def rMulS : R2 := fun x y H Q => ∃ a n, x = .str a ∧ y = .int (n : Nat) ∧ n < 1000 ∧ a.length < 1000 ∧ Q (.str (repS a n)) H
theorem op_mulS : OpR X (binaryOp .Mult) rMulS := by
  rintro pins s σ H x y u v Q I rx ry ⟨a, n, rfl, rfl, h2, h3, q⟩
  obtain ⟨t, rfl⟩ := rx
  obtain ⟨t', rfl⟩ := ry
  have hle : a.length * n ≤ 1000 * 1000 := Nat.mul_le_mul (by omega) (by omega)
  refine P.mul_str (by simp; omega) (fun h _ => ?_) (fun _ _ => ?_) ?_
  · have : (2 ^ 63 - 1 : Int) / (n : Int) ≥ 1000 := by
      rw [ge_iff_le, Int.le_ediv_iff_mul_le (by omega)]
      omega
    omega
  · unfold Builtin.Str.tooLong
    simp only [decide_eq_false_iff_not, sizeLine_eq]
    rw [Int.toNat_natCast]
    omega
  · have key : ∀ y : Str, y.cps = (repS a n).cps → y = repS a n := fun y h => by cases y; cases hr : repS a n; rw [hr] at h; cases h; rfl
    by_cases h1 : (n : Int) < 1
    · rw [if_pos h1]
      have e : n = 0 := by omega
      refine ⟨by decide, ⟨.str (repS a n), H, I.tok _, ⟨s.toks, ?_⟩, q⟩⟩
      subst e
      rfl
    · rw [if_neg h1]
      by_cases e : ((n : Int) == 1 || a.length == 0) = true
      · rw [if_pos e]
        have : a = repS a n := by
          apply key
          apply Array.ext'
          rw [repS_cps]
          rcases Bool.or_eq_true_iff.mp e with e | e
          · have e : n = 1 := by have := beq_iff_eq.mp e; omega
            subst e
            simp
          · have e : a.cps.toList = [] := by
              have e := beq_iff_eq.mp e
              exact List.eq_nil_of_length_eq_zero (Array.length_toList.trans e)
            rw [e]
            simp
        exact ⟨.str (repS a n), H, I, ⟨t, by rw [← this]⟩, q⟩
      · rw [if_neg e]
        rw [Int.toNat_natCast]
        refine ⟨?_, ⟨.str (repS a n), H, I.tok _, ⟨_, rfl⟩, q⟩⟩
        show (repS a n).length ≤ sizeLine
        rw [repS_len, sizeLine_eq, Nat.mul_comm]
        omega
def mulSD : D2 := fun x y M Q => ∃ a n, x = .str a ∧ y = .int (n : Nat) ∧ n < 1000 ∧ a.length < 1000 ∧ Q (.str (repS a n)) M
theorem l_mulS : Lift2 K rMulS mulSD := fun H F M x y d e Q' Q S rx ry ⟨a, n, e1, e2, h1, h2, q⟩ k => by
  subst e1 e2; cases rx; cases ry
  exact ⟨a, n, rfl, rfl, h1, h2, k _ _ ⟨F, M, _, Le.refl F, S, .v _, q⟩⟩
theorem v_mulS {a : Str} {n : Nat} {M : Mm} {Q : QD} (h1 : n < 1000 ∧ a.length < 1000) (q : Q (.str (repS a n)) M) : mulSD (.str a) (.int n) M Q := ⟨a, n, rfl, rfl, h1.1, h1.2, q⟩
/-! split() -/
def mWords : DM := fun x vs M Q => ∃ a, x = .str a ∧ vs = [] ∧ a.length + 2 ≤ sizeLine ∧ ∀ p, M p = none → Q (.ref p) (Y.put M p (.lst ((Txt.words a).map D.str)))
theorem l_words : LiftM K (fun x xs H Q => ∃ a, x = .str a ∧ xs = [] ∧ a.length + 2 ≤ sizeLine ∧ rNewStrs (Txt.words a) H Q) mWords := fun H F M x d xs ds Q' Q S r rl ⟨a, e1, e2, hz, q⟩ k => by
  subst e1 e2
  cases r
  cases rl
  exact ⟨a, rfl, rfl, hz, fun p hp => k _ _ ⟨F, _, _, Le.refl F, S.newM hp (.lst (RepL.strs _)), .v _, q p (S.free hp).2⟩⟩
/-! str(x) of a text or a whole number, int(x) of a whole number or a text -/
theorem CallR.or {f : Value} {r r' : List V → Hp → VK → Prop} (h : CallR X f r) (h' : CallR X f r') : CallR X f fun xs H Q => r xs H Q ∨ r' xs H Q := fun pins s σ H xs us Q I rv q => q.elim (h pins s σ H xs us Q I rv) (h' pins s σ H xs us Q I rv)
def cStrA : DC := fun ds M Q => (∃ i, ds = [.int i] ∧ i.natAbs.log2 < 1920 ∧ Q (.str (Str.ofString (toString i))) M) ∨ ∃ a, ds = [.str a] ∧ Q (.str a) M
theorem call_strA : CallR X (.type "str") (fun xs H Q => (∃ i, xs = [.int i] ∧ i.natAbs.log2 < 1920 ∧ Q (.str (Str.ofString (toString i))) H) ∨ ∃ a, xs = [.str a] ∧ Q (.str a) H) := CallR.or call_str_int SkE.call_str_str
theorem l_strA : LiftC K (fun xs H Q => (∃ i, xs = [.int i] ∧ i.natAbs.log2 < 1920 ∧ Q (.str (Str.ofString (toString i))) H) ∨ ∃ a, xs = [.str a] ∧ Q (.str a) H) cStrA := fun H F M xs ds Q' Q S r h k => by
  rcases h with ⟨i, e, h, q⟩ | ⟨a, e, q⟩
  · subst e
    obtain ⟨x, rfl, rx⟩ := rep1 r
    cases rx
    exact .inl ⟨i, rfl, h, k _ _ ⟨F, M, _, Le.refl F, S, .v _, q⟩⟩
  · subst e
    obtain ⟨x, rfl, rx⟩ := rep1 r
    cases rx
    exact .inr ⟨a, rfl, k _ _ ⟨F, M, _, Le.refl F, S, .v _, q⟩⟩
theorem v_strI {i : Int} {M : Mm} {Q : QD} (h : i.natAbs.log2 < 1920) (q : Q (.str (Str.ofString (toString i))) M) : cStrA [.int i] M Q := .inl ⟨i, rfl, h, q⟩
theorem v_strS {a : Str} {M : Mm} {Q : QD} (q : Q (.str a) M) : cStrA [.str a] M Q := .inr ⟨a, rfl, q⟩
def cIntT : DC := fun ds M Q => ∃ a n, ds = [.str a] ∧ PySem.intText? a = some n ∧ a.length ≤ 640 ∧ Q (.int n) M
theorem l_intT : LiftC K (fun xs H Q => ∃ a n, xs = [.str a] ∧ PySem.intText? a = some n ∧ a.length ≤ 640 ∧ Q (.int n) H) cIntT := fun H F M xs ds Q' Q S r ⟨a, n, e, h1, h2, q⟩ k => by
  subst e
  obtain ⟨x, rfl, rx⟩ := rep1 r
  cases rx
  exact ⟨a, n, rfl, h1, h2, k _ _ ⟨F, M, _, Le.refl F, S, .v _, q⟩⟩
/-! repr -/
def cRepr : DC := fun ds M Q => ∃ d, ds = [d] ∧ pln d = true ∧ dep d ≤ 64 ∧ (pyD d).showable = true ∧ (pyD d).shown.length ≤ sizeLine ∧ Q (.str (pyD d).shown) M
def rReprD (K : PySem.W.Frag) : List V → Hp → VK → Prop := fun xs H Q => ∃ v d, xs = [v] ∧ Dp K H v d ∧ d.canLay0 = true ∧ d.depth ≤ 64 ∧ d.showable = true ∧ d.shown.length ≤ sizeLine ∧ Q (.str d.shown) H
theorem call_repr (hg : X.A.guards = some []) (hu : X.A.units + 80 < cLine) : CallR X (.builtin "repr") (rReprD X.K) := by
  rintro pins s σ H xs us Q I r ⟨v, d, rfl, hd, hl, h64, hs, hz, q⟩
  cases r with
  | cons rx rr =>
    cases rr
    obtain ⟨as, r1⟩ := Dp.reads I d v _ hd rx
    have hnd : d.hasDict = false := PyData.hasDict_of_canLay d hl
    cases r1 with
    | none => exact PySem.P.repr_of_none ⟨.str _, H, I.tok _, ⟨_, rfl⟩, q⟩
    | bool b => exact PySem.P.repr_of_bool ⟨.str _, H, I.tok _, ⟨_, rfl⟩, q⟩
    | int i t => exact PySem.P.repr_of_int (by simpa [PyData.showable] using hs) ⟨.str _, H, I.tok _, ⟨_, rfl⟩, q⟩
    | str x t => exact PySem.P.repr_of_str ⟨.str _, H, I.tok _, ⟨_, rfl⟩, q⟩ (by simpa only [PyData.shown] using hz)
    | list h1 h2 h3 h4 =>
      exact repr_of_reads' (.list h1 h2 h3 h4) hs (PyData.noDict_hsm hnd) hg (by omega) (fun _ _ e => e) (fun h' u tk hk => ⟨.str _, H, I.kept hk, ⟨_, rfl⟩, q⟩) hz
    | tuple h1 h2 h3 h4 =>
      exact repr_of_reads' (.tuple h1 h2 h3 h4) hs (PyData.noDict_hsm hnd) hg (by omega) (fun _ _ e => e) (fun h' u tk hk => ⟨.str _, H, I.kept hk, ⟨_, rfl⟩, q⟩) hz
    | dict h1 h2 h3 h4 h5 => simp [PyData.hasDict] at hnd
theorem l_repr : LiftC K (rReprD K) cRepr := fun H F M xs ds Q' Q S r ⟨d, e, h1, h2, h3, h4, q⟩ k => by
  subst e
  obtain ⟨x, rfl, rx⟩ := rep1 r
  exact ⟨x, pyD d, rfl, py_dp S d x rx h1, py_lay d h1, by rw [py_dep]; exact h2, h3, h4, k _ _ ⟨F, M, _, Le.refl F, S, .v _, q⟩⟩
end
end Y
namespace Y
open PySem PySem.Spec PyProof.Rows L2
theorem repr_units {k : Nat} {A : Around} (hr : Room k A) : A.units + 80 < cLine := by have := hr.un; omega
theorem i_words {a : Str} {M : Mm} {Q : QD} (hz : a.length + 2 ≤ sizeLine) (h : ∀ p, M p = none → Q (.ref p) (Y.put M p (.lst ((Txt.words a).map D.str)))) : tyD "str" (.str a) M ∧ mWords (.str a) [] M Q := ⟨rfl, a, rfl, rfl, hz, h⟩
end Y


set_option Elab.async false
set_option linter.all false
set_option maxRecDepth 100000
set_option maxHeartbeats 1000000
/-! YX7: startswith and find from a place on; max of two. -/
namespace Y
open PySem PySem.Spec PyProof.Rows L2
section
variable {X : Cx} {B : Hp} {K : PySem.W.Frag}
theorem l_ip {g : Int → Int → Int} : Lift2 K (ipI g) (dI0 fun i j => .int (g i j)) := fun H F M x y d e Q' Q S rx ry ⟨i, j, e1, e2, q⟩ k => by
  subst e1 e2; cases rx; cases ry
  exact ⟨i, j, rfl, rfl, k _ _ ⟨F, M, _, Le.refl F, S, .v _, q⟩⟩
def mStart3 : DM := fun x vs M Q => ∃ (a b : Str) (i : Int), x = .str a ∧ vs = [.str b, .int i] ∧ Q (.bl (Txt.startswith3 a b i)) M
theorem l_start3 : LiftM K (fun x xs H Q => ∃ (a b : Str) (i : Int), x = .str a ∧ xs = [.str b, .int i] ∧ Q (.bl (Txt.startswith3 a b i)) H) mStart3 := fun H F M x d xs ds Q' Q S r rl ⟨a, b, i, e1, e2, q⟩ k => by
  subst e1 e2
  cases r
  obtain ⟨y, z, rfl, ry, rz⟩ := rep2 rl
  cases ry
  cases rz
  exact ⟨a, b, i, rfl, rfl, k _ _ ⟨F, M, _, Le.refl F, S, .v _, q⟩⟩
def mFind3 : DM := fun x vs M Q => ∃ (a b : Str) (i : Int), x = .str a ∧ vs = [.str b, .int i] ∧ Q (.int (Txt.find3 a b i)) M
theorem l_find3 : LiftM K (fun x xs H Q => ∃ (a b : Str) (i : Int), x = .str a ∧ xs = [.str b, .int i] ∧ Q (.int (Txt.find3 a b i)) H) mFind3 := fun H F M x d xs ds Q' Q S r rl ⟨a, b, i, e1, e2, q⟩ k => by
  subst e1 e2
  cases r
  obtain ⟨y, z, rfl, ry, rz⟩ := rep2 rl
  cases ry
  cases rz
  exact ⟨a, b, i, rfl, rfl, k _ _ ⟨F, M, _, Le.refl F, S, .v _, q⟩⟩
def cMax2 : DC := fun ds M Q => ∃ i j, ds = [.int i, .int j] ∧ Q (.int (if j > i then j else i)) M
theorem l_max2 : LiftC K (fun xs H Q => ∃ i j, xs = [.int i, .int j] ∧ Q (.int (if j > i then j else i)) H) cMax2 := fun H F M xs ds Q' Q S r ⟨i, j, e, q⟩ k => by
  subst e
  obtain ⟨y, z, rfl, ry, rz⟩ := rep2 r
  cases ry
  cases rz
  exact ⟨i, j, rfl, k _ _ ⟨F, M, _, Le.refl F, S, .v _, q⟩⟩
end
end Y


set_option Elab.async false
set_option linter.all false
set_option maxRecDepth 100000
/-! readings of the defs, printed by gen.py -/
namespace K04
open PySem PySem.Spec PyProof.Rows L2 Y
def g_DIGITS : D := .str "0123456789"
def g_LETTERS : D := .str "abcdefghijklmnopqrstuvwxyzABCDEFGHIJKLMNOPQRSTUVWXYZ"
def g_MOST_FIGURES : D := .int 30
def g_SIGNS : D := .tup [.str "->", .str "==", .str "!=", .str "(", .str ")", .str "{", .str "}", .str ",", .str ".", .str ";", .str ":", .str "*", .str "=", .str "+", .str "-", .str "<"]
def g_WHOLE : D := .int 12
def g_WORDS : D := .tup [.str "nil", .str "emp", .str "some", .str "list", .str "tree", .str "by", .str "or", .str "if", .str "else", .str "while", .str "holds", .str "new", .str "free", .str "both", .str "call", .str "take", .str "give", .str "return", .str "local", .str "proc", .str "for", .str "uses", .str "requires", .str "ensures", .str "globals", .str "lock"]
/-- _law_begin, level 1, slots 0:script 1:seed 2:cell -/
def r__law_begin  : DS := dSeq (dAsg (dC (.int 1)) (dgName 1)) (dSeq (dFor (diIt (dVar 0)) (dgName 2) (dAsg (dOp (dI (fun _ j => 0 < j) fun i j => .int (i % j)) (dOp plusD (dOp plusD (dOp (dI CMul fun i j => .int (i * j)) (dVar 1) (dC (.int 69621))) (dOp (dI (fun _ j => 0 < j) fun i j => .int (i % j)) (dCB cInt (dCons (dVar 2) (dNil))) (dC (.int 2147483629)))) (dC (.int 7))) (dC (.int 2147483647))) (dgName 1))) (dRet (dLstM (dCons (dCB cList (dCons (dVar 0) (dNil))) (dCons (dC (.int 0)) (dCons (dC (.int 0)) (dCons (dVar 1) (dNil))))))))
/-- _law_take, level 1, slots 0:d 1:many 2:small 3:digit -/
def r__law_take  : DS := dSeq (dIfS (dAnd (dTest (dOp (eqD false) (dOp subD (dVar 0) (dC (.int 2))) (dC (.int 0)))) (dTest (dOp (dI0 fun i j => .bl (decide (i < j))) (dOp subD (dVar 0) (dC (.int 1))) (dCB cLen (dCons (dOp subD (dVar 0) (dC (.int 0))) (dNil)))))) (dSeq (dAsg (dCB cAbs (dCons (dCB cInt (dCons (dOp subD (dOp subD (dVar 0) (dC (.int 0))) (dOp subD (dVar 0) (dC (.int 1)))) (dNil))) (dNil))) (dgSub (dVar 0) (dC (.int 2)))) (dSeq (dAsg (dOp plusD (dOp subD (dVar 0) (dC (.int 1))) (dC (.int 1))) (dgSub (dVar 0) (dC (.int 1)))) (dIfS (dTest (dChain (dI0 fun i j => .bl (decide (i < j))) (dI0 fun i j => .bl (decide (i < j))) (dC (.int 0)) (dOp subD (dVar 0) (dC (.int 2))) (dVar 1))) (dSeq (dAsg (dOp subD (dVar 0) (dC (.int 2))) (dgName 2)) (dSeq (dAsg (dC (.int 0)) (dgSub (dVar 0) (dC (.int 2)))) (dRet (dVar 2)))) (dNext)))) (dNext)) (dSeq (dIfS (dTest (dOp (dI0 fun i j => .bl (decide (j < i))) (dOp subD (dVar 0) (dC (.int 2))) (dC (.int 0)))) (dSeq (dAsg (dOp (dI (fun _ j => 0 < j) fun i j => .int (i % j)) (dCB cInt (dCons (dOp subD (dVar 0) (dC (.int 2))) (dNil))) (dVar 1)) (dgName 3)) (dSeq (dAsg (dOp (dI CDiv fun i j => .int (i / j)) (dCB cInt (dCons (dOp subD (dVar 0) (dC (.int 2))) (dNil))) (dVar 1)) (dgSub (dVar 0) (dC (.int 2)))) (dRet (dVar 3)))) (dNext)) (dSeq (dAsg (dOp (dI (fun _ j => 0 < j) fun i j => .int (i % j)) (dCB cInt (dCons (dOp plusD (dOp (dI CMul fun i j => .int (i * j)) (dOp subD (dVar 0) (dC (.int 3))) (dC (.int 48271))) (dC (.int 11))) (dNil))) (dC (.int 2147483647))) (dgSub (dVar 0) (dC (.int 3)))) (dRet (dOp (dI (fun _ j => 0 < j) fun i j => .int (i % j)) (dCB cInt (dCons (dOp (dI CDiv fun i j => .int (i / j)) (dOp subD (dVar 0) (dC (.int 3))) (dC (.int 3))) (dNil))) (dVar 1)))))
/-- _law_pick, level 2, slots 0:d 1:menu -/
def r__law_pick (s__law_take : DSp) : DS := dRet (dOp subD (dVar 1) (dCall s__law_take (dCons (dVar 0) (dCons (dCB cLen (dCons (dVar 1) (dNil))) (dNil)))))
/-- is_whole, level 1, slots 0:value -/
def r_is_whole  : DS := dRet (dAndV (dCB cIsi (dCons (dVar 0) (dCons (dC (.ty "int")) (dNil)))) (dNotV (dCB cIsi (dCons (dVar 0) (dCons (dC (.ty "bool")) (dNil))))))
/-- is_number, level 2, slots 0:value -/
def r_is_number (s_is_whole : DSp) : DS := dRet (dAndV (dCall s_is_whole (dCons (dVar 0) (dNil))) (dChain (dI0 fun i j => .bl (decide (i < j))) (dI0 fun i j => .bl (decide (i < j))) (dU (fun i => -i) (dOp (dI CPow fun i j => .int (i ^ j.toNat)) (dC (.int 10)) (dC (.int 30)))) (dVar 0) (dOp (dI CPow fun i j => .int (i ^ j.toNat)) (dC (.int 10)) (dC (.int 30)))))
/-- is_made, level 1, slots 0:word 1:sign -/
def r_is_made  : DS := dRet (dAndV (dChain (dI0 fun i j => .bl (decide (i ≤ j))) (dI0 fun i j => .bl (decide (i ≤ j))) (dC (.int 2)) (dCB cLen (dCons (dVar 0) (dNil))) (dC (.int 10))) (dAndV (dOp (eqD false) (dOp subD (dVar 0) (dC (.int 0))) (dC (.str "$"))) (dCB cAll (dCons (dFrz (dLc (diIt (dSlice (dVar 0) (doSome (dC (.int 1))) (doNone))) (dgName 1) (tYesD) (dOp (inD false) (dVar 1) (dCD g_DIGITS)) [1])) (dNil)))))
/-- is_plain_name, level 1, slots 0:word 1:sign -/
def r_is_plain_name  : DS := dSeq (dIfS (dOr (dNot (dTru (dCB cIsi (dCons (dVar 0) (dCons (dC (.ty "str")) (dNil)))))) (dOr (dNot (dTest (dChain (dI0 fun i j => .bl (decide (i ≤ j))) (dI0 fun i j => .bl (decide (i ≤ j))) (dC (.int 1)) (dCB cLen (dCons (dVar 0) (dNil))) (dC (.int 20))))) (dOr (dTest (dOp (inD false) (dVar 0) (dCD g_WORDS))) (dTest (dOp (inD true) (dOp subD (dVar 0) (dC (.int 0))) (dCD g_LETTERS)))))) (dRet (dC (.bl false))) (dNext)) (dRet (dCB cAll (dCons (dFrz (dLc (diIt (dVar 0)) (dgName 1) (tYesD) (dOrV (dOp (inD false) (dVar 1) (dCD g_LETTERS)) (dOrV (dOp (inD false) (dVar 1) (dCD g_DIGITS)) (dOp (eqD false) (dVar 1) (dC (.str "_"))))) [1])) (dNil))))
/-- is_name, level 2, slots 0:word -/
def r_is_name (s_is_made : DSp) (s_is_plain_name : DSp) : DS := dRet (dAndV (dCB cIsi (dCons (dVar 0) (dCons (dC (.ty "str")) (dNil)))) (dOrV (dCall s_is_made (dCons (dVar 0) (dNil))) (dCall s_is_plain_name (dCons (dVar 0) (dNil)))))
/-- is_term, level 3, slots 0:value -/
def r_is_term (s_is_number : DSp) (s_is_name : DSp) : DS := dRet (dOrV (dCall s_is_number (dCons (dVar 0) (dNil))) (dCall s_is_name (dCons (dVar 0) (dNil))))
/-- is_fact, level 4, slots 0:fact -/
def r_is_fact (s_is_term : DSp) : DS := dSeq (dIfS (dOr (dNot (dTru (dCB cIsi (dCons (dVar 0) (dCons (dC (.ty "tuple")) (dNil)))))) (dOr (dTest (dOp (eqD true) (dCB cLen (dCons (dVar 0) (dNil))) (dC (.int 3)))) (dTest (dOp (inD true) (dOp subD (dVar 0) (dC (.int 0))) (dTup (dCons (dC (.str "eq")) (dCons (dC (.str "ne")) (dNil)))))))) (dRet (dC (.bl false))) (dNext)) (dRet (dAndV (dCall s_is_term (dCons (dOp subD (dVar 0) (dC (.int 1))) (dNil))) (dCall s_is_term (dCons (dOp subD (dVar 0) (dC (.int 2))) (dNil)))))
/-- is_item, level 4, slots 0:item 1:term -/
def r_is_item (s_is_whole : DSp) (s_is_term : DSp) : DS := dSeq (dIfS (dOr (dNot (dTru (dCB cIsi (dCons (dVar 0) (dCons (dC (.ty "tuple")) (dNil)))))) (dOr (dNot (dTru (dVar 0))) (dNot (dTru (dCB cIsi (dCons (dOp subD (dVar 0) (dC (.int 0))) (dCons (dC (.ty "str")) (dNil)))))))) (dRet (dC (.bl false))) (dNext)) (dSeq (dIfS (dTest (dOp (eqD false) (dOp subD (dVar 0) (dC (.int 0))) (dC (.str "cell")))) (dSeq (dIfS (dOr (dTest (dOp (eqD true) (dCB cLen (dCons (dVar 0) (dNil))) (dC (.int 5)))) (dOr (dNot (dTru (dCall s_is_whole (dCons (dOp subD (dVar 0) (dC (.int 1))) (dNil))))) (dNot (dTest (dChain (dI0 fun i j => .bl (decide (i ≤ j))) (dI0 fun i j => .bl (decide (i ≤ j))) (dC (.int 1)) (dOp subD (dVar 0) (dC (.int 1))) (dCD g_WHOLE)))))) (dRet (dC (.bl false))) (dNext)) (dRet (dCB cAll (dCons (dFrz (dLc (diIt (dSlice (dVar 0) (doSome (dC (.int 2))) (doNone))) (dgName 1) (tYesD) (dCall s_is_term (dCons (dVar 1) (dNil))) [1])) (dNil))))) (dNext)) (dSeq (dIfS (dTest (dOp (eqD false) (dOp subD (dVar 0) (dC (.int 0))) (dC (.str "list")))) (dRet (dAndV (dOp (eqD false) (dCB cLen (dCons (dVar 0) (dNil))) (dC (.int 3))) (dAndV (dCall s_is_term (dCons (dOp subD (dVar 0) (dC (.int 1))) (dNil))) (dCall s_is_term (dCons (dOp subD (dVar 0) (dC (.int 2))) (dNil)))))) (dNext)) (dRet (dAndV (dOp (eqD false) (dOp subD (dVar 0) (dC (.int 0))) (dC (.str "tree"))) (dAndV (dOp (eqD false) (dCB cLen (dCons (dVar 0) (dNil))) (dC (.int 2))) (dCall s_is_term (dCons (dOp subD (dVar 0) (dC (.int 1))) (dNil))))))))
/-- led_to, level 1, slots 0:shape 1:unknown 2:_ 3:items 4:found 5:item 6:term -/
def r_led_to  : DS := dSeq (dAsg (dVar 0) (dgTup 3 (dgCons (dgName 1) (dgCons (dgName 2) (dgCons (dgName 3) (dgNil)))))) (dSeq (dAsg (dDict) (dgName 4)) (dSeq (dFor (diIt (dVar 3)) (dgName 2) (dFor (diIt (dVar 3)) (dgName 5) (dIfS (dAnd (dTest (dOp (eqD false) (dOp subD (dVar 5) (dC (.int 0))) (dC (.str "cell")))) (dOr (dTest (dOp (inD true) (dOp subD (dVar 5) (dC (.int 2))) (dVar 1))) (dTest (dOp (inD false) (dOp subD (dVar 5) (dC (.int 2))) (dVar 4))))) (dFor (diIt (dSlice (dVar 5) (doSome (dC (.int 3))) (doNone))) (dgName 6) (dIfS (dTest (dOp (inD false) (dVar 6) (dVar 1))) (dAsg (dC (.bl true)) (dgSub (dVar 4) (dVar 6))) (dNext))) (dNext)))) (dRet (dVar 4))))
/-- check_shape, level 5, slots 0:shape 1:unknown 2:pure 3:items 4:found 5:part 6:name 7:fact 8:item -/
def r_check_shape (W : DW) (C_InputError : Addr) (s_is_name : DSp) (s_is_fact : DSp) (s_is_item : DSp) (s_led_to : DSp) : DS := dSeq (dIfS (dOr (dNot (dTru (dCB cIsi (dCons (dVar 0) (dCons (dC (.ty "tuple")) (dNil)))))) (dOr (dTest (dOp (eqD true) (dCB cLen (dCons (dVar 0) (dNil))) (dC (.int 3)))) (dNot (dTru (dCB cAll (dCons (dFrz (dLc (diIt (dVar 0)) (dgName 5) (tYesD) (dCB cIsi (dCons (dVar 5) (dCons (dC (.ty "tuple")) (dNil)))) [5])) (dNil))))))) (dRaise W C_InputError ["code"] (dCons (dC (.str "shape")) (dNil))) (dNext)) (dSeq (dAsg (dVar 0) (dgTup 3 (dgCons (dgName 1) (dgCons (dgName 2) (dgCons (dgName 3) (dgNil)))))) (dSeq (dIfS (dNot (dTru (dCB cAll (dCons (dFrz (dLc (diIt (dVar 1)) (dgName 6) (tYesD) (dCall s_is_name (dCons (dVar 6) (dNil))) [6])) (dNil))))) (dRaise W C_InputError ["code"] (dCons (dC (.str "unknown")) (dNil))) (dNext)) (dSeq (dIfS (dTest (dOp (dI0 fun i j => .bl (decide (i < j))) (dCB cLen (dCons (dDc (diIt (dVar 1)) (dgName 6) (tYesD) (dVar 6) (dC (.bl true)) [6]) (dNil))) (dCB cLen (dCons (dVar 1) (dNil))))) (dRaise W C_InputError ["code"] (dCons (dC (.str "unknown")) (dNil))) (dNext)) (dSeq (dIfS (dNot (dTru (dCB cAll (dCons (dFrz (dLc (diIt (dVar 2)) (dgName 7) (tYesD) (dCall s_is_fact (dCons (dVar 7) (dNil))) [7])) (dNil))))) (dRaise W C_InputError ["code"] (dCons (dC (.str "fact")) (dNil))) (dNext)) (dSeq (dIfS (dNot (dTru (dCB cAll (dCons (dFrz (dLc (diIt (dVar 3)) (dgName 8) (tYesD) (dCall s_is_item (dCons (dVar 8) (dNil))) [8])) (dNil))))) (dRaise W C_InputError ["code"] (dCons (dC (.str "item")) (dNil))) (dNext)) (dSeq (dAsg (dCall s_led_to (dCons (dVar 0) (dNil))) (dgName 4)) (dIfS (dNot (dTru (dCB cAll (dCons (dFrz (dLc (diIt (dVar 1)) (dgName 6) (tYesD) (dOp (inD false) (dVar 6) (dVar 4)) [6])) (dNil))))) (dRaise W C_InputError ["code"] (dCons (dC (.str "led")) (dNil))) (dNext))))))))
/-- check_assertion, level 6, slots 0:assertion 1:shape -/
def r_check_assertion (W : DW) (C_InputError : Addr) (s_check_shape : DSp) : DS := dSeq (dIfS (dOr (dNot (dTru (dCB cIsi (dCons (dVar 0) (dCons (dC (.ty "tuple")) (dNil)))))) (dNot (dTest (dChain (dI0 fun i j => .bl (decide (i ≤ j))) (dI0 fun i j => .bl (decide (i ≤ j))) (dC (.int 1)) (dCB cLen (dCons (dVar 0) (dNil))) (dC (.int 4)))))) (dRaise W C_InputError ["code"] (dCons (dC (.str "assertion")) (dNil))) (dNext)) (dFor (diIt (dVar 0)) (dgName 1) (dDrop (dCallX W s_check_shape (dCons (dVar 1) (dNil)))))
/-- part_end, level 1, slots 0:text 1:at -/
def r_part_end  : DS := dSeq (dWhile (dAnd (dTest (dOp (dI0 fun i j => .bl (decide (i < j))) (dVar 1) (dCB cLen (dCons (dVar 0) (dNil))))) (dOr (dTest (dOp (inD false) (dOp subD (dVar 0) (dVar 1)) (dCD g_LETTERS))) (dOr (dTest (dOp (inD false) (dOp subD (dVar 0) (dVar 1)) (dCD g_DIGITS))) (dTest (dOp (eqD false) (dOp subD (dVar 0) (dVar 1)) (dC (.str "_"))))))) (dAug 1 (dC (.int 1)) (dI0 fun i j => .int (i + j)))) (dRet (dVar 1))
/-- sign_at, level 1, slots 0:text 1:at 2:sign -/
def r_sign_at  : DS := dSeq (dFor (diIt (dCD g_SIGNS)) (dgName 2) (dIfS (dTru (dBM "str" mStart3 (dVar 0) (dCons (dVar 2) (dCons (dVar 1) (dNil))))) (dRet (dVar 2)) (dNext))) (dRet (dC .non))
/-- words_of, level 3, slots 0:text 1:found 2:at 3:end 4:sign -/
def r_words_of (W : DW) (s_part_end : DSp) (s_sign_at : DSp) (C_TextError : Addr) : DS := dSeq (dPar 1 2 (dCons (dLstM (dNil)) (dCons (dC (.int 0)) (dNil)))) (dSeq (dWhile (dTest (dOp (dI0 fun i j => .bl (decide (i < j))) (dVar 2) (dCB cLen (dCons (dVar 0) (dNil))))) (dIfS (dTest (dOp (inD false) (dOp subD (dVar 0) (dVar 2)) (dTup (dCons (dC (.str " ")) (dCons (dC (.str "\n")) (dNil)))))) (dAug 2 (dC (.int 1)) (dI0 fun i j => .int (i + j))) (dIfS (dTest (dOp (eqD false) (dOp subD (dVar 0) (dVar 2)) (dC (.str "#")))) (dSeq (dAsg (dBM "str" mFind3 (dVar 0) (dCons (dC (.str "\n")) (dCons (dVar 2) (dNil)))) (dgName 3)) (dAsg (dIf (dTest (dOp (dI0 fun i j => .bl (decide (i < j))) (dVar 3) (dC (.int 0)))) (dCB cLen (dCons (dVar 0) (dNil))) (dVar 3)) (dgName 2))) (dIfS (dOr (dTest (dOp (inD false) (dOp subD (dVar 0) (dVar 2)) (dCD g_LETTERS))) (dOr (dTest (dOp (inD false) (dOp subD (dVar 0) (dVar 2)) (dCD g_DIGITS))) (dTest (dOp (eqD false) (dOp subD (dVar 0) (dVar 2)) (dC (.str "$")))))) (dSeq (dAsg (dCall s_part_end (dCons (dVar 0) (dCons (dOp plusD (dVar 2) (dC (.int 1))) (dNil)))) (dgName 3)) (dSeq (dDrop (dBM "list" mAppend (dVar 1) (dCons (dSlice (dVar 0) (doSome (dVar 2)) (doSome (dVar 3))) (dNil)))) (dAsg (dVar 3) (dgName 2)))) (dSeq (dAsg (dCall s_sign_at (dCons (dVar 0) (dCons (dVar 2) (dNil)))) (dgName 4)) (dSeq (dIfS (dTest (dOp (isN false) (dVar 4) (dC .non))) (dRaise W C_TextError ["code", "at"] (dCons (dC (.str "sign")) (dCons (dCB cLen (dCons (dVar 1) (dNil))) (dNil)))) (dNext)) (dSeq (dDrop (dBM "list" mAppend (dVar 1) (dCons (dVar 4) (dNil)))) (dAug 2 (dCB cLen (dCons (dVar 4) (dNil))) (dI0 fun i j => .int (i + j)))))))))) (dRet (dFrz (dVar 1))))
/-- Reader.__init__, level 1, slots 0:self 1:words -/
def r_Reader___init__ (K : PySem.W.Frag) : DS := dSeq (dsFld K "_words" (dVar 0) (dVar 1)) (dsFld K "at" (dVar 0) (dC (.int 0)))
/-- Reader.peek, level 1, slots 0:self -/
def r_Reader_peek (K : PySem.W.Frag) : DS := dRet (dIf (dTest (dOp (dI0 fun i j => .bl (decide (i < j))) (dFld K "at" (dVar 0)) (dCB cLen (dCons (dFld K "_words" (dVar 0)) (dNil))))) (dOp subD (dFld K "_words" (dVar 0)) (dFld K "at" (dVar 0))) (dC (.str "")))
/-- Reader.stop, level 3, slots 0:self -/
def r_Reader_stop (K : PySem.W.Frag) (W : DW) (C_TextError : Addr) : DS := dRaise W C_TextError ["code", "at"] (dCons (dC (.str "form")) (dCons (dFld K "at" (dVar 0)) (dNil)))
/-- Reader.skip, level 2, slots 0:self 1:word -/
def r_Reader_skip (K : PySem.W.Frag) (C_Reader : Addr) (s_Reader_peek : DSp) : DS := dSeq (dIfS (dTest (dOp (eqD true) (dMeth C_Reader "peek" s_Reader_peek (dVar 0) dNil) (dVar 1))) (dRet (dC (.bl false))) (dNext)) (dSeq (dsFldAug K "at" (dVar 0) (dC (.int 1)) (dI0 fun i j => .int (i + j))) (dRet (dC (.bl true))))
/-- Reader.need, level 4, slots 0:self 1:word -/
def r_Reader_need (W : DW) (C_Reader : Addr) (s_Reader_skip : DSp) (s_Reader_stop : DSp) : DS := dIfS (dNot (dTru (dMeth C_Reader "skip" s_Reader_skip (dVar 0) (dCons (dVar 1) (dNil))))) (dDrop (dMethX W C_Reader "stop" s_Reader_stop (dVar 0) dNil)) (dNext)
/-- Reader.take, level 4, slots 0:self -/
def r_Reader_take (K : PySem.W.Frag) (W : DW) (C_Reader : Addr) (s_Reader_stop : DSp) : DS := dSeq (dIfS (dTest (dOp (dI0 fun i j => .bl (decide (j ≤ i))) (dFld K "at" (dVar 0)) (dCB cLen (dCons (dFld K "_words" (dVar 0)) (dNil))))) (dDrop (dMethX W C_Reader "stop" s_Reader_stop (dVar 0) dNil)) (dNext)) (dSeq (dsFldAug K "at" (dVar 0) (dC (.int 1)) (dI0 fun i j => .int (i + j))) (dRet (dOp subD (dFld K "_words" (dVar 0)) (dOp (dI0 fun i j => .int (i - j)) (dFld K "at" (dVar 0)) (dC (.int 1))))))
/-- Reader.number, level 4, slots 0:self 1:word 2:sign -/
def r_Reader_number (K : PySem.W.Frag) (W : DW) (C_Reader : Addr) (s_Reader_peek : DSp) (s_Reader_stop : DSp) : DS := dSeq (dAsg (dMeth C_Reader "peek" s_Reader_peek (dVar 0) dNil) (dgName 1)) (dSeq (dIfS (dOr (dTest (dOp (eqD false) (dVar 1) (dC (.str "")))) (dOr (dNot (dTru (dCB cAll (dCons (dFrz (dLc (diIt (dVar 1)) (dgName 2) (tYesD) (dOp (inD false) (dVar 2) (dCD g_DIGITS)) [2])) (dNil))))) (dTest (dOp (dI0 fun i j => .bl (decide (j < i))) (dCB cLen (dCons (dVar 1) (dNil))) (dCD g_MOST_FIGURES))))) (dDrop (dMethX W C_Reader "stop" s_Reader_stop (dVar 0) dNil)) (dNext)) (dSeq (dsFldAug K "at" (dVar 0) (dC (.int 1)) (dI0 fun i j => .int (i + j))) (dRet (dCB cIntT (dCons (dVar 1) (dNil))))))
/-- Reader.end, level 4, slots 0:self -/
def r_Reader_end (K : PySem.W.Frag) (W : DW) (C_Reader : Addr) (s_Reader_stop : DSp) : DS := dIfS (dTest (dOp (dI0 fun i j => .bl (decide (i < j))) (dFld K "at" (dVar 0)) (dCB cLen (dCons (dFld K "_words" (dVar 0)) (dNil))))) (dDrop (dMethX W C_Reader "stop" s_Reader_stop (dVar 0) dNil)) (dNext)
/-- read_term, level 5, slots 0:reader 1:word -/
def r_read_term (W : DW) (C_Reader : Addr) (s_Reader_skip : DSp) (s_Reader_number : DSp) (s_Reader_peek : DSp) (s_is_name : DSp) (s_Reader_stop : DSp) (s_Reader_take : DSp) : DS := dSeq (dIfS (dTru (dMeth C_Reader "skip" s_Reader_skip (dVar 0) (dCons (dC (.str "nil")) (dNil)))) (dRet (dC (.int 0))) (dNext)) (dSeq (dIfS (dTru (dMeth C_Reader "skip" s_Reader_skip (dVar 0) (dCons (dC (.str "-")) (dNil)))) (dRet (dU (fun i => -i) (dMethX W C_Reader "number" s_Reader_number (dVar 0) dNil))) (dNext)) (dSeq (dAsg (dMeth C_Reader "peek" s_Reader_peek (dVar 0) dNil) (dgName 1)) (dSeq (dIfS (dAnd (dTest (dOp (eqD true) (dVar 1) (dC (.str "")))) (dTest (dOp (inD false) (dOp subD (dVar 1) (dC (.int 0))) (dCD g_DIGITS)))) (dRet (dMethX W C_Reader "number" s_Reader_number (dVar 0) dNil)) (dNext)) (dSeq (dIfS (dNot (dTru (dCall s_is_name (dCons (dVar 1) (dNil))))) (dDrop (dMethX W C_Reader "stop" s_Reader_stop (dVar 0) dNil)) (dNext)) (dRet (dMethX W C_Reader "take" s_Reader_take (dVar 0) dNil))))))
/-- read_names, level 5, slots 0:reader 1:found -/
def r_read_names (W : DW) (C_Reader : Addr) (s_Reader_peek : DSp) (s_is_name : DSp) (s_Reader_stop : DSp) (s_Reader_take : DSp) (s_Reader_skip : DSp) : DS := dSeq (dAsg (dLstM (dNil)) (dgName 1)) (dWhile (dTru (dC (.bl true))) (dSeq (dIfS (dNot (dTru (dCall s_is_name (dCons (dMeth C_Reader "peek" s_Reader_peek (dVar 0) dNil) (dNil))))) (dDrop (dMethX W C_Reader "stop" s_Reader_stop (dVar 0) dNil)) (dNext)) (dSeq (dDrop (dBM "list" mAppend (dVar 1) (dCons (dMethX W C_Reader "take" s_Reader_take (dVar 0) dNil) (dNil)))) (dIfS (dNot (dTru (dMeth C_Reader "skip" s_Reader_skip (dVar 0) (dCons (dC (.str ",")) (dNil))))) (dRet (dCB cTuple (dCons (dVar 1) (dNil)))) (dNext)))))
/-- read_cell, level 6, slots 0:reader 1:at 2:head 3:tail 4:share -/
def r_read_cell (K : PySem.W.Frag) (W : DW) (C_Reader : Addr) (s_Reader_need : DSp) (s_read_term : DSp) (s_Reader_skip : DSp) (s_Reader_number : DSp) (s_Reader_stop : DSp) : DS := dSeq (dDrop (dMethX W C_Reader "need" s_Reader_need (dVar 0) (dCons (dC (.str "(")) (dNil)))) (dSeq (dAsg (dCallX W s_read_term (dCons (dVar 0) (dNil))) (dgName 2)) (dSeq (dDrop (dMethX W C_Reader "need" s_Reader_need (dVar 0) (dCons (dC (.str ",")) (dNil)))) (dSeq (dAsg (dCallX W s_read_term (dCons (dVar 0) (dNil))) (dgName 3)) (dSeq (dDrop (dMethX W C_Reader "need" s_Reader_need (dVar 0) (dCons (dC (.str ")")) (dNil)))) (dSeq (dAsg (dCD g_WHOLE) (dgName 4)) (dSeq (dIfS (dTru (dMeth C_Reader "skip" s_Reader_skip (dVar 0) (dCons (dC (.str "by")) (dNil)))) (dSeq (dAsg (dMethX W C_Reader "number" s_Reader_number (dVar 0) dNil) (dgName 4)) (dIfS (dNot (dTest (dChain (dI0 fun i j => .bl (decide (i ≤ j))) (dI0 fun i j => .bl (decide (i ≤ j))) (dC (.int 1)) (dVar 4) (dCD g_WHOLE)))) (dSeq (dsFldAug K "at" (dVar 0) (dC (.int 1)) (dI0 fun i j => .int (i - j))) (dDrop (dMethX W C_Reader "stop" s_Reader_stop (dVar 0) dNil))) (dNext))) (dNext)) (dRet (dTup (dCons (dC (.str "cell")) (dCons (dVar 4) (dCons (dVar 1) (dCons (dVar 2) (dCons (dVar 3) (dNil))))))))))))))
/-- read_part, level 7, slots 0:reader 1:begin 2:end 3:root 4:term -/
def r_read_part (W : DW) (C_Reader : Addr) (s_Reader_skip : DSp) (s_Reader_need : DSp) (s_read_term : DSp) (s_read_cell : DSp) : DS := dSeq (dIfS (dTru (dMeth C_Reader "skip" s_Reader_skip (dVar 0) (dCons (dC (.str "emp")) (dNil)))) (dRet (dC .non)) (dNext)) (dSeq (dIfS (dTru (dMeth C_Reader "skip" s_Reader_skip (dVar 0) (dCons (dC (.str "list")) (dNil)))) (dSeq (dDrop (dMethX W C_Reader "need" s_Reader_need (dVar 0) (dCons (dC (.str "(")) (dNil)))) (dSeq (dAsg (dCallX W s_read_term (dCons (dVar 0) (dNil))) (dgName 1)) (dSeq (dDrop (dMethX W C_Reader "need" s_Reader_need (dVar 0) (dCons (dC (.str ",")) (dNil)))) (dSeq (dAsg (dCallX W s_read_term (dCons (dVar 0) (dNil))) (dgName 2)) (dSeq (dDrop (dMethX W C_Reader "need" s_Reader_need (dVar 0) (dCons (dC (.str ")")) (dNil)))) (dRet (dTup (dCons (dC (.str "list")) (dCons (dVar 1) (dCons (dVar 2) (dNil))))))))))) (dNext)) (dSeq (dIfS (dTru (dMeth C_Reader "skip" s_Reader_skip (dVar 0) (dCons (dC (.str "tree")) (dNil)))) (dSeq (dDrop (dMethX W C_Reader "need" s_Reader_need (dVar 0) (dCons (dC (.str "(")) (dNil)))) (dSeq (dAsg (dCallX W s_read_term (dCons (dVar 0) (dNil))) (dgName 3)) (dSeq (dDrop (dMethX W C_Reader "need" s_Reader_need (dVar 0) (dCons (dC (.str ")")) (dNil)))) (dRet (dTup (dCons (dC (.str "tree")) (dCons (dVar 3) (dNil)))))))) (dNext)) (dSeq (dAsg (dCallX W s_read_term (dCons (dVar 0) (dNil))) (dgName 4)) (dSeq (dIfS (dTru (dMeth C_Reader "skip" s_Reader_skip (dVar 0) (dCons (dC (.str "==")) (dNil)))) (dRet (dTup (dCons (dC (.str "eq")) (dCons (dVar 4) (dCons (dCallX W s_read_term (dCons (dVar 0) (dNil))) (dNil)))))) (dNext)) (dSeq (dIfS (dTru (dMeth C_Reader "skip" s_Reader_skip (dVar 0) (dCons (dC (.str "!=")) (dNil)))) (dRet (dTup (dCons (dC (.str "ne")) (dCons (dVar 4) (dCons (dCallX W s_read_term (dCons (dVar 0) (dNil))) (dNil)))))) (dNext)) (dSeq (dDrop (dMethX W C_Reader "need" s_Reader_need (dVar 0) (dCons (dC (.str "->")) (dNil)))) (dRet (dCallX W s_read_cell (dCons (dVar 0) (dCons (dVar 4) (dNil)))))))))))
/-- read_shape, level 8, slots 0:reader 1:unknown 2:pure 3:items 4:part -/
def r_read_shape (W : DW) (C_Reader : Addr) (s_Reader_skip : DSp) (s_read_names : DSp) (s_Reader_need : DSp) (s_read_part : DSp) : DS := dSeq (dAsg (dTup (dNil)) (dgName 1)) (dSeq (dIfS (dTru (dMeth C_Reader "skip" s_Reader_skip (dVar 0) (dCons (dC (.str "some")) (dNil)))) (dSeq (dAsg (dCallX W s_read_names (dCons (dVar 0) (dNil))) (dgName 1)) (dDrop (dMethX W C_Reader "need" s_Reader_need (dVar 0) (dCons (dC (.str ".")) (dNil))))) (dNext)) (dSeq (dPar 2 3 (dCons (dLstM (dNil)) (dCons (dLstM (dNil)) (dNil)))) (dWhile (dTru (dC (.bl true))) (dSeq (dAsg (dCallX W s_read_part (dCons (dVar 0) (dNil))) (dgName 4)) (dSeq (dIfS (dAnd (dTest (dOp (isN true) (dVar 4) (dC .non))) (dTest (dOp (inD false) (dOp subD (dVar 4) (dC (.int 0))) (dTup (dCons (dC (.str "eq")) (dCons (dC (.str "ne")) (dNil))))))) (dDrop (dBM "list" mAppend (dVar 2) (dCons (dVar 4) (dNil)))) (dIfS (dTest (dOp (isN true) (dVar 4) (dC .non))) (dDrop (dBM "list" mAppend (dVar 3) (dCons (dVar 4) (dNil)))) (dNext))) (dIfS (dNot (dTru (dMeth C_Reader "skip" s_Reader_skip (dVar 0) (dCons (dC (.str "*")) (dNil))))) (dRet (dTup (dCons (dVar 1) (dCons (dCB cTuple (dCons (dVar 2) (dNil))) (dCons (dCB cTuple (dCons (dVar 3) (dNil))) (dNil)))))) (dNext)))))))
/-- read_assertion, level 9, slots 0:reader 1:found -/
def r_read_assertion (W : DW) (s_read_shape : DSp) (C_Reader : Addr) (s_Reader_skip : DSp) : DS := dSeq (dAsg (dLstM (dCons (dCallX W s_read_shape (dCons (dVar 0) (dNil))) (dNil))) (dgName 1)) (dSeq (dWhile (dTru (dMeth C_Reader "skip" s_Reader_skip (dVar 0) (dCons (dC (.str "or")) (dNil)))) (dDrop (dBM "list" mAppend (dVar 1) (dCons (dCallX W s_read_shape (dCons (dVar 0) (dNil))) (dNil))))) (dRet (dCB cTuple (dCons (dVar 1) (dNil)))))
/-- parse_shape, level 9, slots 0:text 1:reader 2:shape -/
def r_parse_shape (W : DW) (s_words_of : DSp) (C_Reader : Addr) (s_Reader___init__ : DSp) (s_read_shape : DSp) (s_Reader_end : DSp) (s_check_shape : DSp) : DS := dSeq (dAsg (dMake C_Reader s_Reader___init__ (dCons (dCallX W s_words_of (dCons (dVar 0) (dNil))) (dNil))) (dgName 1)) (dSeq (dAsg (dCallX W s_read_shape (dCons (dVar 1) (dNil))) (dgName 2)) (dSeq (dDrop (dMethX W C_Reader "end" s_Reader_end (dVar 1) dNil)) (dSeq (dDrop (dCallX W s_check_shape (dCons (dVar 2) (dNil)))) (dRet (dVar 2)))))
/-- parse_assertion, level 10, slots 0:text 1:reader 2:assertion -/
def r_parse_assertion (W : DW) (s_words_of : DSp) (C_Reader : Addr) (s_Reader___init__ : DSp) (s_read_assertion : DSp) (s_Reader_end : DSp) (s_check_assertion : DSp) : DS := dSeq (dAsg (dMake C_Reader s_Reader___init__ (dCons (dCallX W s_words_of (dCons (dVar 0) (dNil))) (dNil))) (dgName 1)) (dSeq (dAsg (dCallX W s_read_assertion (dCons (dVar 1) (dNil))) (dgName 2)) (dSeq (dDrop (dMethX W C_Reader "end" s_Reader_end (dVar 1) dNil)) (dSeq (dDrop (dCallX W s_check_assertion (dCons (dVar 2) (dNil)))) (dRet (dVar 2)))))
/-- _law_told, level 10, slots 0:text 1:e -/
def r__law_told (K : PySem.W.Frag) (C_HeldError : Addr) (s_parse_shape : DSp) (C_TextError : Addr) (C_InputError : Addr) : DS := dSeq (dTryAs K (.ref C_HeldError) 1 (fun W1 => dDrop (dCallX W1 s_parse_shape (dCons (dVar 0) (dNil)))) (fun a1 cls1 fs1 => dRet (dIf (dAnd (dTru (dIsE K a1 cls1 (dVar 1) C_TextError)) (dNot (dTru (dIsE K a1 cls1 (dVar 1) C_InputError)))) (dTup (dCons (dXf K a1 cls1 fs1 "code" (dVar 1)) (dCons (dXf K a1 cls1 fs1 "at" (dVar 1)) (dNil)))) (dC (.str "other")))) (fun _ _ _ _ => False)) (dRet (dC .non))
/-- _law_part, level 3, slots 0:d -/
def r__law_part (s__law_pick : DSp) : DS := dRet (dCall s__law_pick (dCons (dVar 0) (dCons (dLst (dCons (dLst (dCons (dC (.str "x")) (dCons (dC (.str "->")) (dCons (dC (.str "(")) (dCons (dC (.str "y")) (dCons (dC (.str ",")) (dCons (dC (.str "nil")) (dCons (dC (.str ")")) (dNil))))))))) (dCons (dLst (dCons (dC (.str "list")) (dCons (dC (.str "(")) (dCons (dC (.str "x")) (dCons (dC (.str ",")) (dCons (dC (.str "y")) (dCons (dC (.str ")")) (dNil)))))))) (dCons (dLst (dCons (dC (.str "tree")) (dCons (dC (.str "(")) (dCons (dC (.str "7")) (dCons (dC (.str ")")) (dNil)))))) (dCons (dLst (dCons (dC (.str "x")) (dCons (dC (.str "==")) (dCons (dC (.str "-")) (dCons (dC (.str "3")) (dNil)))))) (dCons (dLst (dCons (dC (.str "emp")) (dNil))) (dCons (dLst (dCons (dC (.str "y")) (dCons (dC (.str "!=")) (dCons (dC (.str "nil")) (dNil))))) (dNil)))))))) (dNil))))
def r_law_c0 (K : PySem.W.Frag) (s__law_begin : DSp) (s__law_take : DSp) (s__law_part : DSp) (s__law_pick : DSp) (s__law_told : DSp) (C_TextError : Addr) (s_parse_assertion : DSp) : DS := dSeq (dIfS (dTest (dOp (eqD true) (dCall s__law_told (dCons (dBM "str" mJoin (dC (.str " ")) (dCons (dVar 12) (dNil))) (dNil))) (dTup (dCons (dC (.str "form")) (dCons (dOp plusD (dVar 8) (dVar 10)) (dNil)))))) (dRet (dC (.bl false))) (dNext)) (dIfS (dOr (dTest (dChain (dI0 fun i j => .bl (decide (i < j))) (dI0 fun i j => .bl (decide (i < j))) (dC (.int 0)) (dVar 10) (dC (.int 7)))) (dTest (dOp (eqD false) (dVar 10) (dC (.int 8))))) (dIfS (dTest (dOp (eqD true) (dCall s__law_told (dCons (dBM "str" mJoin (dC (.str " ")) (dCons (dOp plusD (dVar 2) (dSlice (dVar 6) (doNone) (doSome (dVar 10)))) (dNil))) (dNil))) (dTup (dCons (dC (.str "form")) (dCons (dOp plusD (dVar 8) (dVar 10)) (dNil)))))) (dRet (dC (.bl false))) (dNext)) (dNext))
def r_law_c1 (K : PySem.W.Frag) (s__law_begin : DSp) (s__law_take : DSp) (s__law_part : DSp) (s__law_pick : DSp) (s__law_told : DSp) (C_TextError : Addr) (s_parse_assertion : DSp) : DS := dSeq (dTryAs K (.ref C_TextError) 16 (fun W1 => dDrop (dCallX W1 s_parse_assertion (dCons (dOp plusD (dBM "str" mJoin (dC (.str " ")) (dCons (dVar 7) (dNil))) (dC (.str " or"))) (dNil)))) (fun a1 cls1 fs1 => dRet (dAndV (dOp (eqD false) (dXf K a1 cls1 fs1 "code" (dVar 16)) (dC (.str "form"))) (dOp (eqD false) (dXf K a1 cls1 fs1 "at" (dVar 16)) (dOp plusD (dCB cLen (dCons (dVar 7) (dNil))) (dC (.int 1)))))) (fun _ _ _ _ => False)) (dRet (dC (.bl false)))
def r_law_c2 (K : PySem.W.Frag) (s__law_begin : DSp) (s__law_take : DSp) (s__law_part : DSp) (s__law_pick : DSp) (s__law_told : DSp) (C_TextError : Addr) (s_parse_assertion : DSp) : DS := dSeq (dIfS (dOr (dTest (dOp (eqD true) (dCall s__law_told (dCons (dC (.str "")) (dNil))) (dTup (dCons (dC (.str "form")) (dCons (dC (.int 0)) (dNil)))))) (dOr (dTest (dOp (eqD true) (dCall s__law_told (dCons (dC (.str "some . emp")) (dNil))) (dTup (dCons (dC (.str "form")) (dCons (dC (.int 1)) (dNil)))))) (dTest (dOp (eqD true) (dCall s__law_told (dCons (dC (.str "some d emp")) (dNil))) (dTup (dCons (dC (.str "form")) (dCons (dC (.int 2)) (dNil)))))))) (dRet (dC (.bl false))) (dNext)) (r_law_c1 K s__law_begin s__law_take s__law_part s__law_pick s__law_told C_TextError s_parse_assertion)
def r_law_c3 (K : PySem.W.Frag) (s__law_begin : DSp) (s__law_take : DSp) (s__law_part : DSp) (s__law_pick : DSp) (s__law_told : DSp) (C_TextError : Addr) (s_parse_assertion : DSp) : DS := dSeq (dIfS (dOr (dTest (dOp (eqD true) (dCall s__law_told (dCons (dOp plusD (dOp plusD (dC (.str "x == ")) (dVar 15)) (dC (.str "0"))) (dNil))) (dTup (dCons (dC (.str "form")) (dCons (dC (.int 2)) (dNil)))))) (dTest (dOp (eqD true) (dCall s__law_told (dCons (dOp plusD (dOp plusD (dC (.str "x == -")) (dVar 15)) (dC (.str "1"))) (dNil))) (dTup (dCons (dC (.str "form")) (dCons (dC (.int 3)) (dNil))))))) (dRet (dC (.bl false))) (dNext)) (r_law_c2 K s__law_begin s__law_take s__law_part s__law_pick s__law_told C_TextError s_parse_assertion)
def r_law_c4 (K : PySem.W.Frag) (s__law_begin : DSp) (s__law_take : DSp) (s__law_part : DSp) (s__law_pick : DSp) (s__law_told : DSp) (C_TextError : Addr) (s_parse_assertion : DSp) : DS := dSeq (dAsg (dOp plusD (dVar 14) (dOp mulSD (dC (.str "7")) (dOp (dI0 fun i j => .int (i - j)) (dC (.int 30)) (dCB cLen (dCons (dVar 14) (dNil)))))) (dgName 15)) (dSeq (dIfS (dOr (dTest (dOp (isN true) (dCall s__law_told (dCons (dOp plusD (dC (.str "x == ")) (dVar 15)) (dNil))) (dC .non))) (dTest (dOp (isN true) (dCall s__law_told (dCons (dOp plusD (dC (.str "x == -")) (dVar 15)) (dNil))) (dC .non)))) (dRet (dC (.bl false))) (dNext)) (r_law_c3 K s__law_begin s__law_take s__law_part s__law_pick s__law_told C_TextError s_parse_assertion))
def r_law_c5 (K : PySem.W.Frag) (s__law_begin : DSp) (s__law_take : DSp) (s__law_part : DSp) (s__law_pick : DSp) (s__law_told : DSp) (C_TextError : Addr) (s_parse_assertion : DSp) : DS := dSeq (dIfS (dTest (dOp (eqD true) (dCall s__law_told (dCons (dBM "str" mJoin (dC (.str " ")) (dCons (dOp plusD (dOp plusD (dSlice (dVar 7) (doNone) (doSome (dVar 10))) (dLst (dCons (dVar 13) (dNil)))) (dSlice (dVar 7) (doSome (dVar 10)) (doNone))) (dNil))) (dNil))) (dTup (dCons (dC (.str "sign")) (dCons (dVar 10) (dNil)))))) (dRet (dC (.bl false))) (dNext)) (dSeq (dIfS (dTest (dOp (eqD true) (dCall s__law_told (dCons (dBM "str" mJoin (dC (.str " ")) (dCons (dOp plusD (dOp plusD (dOp plusD (dSlice (dVar 7) (doNone) (doSome (dVar 8))) (dLst (dCons (dC (.str "->")) (dNil)))) (dSlice (dVar 7) (doSome (dVar 8)) (doSome (dVar 10)))) (dLst (dCons (dVar 13) (dNil)))) (dNil))) (dNil))) (dTup (dCons (dC (.str "sign")) (dCons (dCB cMax2 (dCons (dOp plusD (dVar 8) (dC (.int 1))) (dCons (dOp plusD (dVar 10) (dC (.int 1))) (dNil)))) (dNil)))))) (dRet (dC (.bl false))) (dNext)) (dSeq (dAsg (dCall s__law_pick (dCons (dVar 1) (dCons (dLst (dCons (dC (.str "1")) (dCons (dC (.str "9")) (dCons (dC (.str "40")) (dNil))))) (dNil)))) (dgName 14)) (r_law_c4 K s__law_begin s__law_take s__law_part s__law_pick s__law_told C_TextError s_parse_assertion)))
def r_law_c6 (K : PySem.W.Frag) (s__law_begin : DSp) (s__law_take : DSp) (s__law_part : DSp) (s__law_pick : DSp) (s__law_told : DSp) (C_TextError : Addr) (s_parse_assertion : DSp) : DS := dSeq (dAsg (dCB cLen (dCons (dVar 2) (dNil))) (dgName 8)) (dSeq (dIfS (dTest (dOp (isN true) (dCall s__law_told (dCons (dBM "str" mJoin (dC (.str " ")) (dCons (dVar 7) (dNil))) (dNil))) (dC .non))) (dRet (dC (.bl false))) (dNext)) (dSeq (dAsg (dLst (dCons (dLst (dCons (dC (.str "*")) (dCons (dC (.str ")")) (dCons (dC (.str "or")) (dNil))))) (dCons (dLst (dCons (dC (.str "(")) (dCons (dC (.str ",")) (dCons (dC (.str "*")) (dNil))))) (dCons (dLst (dCons (dC (.str ",")) (dCons (dC (.str ")")) (dCons (dC (.str "->")) (dNil))))) (dCons (dLst (dCons (dC (.str ")")) (dCons (dC (.str ",")) (dCons (dC (.str "by")) (dNil))))) (dCons (dLst (dCons (dC (.str "->")) (dCons (dC (.str ")")) (dCons (dC (.str "x")) (dNil))))) (dCons (dLst (dCons (dC (.str "(")) (dCons (dC (.str ",")) (dCons (dC (.str "->")) (dNil))))) (dCons (dLst (dCons (dC (.str "(")) (dCons (dC (.str ",")) (dCons (dC (.str "emp")) (dNil))))) (dCons (dLst (dCons (dC (.str "x")) (dCons (dC (.str "(")) (dCons (dC (.str "3")) (dNil))))) (dCons (dLst (dCons (dC (.str "13")) (dCons (dC (.str "0")) (dCons (dC (.str "nil")) (dCons (dC (.str "by")) (dCons (dCB cStrA (dCons (dOp plusD (dC (.int 13)) (dCall s__law_take (dCons (dVar 1) (dCons (dOp (dI CPow fun i j => .int (i ^ j.toNat)) (dC (.int 10)) (dC (.int 6))) (dNil))))) (dNil))) (dNil))))))) (dNil))))))))))) (dgName 9)) (dSeq (dFor (diRng1 (dCons (dCB cLen (dCons (dVar 6) (dNil))) (dNil))) (dgName 10) (dSeq (dAsg (dCall s__law_pick (dCons (dVar 1) (dCons (dOp subD (dVar 9) (dVar 10)) (dNil)))) (dgName 11)) (dSeq (dAsg (dOp plusD (dOp plusD (dOp plusD (dOp plusD (dVar 2) (dSlice (dVar 6) (doNone) (doSome (dVar 10)))) (dLst (dCons (dVar 11) (dNil)))) (dSlice (dVar 6) (doSome (dOp plusD (dVar 10) (dC (.int 1)))) (doNone))) (dVar 4)) (dgName 12)) (r_law_c0 K s__law_begin s__law_take s__law_part s__law_pick s__law_told C_TextError s_parse_assertion)))) (dSeq (dAsg (dCall s__law_take (dCons (dVar 1) (dCons (dOp plusD (dCB cLen (dCons (dVar 7) (dNil))) (dC (.int 1))) (dNil)))) (dgName 10)) (dSeq (dAsg (dCall s__law_pick (dCons (dVar 1) (dCons (dLst (dCons (dC (.str "@")) (dCons (dC (.str "[")) (dCons (dC (.str "?")) (dCons (dC (.str "/")) (dCons (dC (.str "'")) (dCons (dOp plusD (dSlice (dC (.str "=")) (doNone) (doSome (dC (.int 0)))) (dC (.str "&"))) (dCons (dC (.str "|")) (dNil))))))))) (dNil)))) (dgName 13)) (r_law_c5 K s__law_begin s__law_take s__law_part s__law_pick s__law_told C_TextError s_parse_assertion))))))
def r_law_c7 (K : PySem.W.Frag) (s__law_begin : DSp) (s__law_take : DSp) (s__law_part : DSp) (s__law_pick : DSp) (s__law_told : DSp) (C_TextError : Addr) (s_parse_assertion : DSp) : DS := dSeq (dAsg (dOp plusD (dC (.int 1)) (dCall s__law_take (dCons (dVar 1) (dCons (dC (.int 12)) (dNil))))) (dgName 5)) (dSeq (dAsg (dLst (dCons (dC (.str "x")) (dCons (dC (.str "->")) (dCons (dC (.str "(")) (dCons (dCall s__law_pick (dCons (dVar 1) (dCons (dLst (dCons (dC (.str "y")) (dCons (dC (.str "nil")) (dCons (dC (.str "5")) (dNil))))) (dNil)))) (dCons (dC (.str ",")) (dCons (dCall s__law_pick (dCons (dVar 1) (dCons (dLst (dCons (dC (.str "y")) (dCons (dC (.str "nil")) (dCons (dC (.str "5")) (dNil))))) (dNil)))) (dCons (dC (.str ")")) (dCons (dC (.str "by")) (dCons (dCB cStrA (dCons (dVar 5) (dNil))) (dNil))))))))))) (dgName 6)) (dSeq (dAsg (dOp plusD (dOp plusD (dVar 2) (dVar 6)) (dVar 4)) (dgName 7)) (r_law_c6 K s__law_begin s__law_take s__law_part s__law_pick s__law_told C_TextError s_parse_assertion)))
/-- law, level 11, slots 0:script 1:d 2:ahead 3:k 4:behind 5:share 6:cell 7:words 8:at 9:turned 10:place 11:word 12:bad 13:strange 14:figures 15:long 16:e -/
def r_law (K : PySem.W.Frag) (s__law_begin : DSp) (s__law_take : DSp) (s__law_part : DSp) (s__law_pick : DSp) (s__law_told : DSp) (C_TextError : Addr) (s_parse_assertion : DSp) : DS := dSeq (dAsg (dCall s__law_begin (dCons (dVar 0) (dNil))) (dgName 1)) (dSeq (dAsg (dLst (dNil)) (dgName 2)) (dSeq (dFor (diRng1 (dCons (dCall s__law_take (dCons (dVar 1) (dCons (dC (.int 6)) (dNil)))) (dNil))) (dgName 3) (dAsg (dOp plusD (dOp plusD (dVar 2) (dCall s__law_part (dCons (dVar 1) (dNil)))) (dLst (dCons (dC (.str "*")) (dNil)))) (dgName 2))) (dSeq (dAsg (dLst (dNil)) (dgName 4)) (dSeq (dFor (diRng1 (dCons (dCall s__law_take (dCons (dVar 1) (dCons (dC (.int 3)) (dNil)))) (dNil))) (dgName 3) (dAsg (dOp plusD (dOp plusD (dVar 4) (dLst (dCons (dC (.str "*")) (dNil)))) (dCall s__law_part (dCons (dVar 1) (dNil)))) (dgName 4))) (r_law_c7 K s__law_begin s__law_take s__law_part s__law_pick s__law_told C_TextError s_parse_assertion)))))
end K04


set_option Elab.async false
set_option linter.all false
set_option maxRecDepth 100000
/-! readings of the defs, printed by gen.py -/
namespace YD
open PySem PySem.Spec PyProof.Rows L2 Y
/-- _law_begin, level 1, slots 0:script 1:seed 2:cell -/
def r__law_begin  : DS := dSeq (dAsg (dC (.int 1)) (dgName 1)) (dSeq (dFor (diIt (dVar 0)) (dgName 2) (dAsg (dOp (dI (fun _ j => 0 < j) fun i j => .int (i % j)) (dOp plusD (dOp plusD (dOp (dI CMul fun i j => .int (i * j)) (dVar 1) (dC (.int 69621))) (dOp (dI (fun _ j => 0 < j) fun i j => .int (i % j)) (dCB cInt (dCons (dVar 2) (dNil))) (dC (.int 2147483629)))) (dC (.int 7))) (dC (.int 2147483647))) (dgName 1))) (dRet (dLstM (dCons (dCB cList (dCons (dVar 0) (dNil))) (dCons (dC (.int 0)) (dCons (dC (.int 0)) (dCons (dVar 1) (dNil))))))))
/-- _law_take, level 1, slots 0:d 1:many 2:small 3:digit -/
def r__law_take  : DS := dSeq (dIfS (dAnd (dTest (dOp (eqD false) (dOp subD (dVar 0) (dC (.int 2))) (dC (.int 0)))) (dTest (dOp (dI0 fun i j => .bl (decide (i < j))) (dOp subD (dVar 0) (dC (.int 1))) (dCB cLen (dCons (dOp subD (dVar 0) (dC (.int 0))) (dNil)))))) (dSeq (dAsg (dCB cAbs (dCons (dCB cInt (dCons (dOp subD (dOp subD (dVar 0) (dC (.int 0))) (dOp subD (dVar 0) (dC (.int 1)))) (dNil))) (dNil))) (dgSub (dVar 0) (dC (.int 2)))) (dSeq (dAsg (dOp plusD (dOp subD (dVar 0) (dC (.int 1))) (dC (.int 1))) (dgSub (dVar 0) (dC (.int 1)))) (dIfS (dTest (dChain (dI0 fun i j => .bl (decide (i < j))) (dI0 fun i j => .bl (decide (i < j))) (dC (.int 0)) (dOp subD (dVar 0) (dC (.int 2))) (dVar 1))) (dSeq (dAsg (dOp subD (dVar 0) (dC (.int 2))) (dgName 2)) (dSeq (dAsg (dC (.int 0)) (dgSub (dVar 0) (dC (.int 2)))) (dRet (dVar 2)))) (dNext)))) (dNext)) (dSeq (dIfS (dTest (dOp (dI0 fun i j => .bl (decide (j < i))) (dOp subD (dVar 0) (dC (.int 2))) (dC (.int 0)))) (dSeq (dAsg (dOp (dI (fun _ j => 0 < j) fun i j => .int (i % j)) (dCB cInt (dCons (dOp subD (dVar 0) (dC (.int 2))) (dNil))) (dVar 1)) (dgName 3)) (dSeq (dAsg (dOp (dI CDiv fun i j => .int (i / j)) (dCB cInt (dCons (dOp subD (dVar 0) (dC (.int 2))) (dNil))) (dVar 1)) (dgSub (dVar 0) (dC (.int 2)))) (dRet (dVar 3)))) (dNext)) (dSeq (dAsg (dOp (dI (fun _ j => 0 < j) fun i j => .int (i % j)) (dCB cInt (dCons (dOp plusD (dOp (dI CMul fun i j => .int (i * j)) (dOp subD (dVar 0) (dC (.int 3))) (dC (.int 48271))) (dC (.int 11))) (dNil))) (dC (.int 2147483647))) (dgSub (dVar 0) (dC (.int 3)))) (dRet (dOp (dI (fun _ j => 0 < j) fun i j => .int (i % j)) (dCB cInt (dCons (dOp (dI CDiv fun i j => .int (i / j)) (dOp subD (dVar 0) (dC (.int 3))) (dC (.int 3))) (dNil))) (dVar 1)))))
/-- _law_pick, level 2, slots 0:d 1:menu -/
def r__law_pick (s__law_take : DSp) : DS := dRet (dOp subD (dVar 1) (dCall s__law_take (dCons (dVar 0) (dCons (dCB cLen (dCons (dVar 1) (dNil))) (dNil)))))
end YD


set_option Elab.async false
set_option linter.all false
set_option maxRecDepth 100000
set_option maxHeartbeats 2000000
set_option pp.deepTerms false
set_option pp.maxSteps 400
/-! YD: the draws: what _law_begin, _law_take, _law_pick promise. -/
namespace YD
open PySem PySem.Spec PyProof.Rows L2 Y
local macro_rules | `(tactic| walk_at "y_ne") => `(tactic| first | assumption | exact Ne.symm (by assumption) | ((refine ne_none (M := ?yM) (m := ?ymo) ?ym1 ?ym2); (case ym2 => assumption); (case ym1 => walk_at "y_look")) | ((refine Ne.symm (ne_none (M := ?yM) (m := ?ymo) ?ym1 ?ym2)); (case ym2 => assumption); (case ym1 => walk_at "y_look")) | ((refine ne_none (M := ?yM) (m := ?ymo) ?ym1 (put_none (M := ?yM) (a := ?yma) (m := ?ymo2) ?ym2).2); (case ym2 => assumption); (case ym1 => walk_at "y_look")) | ((refine Ne.symm (ne_none (M := ?yM) (m := ?ymo) ?ym1 (put_none (M := ?yM) (a := ?yma) (m := ?ymo2) ?ym2).2)); (case ym2 => assumption); (case ym1 => walk_at "y_look")))
local macro_rules | `(tactic| walk_at "y_look") => `(tactic| first | assumption | exact put_same | ((with_reducible refine Eq.trans (put_ne ?yn) ?_); (case yn => walk_at "y_ne"); (walk_at "y_look")) | ((with_reducible refine Eq.trans (drop_ne ?yn) ?_); (case yn => walk_at "y_ne"); (walk_at "y_look")))
local macro_rules | `(tactic| walk_at "y_pl") => `(tactic| first | assumption | exact PlL.nil | exact Pl.int _ | exact Pl.non | exact Pl.bl _ | exact Pl.str (by decide +kernel) | ((with_reducible refine PlL.cons ?yp1 ?yp2); (case yp1 => walk_at "y_pl"); (case yp2 => walk_at "y_pl")) | ((with_reducible refine PlL.append ?yp1 ?yp2); (case yp1 => walk_at "y_pl"); (case yp2 => walk_at "y_pl")) | ((with_reducible refine Pl.tup ?yp1); (case yp1 => walk_at "y_pl")) | ((with_reducible refine PlL.mono (j := ?yj) ?yp1 ?yp2); (case yp1 => assumption); (case yp2 => first | decide | omega)) | ((with_reducible refine Pl.mono (j := ?yj) ?yp1 ?yp2); (case yp1 => assumption); (case yp2 => first | decide | omega)))
local macro_rules | `(tactic| walk_at "y_len") => `(tactic| ((try simp only [List.length_append, List.length_cons, List.length_nil, List.length_map, sizeLine_eq] at *); omega))
local macro_rules | `(tactic| walk_at "y_rfl") => `(tactic| first | rfl | (simp only [atI_nn]; rfl))
local macro_rules | `(tactic| walk_at "y_at") => `(tactic| first | exact atI_nn _ 0 | rfl)
local macro_rules | `(tactic| walk_at "y_cond") => `(tactic| first
  | (show (0 : Int) < _; first | decide | assumption | omega)
  | (exact ⟨by first | decide | assumption | omega, by first | decide | assumption | omega⟩)
  | (exact Or.inl ⟨by first | decide | assumption | omega, by first | decide | assumption | omega⟩)
  | (exact Or.inr ⟨by first | decide | assumption | omega, by first | decide | assumption | omega⟩)
  | (exact ⟨by decide, by decide, by decide⟩))
local macro_rules | `(tactic| walk_at "y1") => `(tactic| first
  | (with_reducible first | refine i_seq ?_ | refine i_next ?_ | refine i_asg ?_ | refine i_ret ?_ | refine i_retN ?_ | refine i_drop ?_ | refine i_cont ?_ | refine i_break ?_ | refine i_ifs ?_ | refine i_if ?_ | refine i_and ?_ | refine i_or ?_ | refine i_not ?_ | refine i_test ?_ | refine i_tru ?_ | refine i_andV ?_ | refine i_orV ?_ | refine i_notV ?_ | refine i_bl ?_ | refine i_op ?_ | refine i_chain ?_ | refine i_c ?_ | refine i_cd ?_ | refine i_nil ?_ | refine i_cons ?_ | refine i_call ?_ | refine i_cb ?_ | refine i_tup ?_ | refine i_lst ?_ | refine i_lstM ?_ | refine i_dict ?_ | refine i_frz ?_ | refine i_name ?_ | refine i_gcons ?_ | refine i_gnil ?_ | refine i_gsub ?_ | refine i_par ?_ | refine i_par2 ?_ | refine i_un ?_ | refine i_int ?_ | refine i_slice ?_ | refine i_onone ?_ | refine i_osome ?_ | refine i_bm ?_ | refine i_bm0 ?_ | refine i_get1 ?_ | refine i_get2 ?_ | refine i_del ?_ | refine i_for ?_ | refine i_lc ?_ | refine i_dc ?_ | refine i_yes ?_ | refine i_it ?_ | refine i_rng1 ?_ | refine i_fld ?_ | refine i_sfld ?_ | refine i_meth ?_ | refine i_make ?_ | refine v_I0 ?_ | refine v_plusI ?_ | refine v_eqI ?_ | refine v_eqS ?_ | refine v_isN ?_ | refine v_int ?_ | refine v_abs ?_ | refine v_sliceT ?_ | refine v_sliceL ?_ | refine b_fx ?_ | refine b_tx ?_)
  | ((with_reducible refine i_var (d := ?yd) ?ye0 ?_); (case ye0 => rfl))
  | ((with_reducible refine i_gtup ?ye0 ?_); (case ye0 => rfl))
  | (with_reducible refine iteT ?_)
  | (with_reducible refine iteF ?_)
  | (with_reducible refine b_dec ?_ ?_ <;> intro hc)
  | (with_reducible refine b_ndec ?_ ?_ <;> intro hc)
  | ((with_reducible refine v_subT (d := ?yd) ?ye0 ?_); (case ye0 => rfl))
  | ((with_reducible refine v_subL (d := ?yd) ?ye0 ?_); (case ye0 => rfl))
  | ((with_reducible refine v_subM (ds := ?yds) (d := ?yd) ?ye0 ?ye1 ?_); (case ye0 => (walk_at "y_look")); (case ye1 => rfl))
  | ((with_reducible refine v_setL (ds := ?yds) (j := ?yj) ?ye0 ?ye1 ?_); (case ye0 => (walk_at "y_look")); (case ye1 => rfl))
  | ((with_reducible refine v_I ?ye0 ?_); (case ye0 => (walk_at "y_cond")))
  | ((with_reducible refine i_sz ?ye0 ?_); (case ye0 => (first | exact Nat.le_of_ble_eq_true rfl | (simp only [List.length_append, List.length_cons, List.length_nil, List.length_map, sizeLine_eq] at *; omega))))
  | (with_reducible refine i_new fun yp yhp => ?_)
  | ((with_reducible refine v_app (ds := ?yds) ?ye0 ?ye1 ?_); (case ye0 => (walk_at "y_look")); (case ye1 => (first | (simp only [List.length_append, List.length_cons, List.length_nil, List.length_map, sizeLine_eq] at *; omega))))
  | ((with_reducible refine i_tyL (ds := ?yds) ?ye0 ?_); (case ye0 => (walk_at "y_look")))
  | (with_reducible refine i_tyl ?_)
  | ((with_reducible refine v_subK (kvs := ?ykv) (k := ?yk) (d := ?yd) ?ye0 ?ye1 ?ye2 ?_); (case ye0 => (walk_at "y_look")); (case ye1 => rfl); (case ye2 => first | assumption | rfl))
  | ((with_reducible refine v_plusL (ds := ?yds) (es := ?yes) ?ye0 ?ye1 ?ye2 ?_); (case ye0 => first | rfl | (with_reducible refine lsD_ref (ds := ?yds2) ?yl0; walk_at "y_look")); (case ye1 => first | rfl | (with_reducible refine lsD_ref (ds := ?yds2) ?yl0; walk_at "y_look")); (case ye2 => (simp only [List.length_append, List.length_cons, List.length_nil, List.length_map, sizeLine_eq] at *; omega)))
  | ((with_reducible refine v_plusT ?ye0 ?_); (case ye0 => (simp only [List.length_append, List.length_cons, List.length_nil, List.length_map, sizeLine_eq] at *; omega)))
  | ((with_reducible refine i_rng1d ?ye0 ?_); (case ye0 => (constructor <;> omega)))
  | ((with_reducible refine v_len (n := ?yn) ?ye0 ?_); (case ye0 => first | ((with_reducible refine lenD_ref (ds := ?yds) ?yl0); (case yl0 => walk_at "y_look")) | rfl))
  | ((with_reducible refine v_list (es := ?yes) ?ye0 ?_); (case ye0 => first | (with_reducible refine itD_ref (ds := ?yds) ?yl0; walk_at "y_look") | rfl))
  | ((with_reducible refine v_tuple (es := ?yes) ?ye0 ?_); (case ye0 => first | (with_reducible refine itD_ref (ds := ?yds) ?yl0; walk_at "y_look") | rfl))
  | ((with_reducible refine v_eqP ?ye0 ?ye1 fun yb => ?_); (case ye0 => walk_at "y_pl"); (case ye1 => walk_at "y_pl"))
  | (with_reducible refine b_emp ?_ ?_ <;> intro hc)
  | (with_reducible refine i_trul ?_)
  | (with_reducible refine i_trut ?_)
  | (with_reducible refine i_trub ?_)
  | ((with_reducible refine v_inT ?ye0 ?_); (case ye0 => exact ⟨rfl, rfl⟩))
  | (with_reducible refine b_var ?_ ?_ <;> intro hc)
  | ((with_reducible refine i_its (ds := ?yds) ?ye0 ?_); (case ye0 => rfl)))
local macro_rules | `(tactic| walk_at "y0") => `(tactic| repeat' (walk_at "y1"))
local macro_rules | `(tactic| walk_at "ys") => `(tactic| walk_at "y0")
structure Tk where
  ns : List Int
  i : Int
  cur : Int
  seed : Int
def Tk.ok (t : Tk) : Prop := 0 ≤ t.i ∧ 0 ≤ t.cur ∧ 0 ≤ t.seed ∧ t.seed < 2147483647
def tkM (t : Tk) : MO := .lst [.lst (t.ns.map D.int), .int t.i, .int t.cur, .int t.seed]
/-- any number from 0 on, below many -/
def spTake : DSp := fun ds M Q _ => ∃ a t many, ds = [.ref a, .int many] ∧ M a = some (tkM t) ∧ t.ok ∧ 0 < many ∧ many < 1073741824 ∧ ∀ r t', 0 ≤ r → r < many → t'.ok → Q (.int r) (put M a (tkM t'))
def spBegin : DSp := fun ds M Q _ => ∃ ns : List Int, ds = [.lst (ns.map D.int)] ∧ ∀ p t, M p = none → t.ok → Q (.ref p) (put M p (tkM t))
/-- any of the menu's items -/
def spPick : DSp := fun ds M Q _ => ∃ a t menu, ds = [.ref a, .lst menu] ∧ M a = some (tkM t) ∧ t.ok ∧ menu ≠ [] ∧ menu.length < 1073741824 ∧ ∀ d t', d ∈ menu → t'.ok → Q d (put M a (tkM t'))
theorem tk_fin {a : Addr} {t : Tk} {many : Int} {M : Mm} {Q : QD} {i cur seed r : Int} (k : ∀ r t', 0 ≤ r → r < many → t'.ok → Q (.int r) (put M a (tkM t'))) {M' : Mm}
    (e : M' = put M a (.lst [.lst (t.ns.map D.int), .int i, .int cur, .int seed])) (h0 : 0 ≤ r) (h1 : r < many) (hi : 0 ≤ i) (hc : 0 ≤ cur) (hs : 0 ≤ seed) (hs' : seed < 2147483647) : less Q (.int r) M' := less_of (k r ⟨t.ns, i, cur, seed⟩ h0 h1 ⟨hi, hc, hs, hs'⟩) e
theorem sub_ints {ns : List Int} {i : Int} {M : Mm} {Q : QD} (h0 : 0 ≤ i) (h : i < ns.length) (q : ∀ z, Q (.int z) M) : subD (.lst (ns.map D.int)) (.int i) M Q := by
  obtain ⟨n, rfl⟩ := Int.eq_ofNat_of_zero_le h0
  exact v_subL (by rw [atI_nn]; simp [show n < ns.length by omega]; rfl) (q _)
theorem rd_take (ds : List D) (M : Mm) (Q : QD) (E : DX) (h : spTake ds M Q E) : r__law_take { nx := fun _ M' => less Q .non M', rt := less Q } (startD 4 ds) M := by
  obtain ⟨a, t, many, rfl, hM, ⟨h0, h1, h2, h3⟩, h5, h6, k⟩ := h
  unfold tkM at hM
  show r__law_take _ [some (.ref a), some (.int many), none, none] M
  unfold r__law_take
  have m0 : ∀ z : Int, 0 ≤ z % many := fun z => Int.emod_nonneg _ (by omega)
  have m1 : ∀ z : Int, z % many < many := fun z => Int.emod_lt_of_pos _ h5
  have m2 : ∀ z : Int, 0 ≤ z → 0 ≤ z / many := fun z hz => Int.ediv_nonneg hz (by omega)
  have m3 : ∀ z : Int, 0 ≤ z % 2147483647 := fun z => Int.emod_nonneg _ (by omega)
  have m4 : ∀ z : Int, z % 2147483647 < 2147483647 := fun z => Int.emod_lt_of_pos _ (by omega)
  walk_at "ys"
  · refine sub_ints h0 (by rename_i z1; simpa using z1) fun z => ?_
    have hz : 0 ≤ (if z < 0 then -z else z) := by split <;> omega
    generalize hw : (if z < 0 then -z else z) = w at hz
    walk_at "ys"
    all_goals first
      | exact tk_fin (t := t) k (by first | (simp only [put_put]; rfl) | rfl) (by omega) (by omega) (by omega) (by omega) h2 h3
      | exact tk_fin (t := t) k (by first | (simp only [put_put]; rfl) | rfl) (m0 _) (m1 _) (by omega) (m2 _ (by omega)) h2 h3
      | exact tk_fin (t := t) k (by first | (simp only [put_put]; rfl) | rfl) (m0 _) (m1 _) (by omega) (by omega) (m3 _) (m4 _)
  all_goals first
    | exact tk_fin (t := t) k (by first | (simp only [put_put]; rfl) | rfl) (m0 _) (m1 _) (by omega) (m2 _ (by omega)) h2 h3
    | exact tk_fin (t := t) k (by first | (simp only [put_put]; rfl) | rfl) (m0 _) (m1 _) (by omega) (by omega) (m3 _) (m4 _)
theorem rd_pick (ds : List D) (M : Mm) (Q : QD) (E : DX) (h : spPick ds M Q E) : r__law_pick spTake { nx := fun _ M' => less Q .non M', rt := less Q } (startD 2 ds) M := by
  obtain ⟨a, t, menu, rfl, hM, ok, h5, h6, k⟩ := h
  show r__law_pick _ _ [some (.ref a), some (.lst menu)] M
  unfold r__law_pick
  have hl : 0 < menu.length := by cases menu with | nil => exact absurd rfl h5 | cons _ _ => simp
  walk_at "ys"
  refine ⟨a, t, _, rfl, hM, ok, by omega, by omega, fun r t' r0 r1 ok' => ?_⟩
  obtain ⟨n, rfl⟩ := Int.eq_ofNat_of_zero_le r0
  have hn : n < menu.length := by omega
  refine v_subL (d := menu[n]) (by rw [atI_nn]; simp [hn]) ?_
  exact less_of (k _ t' (List.getElem_mem hn) ok') rfl
theorem rd_begin (ds : List D) (M : Mm) (Q : QD) (E : DX) (h : spBegin ds M Q E) : r__law_begin { nx := fun _ M' => less Q .non M', rt := less Q } (startD 3 ds) M := by
  obtain ⟨ns, rfl, k⟩ := h
  show r__law_begin _ [some (.lst (ns.map D.int)), none, none] M
  unfold r__law_begin
  walk_at "ys"
  refine for_word (fun i δ M' => ∃ z c, 0 ≤ z ∧ z < 2147483647 ∧ δ = [some (.lst (ns.map D.int)), some (.int z), c] ∧ M' = M) ⟨1, none, by omega, by omega, rfl, rfl⟩ ?_ ?_
  · rintro i d δ M' hd ⟨z, c, z0, z1, rfl, rfl⟩
    obtain ⟨y, rfl⟩ : ∃ y, d = .int y := by
      rw [List.getElem?_map] at hd
      cases e : ns[i]? with
      | none => rw [e] at hd; cases hd
      | some y => rw [e] at hd; exact ⟨y, (Option.some.inj hd).symm⟩
    walk_at "ys"
    exact ⟨_, _, Int.emod_nonneg _ (by omega), Int.emod_lt_of_pos _ (by omega), rfl, rfl⟩
  · rintro δ M' ⟨z, c, z0, z1, rfl, rfl⟩
    walk_at "ys"
    rename_i p hp
    exact less_of (k p ⟨ns, 0, 0, z⟩ hp ⟨Int.le_refl 0, Int.le_refl 0, z0, z1⟩) rfl
theorem i_take {a : Addr} {t : Tk} {many : Int} {M : Mm} {Q : QD} {E : DX} (hM : M a = some (tkM t)) (ok : t.ok) (hb : 0 < many ∧ many < 1073741824) (h : ∀ r t', 0 ≤ r → r < many → t'.ok → Q (.int r) (put M a (tkM t'))) : spTake [.ref a, .int many] M Q E := ⟨a, t, many, rfl, hM, ok, hb.1, hb.2, h⟩
theorem i_pick {P : D → Prop} {a : Addr} {t : Tk} {menu : List D} {M : Mm} {Q : QD} {E : DX} (hM : M a = some (tkM t)) (ok : t.ok) (hb : 0 < menu.length ∧ menu.length < 1073741824) (hP : ∀ d ∈ menu, P d) (h : ∀ d t', P d → t'.ok → Q d (put M a (tkM t'))) : spPick [.ref a, .lst menu] M Q E :=
  ⟨a, t, menu, rfl, hM, ok, fun e => by rw [e] at hb; exact absurd hb.1 (by decide), hb.2, fun d t' hd => h d t' (hP d hd)⟩
theorem i_pick2 {k : Nat} {a : Addr} {t : Tk} {menu : List D} {M : Mm} {Q : QD} {E : DX} (hM : M a = some (tkM t)) (ok : t.ok) (hb : 0 < menu.length ∧ menu.length < 1073741824) (hP : PlL k menu) (h : ∀ d t', Pl k d → d ∈ menu → t'.ok → Q d (put M a (tkM t'))) : spPick [.ref a, .lst menu] M Q E :=
  ⟨a, t, menu, rfl, hM, ok, fun e => by rw [e] at hb; exact absurd hb.1 (by decide), hb.2, fun d t' hd => h d t' (hP d hd) hd⟩
/-- a comprehension by a word that holds between the turns -/
theorem lc_wordG {G : Mm → Prop} {g : DG} {tt : DT} {te : DE} {δ0 : Y.Env} {p : Addr} {Q : Mm → Prop} {ds : List D} {M : Mm} (I : Nat → Mm → Prop) (h0 : I 0 M) (hs : ∀ i d M, ds[i]? = some d → I i M → g d δ0 M fun δ' M1 => tt δ' M1 fun b M2 => if b = true then te δ' M2 fun e M3 => ∃ acc, M3 p = some (.lst acc) ∧ acc.length < sizeLine ∧ I (i + 1) (put M3 p (.lst (acc ++ [e]))) else I (i + 1) M2)
    (hd : ∀ M, I ds.length M → Q M) (hG : ∀ i M, I i M → G M) : lcD G g tt te δ0 p Q ds M := by
  induction ds generalizing I M with
  | nil => exact ⟨hG _ _ h0, hd _ h0⟩
  | cons d ds ih =>
    refine ⟨hG _ _ h0, I 1, fun M' h => ?_, hs 0 d M rfl h0⟩
    exact ih (fun i => I (i + 1)) h (fun i d M e h => hs (i + 1) d M (by simpa using e) h) hd (fun i => hG (i + 1))
theorem lc_word {g : DG} {tt : DT} {te : DE} {δ0 : Y.Env} {p : Addr} {Q : Mm → Prop} {ds : List D} {M : Mm} (I : Nat → Mm → Prop) (h0 : I 0 M) (hs : ∀ i d M, ds[i]? = some d → I i M → g d δ0 M fun δ' M1 => tt δ' M1 fun b M2 => if b = true then te δ' M2 fun e M3 => ∃ acc, M3 p = some (.lst acc) ∧ acc.length < sizeLine ∧ I (i + 1) (put M3 p (.lst (acc ++ [e]))) else I (i + 1) M2)
    (hd : ∀ M, I ds.length M → Q M) : lcD GT g tt te δ0 p Q ds M := lc_wordG I h0 hs hd fun _ _ _ => trivial
theorem put_comm {M : Mm} {a b : Addr} {m n : MO} (h : a ≠ b) : put (put M a m) b n = put (put M b n) a m := by
  funext c
  unfold put
  by_cases h1 : c = a
  · subst h1; simp [h]
  · simp [h1]
/-- a comprehension that draws -/
theorem frz_drawG {G : Mm → Prop} (P : D → Prop) (all : Bool) {a p : Addr} {t : Tk} {g : DG} {te : DE} {tt : DT} {δ0 : Y.Env} {ds : List D} {M : Mm} {Q : Mm → Prop} (hM : M a = some (tkM t)) (ok : t.ok) (hp : M p = none) (hl : ds.length < sizeLine)
    (hs : ∀ d ∈ ds, ∀ t' M' (R : Mm → Prop), t'.ok → M' a = some (tkM t') → (∀ b, b ≠ a → b ≠ p → M' b = M b) → M' p ≠ none → (∀ e t'', P e → t''.ok → ∃ acc, put M' a (tkM t'') p = some (.lst acc) ∧ acc.length < sizeLine ∧ R (put (put M' a (tkM t'')) p (.lst (acc ++ [e])))) → (all = false → ∀ t'', t''.ok → R (put M' a (tkM t''))) →
      g d δ0 M' fun δ' M1 => tt δ' M1 fun b M2 => if b = true then te δ' M2 fun e M3 => ∃ acc, M3 p = some (.lst acc) ∧ acc.length < sizeLine ∧ R (put M3 p (.lst (acc ++ [e]))) else R M2)
    (k : ∀ es t' M', M' p = some (.lst es) → drop M' p = put M a (tkM t') → (∀ e ∈ es, P e) → es.length ≤ ds.length → (all = true → es.length = ds.length) → t'.ok → Q M') (hG : ∀ t' es, G (put (put M a (tkM t')) p (.lst es))) : lcD G g tt te δ0 p Q ds (put M p (.lst [])) := by
  have hap : a ≠ p := ne_none hM hp
  refine lc_wordG (fun i M' => ∃ t' es, t'.ok ∧ (∀ e ∈ es, P e) ∧ es.length ≤ i ∧ (all = true → es.length = i) ∧ i ≤ ds.length ∧ M' = put (put M a (tkM t')) p (.lst es)) ⟨t, [], ok, fun _ h => (by cases h), Nat.le_refl _, fun _ => rfl, Nat.zero_le _, ?_⟩ ?_ ?_ (fun i M' ⟨t', es, _, _, _, _, _, e⟩ => by rw [e]; exact hG t' es)
  · funext c; unfold put; by_cases h : c = p
    · simp [h]
    · by_cases h' : c = a
      · subst h'; simp [h, hM]
      · simp [h, h']
  · rintro i d M' hd ⟨t', es, o, hP, h1, h2, h3, rfl⟩
    have hi : i < ds.length := (List.getElem?_eq_some_iff.mp hd).1
    have key : ∀ (t'' : Tk), put (put (put M a (tkM t')) p (.lst es)) a (tkM t'') = put (put M a (tkM t'')) p (.lst es) := fun t'' => by
      rw [put_comm (M := put M a (tkM t')) hap.symm, put_put]
    refine hs d (List.mem_of_getElem? hd) t' _ _ o (by rw [put_ne hap]; exact put_same) (fun b hb hb' => by rw [put_ne hb', put_ne hb]) (by rw [put_same]; exact nofun) ?_ ?_
    · intro e t'' he o'
      rw [key]
      refine ⟨es, put_same, by omega, t'', es ++ [e], o', ?_, by simp; omega, fun z => by simp [h2 z], by omega, ?_⟩
      · intro e' he'
        rcases List.mem_append.mp he' with z | z
        · exact hP _ z
        · rw [List.mem_singleton.mp z]; exact he
      · rw [put_put]
    · intro hy t'' o'
      exact ⟨t'', es, o', hP, by omega, fun z => (by rw [hy] at z; cases z), by omega, by rw [key]⟩
  · rintro M' ⟨t', es, o, hP, h1, h2, h3, rfl⟩
    exact k es t' _ put_same (drop_put (by rw [put_ne hap.symm]; exact hp)) hP h1 h2 o
theorem frz_draw (P : D → Prop) (all : Bool) {a p : Addr} {t : Tk} {g : DG} {te : DE} {tt : DT} {δ0 : Y.Env} {ds : List D} {M : Mm} {Q : Mm → Prop} (hM : M a = some (tkM t)) (ok : t.ok) (hp : M p = none) (hl : ds.length < sizeLine)
    (hs : ∀ d ∈ ds, ∀ t' M' (R : Mm → Prop), t'.ok → M' a = some (tkM t') → (∀ b, b ≠ a → b ≠ p → M' b = M b) → M' p ≠ none → (∀ e t'', P e → t''.ok → ∃ acc, put M' a (tkM t'') p = some (.lst acc) ∧ acc.length < sizeLine ∧ R (put (put M' a (tkM t'')) p (.lst (acc ++ [e])))) → (all = false → ∀ t'', t''.ok → R (put M' a (tkM t''))) →
      g d δ0 M' fun δ' M1 => tt δ' M1 fun b M2 => if b = true then te δ' M2 fun e M3 => ∃ acc, M3 p = some (.lst acc) ∧ acc.length < sizeLine ∧ R (put M3 p (.lst (acc ++ [e]))) else R M2)
    (k : ∀ es t' M', M' p = some (.lst es) → drop M' p = put M a (tkM t') → (∀ e ∈ es, P e) → es.length ≤ ds.length → (all = true → es.length = ds.length) → t'.ok → Q M') : lcD GT g tt te δ0 p Q ds (put M p (.lst [])) := frz_drawG P all hM ok hp hl hs k fun _ _ => trivial
theorem put_id {M : Mm} {a : Addr} {m : MO} (h : M a = some m) : put M a m = M := by
  funext b
  unfold put
  by_cases e : b = a
  · subst e; simp [h]
  · simp [e]
/-- forget how a value came, but for P -/
theorem split_at {te : DE} {δ : Y.Env} {M : Mm} {K : QD} (P : D → Mm → Prop) (h1 : ∀ K' : QD, (∀ d M', P d M' → K' d M') → te δ M K') (h2 : ∀ d M', P d M' → K d M') : te δ M K := h1 K h2
theorem i_disp {l : List (DE × DE)} {δ : Y.Env} {M : Mm} {Q : QD} (h : ∀ p, M p = none → dPairs l δ (put M p (.dct [])) fun ps M2 => M2 p = some (.dct []) ∧ ∃ kvs, keysD ps = some kvs ∧ kvs.length ≤ 15 ∧ Q (.ref p) (put M2 p (.dct (mergeD kvs)))) : dDisp l δ M Q := h
theorem i_pcons {tk tv : DE} {r : List (DE × DE)} {δ : Y.Env} {M : Mm} {Q : List (D × D) → Mm → Prop} (h : tk δ M fun x M1 => tv δ M1 fun y M2 => dPairs r δ M2 fun ps M3 => Q ((x, y) :: ps) M3) : dPairs ((tk, tv) :: r) δ M Q := h
theorem i_pnil {δ : Y.Env} {M : Mm} {Q : List (D × D) → Mm → Prop} (h : Q [] M) : dPairs [] δ M Q := h
theorem i_mut {te : DE} {δ : Y.Env} {M : Mm} {R : List D → (Mm → Prop) → Mm → Prop} (h : te δ M fun d M1 => ∃ a ds, d = .ref a ∧ M1 a = some (.lst ds) ∧ R ds (fun M => M a = some (.lst ds)) M1) : diMut te δ M R := h
theorem i_mutd {M : Mm} {a : Addr} {ds : List D} {R : Addr → List D → Prop} (em : M a = some (.lst ds)) (h : R a ds) : ∃ b es, D.ref a = .ref b ∧ M b = some (.lst es) ∧ R b es := ⟨a, ds, rfl, em, h⟩
theorem valD_same {kvs : List (Key × D)} {k : Key} {d : D} : valD (putKD kvs k d) k = some d := by
  unfold valD putKD
  split
  · rename_i h
    induction kvs with
    | nil => simp at h
    | cons kv r ih =>
      by_cases e : kv.1 = k
      · simp [e]
      · have h' : (r.any fun kv => decide (kv.1 = k)) = true := by simpa [e] using h
        simpa [e] using ih h'
  · rename_i h
    have : kvs.find? (fun kv => decide (kv.1 = k)) = none := by
      rw [List.find?_eq_none]
      intro x hx hk
      exact h (by rw [List.any_eq_true]; exact ⟨x, hx, hk⟩)
    simp [this]
theorem valD_ne {kvs : List (Key × D)} {k k' : Key} {d e : D} (hk : k' ≠ k) (h : valD kvs k' = some e) : valD (putKD kvs k d) k' = some e := by
  have hk' : ¬ k = k' := fun z => hk z.symm
  unfold valD putKD at *
  split
  · rename_i h1
    clear h1
    induction kvs with
    | nil => simp at h
    | cons kv r ih =>
      by_cases e1 : kv.1 = k'
      · have e2 : ¬ kv.1 = k := fun z => hk (by rw [← e1, z])
        simp [e1, hk] at h ⊢
        exact h
      · by_cases e2 : kv.1 = k
        · simp [e2, hk'] at h ⊢
          simpa using ih (by simpa using h)
        · simp [e1, e2] at h ⊢
          simpa using ih (by simpa using h)
  · rw [List.find?_append]
    cases e1 : kvs.find? (fun kv => decide (kv.1 = k')) with
    | none => rw [e1] at h; cases h
    | some x => rw [e1] at h; exact h
theorem putKD_len {kvs : List (Key × D)} {k : Key} {d : D} : (putKD kvs k d).length ≤ kvs.length + 1 := by
  unfold putKD
  split <;> simp
theorem cut_mem {α : Type} {ds : List α} {lo hi : Option Int} {d : α} (h : d ∈ cut ds lo hi) : d ∈ ds := List.mem_of_mem_drop (List.mem_of_mem_take h)
theorem cut_len {α : Type} (ds : List α) (lo hi : Option Int) : (cut ds lo hi).length ≤ ds.length := by unfold cut; simp; omega
theorem cut_pl {k : Nat} {ds : List D} {lo hi : Option Int} (h : PlL k ds) : PlL k (cut ds lo hi) := fun d hd => h d (cut_mem hd)
theorem cut_pos {α : Type} {ds : List α} {n : Int} (h1 : 0 < n) (h2 : 0 < ds.length) : 0 < (cut ds none (some n)).length := by
  have e : HT.sIx ds.length ds.length (some n) = min n.toNat ds.length := by
    show (if n < 0 then (n + (ds.length : Int)).toNat else min n.toNat ds.length) = _
    rw [if_neg (by omega)]
  unfold cut
  rw [e, show HT.sIx ds.length 0 none = 0 from rfl, List.length_take, List.length_drop]
  omega
theorem pl_flat {d : D} (h : Pl 0 d) : flatD d = true := by
  obtain ⟨h1, h2⟩ := h
  cases d with
  | v x => cases x <;> simp_all [flatD, flatV, pln]
  | tup ds => simp [dep] at h2
  | lst ds => simp [dep] at h2
theorem pll_flat {ds : List D} (h : PlL 0 ds) : ds.all flatD = true := List.all_eq_true.mpr fun d hd => pl_flat (h d hd)
def KL (kvs : List (Key × D)) (n : Nat) : Prop := kvs.length ≤ n
theorem KL.put {kvs : List (Key × D)} {k : Key} {d : D} {n : Nat} (h : KL kvs n) : KL (putKD kvs k d) (n + 1) := Nat.le_trans putKD_len (Nat.succ_le_succ h)
theorem KL.merge {kvs : List (Key × D)} : KL (mergeD kvs) kvs.length := by
  have : ∀ (l acc : List (Key × D)), (l.foldl (fun acc kv => putKD acc kv.1 kv.2) acc).length ≤ acc.length + l.length := by
    intro l
    induction l with
    | nil => intro acc; simp
    | cons x l ih =>
      intro acc
      have h1 := ih (putKD acc x.1 x.2)
      have h2 := putKD_len (kvs := acc) (k := x.1) (d := x.2)
      simp only [List.foldl, List.length_cons]
      omega
  exact by simpa [KL, mergeD] using this kvs []
theorem KL.lt {kvs : List (Key × D)} {n : Nat} (h : KL kvs n) (hn : n < 1000) : kvs.length < sizeLine := by rw [sizeLine_eq]; have h : kvs.length ≤ n := h; omega
theorem v_inT' {neg : Bool} {d : D} {ds : List D} {M : Mm} {Q : QD} (h1 : Pl 0 d) (h2 : PlL 0 ds) (h : ∀ b, Q (.bl b) M) : inD neg d (.tup ds) M Q := ⟨pl_flat h1, pll_flat h2, h _⟩
theorem bls_app {es : List D} {bs : List Bool} {b : Bool} (h : blsD es = some bs) : blsD (es ++ [.bl b]) = some (bs ++ [b]) := by
  induction es generalizing bs with
  | nil => simp [blsD] at h; subst h; rfl
  | cons d es ih =>
    cases d with
    | v x =>
      cases x with
      | bl c =>
        simp only [blsD] at h
        cases e : blsD es with
        | none => rw [e] at h; cases h
        | some cs =>
          rw [e] at h
          cases h
          show (blsD (es ++ [.bl b])).map (c :: ·) = _
          rw [ih e]; rfl
      | _ => simp [blsD] at h
    | tup _ => simp [blsD] at h
    | lst _ => simp [blsD] at h
theorem len3 {ds : List D} (h : ds.length = 3) : ∃ x y z, ds = [x, y, z] := by
  match ds, h with
  | [x, y, z], _ => exact ⟨x, y, z, rfl⟩
theorem len2 {ds : List D} (h : ds.length = 2) : ∃ x y, ds = [x, y] := by
  match ds, h with
  | [x, y], _ => exact ⟨x, y, rfl⟩
end YD


set_option Elab.async false
set_option linter.all false
set_option maxRecDepth 100000
set_option maxHeartbeats 1000000
/-! YK: dicts by their keys, plain Lean. -/
namespace Y
open PySem PySem.Spec PyProof.Rows L2
def KN (kvs : List (Key × D)) : Prop := (kvs.map (·.1)).Nodup
theorem valD_nil (k : Key) : valD ([] : List (Key × D)) k = none := rfl
theorem valD_cons {kv : Key × D} {r : List (Key × D)} {k : Key} : valD (kv :: r) k = if kv.1 = k then some kv.2 else valD r k := by
  unfold valD
  by_cases h : kv.1 = k
  · simp [h]
  · simp [h]
theorem valD_mem {kvs : List (Key × D)} {k : Key} : k ∈ kvs.map (·.1) ↔ (valD kvs k).isSome = true := by
  induction kvs with
  | nil => simp [valD_nil]
  | cons kv r ih =>
    rw [valD_cons]
    by_cases h : kv.1 = k
    · simp [h]
    · rw [if_neg h, ← ih]
      rw [List.map_cons, List.mem_cons]
      exact ⟨fun e => e.resolve_left fun z => h z.symm, Or.inr⟩
theorem valD_none {kvs : List (Key × D)} {k : Key} : valD kvs k = none ↔ k ∉ kvs.map (·.1) := by
  rw [valD_mem]
  cases valD kvs k <;> simp
theorem keys_old {kvs : List (Key × D)} {k : Key} {d : D} (h : k ∈ kvs.map (·.1)) : (putKD kvs k d).map (·.1) = kvs.map (·.1) := by
  unfold putKD
  have e : (kvs.any fun kv => decide (kv.1 = k)) = true := by
    obtain ⟨kv, h1, h2⟩ := List.mem_map.mp h
    exact List.any_eq_true.mpr ⟨kv, h1, by simp [h2]⟩
  rw [if_pos e, List.map_map]
  apply List.map_congr_left
  intro kv _
  by_cases q : kv.1 = k <;> simp [q]
theorem keys_new {kvs : List (Key × D)} {k : Key} {d : D} (h : k ∉ kvs.map (·.1)) : (putKD kvs k d).map (·.1) = kvs.map (·.1) ++ [k] := by
  unfold putKD
  have e : ¬ (kvs.any fun kv => decide (kv.1 = k)) = true := fun z => by
    obtain ⟨kv, h1, h2⟩ := List.any_eq_true.mp z
    exact h (List.mem_map.mpr ⟨kv, h1, by simpa using h2⟩)
  rw [if_neg e]
  simp
theorem KN.put {kvs : List (Key × D)} {k : Key} {d : D} (h : KN kvs) : KN (putKD kvs k d) := by
  unfold KN at *
  by_cases q : k ∈ kvs.map (·.1)
  · rw [keys_old q]; exact h
  · rw [keys_new q, List.nodup_append]
    refine ⟨h, by simp, ?_⟩
    intro a ha b hb e
    rw [List.mem_singleton.mp hb] at e
    subst e
    exact q ha
theorem KN.nil : KN [] := List.nodup_nil
theorem KN.drop {kvs : List (Key × D)} {k : Key} (h : KN kvs) : KN (dropKD kvs k) := by
  unfold KN dropKD at *
  exact h.sublist (List.filter_sublist.map _)
theorem valD_put (kvs : List (Key × D)) (k j : Key) (d : D) : valD (putKD kvs k d) j = if j = k then some d else valD kvs j := by
  by_cases h : j = k
  · subst h; rw [if_pos rfl]; exact YD.valD_same
  · rw [if_neg h]
    cases e : valD kvs j with
    | some x => exact YD.valD_ne h e
    | none =>
      rw [valD_none] at e ⊢
      by_cases q : k ∈ kvs.map (·.1)
      · rw [keys_old q]; exact e
      · rw [keys_new q]
        simp only [List.mem_append, List.mem_singleton, not_or]
        exact ⟨e, h⟩
theorem valD_drop (kvs : List (Key × D)) (k j : Key) : valD (dropKD kvs k) j = if j = k then none else valD kvs j := by
  induction kvs with
  | nil => simp [dropKD, valD_nil]
  | cons kv r ih =>
    unfold dropKD at *
    rw [List.filter_cons]
    by_cases h : kv.1 = k
    · rw [if_neg (by simp [h]), ih, valD_cons]
      by_cases h2 : j = k
      · simp [h2]
      · rw [if_neg h2, if_neg h2, if_neg (fun z => h2 (z.symm.trans h))]
    · rw [if_pos (by simp [h]), valD_cons, valD_cons, ih]
      by_cases h2 : kv.1 = j
      · rw [if_pos h2, if_pos h2, if_neg (fun z => h (h2.trans z))]
      · rw [if_neg h2, if_neg h2]
theorem sorted_unique : ∀ {xs ys : List Int}, xs.Perm ys → xs.Pairwise (· ≤ ·) → ys.Pairwise (· ≤ ·) → xs = ys
  | [], ys, p, _, _ => (List.nil_perm.mp p).symm
  | x :: xs, [], p, _, _ => by simpa using p.length_eq
  | x :: xs, y :: ys, p, hx, hy => by
    have h1 : x ∈ y :: ys := p.mem_iff.mp List.mem_cons_self
    have h2 : y ∈ x :: xs := p.mem_iff.mpr List.mem_cons_self
    have e : x = y := by
      rcases List.mem_cons.mp h1 with e | e
      · exact e
      · rcases List.mem_cons.mp h2 with e2 | e2
        · exact e2.symm
        · exact Int.le_antisymm ((List.pairwise_cons.mp hx).1 y e2) ((List.pairwise_cons.mp hy).1 x e)
    subst e
    rw [sorted_unique (List.perm_cons x |>.mp p) (List.pairwise_cons.mp hx).2 (List.pairwise_cons.mp hy).2]
theorem v_eq2 {neg : Bool} {a b c d : Int} {M : Mm} {Q : QD} (h : Q (.bl (neg ^^ decide (a = c ∧ b = d))) M) : eqD neg (.tup [.int a, .int b]) (.tup [.int c, .int d]) M Q := by
  show eqDeep neg (.tup [.int a, .int b]) (.tup [.int c, .int d]) M Q
  have p : ∀ x y : Int, Pl 64 (.tup [.int x, .int y]) := fun x y => (Pl.tup (k := 0) (.cons (.int _) (.cons (.int _) .nil))).mono (by omega)
  have q : ∀ x y : Int, rsv (.tup [.int x, .int y]) M = .tup [.int x, .int y] := fun x y => pl_rsv (p x y)
  refine ⟨rfl, rfl, by rw [q]; exact (p a b).2, by rw [q]; exact (p c d).2, ?_⟩
  have e : deq (rsv (.tup [.int a, .int b]) M) (rsv (.tup [.int c, .int d]) M) = decide (a = c ∧ b = d) := by
    show deq (.tup [.int a, .int b]) (.tup [.int c, .int d]) = _
    simp [deq, deqL, eqV]
    rfl
  rw [e]; exact h
theorem v_inK {neg : Bool} {a : Addr} {kvs : List (Key × D)} {k : Key} {x : D} {M : Mm} {Q : QD} (em : M a = some (.dct kvs)) (ek : keyD x = some k) (h : Q (.bl (neg ^^ (valD kvs k).isSome)) M) : inD neg x (.ref a) M Q := .inr ⟨kvs, k, by simp [dkD, em], ek, h⟩
end Y


set_option Elab.async false
set_option linter.all false
set_option maxRecDepth 100000
set_option maxHeartbeats 1000000
/-! YL: loops and comprehensions told once. -/
namespace Y
open PySem PySem.Spec PyProof.Rows L2
theorem for_wordG {G : Mm → Prop} {g : DG} {tb : DS} {E : DEnds} {ds : List D} {δ : Y.Env} {M : Mm} (I : Nat → Y.Env → Mm → Prop) (h0 : I 0 δ M) (hs : ∀ i d δ M, ds[i]? = some d → I i δ M → g d δ M fun δ' M' => tb { E with nx := I (i + 1), ct := I (i + 1), bk := E.nx } δ' M')
    (hd : ∀ δ M, I ds.length δ M → E.nx δ M) (hG : ∀ i δ M, I i δ M → G M) : forD G g tb E ds δ M := by
  induction ds generalizing I δ M with
  | nil => exact ⟨hG _ _ _ h0, hd _ _ h0⟩
  | cons d ds ih =>
    refine ⟨hG _ _ _ h0, I 1, fun δ' M' h => ?_, hs 0 d δ M rfl h0⟩
    exact ih (fun i => I (i + 1)) h (fun i d δ M e h => hs (i + 1) d δ M (by simpa using e) h) hd (fun i => hG (i + 1))
theorem v_subLk {a : Addr} {e d : D} {M : Mm} {Q : QD} {od : Obj} {xs : List (Key × V)} {kvs : List (Key × D)} {k : Key} (em : M a = some (.lk od xs kvs)) (ek : keyD e = some k) (ev : valD kvs k = some d) (h : Q d M) : subD (.ref a) e M Q := .inr ⟨kvs, k, d, by simp [dkD, em], ek, ev, h⟩
/-- a comprehension without ifs whose element is a plain function of the item -/
theorem lc_funG {G : Mm → Prop} {g : DG} {te : DE} {δ0 : Y.Env} {p : Addr} {Q : Mm → Prop} {ds : List D} {M : Mm} (f : D → D) (hl : ds.length < sizeLine)
    (hs : ∀ d ∈ ds, ∀ acc (R : QD), R (f d) (put M p (.lst acc)) → g d δ0 (put M p (.lst acc)) fun δ' M1 => te δ' M1 R) (hG : ∀ acc, G (put M p (.lst acc))) (k : Q (put M p (.lst (ds.map f)))) : lcD G g tYesD te δ0 p Q ds (put M p (.lst [])) := by
  have key : ∀ (ds : List D) (acc : List D), acc.length + ds.length < sizeLine → (∀ d ∈ ds, ∀ acc (R : QD), R (f d) (put M p (.lst acc)) → g d δ0 (put M p (.lst acc)) fun δ' M1 => te δ' M1 R) → Q (put M p (.lst (acc ++ ds.map f))) → lcD G g tYesD te δ0 p Q ds (put M p (.lst acc)) := by
    intro ds
    induction ds with
    | nil => intro acc _ _ h; exact ⟨hG acc, by simpa using h⟩
    | cons d ds ih =>
      intro acc hl hs h
      refine ⟨hG acc, fun M' => M' = put M p (.lst (acc ++ [f d])), fun M' e => ?_, ?_⟩
      · subst e
        exact ih (acc ++ [f d]) (by simp at hl ⊢; omega) (fun d hd => hs d (List.mem_cons_of_mem _ hd)) (by simpa using h)
      · refine hs d List.mem_cons_self acc _ ?_
        exact ⟨acc, put_same, by simp at hl; omega, put_put⟩
  exact key ds [] (by simpa using hl) hs (by simpa using k)
theorem lc_fun {g : DG} {te : DE} {δ0 : Y.Env} {p : Addr} {Q : Mm → Prop} {ds : List D} {M : Mm} (f : D → D) (hl : ds.length < sizeLine)
    (hs : ∀ d ∈ ds, ∀ acc (R : QD), R (f d) (put M p (.lst acc)) → g d δ0 (put M p (.lst acc)) fun δ' M1 => te δ' M1 R) (k : Q (put M p (.lst (ds.map f)))) : lcD GT g tYesD te δ0 p Q ds (put M p (.lst [])) := lc_funG f hl hs (fun _ => trivial) k
theorem blsD_map {α : Type} (l : List α) (f : α → Bool) : blsD (l.map fun x => D.bl (f x)) = some (l.map f) := by
  induction l with
  | nil => rfl
  | cons x l ih => simp [blsD, ih]
/-- all, any of a comprehension of tests -/
theorem i_allC {p : Addr} {M : Mm} {Q : QD} {es : List D} {bs : List Bool} (hp : M p = none) (hb : blsD es = some bs) (h : Q (.bl (bs.all id)) M) : ∃ q ds, D.ref p = .ref q ∧ put M p (.lst es) q = some (.lst ds) ∧ cAll [.lst ds] (drop (put M p (.lst es)) q) Q :=
  ⟨p, es, rfl, put_same, by rw [Y.drop_put hp]; exact ⟨_, es, bs, rfl, rfl, hb, h⟩⟩
theorem i_anyC {p : Addr} {M : Mm} {Q : QD} {es : List D} {bs : List Bool} (hp : M p = none) (hb : blsD es = some bs) (h : Q (.bl (bs.any id)) M) : ∃ q ds, D.ref p = .ref q ∧ put M p (.lst es) q = some (.lst ds) ∧ cAny [.lst ds] (drop (put M p (.lst es)) q) Q :=
  ⟨p, es, rfl, put_same, by rw [Y.drop_put hp]; exact ⟨_, es, bs, rfl, rfl, hb, h⟩⟩
theorem cut_all {α : Type} (ds : List α) : cut ds none none = ds := by
  unfold cut
  simp [HT.sIx]
theorem cut_from {α : Type} (ds : List α) (n : Nat) : cut ds (some (n : Int)) none = ds.drop n := by
  unfold cut
  rw [HT.sIx_nat, HT.sIx_none]
  by_cases h : n ≤ ds.length
  · rw [Nat.min_eq_left h]
    apply List.take_of_length_le
    simp
  · rw [Nat.min_eq_right (by omega), List.drop_eq_nil_of_le (Nat.le_refl _), List.drop_eq_nil_of_le (by omega)]
    simp
theorem cut_to {α : Type} (ds : List α) (n : Nat) : cut ds none (some (n : Int)) = ds.take n := by
  unfold cut
  rw [HT.sIx_nat, HT.sIx_none]
  simp only [List.drop_zero, Nat.sub_zero]
  by_cases h : n ≤ ds.length
  · rw [Nat.min_eq_left h]
  · rw [Nat.min_eq_right (by omega), List.take_of_length_le (Nat.le_refl _), List.take_of_length_le (by omega)]
/-- equality of the same data -/
theorem v_eqSame {neg : Bool} {d : D} {M : Mm} {Q : QD} (h : Pl 64 d) (q : Q (.bl (!neg)) M) : eqD neg d d M Q := by
  have e : rsv d M = d := pl_rsv h
  have hd : eqDeep neg d d M Q := by
    refine ⟨by rw [e]; exact h.1, by rw [e]; exact h.1, by rw [e]; exact h.2, by rw [e]; exact h.2, ?_⟩
    rw [e, deq_refl _ h.1]
    cases neg <;> exact q
  unfold eqD
  split
  · split
    · rename_i hs
      cases neg <;> simpa using q
    · exact hd
  · exact hd
end Y
namespace Y
open PySem PySem.Spec PyProof.Rows L2
section
variable {d : D} {M : Mm} {Q : QD}
theorem v_isT (h : Q (.bl true) M) : isN false .non .non M Q := ⟨rfl, h⟩
theorem v_isF (h : Q (.bl false) M) : isN true .non .non M Q := ⟨rfl, h⟩
theorem v_isNF (e : nonD d = false) (h : Q (.bl false) M) : isN false d .non M Q := ⟨rfl, by rw [e]; exact h⟩
theorem v_isNT (e : nonD d = false) (h : Q (.bl true) M) : isN true d .non M Q := ⟨rfl, by rw [e]; exact h⟩
theorem iteNT {A C : Prop} (h : C) : if (!true) = true then A else C := h
theorem iteNF {A C : Prop} (h : A) : if (!false) = true then A else C := h
end
end Y


set_option Elab.async false
set_option linter.all false
set_option maxRecDepth 100000
set_option maxHeartbeats 4000000
set_option pp.deepTerms true
set_option pp.maxSteps 3000
/-! the readings of law k04: names, terms -/
namespace K04
open PySem PySem.Spec PyProof.Rows L2 Y YD
local macro_rules | `(tactic| walk_at "y_ne") => `(tactic| first | assumption | exact Ne.symm (by assumption) | ((refine ne_none (M := ?yM) (m := ?ymo) ?ym1 ?ym2); (case ym2 => assumption); (case ym1 => walk_at "y_look")) | ((refine Ne.symm (ne_none (M := ?yM) (m := ?ymo) ?ym1 ?ym2)); (case ym2 => assumption); (case ym1 => walk_at "y_look")) | ((refine ne_none (M := ?yM) (m := ?ymo) ?ym1 (put_none (M := ?yM) (a := ?yma) (m := ?ymo2) ?ym2).2); (case ym2 => assumption); (case ym1 => walk_at "y_look")) | ((refine Ne.symm (ne_none (M := ?yM) (m := ?ymo) ?ym1 (put_none (M := ?yM) (a := ?yma) (m := ?ymo2) ?ym2).2)); (case ym2 => assumption); (case ym1 => walk_at "y_look")))
local macro_rules | `(tactic| walk_at "y_look") => `(tactic| first | assumption | exact put_same | ((with_reducible refine Eq.trans (put_ne ?yn) ?_); (case yn => walk_at "y_ne"); (walk_at "y_look")) | ((with_reducible refine Eq.trans (drop_ne ?yn) ?_); (case yn => walk_at "y_ne"); (walk_at "y_look")))
local macro_rules | `(tactic| walk_at "y_pl") => `(tactic| first | assumption | exact PlL.nil | exact Pl.int _ | exact Pl.non | exact Pl.bl _ | exact Pl.str (by decide +kernel) | ((with_reducible refine PlL.cons ?yp1 ?yp2); (case yp1 => walk_at "y_pl"); (case yp2 => walk_at "y_pl")) | ((with_reducible refine PlL.append ?yp1 ?yp2); (case yp1 => walk_at "y_pl"); (case yp2 => walk_at "y_pl")) | ((with_reducible refine Pl.tup ?yp1); (case yp1 => walk_at "y_pl")) | ((with_reducible refine PlL.mono (j := ?yj) ?yp1 ?yp2); (case yp1 => assumption); (case yp2 => first | decide | omega)) | ((with_reducible refine Pl.mono (j := ?yj) ?yp1 ?yp2); (case yp1 => assumption); (case yp2 => first | decide | omega)))
local macro_rules | `(tactic| walk_at "y_len") => `(tactic| ((try simp only [List.length_append, List.length_cons, List.length_nil, List.length_map, sizeLine_eq] at *); omega))
local macro_rules | `(tactic| walk_at "y_rfl") => `(tactic| first | rfl | (simp only [atI_nn]; rfl))
local macro_rules | `(tactic| walk_at "y_at") => `(tactic| first | exact atI_nn _ 0 | rfl)
local macro_rules | `(tactic| walk_at "y_cond") => `(tactic| first
  | (show (0 : Int) < _; first | decide | assumption | omega)
  | (exact ⟨by first | decide | assumption | omega, by first | decide | assumption | omega⟩)
  | (exact Or.inl ⟨by first | decide | assumption | omega, by first | decide | assumption | omega⟩)
  | (exact Or.inr ⟨by first | decide | assumption | omega, by first | decide | assumption | omega⟩)
  | (exact ⟨by decide, by decide, by decide⟩))
local macro_rules | `(tactic| walk_at "y1") => `(tactic| first
  | (with_reducible first | refine i_seq ?_ | refine i_next ?_ | refine i_asg ?_ | refine i_ret ?_ | refine i_retN ?_ | refine i_drop ?_ | refine i_cont ?_ | refine i_break ?_ | refine i_ifs ?_ | refine i_if ?_ | refine i_and ?_ | refine i_or ?_ | refine i_not ?_ | refine i_test ?_ | refine i_tru ?_ | refine i_andV ?_ | refine i_orV ?_ | refine i_notV ?_ | refine i_bl ?_ | refine i_op ?_ | refine i_chain ?_ | refine i_c ?_ | refine i_cd ?_ | refine i_nil ?_ | refine i_cons ?_ | refine i_call ?_ | refine i_cb ?_ | refine i_tup ?_ | refine i_lst ?_ | refine i_lstM ?_ | refine i_dict ?_ | refine i_frz ?_ | refine i_name ?_ | refine i_gcons ?_ | refine i_gnil ?_ | refine i_gsub ?_ | refine i_par ?_ | refine i_par2 ?_ | refine i_un ?_ | refine i_int ?_ | refine i_slice ?_ | refine i_onone ?_ | refine i_osome ?_ | refine i_bm ?_ | refine i_bm0 ?_ | refine i_get1 ?_ | refine i_get2 ?_ | refine i_del ?_ | refine i_for ?_ | refine i_lc ?_ | refine i_dc ?_ | refine i_yes ?_ | refine i_it ?_ | refine i_rng1 ?_ | refine i_fld ?_ | refine i_sfld ?_ | refine i_meth ?_ | refine i_make ?_ | refine v_I0 ?_ | refine v_plusI ?_ | refine v_eqI ?_ | refine v_eqS ?_ | refine v_isN ?_ | refine v_int ?_ | refine v_abs ?_ | refine v_sliceT ?_ | refine v_sliceL ?_ | refine b_fx ?_ | refine b_tx ?_)
  | ((with_reducible refine i_var (d := ?yd) ?ye0 ?_); (case ye0 => rfl))
  | ((with_reducible refine i_gtup ?ye0 ?_); (case ye0 => rfl))
  | (with_reducible refine iteT ?_)
  | (with_reducible refine iteF ?_)
  | (with_reducible refine b_dec ?_ ?_ <;> intro hc)
  | (with_reducible refine b_ndec ?_ ?_ <;> intro hc)
  | ((with_reducible refine v_subT (d := ?yd) ?ye0 ?_); (case ye0 => rfl))
  | ((with_reducible refine v_subL (d := ?yd) ?ye0 ?_); (case ye0 => rfl))
  | ((with_reducible refine v_subM (ds := ?yds) (d := ?yd) ?ye0 ?ye1 ?_); (case ye0 => (walk_at "y_look")); (case ye1 => rfl))
  | ((with_reducible refine v_setL (ds := ?yds) (j := ?yj) ?ye0 ?ye1 ?_); (case ye0 => (walk_at "y_look")); (case ye1 => rfl))
  | ((with_reducible refine v_I ?ye0 ?_); (case ye0 => (walk_at "y_cond")))
  | ((with_reducible refine i_sz ?ye0 ?_); (case ye0 => (first | exact Nat.le_of_ble_eq_true rfl | (simp only [List.length_append, List.length_cons, List.length_nil, List.length_map, sizeLine_eq] at *; omega))))
  | (with_reducible refine i_new fun yp yhp => ?_)
  | ((with_reducible refine v_app (ds := ?yds) ?ye0 ?ye1 ?_); (case ye0 => (walk_at "y_look")); (case ye1 => (first | (simp only [List.length_append, List.length_cons, List.length_nil, List.length_map, sizeLine_eq] at *; omega))))
  | ((with_reducible refine i_tyL (ds := ?yds) ?ye0 ?_); (case ye0 => (walk_at "y_look")))
  | (with_reducible refine i_tyl ?_)
  | ((with_reducible refine v_subK (kvs := ?ykv) (k := ?yk) (d := ?yd) ?ye0 ?ye1 ?ye2 ?_); (case ye0 => (walk_at "y_look")); (case ye1 => rfl); (case ye2 => first | assumption | rfl))
  | ((with_reducible refine v_plusL (ds := ?yds) (es := ?yes) ?ye0 ?ye1 ?ye2 ?_); (case ye0 => first | rfl | (with_reducible refine lsD_ref (ds := ?yds2) ?yl0; walk_at "y_look")); (case ye1 => first | rfl | (with_reducible refine lsD_ref (ds := ?yds2) ?yl0; walk_at "y_look")); (case ye2 => (simp only [List.length_append, List.length_cons, List.length_nil, List.length_map, sizeLine_eq] at *; omega)))
  | ((with_reducible refine v_plusT ?ye0 ?_); (case ye0 => (simp only [List.length_append, List.length_cons, List.length_nil, List.length_map, sizeLine_eq] at *; omega)))
  | ((with_reducible refine i_rng1d ?ye0 ?_); (case ye0 => (constructor <;> omega)))
  | ((with_reducible refine v_len (n := ?yn) ?ye0 ?_); (case ye0 => first | ((with_reducible refine lenD_ref (ds := ?yds) ?yl0); (case yl0 => walk_at "y_look")) | rfl))
  | ((with_reducible refine v_list (es := ?yes) ?ye0 ?_); (case ye0 => first | (with_reducible refine itD_ref (ds := ?yds) ?yl0; walk_at "y_look") | rfl))
  | ((with_reducible refine v_tuple (es := ?yes) ?ye0 ?_); (case ye0 => first | (with_reducible refine itD_ref (ds := ?yds) ?yl0; walk_at "y_look") | rfl))
  | ((with_reducible refine v_eqP ?ye0 ?ye1 fun yb => ?_); (case ye0 => walk_at "y_pl"); (case ye1 => walk_at "y_pl"))
  | (with_reducible refine b_emp ?_ ?_ <;> intro hc)
  | (with_reducible refine i_trul ?_)
  | (with_reducible refine i_trut ?_)
  | (with_reducible refine i_trub ?_)
  | ((with_reducible refine v_inT ?ye0 ?_); (case ye0 => exact ⟨rfl, rfl⟩))
  | (with_reducible refine b_var ?_ ?_ <;> intro hc)
  | ((with_reducible refine i_its (ds := ?yds) ?ye0 ?_); (case ye0 => rfl)))
local macro_rules | `(tactic| walk_at "y0") => `(tactic| repeat' (walk_at "y1"))
local macro_rules | `(tactic| walk_at "ys") => `(tactic| walk_at "y0")
local macro_rules | `(tactic| walk_at "y_nn") => `(tactic| first | assumption | exact (put_none (by assumption)).2 | exact (put_none (put_none (by assumption)).2).2 | exact (put_none (put_none (put_none (by assumption)).2).2).2)
local macro_rules | `(tactic| walk_at "y_kl1") => `(tactic| first | (with_reducible exact KL.merge) | ((with_reducible refine KL.put (n := ?ykn) ?ykk); (case ykk => walk_at "y_kl1")))
local macro_rules | `(tactic| walk_at "y_kl") => `(tactic| ((refine KL.lt (n := ?yn) ?yk1 ?yk2); (case yk1 => walk_at "y_kl1"); (case yk2 => first | decide | (simp; done))))
local macro_rules | `(tactic| walk_at "y_fr") => `(tactic| first | exact Fr.refl _ _ | assumption | ((refine Fr.put ?yf1 ?yf2); (case yf2 => simp); (case yf1 => walk_at "y_fr")) | ((refine Fr.drop ?yf1 ?yf2); (case yf2 => simp); (case yf1 => walk_at "y_fr")))
local macro_rules | `(tactic| walk_at "y_fin") => `(tactic| first | assumption | rfl | walk_at "y_look" | walk_at "y_pl" | walk_at "y_fr" | omega | walk_at "y_len" | (intros; omega))
local macro_rules | `(tactic| walk_at "y_take") => `(tactic| ((with_reducible refine i_take (t := ?yt) ?yl ?yo ?yb fun yr yt' yr0 yr1 yok => ?_); (case yl => walk_at "y_look"); (case yo => assumption); (case yb => (constructor <;> first | omega | (simp; omega)))))
local macro_rules | `(tactic| walk_at "y_pick") => `(tactic| first | ((with_reducible refine i_pick2 (k := 0) (t := ?yt) ?yl ?yo ?yb ?yP fun yd yt' yP ym yok => ?_); (case yl => walk_at "y_look"); (case yo => assumption); (case yb => (constructor <;> walk_at "y_len")); (case yP => walk_at "y_pl")) | ((with_reducible refine i_pick2 (k := 5) (t := ?yt) ?yl ?yo ?yb ?yP fun yd yt' yP ym yok => ?_); (case yl => walk_at "y_look"); (case yo => assumption); (case yb => (constructor <;> walk_at "y_len")); (case yP => walk_at "y_pl")))
local macro_rules | `(tactic| walk_at "y2") => `(tactic| first | walk_at "y1" | walk_at "y_take" | walk_at "y_pick" | (with_reducible refine i_disp fun yp yhp => ?_) | (with_reducible refine i_pcons ?_) | (with_reducible refine i_pnil ?_) | (with_reducible refine i_mut ?_) | ((with_reducible refine v_inT' ?ye0 ?ye1 fun yb => ?_); (case ye0 => walk_at "y_pl"); (case ye1 => walk_at "y_pl")) | ((with_reducible refine v_setK (kvs := ?ykv) (k := ?yk) ?ye0 ?ye1 ?ye2 ?_); (case ye0 => walk_at "y_look"); (case ye1 => rfl); (case ye2 => walk_at "y_kl")) | ((with_reducible refine i_mutd (ds := ?yds) ?ye0 ?_); (case ye0 => walk_at "y_look")) | ((with_reducible refine i_glst' ?ye0 ?_); (case ye0 => rfl)))
local macro_rules | `(tactic| walk_at "ys") => `(tactic| repeat' (walk_at "y2"))
local macro_rules | `(tactic| walk_at "y1") => `(tactic| (with_reducible first | refine i_callX ?_ | refine i_methX ?_ | refine i_raise ?_ | refine i_tryAs ?_ | refine i_tryOnly ?_ | refine i_xf ?_ | refine i_isE ?_ | refine i_zip ?_ | refine i_enum ?_ | refine i_rev ?_))
local macro_rules | `(tactic| walk_at "y1") => `(tactic| ((with_reducible refine v_subLk (kvs := ?ykv) (k := ?yk) (d := ?yd) (od := ?yod) (xs := ?yxs) ?ye0 ?ye1 ?ye2 ?_); (case ye0 => (walk_at "y_look")); (case ye1 => rfl); (case ye2 => first | assumption | rfl)))
local macro_rules | `(tactic| walk_at "y1") => `(tactic| first
  | (with_reducible first | refine v_isT ?_ | refine v_isF ?_ | refine iteNT ?_ | refine iteNF ?_)
  | ((with_reducible refine v_isNF ?ye0 ?_); (case ye0 => rfl))
  | ((with_reducible refine v_isNT ?ye0 ?_); (case ye0 => rfl)))
def inS (z : Str) (c : Nat) : Bool := decide (c ∈ z.cps.toList)
def LET : Str := "abcdefghijklmnopqrstuvwxyzABCDEFGHIJKLMNOPQRSTUVWXYZ"
def DIG : Str := "0123456789"
theorem v_subS {z : Str} {c : Nat} {i : Int} {M : Mm} {Q : QD} (hz : z.length ≤ sizeLine) (h : atI z.cps.toList i = some c) (q : Q (.str ⟨#[c]⟩) M) : subD (.str z) (.int i) M Q := ⟨i, c, rfl, hz, h, q⟩
theorem v_inS {z : Str} {c : Nat} {M : Mm} {Q : QD} (q : Q (.bl (inS z c)) M) : inD false (.str ⟨#[c]⟩) (.str z) M Q := ⟨c, rfl, by simpa [inS] using q⟩
theorem v_inSN {z : Str} {c : Nat} {M : Mm} {Q : QD} (q : Q (.bl (!inS z c)) M) : inD true (.str ⟨#[c]⟩) (.str z) M Q := ⟨c, rfl, by simpa [inS] using q⟩
theorem v_lenS {z : Str} {M : Mm} {Q : QD} (hz : z.length ≤ sizeLine) (h : Q (.int (z.length : Int)) M) : cLen [.str z] M Q := ⟨.str z, z.length, rfl, by simp [lenD, hz], h⟩
theorem i_itS {z : Str} {M : Mm} {R : List D → (Mm → Prop) → Mm → Prop} (h : R (signs z) GT M) : ∃ ds, itsD (.str z) M = some ds ∧ R ds GT M := ⟨_, rfl, h⟩
local macro_rules | `(tactic| walk_at "y1") => `(tactic| first
  | (with_reducible refine v_inS ?_)
  | (with_reducible refine v_inSN ?_)
  | ((with_reducible refine v_lenS ?ye0 ?_); (case ye0 => (rw [sizeLine_eq]; omega)))
  | (with_reducible refine i_itS ?_))
theorem notT {b : Bool} (h : (!b) = true) : b = false := by cases b <;> simp at h ⊢
theorem notF {b : Bool} (h : (!b) = false) : b = true := by cases b <;> simp at h ⊢
theorem sizeS {s : Str} (h : s.length ≤ 1000000) : s.length ≤ sizeLine := by rw [sizeLine_eq]; omega
theorem len_cps (s : Str) : s.cps.toList.length = s.length := Array.length_toList
theorem str_ext {a b : Str} (h : a.cps.toList = b.cps.toList) : a = b := by
  cases a; cases b; simp only [Str.mk.injEq] at *; exact Array.ext' h
theorem str_eq {a b : Str} : a = b ↔ a.cps.toList = b.cps.toList := ⟨fun h => by rw [h], str_ext⟩
theorem cps_ne {s : Str} (h : 1 ≤ s.length) : ∃ c r, s.cps.toList = c :: r := by
  cases e : s.cps.toList with
  | nil => have := len_cps s; rw [e] at this; simp at this; omega
  | cons c r => exact ⟨c, r, rfl⟩
/-- all of a comprehension of tests over a text's signs -/
theorem all_signs {s : Str} {f : Nat → Bool} {g : DG} {te : DE} {δ0 : Y.Env} {p : Addr} {Q : Mm → Prop} {M : Mm} (hl : s.length ≤ 1000000)
    (hs : ∀ c ∈ s.cps.toList, ∀ acc (R : QD), R (.bl (f c)) (put M p (.lst acc)) → g (.str ⟨#[c]⟩) δ0 (put M p (.lst acc)) fun δ' M1 => te δ' M1 R) (k : Q (put M p (.lst (s.cps.toList.map fun c => D.bl (f c))))) : lcD GT g tYesD te δ0 p Q (Y.signs s) (put M p (.lst [])) := by
  rw [show Y.signs s = s.cps.toList.map fun c => D.str ⟨#[c]⟩ from rfl]
  refine lc_fun (f := fun d => .bl (match d with | .v (.str z) => (match z.cps.toList with | [c] => f c | _ => false) | _ => false)) (by rw [sizeLine_eq, List.length_map, len_cps]; omega) ?_ ?_
  · intro d hd acc R hR
    obtain ⟨c, hc, rfl⟩ := List.mem_map.mp hd
    exact hs c hc acc R hR
  · rw [List.map_map]
    exact k
def isDig (c : Nat) : Bool := inS DIG c
def isMd (s : Str) : Bool := match s.cps.toList with
  | c :: r => decide (2 ≤ s.length ∧ s.length ≤ 10) && (decide (c = 36) && r.all isDig)
  | [] => false
def spMade : DSp := fun ds M Q _ => ∃ s : Str, ds = [.str s] ∧ s.length ≤ 1000000 ∧ Q (.bl (isMd s)) M
theorem cut1 {s : Str} {c : Nat} {r : List Nat} (h1 : 1 ≤ s.length) (hc : s.cps.toList = c :: r) : (cutS s (some 1) none).cps.toList = r := by
  unfold cutS
  rw [show HT.sIx s.length 0 (some 1) = min 1 s.length from HT.sIx_nat _ _ 1, HT.sIx_none, Nat.min_eq_left h1, hc]
  simp only [List.drop_succ_cons, List.drop_zero]
  rw [List.take_of_length_le]
  have := len_cps s
  rw [hc] at this
  simp at this
  omega
theorem e36 : ("$" : Str).cps.toList = [36] := by decide +kernel
theorem rd_made (ds : List D) (M : Mm) (Q : QD) (E : DX) (h : spMade ds M Q E) : r_is_made { nx := fun _ M' => less Q .non M', rt := less Q } (startD 2 ds) M := by
  obtain ⟨s, rfl, hl, k⟩ := h
  have hz := sizeS hl
  show r_is_made _ [some (.str s), none] M
  unfold r_is_made g_DIGITS
  have fin : ∀ b, isMd s = b → less Q (.bl b) M := fun b e => by rw [e] at k; exact less_of k rfl
  have fin0 : ¬ (2 ≤ s.length ∧ s.length ≤ 10) → less Q (.bl false) M := fun z => fin false (by unfold isMd; split <;> simp [z])
  walk_at "ys"
  · rename_i h1 h2
    obtain ⟨c, r, hc⟩ := cps_ne (s := s) (by omega)
    refine v_subS hz (c := c) (by rw [hc]; exact atI_nn (c :: r) 0) ?_
    have hcut := cut1 (by omega) hc
    have hcl : (cutS s (some 1) none).length ≤ 1000000 := by
      have := len_cps s
      rw [hc] at this
      simp at this
      rw [← len_cps, hcut]
      omega
    have e0 : isMd s = (decide (c = 36) && r.all isDig) := by
      unfold isMd
      rw [hc]
      simp only
      rw [decide_eq_true (by omega)]
      rfl
    walk_at "ys"
    · rename_i h3
      have h3 : c = 36 := by have := str_eq.mp h3; rw [e36] at this; simpa using this
      refine ⟨hz, ?_⟩
      walk_at "ys"
      rename_i p hp
      refine all_signs (f := isDig) hcl ?_ ?_
      · intro c hc acc R hR
        walk_at "ys"
        exact hR
      · walk_at "ys"
        rw [Y.drop_put hp]
        refine ⟨_, _, _, rfl, rfl, blsD_map _ _, ?_⟩
        walk_at "ys"
        refine fin _ ?_
        rw [e0, h3, hcut, List.all_map]
        rfl
    · rename_i h3
      refine fin false ?_
      rw [e0, decide_eq_false (fun z => h3 (str_ext (by rw [z, e36])))]
      rfl
  · exact fin0 (by omega)
  · exact fin0 (by omega)
def WL : List D := [.str "nil", .str "emp", .str "some", .str "list", .str "tree", .str "by", .str "or", .str "if", .str "else", .str "while", .str "holds", .str "new", .str "free", .str "both", .str "call", .str "take", .str "give", .str "return", .str "local", .str "proc", .str "for", .str "uses", .str "requires", .str "ensures", .str "globals", .str "lock"]
def okN (c : Nat) : Bool := inS LET c || inS DIG c || decide ((⟨#[c]⟩ : Str) = "_")
def isPl (s : Str) : Bool := (decide (1 ≤ s.length ∧ s.length ≤ 20) && !memD (.str s) WL) && (match s.cps.toList with | c :: _ => inS LET c | [] => false) && s.cps.toList.all okN
def spPlain : DSp := fun ds M Q _ => ∃ s : Str, ds = [.str s] ∧ s.length ≤ 1000000 ∧ Q (.bl (isPl s)) M
theorem rd_plain (ds : List D) (M : Mm) (Q : QD) (E : DX) (h : spPlain ds M Q E) : r_is_plain_name { nx := fun _ M' => less Q .non M', rt := less Q } (startD 2 ds) M := by
  obtain ⟨s, rfl, hl, k⟩ := h
  have hz := sizeS hl
  show r_is_plain_name _ [some (.str s), none] M
  unfold r_is_plain_name g_DIGITS g_LETTERS g_WORDS
  have fin : ∀ b, isPl s = b → less Q (.bl b) M := fun b e => by rw [e] at k; exact less_of k rfl
  have fin0 : ¬ (1 ≤ s.length ∧ s.length ≤ 20) → less Q (.bl false) M := fun z => fin false (by unfold isPl; rw [decide_eq_false z]; rfl)
  walk_at "ys"
  refine ⟨_, "str", _, true, rfl, rfl, by decide +kernel, ?_⟩
  walk_at "ys"
  · exact fin0 (by omega)
  · rename_i h1 h2 h3
    refine fin false ?_
    unfold isPl
    rw [show memD (.str s) WL = true from (Bool.false_xor _).symm.trans h3]
    simp
  · rename_i h1 h2 h3
    obtain ⟨c, r, hc⟩ := cps_ne (s := s) (by omega)
    have e0 : isPl s = (inS LET c && s.cps.toList.all okN) := by
      unfold isPl
      rw [show memD (.str s) WL = false from (Bool.false_xor _).symm.trans h3, decide_eq_true (by omega), hc]
      rfl
    refine v_subS hz (c := c) (by rw [hc]; exact atI_nn (c :: r) 0) ?_
    walk_at "ys"
    · rename_i h4
      refine fin false ?_
      rw [e0, notT (b := inS LET c) h4]
      rfl
    · rename_i h4 p hp
      refine all_signs (f := okN) hl ?_ ?_
      · intro c hc acc R hR
        walk_at "ys"
        · rename_i h5
          have : okN c = true := by unfold okN; rw [show inS LET c = true from h5]; rfl
          rw [this] at hR; exact hR
        · rename_i h5 h6
          have : okN c = true := by unfold okN; rw [show inS DIG c = true from h6]; simp
          rw [this] at hR; exact hR
        · rename_i h5 h6
          have : okN c = decide ((⟨#[c]⟩ : Str) = "_") := by unfold okN; rw [show inS LET c = false from h5, show inS DIG c = false from h6]; rfl
          rw [this] at hR; simpa using hR
      · walk_at "ys"
        rw [Y.drop_put hp]
        refine ⟨_, _, _, rfl, rfl, blsD_map _ _, ?_⟩
        refine fin _ ?_
        rw [e0, notF (b := inS LET c) h4, List.all_map]
        rfl
  · exact fin0 (by omega)
def isNm (s : Str) : Bool := isMd s || isPl s
def spName : DSp := fun ds M Q _ => ∃ d, ds = [d] ∧ ((∃ s : Str, d = .str s ∧ s.length ≤ 1000000 ∧ Q (.bl (isNm s)) M) ∨ ∃ i, d = .int i ∧ Q (.bl false) M)
theorem rd_name (ds : List D) (M : Mm) (Q : QD) (E : DX) (h : spName ds M Q E) : r_is_name spMade spPlain { nx := fun _ M' => less Q .non M', rt := less Q } (startD 1 ds) M := by
  obtain ⟨d, rfl, h⟩ := h
  show r_is_name _ _ _ [some d] M
  unfold r_is_name
  rcases h with ⟨s, rfl, hl, k⟩ | ⟨i, rfl, k⟩
  · walk_at "ys"
    refine ⟨_, "str", _, true, rfl, rfl, by decide +kernel, ?_⟩
    walk_at "ys"
    refine ⟨s, rfl, hl, ?_⟩
    unfold isNm at k
    walk_at "ys"
    · rename_i e
      rw [e] at k
      exact less_of k rfl
    · rename_i e
      rw [e] at k
      refine ⟨s, rfl, hl, ?_⟩
      walk_at "ys"
      exact less_of k rfl
  · walk_at "ys"
    refine ⟨_, "int", _, false, rfl, rfl, by decide +kernel, ?_⟩
    walk_at "ys"
    exact less_of k rfl
def numOk (i : Int) : Bool := decide (-(10 ^ 30) < i ∧ i < 10 ^ 30)
def spWhole : DSp := fun ds M Q _ => ∃ d, ds = [d] ∧ ((∃ i, d = .int i ∧ Q (.bl true) M) ∨ ∃ s, d = .str s ∧ Q (.bl false) M)
theorem rd_whole (ds : List D) (M : Mm) (Q : QD) (E : DX) (h : spWhole ds M Q E) : r_is_whole { nx := fun _ M' => less Q .non M', rt := less Q } (startD 1 ds) M := by
  obtain ⟨d, rfl, h⟩ := h
  show r_is_whole _ [some d] M
  unfold r_is_whole
  rcases h with ⟨i, rfl, k⟩ | ⟨s, rfl, k⟩
  · walk_at "ys"
    refine ⟨_, "int", _, true, rfl, rfl, by decide +kernel, ?_⟩
    walk_at "ys"
    refine ⟨_, "int", _, false, rfl, rfl, by decide +kernel, ?_⟩
    walk_at "ys"
    exact less_of k rfl
  · walk_at "ys"
    refine ⟨_, "str", _, false, rfl, rfl, by decide +kernel, ?_⟩
    walk_at "ys"
    exact less_of k rfl
def spNumber : DSp := fun ds M Q _ => ∃ d, ds = [d] ∧ ((∃ i, d = .int i ∧ Q (.bl (numOk i)) M) ∨ ∃ s, d = .str s ∧ Q (.bl false) M)
theorem rd_number (ds : List D) (M : Mm) (Q : QD) (E : DX) (h : spNumber ds M Q E) : r_is_number spWhole { nx := fun _ M' => less Q .non M', rt := less Q } (startD 1 ds) M := by
  obtain ⟨d, rfl, h⟩ := h
  show r_is_number _ _ [some d] M
  unfold r_is_number
  rcases h with ⟨i, rfl, k⟩ | ⟨s, rfl, k⟩
  · walk_at "ys"
    refine ⟨_, rfl, .inl ⟨i, rfl, ?_⟩⟩
    walk_at "ys"
    · rename_i h1
      refine less_of (d := _) ?_ rfl
      have e : numOk i = decide (i < 10 ^ 30) := by
        unfold numOk
        simp only [decide_eq_decide]
        exact ⟨fun q => q.2, fun q => ⟨h1, q⟩⟩
      rw [e] at k
      exact k
    · rename_i h1
      refine less_of (d := _) ?_ rfl
      have e : numOk i = false := decide_eq_false fun q => h1 q.1
      rw [e] at k
      exact k
  · walk_at "ys"
    refine ⟨_, rfl, .inr ⟨s, rfl, ?_⟩⟩
    walk_at "ys"
    exact less_of k rfl
/-- a number or a text that is a term -/
def tmOk : D → Bool
  | .v (.int i) => numOk i
  | .v (.str s) => isNm s
  | _ => false
def tmS (d : D) : Prop := (∃ i, d = .int i) ∨ ∃ s : Str, d = .str s ∧ s.length ≤ 1000000
def spTerm : DSp := fun ds M Q _ => ∃ d, ds = [d] ∧ tmS d ∧ Q (.bl (tmOk d)) M
theorem rd_term (ds : List D) (M : Mm) (Q : QD) (E : DX) (h : spTerm ds M Q E) : r_is_term spNumber spName { nx := fun _ M' => less Q .non M', rt := less Q } (startD 1 ds) M := by
  obtain ⟨d, rfl, h, k⟩ := h
  show r_is_term _ _ _ [some d] M
  unfold r_is_term
  rcases h with ⟨i, rfl⟩ | ⟨s, rfl, hl⟩
  · have k : Q (.bl (numOk i)) M := k
    walk_at "ys"
    refine ⟨_, rfl, .inl ⟨i, rfl, ?_⟩⟩
    walk_at "ys"
    · rename_i e
      rw [e] at k
      exact less_of k rfl
    · rename_i e
      rw [e] at k
      refine ⟨_, rfl, .inr ⟨i, rfl, ?_⟩⟩
      walk_at "ys"
      exact less_of k rfl
  · have k : Q (.bl (isNm s)) M := k
    walk_at "ys"
    refine ⟨_, rfl, .inr ⟨s, rfl, ?_⟩⟩
    walk_at "ys"
    refine ⟨_, rfl, .inl ⟨s, rfl, hl, ?_⟩⟩
    walk_at "ys"
    exact less_of k rfl
end K04


set_option Elab.async false
set_option linter.all false
set_option maxRecDepth 100000
set_option maxHeartbeats 4000000
set_option pp.deepTerms true
set_option pp.maxSteps 3000
/-! the readings of law k04: words_of -/
namespace K04
open PySem PySem.Spec PyProof.Rows L2 Y YD
local macro_rules | `(tactic| walk_at "y_ne") => `(tactic| first | assumption | exact Ne.symm (by assumption) | ((refine ne_none (M := ?yM) (m := ?ymo) ?ym1 ?ym2); (case ym2 => assumption); (case ym1 => walk_at "y_look")) | ((refine Ne.symm (ne_none (M := ?yM) (m := ?ymo) ?ym1 ?ym2)); (case ym2 => assumption); (case ym1 => walk_at "y_look")) | ((refine ne_none (M := ?yM) (m := ?ymo) ?ym1 (put_none (M := ?yM) (a := ?yma) (m := ?ymo2) ?ym2).2); (case ym2 => assumption); (case ym1 => walk_at "y_look")) | ((refine Ne.symm (ne_none (M := ?yM) (m := ?ymo) ?ym1 (put_none (M := ?yM) (a := ?yma) (m := ?ymo2) ?ym2).2)); (case ym2 => assumption); (case ym1 => walk_at "y_look")))
local macro_rules | `(tactic| walk_at "y_look") => `(tactic| first | assumption | exact put_same | ((with_reducible refine Eq.trans (put_ne ?yn) ?_); (case yn => walk_at "y_ne"); (walk_at "y_look")) | ((with_reducible refine Eq.trans (drop_ne ?yn) ?_); (case yn => walk_at "y_ne"); (walk_at "y_look")))
local macro_rules | `(tactic| walk_at "y_pl") => `(tactic| first | assumption | exact PlL.nil | exact Pl.int _ | exact Pl.non | exact Pl.bl _ | exact Pl.str (by decide +kernel) | ((with_reducible refine PlL.cons ?yp1 ?yp2); (case yp1 => walk_at "y_pl"); (case yp2 => walk_at "y_pl")) | ((with_reducible refine PlL.append ?yp1 ?yp2); (case yp1 => walk_at "y_pl"); (case yp2 => walk_at "y_pl")) | ((with_reducible refine Pl.tup ?yp1); (case yp1 => walk_at "y_pl")) | ((with_reducible refine PlL.mono (j := ?yj) ?yp1 ?yp2); (case yp1 => assumption); (case yp2 => first | decide | omega)) | ((with_reducible refine Pl.mono (j := ?yj) ?yp1 ?yp2); (case yp1 => assumption); (case yp2 => first | decide | omega)))
local macro_rules | `(tactic| walk_at "y_len") => `(tactic| ((try simp only [List.length_append, List.length_cons, List.length_nil, List.length_map, sizeLine_eq] at *); omega))
local macro_rules | `(tactic| walk_at "y_rfl") => `(tactic| first | rfl | (simp only [atI_nn]; rfl))
local macro_rules | `(tactic| walk_at "y_at") => `(tactic| first | exact atI_nn _ 0 | rfl)
local macro_rules | `(tactic| walk_at "y_cond") => `(tactic| first
  | (show (0 : Int) < _; first | decide | assumption | omega)
  | (exact ⟨by first | decide | assumption | omega, by first | decide | assumption | omega⟩)
  | (exact Or.inl ⟨by first | decide | assumption | omega, by first | decide | assumption | omega⟩)
  | (exact Or.inr ⟨by first | decide | assumption | omega, by first | decide | assumption | omega⟩)
  | (exact ⟨by decide, by decide, by decide⟩))
local macro_rules | `(tactic| walk_at "y1") => `(tactic| first
  | (with_reducible first | refine i_seq ?_ | refine i_next ?_ | refine i_asg ?_ | refine i_ret ?_ | refine i_retN ?_ | refine i_drop ?_ | refine i_cont ?_ | refine i_break ?_ | refine i_ifs ?_ | refine i_if ?_ | refine i_and ?_ | refine i_or ?_ | refine i_not ?_ | refine i_test ?_ | refine i_tru ?_ | refine i_andV ?_ | refine i_orV ?_ | refine i_notV ?_ | refine i_bl ?_ | refine i_op ?_ | refine i_chain ?_ | refine i_c ?_ | refine i_cd ?_ | refine i_nil ?_ | refine i_cons ?_ | refine i_call ?_ | refine i_cb ?_ | refine i_tup ?_ | refine i_lst ?_ | refine i_lstM ?_ | refine i_dict ?_ | refine i_frz ?_ | refine i_name ?_ | refine i_gcons ?_ | refine i_gnil ?_ | refine i_gsub ?_ | refine i_par ?_ | refine i_par2 ?_ | refine i_un ?_ | refine i_int ?_ | refine i_slice ?_ | refine i_onone ?_ | refine i_osome ?_ | refine i_bm ?_ | refine i_bm0 ?_ | refine i_get1 ?_ | refine i_get2 ?_ | refine i_del ?_ | refine i_for ?_ | refine i_lc ?_ | refine i_dc ?_ | refine i_yes ?_ | refine i_it ?_ | refine i_rng1 ?_ | refine i_fld ?_ | refine i_sfld ?_ | refine i_meth ?_ | refine i_make ?_ | refine v_I0 ?_ | refine v_plusI ?_ | refine v_eqI ?_ | refine v_eqS ?_ | refine v_isN ?_ | refine v_int ?_ | refine v_abs ?_ | refine v_sliceT ?_ | refine v_sliceL ?_ | refine b_fx ?_ | refine b_tx ?_)
  | ((with_reducible refine i_var (d := ?yd) ?ye0 ?_); (case ye0 => rfl))
  | ((with_reducible refine i_gtup ?ye0 ?_); (case ye0 => rfl))
  | (with_reducible refine iteT ?_)
  | (with_reducible refine iteF ?_)
  | (with_reducible refine b_dec ?_ ?_ <;> intro hc)
  | (with_reducible refine b_ndec ?_ ?_ <;> intro hc)
  | ((with_reducible refine v_subT (d := ?yd) ?ye0 ?_); (case ye0 => rfl))
  | ((with_reducible refine v_subL (d := ?yd) ?ye0 ?_); (case ye0 => rfl))
  | ((with_reducible refine v_subM (ds := ?yds) (d := ?yd) ?ye0 ?ye1 ?_); (case ye0 => (walk_at "y_look")); (case ye1 => rfl))
  | ((with_reducible refine v_setL (ds := ?yds) (j := ?yj) ?ye0 ?ye1 ?_); (case ye0 => (walk_at "y_look")); (case ye1 => rfl))
  | ((with_reducible refine v_I ?ye0 ?_); (case ye0 => (walk_at "y_cond")))
  | ((with_reducible refine i_sz ?ye0 ?_); (case ye0 => (first | exact Nat.le_of_ble_eq_true rfl | (simp only [List.length_append, List.length_cons, List.length_nil, List.length_map, sizeLine_eq] at *; omega))))
  | (with_reducible refine i_new fun yp yhp => ?_)
  | ((with_reducible refine v_app (ds := ?yds) ?ye0 ?ye1 ?_); (case ye0 => (walk_at "y_look")); (case ye1 => (first | (simp only [List.length_append, List.length_cons, List.length_nil, List.length_map, sizeLine_eq] at *; omega))))
  | ((with_reducible refine i_tyL (ds := ?yds) ?ye0 ?_); (case ye0 => (walk_at "y_look")))
  | (with_reducible refine i_tyl ?_)
  | ((with_reducible refine v_subK (kvs := ?ykv) (k := ?yk) (d := ?yd) ?ye0 ?ye1 ?ye2 ?_); (case ye0 => (walk_at "y_look")); (case ye1 => rfl); (case ye2 => first | assumption | rfl))
  | ((with_reducible refine v_plusL (ds := ?yds) (es := ?yes) ?ye0 ?ye1 ?ye2 ?_); (case ye0 => first | rfl | (with_reducible refine lsD_ref (ds := ?yds2) ?yl0; walk_at "y_look")); (case ye1 => first | rfl | (with_reducible refine lsD_ref (ds := ?yds2) ?yl0; walk_at "y_look")); (case ye2 => (simp only [List.length_append, List.length_cons, List.length_nil, List.length_map, sizeLine_eq] at *; omega)))
  | ((with_reducible refine v_plusT ?ye0 ?_); (case ye0 => (simp only [List.length_append, List.length_cons, List.length_nil, List.length_map, sizeLine_eq] at *; omega)))
  | ((with_reducible refine i_rng1d ?ye0 ?_); (case ye0 => (constructor <;> omega)))
  | ((with_reducible refine v_len (n := ?yn) ?ye0 ?_); (case ye0 => first | ((with_reducible refine lenD_ref (ds := ?yds) ?yl0); (case yl0 => walk_at "y_look")) | rfl))
  | ((with_reducible refine v_list (es := ?yes) ?ye0 ?_); (case ye0 => first | (with_reducible refine itD_ref (ds := ?yds) ?yl0; walk_at "y_look") | rfl))
  | ((with_reducible refine v_tuple (es := ?yes) ?ye0 ?_); (case ye0 => first | (with_reducible refine itD_ref (ds := ?yds) ?yl0; walk_at "y_look") | rfl))
  | ((with_reducible refine v_eqP ?ye0 ?ye1 fun yb => ?_); (case ye0 => walk_at "y_pl"); (case ye1 => walk_at "y_pl"))
  | (with_reducible refine b_emp ?_ ?_ <;> intro hc)
  | (with_reducible refine i_trul ?_)
  | (with_reducible refine i_trut ?_)
  | (with_reducible refine i_trub ?_)
  | ((with_reducible refine v_inT ?ye0 ?_); (case ye0 => exact ⟨rfl, rfl⟩))
  | (with_reducible refine b_var ?_ ?_ <;> intro hc)
  | ((with_reducible refine i_its (ds := ?yds) ?ye0 ?_); (case ye0 => rfl)))
local macro_rules | `(tactic| walk_at "y0") => `(tactic| repeat' (walk_at "y1"))
local macro_rules | `(tactic| walk_at "ys") => `(tactic| walk_at "y0")
local macro_rules | `(tactic| walk_at "y_nn") => `(tactic| first | assumption | exact (put_none (by assumption)).2 | exact (put_none (put_none (by assumption)).2).2 | exact (put_none (put_none (put_none (by assumption)).2).2).2)
local macro_rules | `(tactic| walk_at "y_kl1") => `(tactic| first | (with_reducible exact KL.merge) | ((with_reducible refine KL.put (n := ?ykn) ?ykk); (case ykk => walk_at "y_kl1")))
local macro_rules | `(tactic| walk_at "y_kl") => `(tactic| ((refine KL.lt (n := ?yn) ?yk1 ?yk2); (case yk1 => walk_at "y_kl1"); (case yk2 => first | decide | (simp; done))))
local macro_rules | `(tactic| walk_at "y_fr") => `(tactic| first | exact Fr.refl _ _ | assumption | ((refine Fr.put ?yf1 ?yf2); (case yf2 => simp); (case yf1 => walk_at "y_fr")) | ((refine Fr.drop ?yf1 ?yf2); (case yf2 => simp); (case yf1 => walk_at "y_fr")))
local macro_rules | `(tactic| walk_at "y_fin") => `(tactic| first | assumption | rfl | walk_at "y_look" | walk_at "y_pl" | walk_at "y_fr" | omega | walk_at "y_len" | (intros; omega))
local macro_rules | `(tactic| walk_at "y_take") => `(tactic| ((with_reducible refine i_take (t := ?yt) ?yl ?yo ?yb fun yr yt' yr0 yr1 yok => ?_); (case yl => walk_at "y_look"); (case yo => assumption); (case yb => (constructor <;> first | omega | (simp; omega)))))
local macro_rules | `(tactic| walk_at "y_pick") => `(tactic| first | ((with_reducible refine i_pick2 (k := 0) (t := ?yt) ?yl ?yo ?yb ?yP fun yd yt' yP ym yok => ?_); (case yl => walk_at "y_look"); (case yo => assumption); (case yb => (constructor <;> walk_at "y_len")); (case yP => walk_at "y_pl")) | ((with_reducible refine i_pick2 (k := 5) (t := ?yt) ?yl ?yo ?yb ?yP fun yd yt' yP ym yok => ?_); (case yl => walk_at "y_look"); (case yo => assumption); (case yb => (constructor <;> walk_at "y_len")); (case yP => walk_at "y_pl")))
local macro_rules | `(tactic| walk_at "y2") => `(tactic| first | walk_at "y1" | walk_at "y_take" | walk_at "y_pick" | (with_reducible refine i_disp fun yp yhp => ?_) | (with_reducible refine i_pcons ?_) | (with_reducible refine i_pnil ?_) | (with_reducible refine i_mut ?_) | ((with_reducible refine v_inT' ?ye0 ?ye1 fun yb => ?_); (case ye0 => walk_at "y_pl"); (case ye1 => walk_at "y_pl")) | ((with_reducible refine v_setK (kvs := ?ykv) (k := ?yk) ?ye0 ?ye1 ?ye2 ?_); (case ye0 => walk_at "y_look"); (case ye1 => rfl); (case ye2 => walk_at "y_kl")) | ((with_reducible refine i_mutd (ds := ?yds) ?ye0 ?_); (case ye0 => walk_at "y_look")) | ((with_reducible refine i_glst' ?ye0 ?_); (case ye0 => rfl)))
local macro_rules | `(tactic| walk_at "ys") => `(tactic| repeat' (walk_at "y2"))
local macro_rules | `(tactic| walk_at "y1") => `(tactic| (with_reducible first | refine i_callX ?_ | refine i_methX ?_ | refine i_raise ?_ | refine i_tryAs ?_ | refine i_tryOnly ?_ | refine i_xf ?_ | refine i_isE ?_ | refine i_zip ?_ | refine i_enum ?_ | refine i_rev ?_))
local macro_rules | `(tactic| walk_at "y1") => `(tactic| ((with_reducible refine v_subLk (kvs := ?ykv) (k := ?yk) (d := ?yd) (od := ?yod) (xs := ?yxs) ?ye0 ?ye1 ?ye2 ?_); (case ye0 => (walk_at "y_look")); (case ye1 => rfl); (case ye2 => first | assumption | rfl)))
local macro_rules | `(tactic| walk_at "y1") => `(tactic| first
  | (with_reducible first | refine v_isT ?_ | refine v_isF ?_ | refine iteNT ?_ | refine iteNF ?_)
  | ((with_reducible refine v_isNF ?ye0 ?_); (case ye0 => rfl))
  | ((with_reducible refine v_isNT ?ye0 ?_); (case ye0 => rfl)))
theorem i_aug {i : Nat} {t : DE} {r : D2} {x : D} {E : DEnds} {δ : Y.Env} {M : Mm} (e : δ[i]? = some (some x)) (h : t δ M fun y M1 => r x y M1 fun z M2 => E.nx (δ.set i (some z)) M2) : dAug i t r E δ M := ⟨x, e, h⟩
local macro_rules | `(tactic| walk_at "y1") => `(tactic| first
  | (with_reducible refine v_inS ?_)
  | (with_reducible refine v_inSN ?_)
  | ((with_reducible refine v_lenS ?ye0 ?_); (case ye0 => (rw [sizeLine_eq]; omega)))
  | (with_reducible refine i_itS ?_)
  | ((with_reducible refine i_aug (x := ?yx) ?ye0 ?_); (case ye0 => rfl)))
def tw (cs : List Nat) : Nat := (cs.takeWhile okN).length
theorem okN_cons {c : Nat} {r : List Nat} (h : okN c = true) : tw (c :: r) = tw r + 1 := by simp [tw, List.takeWhile_cons, h]
theorem okN_stop {c : Nat} {r : List Nat} (h : okN c = false) : tw (c :: r) = 0 := by simp [tw, List.takeWhile_cons, h]
theorem drop_get {s : Str} {k : Nat} {c : Nat} {r : List Nat} (h : s.cps.toList.drop k = c :: r) : atI s.cps.toList (k : Int) = some c ∧ s.cps.toList.drop (k + 1) = r ∧ k < s.length := by
  have hk : k < s.cps.toList.length := by
    by_cases z : k < s.cps.toList.length
    · exact z
    · rw [List.drop_eq_nil_of_le (by omega)] at h; cases h
  rw [List.drop_eq_getElem_cons hk] at h
  injection h with h1 h2
  refine ⟨?_, h2, by rw [← len_cps]; exact hk⟩
  rw [atI_nn, List.getElem?_eq_getElem hk, h1]
theorem drop_none {s : Str} {k : Nat} (h : s.cps.toList.drop k = []) : s.length ≤ k := by
  have := List.drop_eq_nil_iff.mp h
  rw [← len_cps]
  exact this
def peC : DT := (dAnd (dTest (dOp (dI0 fun i j => .bl (decide (i < j))) (dVar 1) (dCB cLen (dCons (dVar 0) (dNil))))) (dOr (dTest (dOp (inD false) (dOp subD (dVar 0) (dVar 1)) (dCD g_LETTERS))) (dOr (dTest (dOp (inD false) (dOp subD (dVar 0) (dVar 1)) (dCD g_DIGITS))) (dTest (dOp (eqD false) (dOp subD (dVar 0) (dVar 1)) (dC (.str "_")))))))
theorem pe_loop {s : Str} {M : Mm} {E : DEnds} (hl : s.length ≤ 1000000) : ∀ (n k : Nat), s.length - k ≤ n → k ≤ s.length → E.nx [some (.str s), some (.int ((k + tw (s.cps.toList.drop k) : Nat) : Int))] M → whileD peC (dAug 1 (dC (.int 1)) (dI0 fun i j => .int (i + j))) E (n + 1) [some (.str s), some (.int (k : Nat))] M := by
  have hz := sizeS hl
  intro n
  induction n with
  | zero =>
    intro k h1 h2 h
    refine ⟨fun _ _ => False, fun _ _ z => z.elim, ?_⟩
    have : s.cps.toList.drop k = [] := List.drop_eq_nil_of_le (by rw [len_cps]; omega)
    rw [this] at h
    unfold peC
    walk_at "ys"
    · omega
    · exact h
  | succ n ih =>
    intro k h1 h2 h
    obtain ⟨N, hN1, hN2⟩ : ∃ N : Y.Env → Mm → Prop, (∀ δ' M', N δ' M' → whileD peC (dAug 1 (dC (.int 1)) (dI0 fun i j => .int (i + j))) E (n + 1) δ' M') ∧ ∀ δ' M', whileD peC (dAug 1 (dC (.int 1)) (dI0 fun i j => .int (i + j))) E (n + 1) δ' M' → N δ' M' := ⟨_, fun _ _ h => h, fun _ _ h => h⟩
    refine ⟨N, hN1, ?_⟩
    cases hd : s.cps.toList.drop k with
    | nil =>
      have := drop_none hd
      rw [hd] at h
      unfold peC
      walk_at "ys"
      · omega
      · exact h
    | cons c r =>
      obtain ⟨e1, e2, e3⟩ := drop_get hd
      rw [hd] at h
      have go : okN c = true → N [some (.str s), some (.int ((k : Nat) + 1))] M := fun hc => by
        refine hN2 _ _ ?_
        have := ih (k + 1) (by omega) (by omega) (by
          rw [okN_cons hc] at h
          rw [e2]
          have : k + 1 + tw r = k + (tw r + 1) := by omega
          rw [this]
          exact h)
        exact this
      have stop : okN c = false → E.nx [some (.str s), some (.int (k : Nat))] M := fun hc => by
        rw [okN_stop hc] at h
        exact h
      unfold peC g_LETTERS g_DIGITS
      walk_at "ys"
      · refine v_subS hz e1 ?_
        walk_at "ys"
        · rename_i h5 h6
          exact go (by unfold okN; rw [show inS LET c = true from h6]; rfl)
        · refine v_subS hz e1 ?_
          walk_at "ys"
          · rename_i h5 h6 h7
            exact go (by unfold okN; rw [show inS DIG c = true from h7]; simp)
          · refine v_subS hz e1 ?_
            walk_at "ys"
            · rename_i h5 h6 h7 h8
              exact go (by unfold okN; rw [decide_eq_true h8]; simp)
            · rename_i h5 h6 h7 h8
              exact stop (by unfold okN; rw [show inS LET c = false from h6, show inS DIG c = false from h7, decide_eq_false h8]; rfl)
      · omega
def spEnd : DSp := fun ds M Q _ => ∃ (s : Str) (k : Nat), ds = [.str s, .int (k : Nat)] ∧ s.length ≤ 1000000 ∧ k ≤ s.length ∧ Q (.int ((k + tw (s.cps.toList.drop k) : Nat) : Int)) M
theorem rd_part_end (ds : List D) (M : Mm) (Q : QD) (E : DX) (h : spEnd ds M Q E) : r_part_end { nx := fun _ M' => less Q .non M', rt := less Q } (startD 2 ds) M := by
  obtain ⟨s, k, rfl, hl, hk, q⟩ := h
  show r_part_end _ [some (.str s), some (.int (k : Nat))] M
  unfold r_part_end
  walk_at "ys"
  refine ⟨s.length - k + 1, ?_⟩
  exact pe_loop (E := { nx := dRet (dVar 1) { nx := fun _ M' => less Q .non M', rt := less Q }, rt := less Q }) hl _ k (Nat.le_refl _) hk (by walk_at "ys"; exact less_of q rfl)
/-! the first sign that stands there -/
def pfx (g : Str) (cs : List Nat) : Bool := cs.take g.length == g.cps.toList
theorem start3 {s g : Str} {k : Nat} (hk : k ≤ s.length) : Txt.startswith3 s g (k : Int) = pfx g (s.cps.toList.drop k) := by
  have e : fromIndex s.length (k : Int) = k := by unfold fromIndex; rw [if_neg (by omega)]; omega
  unfold Txt.startswith3
  rw [e, StrLaws.subAt_eq]
  unfold pfx
  cases h : ((s.cps.toList.drop k).take g.length == g.cps.toList) with
  | false => simp
  | true =>
    have := congrArg List.length (eq_of_beq h)
    rw [List.length_take, List.length_drop, len_cps, len_cps] at this
    simp
    omega
def SGL : List Str := ["->", "==", "!=", "(", ")", "{", "}", ",", ".", ";", ":", "*", "=", "+", "-", "<"]
def sgn (cs : List Nat) : Option Str := SGL.find? fun g => pfx g cs
def spSign : DSp := fun ds M Q _ => ∃ (s : Str) (k : Nat), ds = [.str s, .int (k : Nat)] ∧ k ≤ s.length ∧ Q (match sgn (s.cps.toList.drop k) with | some g => .str g | none => .non) M
theorem sg_eq : g_SIGNS = .tup (SGL.map D.str) := rfl
theorem find_at {p : Str → Bool} : ∀ {l : List Str} {i : Nat} {g : Str}, l[i]? = some g → (∀ h ∈ l.take i, p h = false) → p g = true → l.find? p = some g
  | x :: l, 0, g, e, _, hg => by simp at e; subst e; simp [List.find?_cons, hg]
  | x :: l, i + 1, g, e, h, hg => by
    have hx := h x (by simp)
    rw [List.find?_cons, hx]
    exact find_at (by simpa using e) (fun y hy => h y (by simp [hy])) hg
  | [], _, _, e, _, _ => by simp at e
theorem rd_sign_at (ds : List D) (M : Mm) (Q : QD) (E : DX) (h : spSign ds M Q E) : r_sign_at { nx := fun _ M' => less Q .non M', rt := less Q } (startD 3 ds) M := by
  obtain ⟨s, k, rfl, hk, q⟩ := h
  show r_sign_at _ [some (.str s), some (.int (k : Nat)), none] M
  unfold r_sign_at
  rw [sg_eq]
  walk_at "ys"
  refine for_wordG (fun i δ' M' => (∃ x, δ' = [some (.str s), some (.int (k : Nat)), x]) ∧ M' = M ∧ ∀ g ∈ SGL.take i, pfx g (s.cps.toList.drop k) = false) ⟨⟨none, rfl⟩, rfl, by simp⟩ ?_ ?_ (fun _ _ _ _ => trivial)
  · rintro i d δ' M' hd ⟨⟨x, rfl⟩, rfl, hno⟩
    rw [List.getElem?_map] at hd
    cases hg : SGL[i]? with
    | none => rw [hg] at hd; cases hd
    | some g =>
      rw [hg] at hd
      simp only [Option.map_some, Option.some.injEq] at hd
      subst hd
      walk_at "ys"
      refine ⟨rfl, ?_⟩
      walk_at "ys"
      refine ⟨s, g, (k : Nat), rfl, rfl, ?_⟩
      rw [start3 hk]
      walk_at "ys"
      · rename_i e
        rw [show sgn (s.cps.toList.drop k) = some g from find_at hg hno e] at q
        exact less_of q rfl
      · rename_i e
        refine ⟨⟨_, rfl⟩, rfl, fun g' hg' => ?_⟩
        rw [List.take_add_one, hg] at hg'
        simp at hg'
        rcases hg' with h | rfl
        · exact hno g' h
        · exact e
  · rintro δ' M' ⟨⟨x, rfl⟩, rfl, hno⟩
    walk_at "ys"
    have : sgn (s.cps.toList.drop k) = none := by
      unfold sgn
      rw [List.find?_eq_none]
      intro g hg
      rw [hno g (by simpa using hg)]
      simp
    rw [this] at q
    exact less_of q rfl
end K04


set_option Elab.async false
set_option linter.all false
set_option maxRecDepth 100000
set_option maxHeartbeats 4000000
set_option pp.deepTerms true
set_option pp.maxSteps 3000
/-! the readings of law k04: words_of -/
namespace K04
open PySem PySem.Spec PyProof.Rows L2 Y YD
local macro_rules | `(tactic| walk_at "y_ne") => `(tactic| first | assumption | exact Ne.symm (by assumption) | ((refine ne_none (M := ?yM) (m := ?ymo) ?ym1 ?ym2); (case ym2 => assumption); (case ym1 => walk_at "y_look")) | ((refine Ne.symm (ne_none (M := ?yM) (m := ?ymo) ?ym1 ?ym2)); (case ym2 => assumption); (case ym1 => walk_at "y_look")) | ((refine ne_none (M := ?yM) (m := ?ymo) ?ym1 (put_none (M := ?yM) (a := ?yma) (m := ?ymo2) ?ym2).2); (case ym2 => assumption); (case ym1 => walk_at "y_look")) | ((refine Ne.symm (ne_none (M := ?yM) (m := ?ymo) ?ym1 (put_none (M := ?yM) (a := ?yma) (m := ?ymo2) ?ym2).2)); (case ym2 => assumption); (case ym1 => walk_at "y_look")))
local macro_rules | `(tactic| walk_at "y_look") => `(tactic| first | assumption | exact put_same | ((with_reducible refine Eq.trans (put_ne ?yn) ?_); (case yn => walk_at "y_ne"); (walk_at "y_look")) | ((with_reducible refine Eq.trans (drop_ne ?yn) ?_); (case yn => walk_at "y_ne"); (walk_at "y_look")))
local macro_rules | `(tactic| walk_at "y_pl") => `(tactic| first | assumption | exact PlL.nil | exact Pl.int _ | exact Pl.non | exact Pl.bl _ | exact Pl.str (by decide +kernel) | ((with_reducible refine PlL.cons ?yp1 ?yp2); (case yp1 => walk_at "y_pl"); (case yp2 => walk_at "y_pl")) | ((with_reducible refine PlL.append ?yp1 ?yp2); (case yp1 => walk_at "y_pl"); (case yp2 => walk_at "y_pl")) | ((with_reducible refine Pl.tup ?yp1); (case yp1 => walk_at "y_pl")) | ((with_reducible refine PlL.mono (j := ?yj) ?yp1 ?yp2); (case yp1 => assumption); (case yp2 => first | decide | omega)) | ((with_reducible refine Pl.mono (j := ?yj) ?yp1 ?yp2); (case yp1 => assumption); (case yp2 => first | decide | omega)))
local macro_rules | `(tactic| walk_at "y_len") => `(tactic| ((try simp only [List.length_append, List.length_cons, List.length_nil, List.length_map, sizeLine_eq] at *); omega))
local macro_rules | `(tactic| walk_at "y_rfl") => `(tactic| first | rfl | (simp only [atI_nn]; rfl))
local macro_rules | `(tactic| walk_at "y_at") => `(tactic| first | exact atI_nn _ 0 | rfl)
local macro_rules | `(tactic| walk_at "y_cond") => `(tactic| first
  | (show (0 : Int) < _; first | decide | assumption | omega)
  | (exact ⟨by first | decide | assumption | omega, by first | decide | assumption | omega⟩)
  | (exact Or.inl ⟨by first | decide | assumption | omega, by first | decide | assumption | omega⟩)
  | (exact Or.inr ⟨by first | decide | assumption | omega, by first | decide | assumption | omega⟩)
  | (exact ⟨by decide, by decide, by decide⟩))
local macro_rules | `(tactic| walk_at "y1") => `(tactic| first
  | (with_reducible first | refine i_seq ?_ | refine i_next ?_ | refine i_asg ?_ | refine i_ret ?_ | refine i_retN ?_ | refine i_drop ?_ | refine i_cont ?_ | refine i_break ?_ | refine i_ifs ?_ | refine i_if ?_ | refine i_and ?_ | refine i_or ?_ | refine i_not ?_ | refine i_test ?_ | refine i_tru ?_ | refine i_andV ?_ | refine i_orV ?_ | refine i_notV ?_ | refine i_bl ?_ | refine i_op ?_ | refine i_chain ?_ | refine i_c ?_ | refine i_cd ?_ | refine i_nil ?_ | refine i_cons ?_ | refine i_call ?_ | refine i_cb ?_ | refine i_tup ?_ | refine i_lst ?_ | refine i_lstM ?_ | refine i_dict ?_ | refine i_frz ?_ | refine i_name ?_ | refine i_gcons ?_ | refine i_gnil ?_ | refine i_gsub ?_ | refine i_par ?_ | refine i_par2 ?_ | refine i_un ?_ | refine i_int ?_ | refine i_slice ?_ | refine i_onone ?_ | refine i_osome ?_ | refine i_bm ?_ | refine i_bm0 ?_ | refine i_get1 ?_ | refine i_get2 ?_ | refine i_del ?_ | refine i_for ?_ | refine i_lc ?_ | refine i_dc ?_ | refine i_yes ?_ | refine i_it ?_ | refine i_rng1 ?_ | refine i_fld ?_ | refine i_sfld ?_ | refine i_meth ?_ | refine i_make ?_ | refine v_I0 ?_ | refine v_plusI ?_ | refine v_eqI ?_ | refine v_eqS ?_ | refine v_isN ?_ | refine v_int ?_ | refine v_abs ?_ | refine v_sliceT ?_ | refine v_sliceL ?_ | refine b_fx ?_ | refine b_tx ?_)
  | ((with_reducible refine i_var (d := ?yd) ?ye0 ?_); (case ye0 => rfl))
  | ((with_reducible refine i_gtup ?ye0 ?_); (case ye0 => rfl))
  | (with_reducible refine iteT ?_)
  | (with_reducible refine iteF ?_)
  | (with_reducible refine b_dec ?_ ?_ <;> intro hc)
  | (with_reducible refine b_ndec ?_ ?_ <;> intro hc)
  | ((with_reducible refine v_subT (d := ?yd) ?ye0 ?_); (case ye0 => rfl))
  | ((with_reducible refine v_subL (d := ?yd) ?ye0 ?_); (case ye0 => rfl))
  | ((with_reducible refine v_subM (ds := ?yds) (d := ?yd) ?ye0 ?ye1 ?_); (case ye0 => (walk_at "y_look")); (case ye1 => rfl))
  | ((with_reducible refine v_setL (ds := ?yds) (j := ?yj) ?ye0 ?ye1 ?_); (case ye0 => (walk_at "y_look")); (case ye1 => rfl))
  | ((with_reducible refine v_I ?ye0 ?_); (case ye0 => (walk_at "y_cond")))
  | ((with_reducible refine i_sz ?ye0 ?_); (case ye0 => (first | exact Nat.le_of_ble_eq_true rfl | (simp only [List.length_append, List.length_cons, List.length_nil, List.length_map, sizeLine_eq] at *; omega))))
  | (with_reducible refine i_new fun yp yhp => ?_)
  | ((with_reducible refine v_app (ds := ?yds) ?ye0 ?ye1 ?_); (case ye0 => (walk_at "y_look")); (case ye1 => (first | (simp only [List.length_append, List.length_cons, List.length_nil, List.length_map, sizeLine_eq] at *; omega))))
  | ((with_reducible refine i_tyL (ds := ?yds) ?ye0 ?_); (case ye0 => (walk_at "y_look")))
  | (with_reducible refine i_tyl ?_)
  | ((with_reducible refine v_subK (kvs := ?ykv) (k := ?yk) (d := ?yd) ?ye0 ?ye1 ?ye2 ?_); (case ye0 => (walk_at "y_look")); (case ye1 => rfl); (case ye2 => first | assumption | rfl))
  | ((with_reducible refine v_plusL (ds := ?yds) (es := ?yes) ?ye0 ?ye1 ?ye2 ?_); (case ye0 => first | rfl | (with_reducible refine lsD_ref (ds := ?yds2) ?yl0; walk_at "y_look")); (case ye1 => first | rfl | (with_reducible refine lsD_ref (ds := ?yds2) ?yl0; walk_at "y_look")); (case ye2 => (simp only [List.length_append, List.length_cons, List.length_nil, List.length_map, sizeLine_eq] at *; omega)))
  | ((with_reducible refine v_plusT ?ye0 ?_); (case ye0 => (simp only [List.length_append, List.length_cons, List.length_nil, List.length_map, sizeLine_eq] at *; omega)))
  | ((with_reducible refine i_rng1d ?ye0 ?_); (case ye0 => (constructor <;> omega)))
  | ((with_reducible refine v_len (n := ?yn) ?ye0 ?_); (case ye0 => first | ((with_reducible refine lenD_ref (ds := ?yds) ?yl0); (case yl0 => walk_at "y_look")) | rfl))
  | ((with_reducible refine v_list (es := ?yes) ?ye0 ?_); (case ye0 => first | (with_reducible refine itD_ref (ds := ?yds) ?yl0; walk_at "y_look") | rfl))
  | ((with_reducible refine v_tuple (es := ?yes) ?ye0 ?_); (case ye0 => first | (with_reducible refine itD_ref (ds := ?yds) ?yl0; walk_at "y_look") | rfl))
  | ((with_reducible refine v_eqP ?ye0 ?ye1 fun yb => ?_); (case ye0 => walk_at "y_pl"); (case ye1 => walk_at "y_pl"))
  | (with_reducible refine b_emp ?_ ?_ <;> intro hc)
  | (with_reducible refine i_trul ?_)
  | (with_reducible refine i_trut ?_)
  | (with_reducible refine i_trub ?_)
  | ((with_reducible refine v_inT ?ye0 ?_); (case ye0 => exact ⟨rfl, rfl⟩))
  | (with_reducible refine b_var ?_ ?_ <;> intro hc)
  | ((with_reducible refine i_its (ds := ?yds) ?ye0 ?_); (case ye0 => rfl)))
local macro_rules | `(tactic| walk_at "y0") => `(tactic| repeat' (walk_at "y1"))
local macro_rules | `(tactic| walk_at "ys") => `(tactic| walk_at "y0")
local macro_rules | `(tactic| walk_at "y_nn") => `(tactic| first | assumption | exact (put_none (by assumption)).2 | exact (put_none (put_none (by assumption)).2).2 | exact (put_none (put_none (put_none (by assumption)).2).2).2)
local macro_rules | `(tactic| walk_at "y_kl1") => `(tactic| first | (with_reducible exact KL.merge) | ((with_reducible refine KL.put (n := ?ykn) ?ykk); (case ykk => walk_at "y_kl1")))
local macro_rules | `(tactic| walk_at "y_kl") => `(tactic| ((refine KL.lt (n := ?yn) ?yk1 ?yk2); (case yk1 => walk_at "y_kl1"); (case yk2 => first | decide | (simp; done))))
local macro_rules | `(tactic| walk_at "y_fr") => `(tactic| first | exact Fr.refl _ _ | assumption | ((refine Fr.put ?yf1 ?yf2); (case yf2 => simp); (case yf1 => walk_at "y_fr")) | ((refine Fr.drop ?yf1 ?yf2); (case yf2 => simp); (case yf1 => walk_at "y_fr")))
local macro_rules | `(tactic| walk_at "y_fin") => `(tactic| first | assumption | rfl | walk_at "y_look" | walk_at "y_pl" | walk_at "y_fr" | omega | walk_at "y_len" | (intros; omega))
local macro_rules | `(tactic| walk_at "y_take") => `(tactic| ((with_reducible refine i_take (t := ?yt) ?yl ?yo ?yb fun yr yt' yr0 yr1 yok => ?_); (case yl => walk_at "y_look"); (case yo => assumption); (case yb => (constructor <;> first | omega | (simp; omega)))))
local macro_rules | `(tactic| walk_at "y_pick") => `(tactic| first | ((with_reducible refine i_pick2 (k := 0) (t := ?yt) ?yl ?yo ?yb ?yP fun yd yt' yP ym yok => ?_); (case yl => walk_at "y_look"); (case yo => assumption); (case yb => (constructor <;> walk_at "y_len")); (case yP => walk_at "y_pl")) | ((with_reducible refine i_pick2 (k := 5) (t := ?yt) ?yl ?yo ?yb ?yP fun yd yt' yP ym yok => ?_); (case yl => walk_at "y_look"); (case yo => assumption); (case yb => (constructor <;> walk_at "y_len")); (case yP => walk_at "y_pl")))
local macro_rules | `(tactic| walk_at "y2") => `(tactic| first | walk_at "y1" | walk_at "y_take" | walk_at "y_pick" | (with_reducible refine i_disp fun yp yhp => ?_) | (with_reducible refine i_pcons ?_) | (with_reducible refine i_pnil ?_) | (with_reducible refine i_mut ?_) | ((with_reducible refine v_inT' ?ye0 ?ye1 fun yb => ?_); (case ye0 => walk_at "y_pl"); (case ye1 => walk_at "y_pl")) | ((with_reducible refine v_setK (kvs := ?ykv) (k := ?yk) ?ye0 ?ye1 ?ye2 ?_); (case ye0 => walk_at "y_look"); (case ye1 => rfl); (case ye2 => walk_at "y_kl")) | ((with_reducible refine i_mutd (ds := ?yds) ?ye0 ?_); (case ye0 => walk_at "y_look")) | ((with_reducible refine i_glst' ?ye0 ?_); (case ye0 => rfl)))
local macro_rules | `(tactic| walk_at "ys") => `(tactic| repeat' (walk_at "y2"))
local macro_rules | `(tactic| walk_at "y1") => `(tactic| (with_reducible first | refine i_callX ?_ | refine i_methX ?_ | refine i_raise ?_ | refine i_tryAs ?_ | refine i_tryOnly ?_ | refine i_xf ?_ | refine i_isE ?_ | refine i_zip ?_ | refine i_enum ?_ | refine i_rev ?_))
local macro_rules | `(tactic| walk_at "y1") => `(tactic| ((with_reducible refine v_subLk (kvs := ?ykv) (k := ?yk) (d := ?yd) (od := ?yod) (xs := ?yxs) ?ye0 ?ye1 ?ye2 ?_); (case ye0 => (walk_at "y_look")); (case ye1 => rfl); (case ye2 => first | assumption | rfl)))
local macro_rules | `(tactic| walk_at "y1") => `(tactic| first
  | (with_reducible first | refine v_isT ?_ | refine v_isF ?_ | refine iteNT ?_ | refine iteNF ?_)
  | ((with_reducible refine v_isNF ?ye0 ?_); (case ye0 => rfl))
  | ((with_reducible refine v_isNT ?ye0 ?_); (case ye0 => rfl)))
theorem i_tyS {x : Str} {M : Mm} {A : Prop} (h : A) : tyD "str" (.str x) M ∧ A := ⟨rfl, h⟩
theorem v_sliceS {z : Str} {lo hi : Option Int} {M : Mm} {Q : QD} (hz : z.length ≤ sizeLine) (h : Q (.str (cutS z lo hi)) M) : sliceD (.str z) lo hi M Q := ⟨hz, h⟩
local macro_rules | `(tactic| walk_at "y1") => `(tactic| first
  | (with_reducible refine v_inS ?_)
  | (with_reducible refine v_inSN ?_)
  | (with_reducible refine i_tyS ?_)
  | ((with_reducible refine v_sliceS ?ye0 ?_); (case ye0 => (rw [sizeLine_eq]; omega)))
  | ((with_reducible refine v_lenS ?ye0 ?_); (case ye0 => (rw [sizeLine_eq]; omega)))
  | (with_reducible refine i_itS ?_)
  | ((with_reducible refine i_aug (x := ?yx) ?ye0 ?_); (case ye0 => rfl)))
def isSp (c : Nat) : Bool := decide (c = 32) || decide (c = 10)
def isHd (c : Nat) : Bool := inS LET c || inS DIG c || decide ((⟨#[c]⟩ : Str) = "$")
/-- the words of a text's signs -/
def lx : Nat → List Nat → List Str → Except Nat (List Str)
  | 0, _, found => .ok found
  | n + 1, cs, found => match cs with
    | [] => .ok found
    | c :: r =>
      if isSp c = true then lx n r found
      else if isHd c = true then lx n (r.drop (tw r)) (found ++ [⟨(c :: r.take (tw r)).toArray⟩])
      else match sgn (c :: r) with
        | none => .error found.length
        | some g => lx n ((c :: r).drop g.length) (found ++ [g])
theorem one_beq (a c : Nat) : ((⟨#[a]⟩ : Str) == ⟨#[c]⟩) = decide (c = a) := by
  rw [Bool.eq_iff_iff, beq_iff_eq, decide_eq_true_iff]
  simp [eq_comm]
theorem memD_sp (c : Nat) : memD (.str ⟨#[c]⟩) [.str " ", .str "\n"] = isSp c := by
  unfold memD isSp
  have e1 : (" " : Str) = ⟨#[32]⟩ := by decide +kernel
  have e2 : ("\n" : Str) = ⟨#[10]⟩ := by decide +kernel
  rw [e1, e2]
  simp only [eqV, List.any_cons, List.any_nil, Bool.or_false]
  rw [one_beq, one_beq]
def woC : DT := (dTest (dOp (dI0 fun i j => .bl (decide (i < j))) (dVar 2) (dCB cLen (dCons (dVar 0) (dNil)))))
def woWord : DS := (dSeq (dAsg (dCall spEnd (dCons (dVar 0) (dCons (dOp plusD (dVar 2) (dC (.int 1))) (dNil)))) (dgName 3)) (dSeq (dDrop (dBM "list" mAppend (dVar 1) (dCons (dSlice (dVar 0) (doSome (dVar 2)) (doSome (dVar 3))) (dNil)))) (dAsg (dVar 3) (dgName 2))))
def woSign (W : DW) (CT : Addr) : DS := (dSeq (dAsg (dCall spSign (dCons (dVar 0) (dCons (dVar 2) (dNil)))) (dgName 4)) (dSeq (dIfS (dTest (dOp (isN false) (dVar 4) (dC .non))) (dRaise W CT ["code", "at"] (dCons (dC (.str "sign")) (dCons (dCB cLen (dCons (dVar 1) (dNil))) (dNil)))) (dNext)) (dSeq (dDrop (dBM "list" mAppend (dVar 1) (dCons (dVar 4) (dNil)))) (dAug 2 (dCB cLen (dCons (dVar 4) (dNil))) (dI0 fun i j => .int (i + j))))))
def woBody (W : DW) (CT : Addr) : DS := (dIfS (dTest (dOp (inD false) (dOp subD (dVar 0) (dVar 2)) (dTup (dCons (dC (.str " ")) (dCons (dC (.str "\n")) (dNil)))))) (dAug 2 (dC (.int 1)) (dI0 fun i j => .int (i + j))) (dIfS (dTest (dOp (eqD false) (dOp subD (dVar 0) (dVar 2)) (dC (.str "#")))) (dSeq (dAsg (dBM "str" mFind3 (dVar 0) (dCons (dC (.str "\n")) (dCons (dVar 2) (dNil)))) (dgName 3)) (dAsg (dIf (dTest (dOp (dI0 fun i j => .bl (decide (i < j))) (dVar 3) (dC (.int 0)))) (dCB cLen (dCons (dVar 0) (dNil))) (dVar 3)) (dgName 2))) (dIfS (dOr (dTest (dOp (inD false) (dOp subD (dVar 0) (dVar 2)) (dCD g_LETTERS))) (dOr (dTest (dOp (inD false) (dOp subD (dVar 0) (dVar 2)) (dCD g_DIGITS))) (dTest (dOp (eqD false) (dOp subD (dVar 0) (dVar 2)) (dC (.str "$")))))) woWord (woSign W CT))))
theorem cut_cps {s : Str} {k m : Nat} (hk : k ≤ m) (hm : m ≤ s.length) : (cutS s (some (k : Int)) (some (m : Int))).cps.toList = (s.cps.toList.drop k).take (m - k) := by
  unfold cutS
  rw [HT.sIx_nat, HT.sIx_nat, Nat.min_eq_left (show k ≤ s.length by omega), Nat.min_eq_left (show m ≤ s.length from hm)]
theorem pfx_len {g : Str} {cs : List Nat} (h : pfx g cs = true) : g.length ≤ cs.length := by
  have := congrArg List.length (eq_of_beq h)
  rw [List.length_take, len_cps] at this
  omega
theorem sgn_pos {cs : List Nat} {g : Str} (h : sgn cs = some g) : 1 ≤ g.length ∧ g.length ≤ cs.length ∧ g.length ≤ 2 := by
  have h1 := List.mem_of_find?_eq_some h
  have h2 := List.find?_some h
  have h3 : ∀ g ∈ SGL, 1 ≤ g.length ∧ g.length ≤ 2 := by decide +kernel
  exact ⟨(h3 g h1).1, pfx_len h2, (h3 g h1).2⟩
theorem tw_le (cs : List Nat) : tw cs ≤ cs.length := (List.takeWhile_prefix _).length_le
theorem take_tw : ∀ cs : List Nat, cs.take (tw cs) = cs.takeWhile okN := fun cs => by
  have h := List.takeWhile_prefix (l := cs) okN
  exact (List.prefix_iff_eq_take.mp h).symm
theorem drop_succ {s : Str} {k : Nat} {c : Nat} {r : List Nat} (h : s.cps.toList.drop k = c :: r) (j : Nat) : s.cps.toList.drop (k + 1 + j) = r.drop j := by
  have e := (drop_get h).2.1
  rw [← e, List.drop_drop]
theorem wo_loop {CT p : Addr} {M : Mm} {s : Str} {EX : DX} {E : DEnds} (hl : s.length ≤ 1000000) (hno : ∀ c ∈ s.cps.toList, c ≠ 35) (hp : M p = none) : ∀ (n k : Nat) (found : List Str) (x3 x4 : Option D), s.length - k ≤ n → k ≤ s.length → found.length + (s.length - k) ≤ 2000000 →
    (∀ ws x2 x3 x4, lx n (s.cps.toList.drop k) found = .ok ws → E.nx [some (.str s), some (.ref p), x2, x3, x4] (put M p (.lst (ws.map D.str)))) → (∀ m, lx n (s.cps.toList.drop k) found = .error m → EX (.ref CT) [("at", .int (m : Nat)), ("code", .str "sign")] M) →
    whileD woC (woBody (fun _ => lessX EX) CT) E (n + 1) [some (.str s), some (.ref p), some (.int (k : Nat)), x3, x4] (put M p (.lst (found.map D.str))) := by
  have hz := sizeS hl
  have hfl : ∀ found : List Str, (found.map D.str).length = found.length := fun _ => List.length_map _
  intro n
  induction n with
  | zero =>
    intro k found x3 x4 h1 h2 h3 k1 k2
    refine ⟨fun _ _ => False, fun _ _ z => z.elim, ?_⟩
    unfold woC
    walk_at "ys"
    · omega
    · exact k1 found _ _ _ rfl
  | succ n ih =>
    intro k found x3 x4 h1 h2 h3 k1 k2
    obtain ⟨N, hN1, hN2⟩ : ∃ N : Y.Env → Mm → Prop, (∀ δ' M', N δ' M' → whileD woC (woBody (fun _ => lessX EX) CT) E (n + 1) δ' M') ∧ ∀ δ' M', whileD woC (woBody (fun _ => lessX EX) CT) E (n + 1) δ' M' → N δ' M' := ⟨_, fun _ _ h => h, fun _ _ h => h⟩
    refine ⟨N, hN1, ?_⟩
    cases hd : s.cps.toList.drop k with
    | nil =>
      have := drop_none hd
      rw [hd] at k1
      unfold woC
      walk_at "ys"
      · omega
      · exact k1 found _ _ _ rfl
    | cons c r =>
      obtain ⟨e1, e2, e3⟩ := drop_get hd
      rw [hd] at k1 k2
      have hc35 : c ≠ 35 := hno c (List.mem_of_mem_drop (i := k) (by rw [hd]; exact List.mem_cons_self))
      have hlr : r.length = s.length - (k + 1) := by rw [← e2, List.length_drop, len_cps]
      have word : isSp c = false → isHd c = true → woWord { nx := N, rt := E.rt, bk := E.nx, ct := N } [some (.str s), some (.ref p), some (.int (k : Nat)), x3, x4] (put M p (.lst (found.map D.str))) := fun h6 h7 => by
        have elx : lx (n + 1) (c :: r) found = lx n (r.drop (tw r)) (found ++ [⟨(c :: r.take (tw r)).toArray⟩]) := by
          show (if isSp c = true then _ else if isHd c = true then _ else _) = _
          rw [if_neg (by rw [h6]; simp), if_pos h7]
        have htw := tw_le r
        unfold woWord
        walk_at "ys"
        refine ⟨s, k + 1, rfl, hl, by omega, ?_⟩
        rw [e2]
        walk_at "ys"
        rw [put_put]
        have ecut : cutS s (some (k : Int)) (some ((k + 1 + tw r : Nat) : Int)) = ⟨(c :: r.take (tw r)).toArray⟩ := by
          apply str_ext
          rw [cut_cps (by omega) (by omega), hd, show k + 1 + tw r - k = tw r + 1 by omega]
          rfl
        rw [ecut]
        have eL : found.map D.str ++ [D.str ⟨(c :: r.take (tw r)).toArray⟩] = (found ++ [(⟨(c :: r.take (tw r)).toArray⟩ : Str)]).map D.str := by simp
        rw [eL]
        refine hN2 _ _ ?_
        exact ih (k + 1 + tw r) _ _ x4 (by omega) (by omega) (by simp; omega) (fun ws x2 x3 x4 e => k1 ws x2 x3 x4 (by rw [elx, ← drop_succ hd]; exact e)) (fun m e => k2 m (by rw [elx, ← drop_succ hd]; exact e))
      have sign : isSp c = false → isHd c = false → woSign (fun _ => lessX EX) CT { nx := N, rt := E.rt, bk := E.nx, ct := N } [some (.str s), some (.ref p), some (.int (k : Nat)), x3, x4] (put M p (.lst (found.map D.str))) := fun h6 h7 => by
        have elx : lx (n + 1) (c :: r) found = match sgn (c :: r) with | none => .error found.length | some g => lx n ((c :: r).drop g.length) (found ++ [g]) := by
          show (if isSp c = true then _ else if isHd c = true then _ else _) = _
          rw [if_neg (by rw [h6]; simp), if_neg (by rw [h7]; simp)]
        unfold woSign
        walk_at "ys"
        refine ⟨s, k, rfl, h2, ?_⟩
        rw [hd]
        cases hg : sgn (c :: r) with
        | none =>
          rw [hg] at elx
          simp only at elx
          walk_at "ys"
          rw [hfl]
          refine ⟨rfl, fun d hd => ?_, ?_⟩
          · simp only [List.mem_cons, List.not_mem_nil, or_false] at hd
            rcases hd with rfl | rfl
            · simp [okxD, okx]; decide
            · show ((found.length : Nat) : Int).natAbs < 10 ^ 100
              exact Nat.lt_of_le_of_lt (show ((found.length : Nat) : Int).natAbs ≤ 2000000 by omega) (by decide +kernel)
          · exact lessX_fr0 (k2 _ elx) (L := [p]) (by walk_at "y_fr") (by simp [hp])
        | some g =>
          rw [hg] at elx
          simp only at elx
          have hgl := sgn_pos hg
          have hcr : (c :: r).length = s.length - k := by rw [← hd, List.length_drop, len_cps]
          walk_at "ys"
          rw [put_put]
          have eL : found.map D.str ++ [D.str g] = (found ++ [g]).map D.str := by simp
          rw [eL]
          refine hN2 _ _ ?_
          have ed : s.cps.toList.drop (k + g.length) = (c :: r).drop g.length := by rw [← hd, List.drop_drop]
          exact ih (k + g.length) _ x3 _ (by omega) (by omega) (by simp; omega) (fun ws x2 x3 x4 e => k1 ws x2 x3 x4 (by rw [elx, ← ed]; exact e)) (fun m e => k2 m (by rw [elx, ← ed]; exact e))
      unfold woC
      walk_at "ys"
      · unfold woBody g_LETTERS g_DIGITS
        walk_at "ys"
        refine v_subS hz e1 ?_
        walk_at "ys"
        · rename_i h5 h6
          have h6 : isSp c = true := (memD_sp c).symm.trans ((Bool.false_xor _).symm.trans h6)
          have elx : lx (n + 1) (c :: r) found = lx n r found := if_pos h6
          refine hN2 _ _ ?_
          exact ih (k + 1) found x3 x4 (by omega) (by omega) (by omega) (fun ws x2 x3 x4 e => k1 ws x2 x3 x4 (by rw [elx, ← e2]; exact e)) (fun m e => k2 m (by rw [elx, ← e2]; exact e))
        · rename_i h5 h6
          have h6 : isSp c = false := (memD_sp c).symm.trans ((Bool.false_xor _).symm.trans h6)
          refine v_subS hz e1 ?_
          walk_at "ys"
          · rename_i h7
            refine absurd ?_ hc35
            have := str_eq.mp h7
            rw [show ("#" : Str).cps.toList = [35] from by decide +kernel] at this
            simpa using this
          · refine v_subS hz e1 ?_
            walk_at "ys"
            · rename_i h7 h8
              exact word h6 (by unfold isHd; rw [show inS LET c = true from h8]; rfl)
            · refine v_subS hz e1 ?_
              walk_at "ys"
              · rename_i h7 h8 h9
                exact word h6 (by unfold isHd; rw [show inS DIG c = true from h9]; simp)
              · refine v_subS hz e1 ?_
                walk_at "ys"
                · rename_i h7 h8 h9 h10
                  exact word h6 (by unfold isHd; rw [decide_eq_true h10]; simp)
                · rename_i h7 h8 h9 h10
                  exact sign h6 (by unfold isHd; rw [show inS LET c = false from h8, show inS DIG c = false from h9, decide_eq_false h10]; rfl)
      · omega
/-- the words of a text, or with how many ahead of a strange sign it is refused -/
def wordsOf (s : Str) : Except Nat (List Str) := lx s.length s.cps.toList []
def spWords (CT : Addr) : DSp := fun ds M Q E => ∃ s : Str, ds = [.str s] ∧ s.length ≤ 1000000 ∧ (∀ c ∈ s.cps.toList, c ≠ 35) ∧ (∀ ws, wordsOf s = .ok ws → Q (.lst (ws.map D.str)) M) ∧ ∀ m, wordsOf s = .error m → E (.ref CT) [("at", .int (m : Nat)), ("code", .str "sign")] M
theorem rd_words (CT : Addr) (ds : List D) (M : Mm) (Q : QD) (E : DX) (h : spWords CT ds M Q E) : r_words_of (fun _ => lessX E) spEnd spSign CT { nx := fun _ M' => less Q .non M', rt := less Q } (startD 5 ds) M := by
  obtain ⟨s, rfl, hl, hno, k1, k2⟩ := h
  show r_words_of _ _ _ _ _ [some (.str s), none, none, none, none] M
  unfold r_words_of
  walk_at "ys"
  rename_i p hp
  refine ⟨s.length + 1, ?_⟩
  have := wo_loop (CT := CT) (EX := E) (E := { nx := dRet (dFrz (dVar 1)) { nx := fun _ M' => less Q .non M', rt := less Q }, rt := less Q }) hl hno hp s.length 0 [] none none (by omega) (by omega) (by simp; omega) (fun ws x2 x3 x4 e => by
    walk_at "ys"
    rw [Y.drop_put hp]
    exact less_of (k1 ws e) rfl) (fun m e => k2 m e)
  exact this
end K04


set_option Elab.async false
set_option linter.all false
set_option maxRecDepth 100000
set_option maxHeartbeats 4000000
set_option pp.deepTerms true
set_option pp.maxSteps 3000
/-! the readings of law k04: the reader -/
namespace K04
open PySem PySem.Spec PyProof.Rows L2 Y YD PySem.NumText
local macro_rules | `(tactic| walk_at "y_ne") => `(tactic| first | assumption | exact Ne.symm (by assumption) | ((refine ne_none (M := ?yM) (m := ?ymo) ?ym1 ?ym2); (case ym2 => assumption); (case ym1 => walk_at "y_look")) | ((refine Ne.symm (ne_none (M := ?yM) (m := ?ymo) ?ym1 ?ym2)); (case ym2 => assumption); (case ym1 => walk_at "y_look")) | ((refine ne_none (M := ?yM) (m := ?ymo) ?ym1 (put_none (M := ?yM) (a := ?yma) (m := ?ymo2) ?ym2).2); (case ym2 => assumption); (case ym1 => walk_at "y_look")) | ((refine Ne.symm (ne_none (M := ?yM) (m := ?ymo) ?ym1 (put_none (M := ?yM) (a := ?yma) (m := ?ymo2) ?ym2).2)); (case ym2 => assumption); (case ym1 => walk_at "y_look")))
local macro_rules | `(tactic| walk_at "y_look") => `(tactic| first | assumption | exact put_same | ((with_reducible refine Eq.trans (put_ne ?yn) ?_); (case yn => walk_at "y_ne"); (walk_at "y_look")) | ((with_reducible refine Eq.trans (drop_ne ?yn) ?_); (case yn => walk_at "y_ne"); (walk_at "y_look")))
local macro_rules | `(tactic| walk_at "y_pl") => `(tactic| first | assumption | exact PlL.nil | exact Pl.int _ | exact Pl.non | exact Pl.bl _ | exact Pl.str (by decide +kernel) | ((with_reducible refine PlL.cons ?yp1 ?yp2); (case yp1 => walk_at "y_pl"); (case yp2 => walk_at "y_pl")) | ((with_reducible refine PlL.append ?yp1 ?yp2); (case yp1 => walk_at "y_pl"); (case yp2 => walk_at "y_pl")) | ((with_reducible refine Pl.tup ?yp1); (case yp1 => walk_at "y_pl")) | ((with_reducible refine PlL.mono (j := ?yj) ?yp1 ?yp2); (case yp1 => assumption); (case yp2 => first | decide | omega)) | ((with_reducible refine Pl.mono (j := ?yj) ?yp1 ?yp2); (case yp1 => assumption); (case yp2 => first | decide | omega)))
local macro_rules | `(tactic| walk_at "y_len") => `(tactic| ((try simp only [List.length_append, List.length_cons, List.length_nil, List.length_map, sizeLine_eq] at *); omega))
local macro_rules | `(tactic| walk_at "y_rfl") => `(tactic| first | rfl | (simp only [atI_nn]; rfl))
local macro_rules | `(tactic| walk_at "y_at") => `(tactic| first | exact atI_nn _ 0 | rfl)
local macro_rules | `(tactic| walk_at "y_cond") => `(tactic| first
  | (show (0 : Int) < _; first | decide | assumption | omega)
  | (exact ⟨by first | decide | assumption | omega, by first | decide | assumption | omega⟩)
  | (exact Or.inl ⟨by first | decide | assumption | omega, by first | decide | assumption | omega⟩)
  | (exact Or.inr ⟨by first | decide | assumption | omega, by first | decide | assumption | omega⟩)
  | (exact ⟨by decide, by decide, by decide⟩))
local macro_rules | `(tactic| walk_at "y1") => `(tactic| first
  | (with_reducible first | refine i_seq ?_ | refine i_next ?_ | refine i_asg ?_ | refine i_ret ?_ | refine i_retN ?_ | refine i_drop ?_ | refine i_cont ?_ | refine i_break ?_ | refine i_ifs ?_ | refine i_if ?_ | refine i_and ?_ | refine i_or ?_ | refine i_not ?_ | refine i_test ?_ | refine i_tru ?_ | refine i_andV ?_ | refine i_orV ?_ | refine i_notV ?_ | refine i_bl ?_ | refine i_op ?_ | refine i_chain ?_ | refine i_c ?_ | refine i_cd ?_ | refine i_nil ?_ | refine i_cons ?_ | refine i_call ?_ | refine i_cb ?_ | refine i_tup ?_ | refine i_lst ?_ | refine i_lstM ?_ | refine i_dict ?_ | refine i_frz ?_ | refine i_name ?_ | refine i_gcons ?_ | refine i_gnil ?_ | refine i_gsub ?_ | refine i_par ?_ | refine i_par2 ?_ | refine i_un ?_ | refine i_int ?_ | refine i_slice ?_ | refine i_onone ?_ | refine i_osome ?_ | refine i_bm ?_ | refine i_bm0 ?_ | refine i_get1 ?_ | refine i_get2 ?_ | refine i_del ?_ | refine i_for ?_ | refine i_lc ?_ | refine i_dc ?_ | refine i_yes ?_ | refine i_it ?_ | refine i_rng1 ?_ | refine i_fld ?_ | refine i_sfld ?_ | refine i_meth ?_ | refine i_make ?_ | refine v_I0 ?_ | refine v_plusI ?_ | refine v_eqI ?_ | refine v_eqS ?_ | refine v_isN ?_ | refine v_int ?_ | refine v_abs ?_ | refine v_sliceT ?_ | refine v_sliceL ?_ | refine b_fx ?_ | refine b_tx ?_)
  | ((with_reducible refine i_var (d := ?yd) ?ye0 ?_); (case ye0 => rfl))
  | ((with_reducible refine i_gtup ?ye0 ?_); (case ye0 => rfl))
  | (with_reducible refine iteT ?_)
  | (with_reducible refine iteF ?_)
  | (with_reducible refine b_dec ?_ ?_ <;> intro hc)
  | (with_reducible refine b_ndec ?_ ?_ <;> intro hc)
  | ((with_reducible refine v_subT (d := ?yd) ?ye0 ?_); (case ye0 => rfl))
  | ((with_reducible refine v_subL (d := ?yd) ?ye0 ?_); (case ye0 => rfl))
  | ((with_reducible refine v_subM (ds := ?yds) (d := ?yd) ?ye0 ?ye1 ?_); (case ye0 => (walk_at "y_look")); (case ye1 => rfl))
  | ((with_reducible refine v_setL (ds := ?yds) (j := ?yj) ?ye0 ?ye1 ?_); (case ye0 => (walk_at "y_look")); (case ye1 => rfl))
  | ((with_reducible refine v_I ?ye0 ?_); (case ye0 => (walk_at "y_cond")))
  | ((with_reducible refine i_sz ?ye0 ?_); (case ye0 => (first | exact Nat.le_of_ble_eq_true rfl | (simp only [List.length_append, List.length_cons, List.length_nil, List.length_map, sizeLine_eq] at *; omega))))
  | (with_reducible refine i_new fun yp yhp => ?_)
  | ((with_reducible refine v_app (ds := ?yds) ?ye0 ?ye1 ?_); (case ye0 => (walk_at "y_look")); (case ye1 => (first | (simp only [List.length_append, List.length_cons, List.length_nil, List.length_map, sizeLine_eq] at *; omega))))
  | ((with_reducible refine i_tyL (ds := ?yds) ?ye0 ?_); (case ye0 => (walk_at "y_look")))
  | (with_reducible refine i_tyl ?_)
  | ((with_reducible refine v_subK (kvs := ?ykv) (k := ?yk) (d := ?yd) ?ye0 ?ye1 ?ye2 ?_); (case ye0 => (walk_at "y_look")); (case ye1 => rfl); (case ye2 => first | assumption | rfl))
  | ((with_reducible refine v_plusL (ds := ?yds) (es := ?yes) ?ye0 ?ye1 ?ye2 ?_); (case ye0 => first | rfl | (with_reducible refine lsD_ref (ds := ?yds2) ?yl0; walk_at "y_look")); (case ye1 => first | rfl | (with_reducible refine lsD_ref (ds := ?yds2) ?yl0; walk_at "y_look")); (case ye2 => (simp only [List.length_append, List.length_cons, List.length_nil, List.length_map, sizeLine_eq] at *; omega)))
  | ((with_reducible refine v_plusT ?ye0 ?_); (case ye0 => (simp only [List.length_append, List.length_cons, List.length_nil, List.length_map, sizeLine_eq] at *; omega)))
  | ((with_reducible refine i_rng1d ?ye0 ?_); (case ye0 => (constructor <;> omega)))
  | ((with_reducible refine v_len (n := ?yn) ?ye0 ?_); (case ye0 => first | ((with_reducible refine lenD_ref (ds := ?yds) ?yl0); (case yl0 => walk_at "y_look")) | rfl))
  | ((with_reducible refine v_list (es := ?yes) ?ye0 ?_); (case ye0 => first | (with_reducible refine itD_ref (ds := ?yds) ?yl0; walk_at "y_look") | rfl))
  | ((with_reducible refine v_tuple (es := ?yes) ?ye0 ?_); (case ye0 => first | (with_reducible refine itD_ref (ds := ?yds) ?yl0; walk_at "y_look") | rfl))
  | ((with_reducible refine v_eqP ?ye0 ?ye1 fun yb => ?_); (case ye0 => walk_at "y_pl"); (case ye1 => walk_at "y_pl"))
  | (with_reducible refine b_emp ?_ ?_ <;> intro hc)
  | (with_reducible refine i_trul ?_)
  | (with_reducible refine i_trut ?_)
  | (with_reducible refine i_trub ?_)
  | ((with_reducible refine v_inT ?ye0 ?_); (case ye0 => exact ⟨rfl, rfl⟩))
  | (with_reducible refine b_var ?_ ?_ <;> intro hc)
  | ((with_reducible refine i_its (ds := ?yds) ?ye0 ?_); (case ye0 => rfl)))
local macro_rules | `(tactic| walk_at "y0") => `(tactic| repeat' (walk_at "y1"))
local macro_rules | `(tactic| walk_at "ys") => `(tactic| walk_at "y0")
local macro_rules | `(tactic| walk_at "y_nn") => `(tactic| first | assumption | exact (put_none (by assumption)).2 | exact (put_none (put_none (by assumption)).2).2 | exact (put_none (put_none (put_none (by assumption)).2).2).2)
local macro_rules | `(tactic| walk_at "y_kl1") => `(tactic| first | (with_reducible exact KL.merge) | ((with_reducible refine KL.put (n := ?ykn) ?ykk); (case ykk => walk_at "y_kl1")))
local macro_rules | `(tactic| walk_at "y_kl") => `(tactic| ((refine KL.lt (n := ?yn) ?yk1 ?yk2); (case yk1 => walk_at "y_kl1"); (case yk2 => first | decide | (simp; done))))
local macro_rules | `(tactic| walk_at "y_fr") => `(tactic| first | exact Fr.refl _ _ | assumption | ((refine Fr.put ?yf1 ?yf2); (case yf2 => simp); (case yf1 => walk_at "y_fr")) | ((refine Fr.drop ?yf1 ?yf2); (case yf2 => simp); (case yf1 => walk_at "y_fr")))
local macro_rules | `(tactic| walk_at "y_fin") => `(tactic| first | assumption | rfl | walk_at "y_look" | walk_at "y_pl" | walk_at "y_fr" | omega | walk_at "y_len" | (intros; omega))
local macro_rules | `(tactic| walk_at "y_take") => `(tactic| ((with_reducible refine i_take (t := ?yt) ?yl ?yo ?yb fun yr yt' yr0 yr1 yok => ?_); (case yl => walk_at "y_look"); (case yo => assumption); (case yb => (constructor <;> first | omega | (simp; omega)))))
local macro_rules | `(tactic| walk_at "y_pick") => `(tactic| first | ((with_reducible refine i_pick2 (k := 0) (t := ?yt) ?yl ?yo ?yb ?yP fun yd yt' yP ym yok => ?_); (case yl => walk_at "y_look"); (case yo => assumption); (case yb => (constructor <;> walk_at "y_len")); (case yP => walk_at "y_pl")) | ((with_reducible refine i_pick2 (k := 5) (t := ?yt) ?yl ?yo ?yb ?yP fun yd yt' yP ym yok => ?_); (case yl => walk_at "y_look"); (case yo => assumption); (case yb => (constructor <;> walk_at "y_len")); (case yP => walk_at "y_pl")))
local macro_rules | `(tactic| walk_at "y2") => `(tactic| first | walk_at "y1" | walk_at "y_take" | walk_at "y_pick" | (with_reducible refine i_disp fun yp yhp => ?_) | (with_reducible refine i_pcons ?_) | (with_reducible refine i_pnil ?_) | (with_reducible refine i_mut ?_) | ((with_reducible refine v_inT' ?ye0 ?ye1 fun yb => ?_); (case ye0 => walk_at "y_pl"); (case ye1 => walk_at "y_pl")) | ((with_reducible refine v_setK (kvs := ?ykv) (k := ?yk) ?ye0 ?ye1 ?ye2 ?_); (case ye0 => walk_at "y_look"); (case ye1 => rfl); (case ye2 => walk_at "y_kl")) | ((with_reducible refine i_mutd (ds := ?yds) ?ye0 ?_); (case ye0 => walk_at "y_look")) | ((with_reducible refine i_glst' ?ye0 ?_); (case ye0 => rfl)))
local macro_rules | `(tactic| walk_at "ys") => `(tactic| repeat' (walk_at "y2"))
local macro_rules | `(tactic| walk_at "y1") => `(tactic| (with_reducible first | refine i_callX ?_ | refine i_methX ?_ | refine i_raise ?_ | refine i_tryAs ?_ | refine i_tryOnly ?_ | refine i_xf ?_ | refine i_isE ?_ | refine i_zip ?_ | refine i_enum ?_ | refine i_rev ?_))
local macro_rules | `(tactic| walk_at "y1") => `(tactic| ((with_reducible refine v_subLk (kvs := ?ykv) (k := ?yk) (d := ?yd) (od := ?yod) (xs := ?yxs) ?ye0 ?ye1 ?ye2 ?_); (case ye0 => (walk_at "y_look")); (case ye1 => rfl); (case ye2 => first | assumption | rfl)))
local macro_rules | `(tactic| walk_at "y1") => `(tactic| first
  | (with_reducible first | refine v_isT ?_ | refine v_isF ?_ | refine iteNT ?_ | refine iteNF ?_)
  | ((with_reducible refine v_isNF ?ye0 ?_); (case ye0 => rfl))
  | ((with_reducible refine v_isNT ?ye0 ?_); (case ye0 => rfl)))
theorem i_fldd {K : PySem.W.Frag} {f : Str} {o C dx : Addr} {fs : List (Str × D)} {d : D} {M : Mm} {P : D → Prop} (em : M o = some (.ins C dx fs)) (hc : Cls K C) (hn : NoAttr K C f) (hl : fs.lookup f = some d) (h : P d) : ∃ a C dx fs d, D.ref o = .ref a ∧ M a = some (.ins C dx fs) ∧ Cls K C ∧ NoAttr K C f ∧ fs.lookup f = some d ∧ P d := ⟨o, C, dx, fs, d, rfl, em, hc, hn, hl, h⟩
theorem i_fldg {K : PySem.W.Frag} {f : Str} {o C dx : Addr} {fs : List (Str × D)} {d : D} {M : Mm} {P : Addr → Addr → D → Prop} (em : M o = some (.ins C dx fs)) (hc : Cls K C) (hn : NoAttr K C f) (hl : fs.lookup f = some d) (h : P o C d) : ∃ a C dx fs d, D.ref o = .ref a ∧ M a = some (.ins C dx fs) ∧ Cls K C ∧ NoAttr K C f ∧ fs.lookup f = some d ∧ P a C d := ⟨o, C, dx, fs, d, rfl, em, hc, hn, hl, h⟩
theorem i_methd {m : Str} {o C dx : Addr} {fs : List (Str × D)} {M : Mm} {P : Addr → Prop} (em : M o = some (.ins C dx fs)) (hl : fs.lookup m = none) (h : P o) : ∃ a dx fs, D.ref o = .ref a ∧ M a = some (.ins C dx fs) ∧ fs.lookup m = none ∧ P a := ⟨o, dx, fs, rfl, em, hl, h⟩
theorem i_sfldd {K : PySem.W.Frag} {f : Str} {o C dx : Addr} {fs : List (Str × D)} {M : Mm} {P : Addr → Addr → Addr → List (Str × D) → Prop} (em : M o = some (.ins C dx fs)) (hc : Cls K C) (hn : NoAttr K C f) (hl : fs.length < 1000) (h : P o C dx fs) : ∃ a C dx fs, D.ref o = .ref a ∧ M a = some (.ins C dx fs) ∧ Cls K C ∧ NoAttr K C f ∧ fs.length < 1000 ∧ P a C dx fs := ⟨o, C, dx, fs, rfl, em, hc, hn, hl, h⟩
theorem i_faug {K : PySem.W.Frag} {f : Str} {ta tv : DE} {r : D2} {E : DEnds} {δ : Y.Env} {M : Mm} (h : ta δ M fun x M1 => ∃ a C dx fs d, x = .ref a ∧ M1 a = some (.ins C dx fs) ∧ Cls K C ∧ NoAttr K C f ∧ fs.lookup f = some d ∧
  tv δ M1 fun y M2 => r d y M2 fun z M3 => ∃ dx' fs', M3 a = some (.ins C dx' fs') ∧ fs'.length < 1000 ∧ E.nx δ (Y.put M3 a (.ins C dx' (putFD f z fs')))) : dsFldAug K f ta tv r E δ M := h
theorem i_fend {o C dx : Addr} {fs : List (Str × D)} {M : Mm} {P : Addr → List (Str × D) → Prop} (em : M o = some (.ins C dx fs)) (hl : fs.length < 1000) (h : P dx fs) : ∃ dx' fs', M o = some (.ins C dx' fs') ∧ fs'.length < 1000 ∧ P dx' fs' := ⟨dx, fs, em, hl, h⟩
def rdO (C dx : Addr) (ws us : List Str) : MO := .ins C dx [("_words", .lst (ws.map D.str)), ("at", .int ((ws.length - us.length : Nat) : Int))]
structure Rd (M : Mm) (r C dx : Addr) (ws us : List Str) : Prop where
  m : M r = some (rdO C dx ws us)
  s : us <:+ ws
  n : ws.length ≤ 1000000
  ok : ∀ w ∈ ws, 1 ≤ w.length ∧ w.length ≤ 1000000
theorem Rd.le {M : Mm} {r C dx : Addr} {ws us : List Str} (h : Rd M r C dx ws us) : us.length ≤ ws.length := h.s.length_le
theorem Rd.drop {M : Mm} {r C dx : Addr} {ws us : List Str} (h : Rd M r C dx ws us) : ws.drop (ws.length - us.length) = us := (List.suffix_iff_eq_drop.mp h.s).symm
theorem Rd.put {M M' : Mm} {r C dx : Addr} {ws us us' : List Str} (h : Rd M r C dx ws us) (hs : us' <:+ us) : Rd (put M' r (rdO C dx ws us')) r C dx ws us' := ⟨put_same, hs.trans h.s, h.n, h.ok⟩
theorem Rd.get {M : Mm} {r C dx : Addr} {ws us : List Str} {w : Str} (h : Rd M r C dx ws (w :: us)) : atI (ws.map D.str) ((ws.length - (w :: us).length : Nat) : Int) = some (.str w) := by
  rw [atI_nn, List.getElem?_map]
  have e := h.drop
  have : ws[ws.length - (w :: us).length]? = some w := by
    have := congrArg (fun l => l[0]?) e
    simpa [List.getElem?_drop] using this
  rw [this]
  rfl
theorem Rd.wok {M : Mm} {r C dx : Addr} {ws us : List Str} {w : Str} (h : Rd M r C dx ws (w :: us)) : 1 ≤ w.length ∧ w.length ≤ 1000000 := h.ok w (h.s.subset List.mem_cons_self)
def frm (ws us : List Str) : List (Str × D) := [("at", .int ((ws.length - us.length : Nat) : Int)), ("code", .str "form")]
theorem drop_put_same {M : Mm} {a : Addr} {m : MO} : Y.drop (Y.put M a m) a = Y.drop M a := by
  funext b
  unfold Y.drop Y.put
  by_cases h : b = a <;> simp [h]
theorem errL {EX : DX} {c : Value} {fs : List (Str × D)} {M M1 : Mm} {r : Addr} {L : List Addr} (k : EX c fs (Y.drop M r)) (h : Fr M M1 (r :: L)) (hL : ∀ p ∈ L, M p = none) : lessX EX c fs (Y.drop M1 r) := by
  refine ⟨Y.drop M r, fun b n hb => ?_, k⟩
  unfold Y.drop at hb ⊢
  by_cases e : b = r
  · simp [e] at hb
  · rw [if_neg e] at hb ⊢
    rw [h b ?_]
    · exact hb
    · intro z
      rcases List.mem_cons.mp z with z | z
      · exact e z
      · rw [hL b z] at hb; cases hb
theorem errM {EX : DX} {c : Value} {fs : List (Str × D)} {M M1 : Mm} {r : Addr} {L : List Addr} (k : EX c fs (Y.drop M r)) (h : Fr M M1 (r :: L)) (hL : ∀ p ∈ L, M p = none) : lessX EX c fs M1 := by
  obtain ⟨M', h1, h2⟩ := errL k h hL
  refine ⟨M', fun b n hb => ?_, h2⟩
  have := h1 b n hb
  unfold Y.drop at this
  by_cases e : b = r
  · simp [e] at this
  · rw [if_neg e] at this; exact this
theorem put_rd {C dx : Addr} {ws us : List Str} {w : Str} (hl : (w :: us).length ≤ ws.length) : MO.ins C dx (putFD "at" (.int (((ws.length - (w :: us).length : Nat) : Int) + 1)) [("_words", .lst (ws.map D.str)), ("at", .int ((ws.length - (w :: us).length : Nat) : Int))]) = rdO C dx ws us := by
  have e : (((ws.length - (w :: us).length : Nat) : Int) + 1) = ((ws.length - us.length : Nat) : Int) := by simp at hl ⊢; omega
  rw [e]
  rfl
theorem frm_ok {ws us : List Str} (hn : ws.length ≤ 1000000) : ∀ (d : D), d ∈ [D.str "form", D.int ((ws.length - us.length : Nat) : Int)] → okxD d := by
  intro d hd
  simp only [List.mem_cons, List.not_mem_nil, or_false] at hd
  rcases hd with rfl | rfl
  · simp [okxD, okx]; decide
  · show ((ws.length - us.length : Nat) : Int).natAbs < 10 ^ 100
    exact Nat.lt_of_le_of_lt (show ((ws.length - us.length : Nat) : Int).natAbs ≤ 1000000 by omega) (by decide +kernel)
section
variable {K : PySem.W.Frag} {C : Addr} (hC : Cls K C) (n1 : NoAttr K C "_words") (n2 : NoAttr K C "at")
local macro_rules | `(tactic| walk_at "y1") => `(tactic| first
  | (with_reducible refine v_inS ?_)
  | (with_reducible refine v_inSN ?_)
  | (with_reducible refine i_tyS ?_)
  | ((with_reducible refine v_lenS ?ye0 ?_); (case ye0 => (rw [sizeLine_eq]; omega)))
  | (with_reducible refine i_itS ?_)
  | ((with_reducible refine i_aug (x := ?yx) ?ye0 ?_); (case ye0 => rfl))
  | (with_reducible refine i_faug ?_)
  | ((with_reducible refine i_fend (dx := ?ydx) (fs := ?yfs) ?ye0 ?ye1 ?_); (case ye0 => walk_at "y_look"); (case ye1 => (first | decide | (simp; done))))
  | ((with_reducible refine i_fldd (C := ?yC) (dx := ?ydx) (fs := ?yfs) (d := ?yd) ?ye0 ?ye1 ?ye2 ?ye3 ?_); (case ye0 => walk_at "y_look"); (case ye1 => assumption); (case ye2 => assumption); (case ye3 => rfl))
  | ((with_reducible refine i_fldg (C := ?yC) (dx := ?ydx) (fs := ?yfs) (d := ?yd) ?ye0 ?ye1 ?ye2 ?ye3 ?_); (case ye0 => walk_at "y_look"); (case ye1 => assumption); (case ye2 => assumption); (case ye3 => rfl))
  | ((with_reducible refine i_methd (dx := ?ydx) (fs := ?yfs) ?ye0 ?ye3 ?_); (case ye0 => walk_at "y_look"); (case ye3 => rfl))
  | ((with_reducible refine i_sfldd (C := ?yC) (dx := ?ydx) (fs := ?yfs) ?ye0 ?ye1 ?ye2 ?ye3 ?_); (case ye0 => walk_at "y_look"); (case ye1 => assumption); (case ye2 => assumption); (case ye3 => (first | decide | (simp; done)))))
def spPeek (C : Addr) : DSp := fun ds M Q _ => ∃ r dx ws us, ds = [.ref r] ∧ Rd M r C dx ws us ∧ Q (.str (us.headD "")) M
include hC n1 n2
theorem rd_peek (ds : List D) (M : Mm) (Q : QD) (E : DX) (h : spPeek C ds M Q E) : r_Reader_peek K { nx := fun _ M' => less Q .non M', rt := less Q } (startD 1 ds) M := by
  obtain ⟨r, dx, ws, us, rfl, h, q⟩ := h
  show r_Reader_peek _ _ [some (.ref r)] M
  have hm := h.m
  unfold rdO at hm
  have hl := h.le
  unfold r_Reader_peek
  walk_at "ys"
  · rename_i hc
    rw [List.length_map] at hc
    cases us with
    | nil => simp at hc
    | cons w us =>
      refine v_subL h.get ?_
      exact less_of q rfl
  · rename_i hc
    rw [List.length_map] at hc
    cases us with
    | nil => exact less_of q rfl
    | cons w us => simp at hc hl; omega
def spSkip (C : Addr) : DSp := fun ds M Q _ => ∃ r dx ws us w, ds = [.ref r, .str w] ∧ Rd M r C dx ws us ∧ w ≠ "" ∧ (∀ us', us = w :: us' → Q (.bl true) (put M r (rdO C dx ws us'))) ∧ (us.headD "" ≠ w → Q (.bl false) M)
theorem rd_skip (ds : List D) (M : Mm) (Q : QD) (E : DX) (h : spSkip C ds M Q E) : r_Reader_skip K C (spPeek C) { nx := fun _ M' => less Q .non M', rt := less Q } (startD 2 ds) M := by
  obtain ⟨r, dx, ws, us, w, rfl, h, hw, q1, q2⟩ := h
  show r_Reader_skip _ _ _ _ [some (.ref r), some (.str w)] M
  have hm := h.m
  unfold rdO at hm
  unfold r_Reader_skip
  walk_at "ys"
  refine ⟨r, dx, ws, us, rfl, h, ?_⟩
  walk_at "ys"
  · rename_i hc
    exact less_of (q2 hc) rfl
  · rename_i hc
    have hc : us.headD "" = w := hc
    cases us with
    | nil => exact absurd hc.symm hw
    | cons x us =>
      have hc : x = w := hc
      subst hc
      walk_at "ys"
      rw [put_rd h.le]
      exact less_of (q1 us rfl) rfl
def spStop (C CT : Addr) : DSp := fun ds M Q E => ∃ r dx ws us, ds = [.ref r] ∧ Rd M r C dx ws us ∧ E (.ref CT) (frm ws us) (Y.drop M r)
theorem rd_stop (CT : Addr) (ds : List D) (M : Mm) (Q : QD) (E : DX) (h : spStop C CT ds M Q E) : r_Reader_stop K (fun _ => lessX E) CT { nx := fun _ M' => less Q .non M', rt := less Q } (startD 1 ds) M := by
  obtain ⟨r, dx, ws, us, rfl, h, k⟩ := h
  show r_Reader_stop _ _ _ _ [some (.ref r)] M
  have hm := h.m
  unfold rdO at hm
  unfold r_Reader_stop
  walk_at "ys"
  exact ⟨rfl, frm_ok h.n, errM (L := []) k (Fr.refl _ _) (fun _ z => nomatch z)⟩
/-- a stop in the midst of a def -/
theorem i_stop {CT r dx : Addr} {ws us : List Str} {M M1 : Mm} {Q : QD} {EX : DX} {L : List Addr} (h : Rd M1 r C dx ws us) (k : EX (.ref CT) (frm ws us) (Y.drop M r)) (hf : Fr M M1 (r :: L)) (hL : ∀ p ∈ L, M p = none) : spStop C CT [.ref r] M1 Q (lessX EX) :=
  ⟨r, dx, ws, us, rfl, h, errL k hf hL⟩
def spNeed (C CT : Addr) : DSp := fun ds M Q E => ∃ r dx ws us w, ds = [.ref r, .str w] ∧ Rd M r C dx ws us ∧ w ≠ "" ∧ (∀ us', us = w :: us' → Q .non (put M r (rdO C dx ws us'))) ∧ (us.headD "" ≠ w → E (.ref CT) (frm ws us) (Y.drop M r))
theorem rd_need (CT : Addr) (ds : List D) (M : Mm) (Q : QD) (E : DX) (h : spNeed C CT ds M Q E) : r_Reader_need (fun _ => lessX E) C (spSkip C) (spStop C CT) { nx := fun _ M' => less Q .non M', rt := less Q } (startD 2 ds) M := by
  obtain ⟨r, dx, ws, us, w, rfl, h, hw, q1, q2⟩ := h
  show r_Reader_need _ _ _ _ _ [some (.ref r), some (.str w)] M
  have hm := h.m
  unfold rdO at hm
  unfold r_Reader_need
  walk_at "ys"
  refine ⟨r, dx, ws, us, w, rfl, h, hw, fun us' e => ?_, fun e => ?_⟩
  · walk_at "ys"
    exact less_of (q1 us' e) rfl
  · walk_at "ys"
    exact i_stop hC n1 n2 h (q2 e) (L := []) (Fr.refl _ _) (fun _ z => nomatch z)
def spTakeW (C CT : Addr) : DSp := fun ds M Q E => ∃ r dx ws us, ds = [.ref r] ∧ Rd M r C dx ws us ∧ (∀ w us', us = w :: us' → Q (.str w) (put M r (rdO C dx ws us'))) ∧ (us = [] → E (.ref CT) (frm ws us) (Y.drop M r))
theorem rd_takeW (CT : Addr) (ds : List D) (M : Mm) (Q : QD) (E : DX) (h : spTakeW C CT ds M Q E) : r_Reader_take K (fun _ => lessX E) C (spStop C CT) { nx := fun _ M' => less Q .non M', rt := less Q } (startD 1 ds) M := by
  obtain ⟨r, dx, ws, us, rfl, h, q1, q2⟩ := h
  show r_Reader_take _ _ _ _ _ [some (.ref r)] M
  have hm := h.m
  unfold rdO at hm
  have hl := h.le
  unfold r_Reader_take
  walk_at "ys"
  · rename_i hc
    rw [List.length_map] at hc
    cases us with
    | nil => exact i_stop hC n1 n2 h (q2 rfl) (L := []) (Fr.refl _ _) (fun _ z => nomatch z)
    | cons w us => simp at hc hl; omega
  · rename_i hc
    rw [List.length_map] at hc
    cases us with
    | nil => simp at hc
    | cons w us =>
      walk_at "ys"
      rw [put_rd h.le, show (((ws.length - (w :: us).length : Nat) : Int) + 1 - 1) = ((ws.length - (w :: us).length : Nat) : Int) by omega]
      refine v_subL h.get ?_
      exact less_of (q1 w us rfl) rfl
def rNum : List Str → Option (Int × List Str)
  | [] => none
  | w :: us => if w ≠ "" ∧ w.cps.toList.all isDig = true ∧ w.length ≤ 30 then some ((PySem.intText? w).getD 0, us) else none
def spNum (C CT : Addr) : DSp := fun ds M Q E => ∃ r dx ws us, ds = [.ref r] ∧ Rd M r C dx ws us ∧ (∀ n us', rNum us = some (n, us') → Q (.int n) (put M r (rdO C dx ws us'))) ∧ (rNum us = none → E (.ref CT) (frm ws us) (Y.drop M r))
theorem rd_num (CT : Addr) (ds : List D) (M : Mm) (Q : QD) (E : DX) (h : spNum C CT ds M Q E) : r_Reader_number K (fun _ => lessX E) C (spPeek C) (spStop C CT) { nx := fun _ M' => less Q .non M', rt := less Q } (startD 3 ds) M := by
  obtain ⟨r, dx, ws, us, rfl, h, q1, q2⟩ := h
  show r_Reader_number _ _ _ _ _ _ [some (.ref r), none, none] M
  have hm := h.m
  unfold rdO at hm
  have hl := h.le
  have stop : rNum us = none → spStop C CT [.ref r] M (fun x M1 => less Q .non M1) (lessX E) := fun e => i_stop hC n1 n2 h (q2 e) (L := []) (Fr.refl _ _) (fun _ z => nomatch z)
  have hwl : (us.headD "").length ≤ 1000000 := by
    cases us with
    | nil => decide +kernel
    | cons w us => exact h.wok.2
  unfold r_Reader_number g_DIGITS g_MOST_FIGURES
  walk_at "ys"
  refine ⟨r, dx, ws, us, rfl, h, ?_⟩
  walk_at "ys"
  · rename_i hc
    refine stop ?_
    cases us with
    | nil => rfl
    | cons w us =>
      have hc : w = "" := hc
      exact if_neg fun z => z.1 hc
  · rename_i hc p hp
    cases us with
    | nil => exact absurd rfl hc
    | cons w us =>
      have hc : w ≠ "" := hc
      refine all_signs (f := isDig) (s := w) hwl ?_ ?_
      · intro c hc acc R hR
        walk_at "ys"
        exact hR
      · walk_at "ys"
        rw [Y.drop_put hp]
        refine ⟨_, _, _, rfl, rfl, blsD_map _ _, ?_⟩
        rw [List.all_map]
        cases ha : w.cps.toList.all isDig with
        | false =>
          rw [show w.cps.toList.all (id ∘ isDig) = false from ha]
          walk_at "ys"
          refine stop (if_neg fun z => ?_)
          rw [ha] at z
          exact absurd z.2.1 (by decide)
        | true =>
          rw [show w.cps.toList.all (id ∘ isDig) = true from ha]
          walk_at "ys"
          · rename_i h30
            exact stop (if_neg fun z => by have := z.2.2; have h30 : (30 : Int) < (w.length : Nat) := h30; omega)
          · rename_i h30
            have h30 : ¬ (30 : Int) < (w.length : Nat) := h30
            have h3 : w.length ≤ 30 := by omega
            have en : rNum (w :: us) = some ((PySem.intText? w).getD 0, us) := if_pos ⟨hc, ha, h3⟩
            have hne : w.cps.toList ≠ [] := fun z => hc (str_ext (by rw [z]; decide +kernel))
            have hdg : AllDigits w.cps.toList := fun c hc => by
              have := List.all_eq_true.mp ha c hc
              unfold isDig inS at this
              rw [decide_eq_true_iff, show DIG.cps.toList = [48, 49, 50, 51, 52, 53, 54, 55, 56, 57] from by decide +kernel] at this
              simp only [List.mem_cons, List.not_mem_nil, or_false] at this
              omega
            have hn := intText_digits hdg hne (by omega)
            refine ⟨w, _, rfl, hn, by omega, ?_⟩
            rw [put_rd h.le]
            refine less_of (q1 _ us ?_) rfl
            rw [en, hn]
            rfl
def spEndR (C CT : Addr) : DSp := fun ds M Q E => ∃ r dx ws us, ds = [.ref r] ∧ Rd M r C dx ws us ∧ (us = [] → Q .non M) ∧ (us ≠ [] → E (.ref CT) (frm ws us) (Y.drop M r))
theorem rd_endR (CT : Addr) (ds : List D) (M : Mm) (Q : QD) (E : DX) (h : spEndR C CT ds M Q E) : r_Reader_end K (fun _ => lessX E) C (spStop C CT) { nx := fun _ M' => less Q .non M', rt := less Q } (startD 1 ds) M := by
  obtain ⟨r, dx, ws, us, rfl, h, q1, q2⟩ := h
  show r_Reader_end _ _ _ _ _ [some (.ref r)] M
  have hm := h.m
  unfold rdO at hm
  have hl := h.le
  unfold r_Reader_end
  walk_at "ys"
  · rename_i hc
    rw [List.length_map] at hc
    exact i_stop hC n1 n2 h (q2 (fun z => by rw [z] at hc; simp at hc)) (L := []) (Fr.refl _ _) (fun _ z => nomatch z)
  · rename_i hc
    rw [List.length_map] at hc
    refine less_of (q1 ?_) rfl
    cases us with
    | nil => rfl
    | cons w us => simp at hc hl; omega
def spInit (C : Addr) : DSp := fun ds M Q _ => ∃ r dx ws, ds = [.ref r, .lst (ws.map D.str)] ∧ M r = some (.ins C dx []) ∧ Q .non (put M r (rdO C dx ws ws))
theorem rd_init (ds : List D) (M : Mm) (Q : QD) (E : DX) (h : spInit C ds M Q E) : r_Reader___init__ K { nx := fun _ M' => less Q .non M', rt := less Q } (startD 2 ds) M := by
  obtain ⟨r, dx, ws, rfl, h, q⟩ := h
  show r_Reader___init__ _ _ [some (.ref r), some (.lst (ws.map D.str))] M
  unfold r_Reader___init__
  walk_at "ys"
  refine ⟨r, C, dx, _, rfl, put_same, hC, n2, by simp [putFD], ?_⟩
  walk_at "ys"
  rw [put_put]
  have e : MO.ins C dx (putFD "at" (.int 0) (putFD "_words" (.lst (ws.map D.str)) [])) = rdO C dx ws ws := by
    unfold rdO
    rw [Nat.sub_self]
    rfl
  rw [e]
  exact less_of q rfl
end
end K04


set_option Elab.async false
set_option linter.all false
set_option maxRecDepth 100000
set_option maxHeartbeats 4000000
set_option pp.deepTerms true
set_option pp.maxSteps 3000
/-! the readings of law k04: terms, cells, parts -/
namespace K04
open PySem PySem.Spec PyProof.Rows L2 Y YD
local macro_rules | `(tactic| walk_at "y_ne") => `(tactic| first | assumption | exact Ne.symm (by assumption) | ((refine ne_none (M := ?yM) (m := ?ymo) ?ym1 ?ym2); (case ym2 => assumption); (case ym1 => walk_at "y_look")) | ((refine Ne.symm (ne_none (M := ?yM) (m := ?ymo) ?ym1 ?ym2)); (case ym2 => assumption); (case ym1 => walk_at "y_look")) | ((refine ne_none (M := ?yM) (m := ?ymo) ?ym1 (put_none (M := ?yM) (a := ?yma) (m := ?ymo2) ?ym2).2); (case ym2 => assumption); (case ym1 => walk_at "y_look")) | ((refine Ne.symm (ne_none (M := ?yM) (m := ?ymo) ?ym1 (put_none (M := ?yM) (a := ?yma) (m := ?ymo2) ?ym2).2)); (case ym2 => assumption); (case ym1 => walk_at "y_look")))
local macro_rules | `(tactic| walk_at "y_look") => `(tactic| first | assumption | exact put_same | ((with_reducible refine Eq.trans (put_ne ?yn) ?_); (case yn => walk_at "y_ne"); (walk_at "y_look")) | ((with_reducible refine Eq.trans (drop_ne ?yn) ?_); (case yn => walk_at "y_ne"); (walk_at "y_look")))
local macro_rules | `(tactic| walk_at "y_pl") => `(tactic| first | assumption | exact PlL.nil | exact Pl.int _ | exact Pl.non | exact Pl.bl _ | exact Pl.str (by decide +kernel) | ((with_reducible refine PlL.cons ?yp1 ?yp2); (case yp1 => walk_at "y_pl"); (case yp2 => walk_at "y_pl")) | ((with_reducible refine PlL.append ?yp1 ?yp2); (case yp1 => walk_at "y_pl"); (case yp2 => walk_at "y_pl")) | ((with_reducible refine Pl.tup ?yp1); (case yp1 => walk_at "y_pl")) | ((with_reducible refine PlL.mono (j := ?yj) ?yp1 ?yp2); (case yp1 => assumption); (case yp2 => first | decide | omega)) | ((with_reducible refine Pl.mono (j := ?yj) ?yp1 ?yp2); (case yp1 => assumption); (case yp2 => first | decide | omega)))
local macro_rules | `(tactic| walk_at "y_len") => `(tactic| ((try simp only [List.length_append, List.length_cons, List.length_nil, List.length_map, sizeLine_eq] at *); omega))
local macro_rules | `(tactic| walk_at "y_rfl") => `(tactic| first | rfl | (simp only [atI_nn]; rfl))
local macro_rules | `(tactic| walk_at "y_at") => `(tactic| first | exact atI_nn _ 0 | rfl)
local macro_rules | `(tactic| walk_at "y_cond") => `(tactic| first
  | (show (0 : Int) < _; first | decide | assumption | omega)
  | (exact ⟨by first | decide | assumption | omega, by first | decide | assumption | omega⟩)
  | (exact Or.inl ⟨by first | decide | assumption | omega, by first | decide | assumption | omega⟩)
  | (exact Or.inr ⟨by first | decide | assumption | omega, by first | decide | assumption | omega⟩)
  | (exact ⟨by decide, by decide, by decide⟩))
local macro_rules | `(tactic| walk_at "y1") => `(tactic| first
  | (with_reducible first | refine i_seq ?_ | refine i_next ?_ | refine i_asg ?_ | refine i_ret ?_ | refine i_retN ?_ | refine i_drop ?_ | refine i_cont ?_ | refine i_break ?_ | refine i_ifs ?_ | refine i_if ?_ | refine i_and ?_ | refine i_or ?_ | refine i_not ?_ | refine i_test ?_ | refine i_tru ?_ | refine i_andV ?_ | refine i_orV ?_ | refine i_notV ?_ | refine i_bl ?_ | refine i_op ?_ | refine i_chain ?_ | refine i_c ?_ | refine i_cd ?_ | refine i_nil ?_ | refine i_cons ?_ | refine i_call ?_ | refine i_cb ?_ | refine i_tup ?_ | refine i_lst ?_ | refine i_lstM ?_ | refine i_dict ?_ | refine i_frz ?_ | refine i_name ?_ | refine i_gcons ?_ | refine i_gnil ?_ | refine i_gsub ?_ | refine i_par ?_ | refine i_par2 ?_ | refine i_un ?_ | refine i_int ?_ | refine i_slice ?_ | refine i_onone ?_ | refine i_osome ?_ | refine i_bm ?_ | refine i_bm0 ?_ | refine i_get1 ?_ | refine i_get2 ?_ | refine i_del ?_ | refine i_for ?_ | refine i_lc ?_ | refine i_dc ?_ | refine i_yes ?_ | refine i_it ?_ | refine i_rng1 ?_ | refine i_fld ?_ | refine i_sfld ?_ | refine i_meth ?_ | refine i_make ?_ | refine v_I0 ?_ | refine v_plusI ?_ | refine v_eqI ?_ | refine v_eqS ?_ | refine v_isN ?_ | refine v_int ?_ | refine v_abs ?_ | refine v_sliceT ?_ | refine v_sliceL ?_ | refine b_fx ?_ | refine b_tx ?_)
  | ((with_reducible refine i_var (d := ?yd) ?ye0 ?_); (case ye0 => rfl))
  | ((with_reducible refine i_gtup ?ye0 ?_); (case ye0 => rfl))
  | (with_reducible refine iteT ?_)
  | (with_reducible refine iteF ?_)
  | (with_reducible refine b_dec ?_ ?_ <;> intro hc)
  | (with_reducible refine b_ndec ?_ ?_ <;> intro hc)
  | ((with_reducible refine v_subT (d := ?yd) ?ye0 ?_); (case ye0 => rfl))
  | ((with_reducible refine v_subL (d := ?yd) ?ye0 ?_); (case ye0 => rfl))
  | ((with_reducible refine v_subM (ds := ?yds) (d := ?yd) ?ye0 ?ye1 ?_); (case ye0 => (walk_at "y_look")); (case ye1 => rfl))
  | ((with_reducible refine v_setL (ds := ?yds) (j := ?yj) ?ye0 ?ye1 ?_); (case ye0 => (walk_at "y_look")); (case ye1 => rfl))
  | ((with_reducible refine v_I ?ye0 ?_); (case ye0 => (walk_at "y_cond")))
  | ((with_reducible refine i_sz ?ye0 ?_); (case ye0 => (first | exact Nat.le_of_ble_eq_true rfl | (simp only [List.length_append, List.length_cons, List.length_nil, List.length_map, sizeLine_eq] at *; omega))))
  | (with_reducible refine i_new fun yp yhp => ?_)
  | ((with_reducible refine v_app (ds := ?yds) ?ye0 ?ye1 ?_); (case ye0 => (walk_at "y_look")); (case ye1 => (first | (simp only [List.length_append, List.length_cons, List.length_nil, List.length_map, sizeLine_eq] at *; omega))))
  | ((with_reducible refine i_tyL (ds := ?yds) ?ye0 ?_); (case ye0 => (walk_at "y_look")))
  | (with_reducible refine i_tyl ?_)
  | ((with_reducible refine v_subK (kvs := ?ykv) (k := ?yk) (d := ?yd) ?ye0 ?ye1 ?ye2 ?_); (case ye0 => (walk_at "y_look")); (case ye1 => rfl); (case ye2 => first | assumption | rfl))
  | ((with_reducible refine v_plusL (ds := ?yds) (es := ?yes) ?ye0 ?ye1 ?ye2 ?_); (case ye0 => first | rfl | (with_reducible refine lsD_ref (ds := ?yds2) ?yl0; walk_at "y_look")); (case ye1 => first | rfl | (with_reducible refine lsD_ref (ds := ?yds2) ?yl0; walk_at "y_look")); (case ye2 => (simp only [List.length_append, List.length_cons, List.length_nil, List.length_map, sizeLine_eq] at *; omega)))
  | ((with_reducible refine v_plusT ?ye0 ?_); (case ye0 => (simp only [List.length_append, List.length_cons, List.length_nil, List.length_map, sizeLine_eq] at *; omega)))
  | ((with_reducible refine i_rng1d ?ye0 ?_); (case ye0 => (constructor <;> omega)))
  | ((with_reducible refine v_len (n := ?yn) ?ye0 ?_); (case ye0 => first | ((with_reducible refine lenD_ref (ds := ?yds) ?yl0); (case yl0 => walk_at "y_look")) | rfl))
  | ((with_reducible refine v_list (es := ?yes) ?ye0 ?_); (case ye0 => first | (with_reducible refine itD_ref (ds := ?yds) ?yl0; walk_at "y_look") | rfl))
  | ((with_reducible refine v_tuple (es := ?yes) ?ye0 ?_); (case ye0 => first | (with_reducible refine itD_ref (ds := ?yds) ?yl0; walk_at "y_look") | rfl))
  | ((with_reducible refine v_eqP ?ye0 ?ye1 fun yb => ?_); (case ye0 => walk_at "y_pl"); (case ye1 => walk_at "y_pl"))
  | (with_reducible refine b_emp ?_ ?_ <;> intro hc)
  | (with_reducible refine i_trul ?_)
  | (with_reducible refine i_trut ?_)
  | (with_reducible refine i_trub ?_)
  | ((with_reducible refine v_inT ?ye0 ?_); (case ye0 => exact ⟨rfl, rfl⟩))
  | (with_reducible refine b_var ?_ ?_ <;> intro hc)
  | ((with_reducible refine i_its (ds := ?yds) ?ye0 ?_); (case ye0 => rfl)))
local macro_rules | `(tactic| walk_at "y0") => `(tactic| repeat' (walk_at "y1"))
local macro_rules | `(tactic| walk_at "ys") => `(tactic| walk_at "y0")
local macro_rules | `(tactic| walk_at "y_nn") => `(tactic| first | assumption | exact (put_none (by assumption)).2 | exact (put_none (put_none (by assumption)).2).2 | exact (put_none (put_none (put_none (by assumption)).2).2).2)
local macro_rules | `(tactic| walk_at "y_kl1") => `(tactic| first | (with_reducible exact KL.merge) | ((with_reducible refine KL.put (n := ?ykn) ?ykk); (case ykk => walk_at "y_kl1")))
local macro_rules | `(tactic| walk_at "y_kl") => `(tactic| ((refine KL.lt (n := ?yn) ?yk1 ?yk2); (case yk1 => walk_at "y_kl1"); (case yk2 => first | decide | (simp; done))))
local macro_rules | `(tactic| walk_at "y_fr") => `(tactic| first | exact Fr.refl _ _ | assumption | ((refine Fr.put ?yf1 ?yf2); (case yf2 => simp); (case yf1 => walk_at "y_fr")) | ((refine Fr.drop ?yf1 ?yf2); (case yf2 => simp); (case yf1 => walk_at "y_fr")))
local macro_rules | `(tactic| walk_at "y_fin") => `(tactic| first | assumption | rfl | walk_at "y_look" | walk_at "y_pl" | walk_at "y_fr" | omega | walk_at "y_len" | (intros; omega))
local macro_rules | `(tactic| walk_at "y_take") => `(tactic| ((with_reducible refine i_take (t := ?yt) ?yl ?yo ?yb fun yr yt' yr0 yr1 yok => ?_); (case yl => walk_at "y_look"); (case yo => assumption); (case yb => (constructor <;> first | omega | (simp; omega)))))
local macro_rules | `(tactic| walk_at "y_pick") => `(tactic| first | ((with_reducible refine i_pick2 (k := 0) (t := ?yt) ?yl ?yo ?yb ?yP fun yd yt' yP ym yok => ?_); (case yl => walk_at "y_look"); (case yo => assumption); (case yb => (constructor <;> walk_at "y_len")); (case yP => walk_at "y_pl")) | ((with_reducible refine i_pick2 (k := 5) (t := ?yt) ?yl ?yo ?yb ?yP fun yd yt' yP ym yok => ?_); (case yl => walk_at "y_look"); (case yo => assumption); (case yb => (constructor <;> walk_at "y_len")); (case yP => walk_at "y_pl")))
local macro_rules | `(tactic| walk_at "y2") => `(tactic| first | walk_at "y1" | walk_at "y_take" | walk_at "y_pick" | (with_reducible refine i_disp fun yp yhp => ?_) | (with_reducible refine i_pcons ?_) | (with_reducible refine i_pnil ?_) | (with_reducible refine i_mut ?_) | ((with_reducible refine v_inT' ?ye0 ?ye1 fun yb => ?_); (case ye0 => walk_at "y_pl"); (case ye1 => walk_at "y_pl")) | ((with_reducible refine v_setK (kvs := ?ykv) (k := ?yk) ?ye0 ?ye1 ?ye2 ?_); (case ye0 => walk_at "y_look"); (case ye1 => rfl); (case ye2 => walk_at "y_kl")) | ((with_reducible refine i_mutd (ds := ?yds) ?ye0 ?_); (case ye0 => walk_at "y_look")) | ((with_reducible refine i_glst' ?ye0 ?_); (case ye0 => rfl)))
local macro_rules | `(tactic| walk_at "ys") => `(tactic| repeat' (walk_at "y2"))
local macro_rules | `(tactic| walk_at "y1") => `(tactic| (with_reducible first | refine i_callX ?_ | refine i_methX ?_ | refine i_raise ?_ | refine i_tryAs ?_ | refine i_tryOnly ?_ | refine i_xf ?_ | refine i_isE ?_ | refine i_zip ?_ | refine i_enum ?_ | refine i_rev ?_))
local macro_rules | `(tactic| walk_at "y1") => `(tactic| ((with_reducible refine v_subLk (kvs := ?ykv) (k := ?yk) (d := ?yd) (od := ?yod) (xs := ?yxs) ?ye0 ?ye1 ?ye2 ?_); (case ye0 => (walk_at "y_look")); (case ye1 => rfl); (case ye2 => first | assumption | rfl)))
local macro_rules | `(tactic| walk_at "y1") => `(tactic| first
  | (with_reducible first | refine v_isT ?_ | refine v_isF ?_ | refine iteNT ?_ | refine iteNF ?_)
  | ((with_reducible refine v_isNF ?ye0 ?_); (case ye0 => rfl))
  | ((with_reducible refine v_isNT ?ye0 ?_); (case ye0 => rfl)))
abbrev Ps := Except (List Str) (D × List Str)
def bindE {α β ε : Type} (x : Except ε α) (f : α → Except ε β) : Except ε β := match x with | .ok a => f a | .error e => .error e
def needW (w : Str) (us : List Str) : Except (List Str) (List Str) := if us.headD "" = w then .ok us.tail else .error us
def hdDig (w : Str) : Bool := match w.cps.toList with | c :: _ => isDig c | [] => false
def rTerm (us : List Str) : Ps :=
  if us.headD "" = "nil" then .ok (.int 0, us.tail)
  else if us.headD "" = "-" then (match rNum us.tail with | some (n, u) => .ok (.int (-n), u) | none => .error us.tail)
  else if hdDig (us.headD "") = true then (match rNum us with | some (n, u) => .ok (.int n, u) | none => .error us)
  else if isNm (us.headD "") = true then .ok (.str (us.headD ""), us.tail) else .error us
def rCell (at_ : D) (us : List Str) : Ps :=
  bindE (needW "(" us) fun u1 => bindE (rTerm u1) fun p => bindE (needW "," p.2) fun u3 => bindE (rTerm u3) fun q => bindE (needW ")" q.2) fun u5 =>
    if u5.headD "" = "by" then (match rNum u5.tail with | some (n, u6) => if 1 ≤ n ∧ n ≤ 12 then .ok (.tup [.str "cell", .int n, at_, p.1, q.1], u6) else .error u5.tail | none => .error u5.tail)
    else .ok (.tup [.str "cell", .int 12, at_, p.1, q.1], u5)
def rPart (us : List Str) : Ps :=
  if us.headD "" = "emp" then .ok (.non, us.tail)
  else if us.headD "" = "list" then bindE (needW "(" us.tail) fun u1 => bindE (rTerm u1) fun p => bindE (needW "," p.2) fun u3 => bindE (rTerm u3) fun q => bindE (needW ")" q.2) fun u5 => .ok (.tup [.str "list", p.1, q.1], u5)
  else if us.headD "" = "tree" then bindE (needW "(" us.tail) fun u1 => bindE (rTerm u1) fun p => bindE (needW ")" p.2) fun u3 => .ok (.tup [.str "tree", p.1], u3)
  else bindE (rTerm us) fun p =>
    if p.2.headD "" = "==" then bindE (rTerm p.2.tail) fun q => .ok (.tup [.str "eq", p.1, q.1], q.2)
    else if p.2.headD "" = "!=" then bindE (rTerm p.2.tail) fun q => .ok (.tup [.str "ne", p.1, q.1], q.2)
    else bindE (needW "->" p.2) fun u => rCell p.1 u
theorem num_suf {us u : List Str} {n : Int} (h : rNum us = some (n, u)) : u <:+ us := by
  cases us with
  | nil => cases h
  | cons w us =>
    have h : (if w ≠ "" ∧ w.cps.toList.all isDig = true ∧ w.length ≤ 30 then some ((PySem.intText? w).getD 0, us) else none) = some (n, u) := h
    split at h
    · simp only [Option.some.injEq, Prod.mk.injEq] at h
      rw [← h.2]
      exact List.suffix_cons _ _
    · cases h
theorem tail_suf (us : List Str) : us.tail <:+ us := List.tail_suffix us
theorem term_suf {us u : List Str} {d : D} (h : rTerm us = .ok (d, u)) : u <:+ us := by
  unfold rTerm at h
  split at h
  · cases h; exact tail_suf us
  · split at h
    · split at h
      · rename_i n u' e
        cases h; exact (num_suf e).trans (tail_suf us)
      · cases h
    · split at h
      · split at h
        · rename_i n u' e
          cases h; exact num_suf e
        · cases h
      · split at h
        · cases h; exact tail_suf us
        · cases h
/-- how a def that reads is told -/
def spRd (C CT : Addr) (f : List Str → Ps) : DSp := fun ds M Q E => ∃ r dx ws us, ds = [.ref r] ∧ Rd M r C dx ws us ∧ (∀ d u, f us = .ok (d, u) → Q d (put M r (rdO C dx ws u))) ∧ ∀ u, f us = .error u → E (.ref CT) (frm ws u) (Y.drop M r)
section
variable {C CT r dx : Addr} {ws us : List Str} {M M1 : Mm} {EX : DX} {L : List Addr}
/-- need(w) on the way -/
theorem s_need {w : Str} {Q : QD} {f : List Str → Ps} (h : Rd M1 r C dx ws us) (hw : w ≠ "") (k : ∀ u, bindE (needW w us) f = .error u → EX (.ref CT) (frm ws u) (Y.drop M r)) (hf : Fr M M1 (r :: L)) (hL : ∀ p ∈ L, M p = none)
    (go : ∀ u, u <:+ us → bindE (needW w us) f = f u → Q .non (put M1 r (rdO C dx ws u))) : spNeed C CT [.ref r, .str w] M1 Q (lessX EX) := by
  refine ⟨r, dx, ws, us, w, rfl, h, hw, fun us' e => ?_, fun ne => errL (k us ?_) hf hL⟩
  · subst e
    exact go us' (List.suffix_cons _ _) (by rw [show needW w (w :: us') = .ok us' from if_pos rfl]; rfl)
  · unfold needW
    rw [if_neg ne]
    rfl
/-- a def that reads, on the way -/
theorem s_rd {g : List Str → Ps} {Q : QD} {f : D × List Str → Ps} (hs : ∀ d u, g us = .ok (d, u) → u <:+ us) (h : Rd M1 r C dx ws us) (k : ∀ u, bindE (g us) f = .error u → EX (.ref CT) (frm ws u) (Y.drop M r)) (hf : Fr M M1 (r :: L)) (hL : ∀ p ∈ L, M p = none)
    (go : ∀ d u, u <:+ us → bindE (g us) f = f (d, u) → Q d (put M1 r (rdO C dx ws u))) : spRd C CT g [.ref r] M1 Q (lessX EX) := by
  refine ⟨r, dx, ws, us, rfl, h, fun d u e => go d u (hs d u e) (by rw [e]; rfl), fun u e => errL (k u (by rw [e]; rfl)) hf hL⟩
end
theorem num_cons {us u : List Str} {n : Int} (h : rNum us = some (n, u)) : ∃ w, us = w :: u := by
  cases us with
  | nil => cases h
  | cons w us =>
    have h : (if w ≠ "" ∧ w.cps.toList.all isDig = true ∧ w.length ≤ 30 then some ((PySem.intText? w).getD 0, us) else none) = some (n, u) := h
    split at h
    · simp only [Option.some.injEq, Prod.mk.injEq] at h
      exact ⟨w, by rw [h.2]⟩
    · cases h
theorem put_back {C dx : Addr} {ws us : List Str} {w : Str} (hl : (w :: us).length ≤ ws.length) : MO.ins C dx (putFD "at" (.int (((ws.length - us.length : Nat) : Int) - 1)) [("_words", .lst (ws.map D.str)), ("at", .int ((ws.length - us.length : Nat) : Int))]) = rdO C dx ws (w :: us) := by
  have e : (((ws.length - us.length : Nat) : Int) - 1) = ((ws.length - (w :: us).length : Nat) : Int) := by simp at hl ⊢; omega
  rw [e]
  rfl
section
variable {K : PySem.W.Frag} {C : Addr} (hC : Cls K C) (n1 : NoAttr K C "_words") (n2 : NoAttr K C "at")
local macro_rules | `(tactic| walk_at "y1") => `(tactic| first
  | (with_reducible refine v_inS ?_)
  | (with_reducible refine v_inSN ?_)
  | (with_reducible refine i_tyS ?_)
  | ((with_reducible refine v_lenS ?ye0 ?_); (case ye0 => (rw [sizeLine_eq]; omega)))
  | (with_reducible refine i_itS ?_)
  | ((with_reducible refine i_aug (x := ?yx) ?ye0 ?_); (case ye0 => rfl))
  | (with_reducible refine i_faug ?_)
  | ((with_reducible refine i_fend (dx := ?ydx) (fs := ?yfs) ?ye0 ?ye1 ?_); (case ye0 => walk_at "y_look"); (case ye1 => (first | decide | (simp; done))))
  | ((with_reducible refine i_fldd (C := ?yC) (dx := ?ydx) (fs := ?yfs) (d := ?yd) ?ye0 ?ye1 ?ye2 ?ye3 ?_); (case ye0 => walk_at "y_look"); (case ye1 => assumption); (case ye2 => assumption); (case ye3 => rfl))
  | ((with_reducible refine i_fldg (C := ?yC) (dx := ?ydx) (fs := ?yfs) (d := ?yd) ?ye0 ?ye1 ?ye2 ?ye3 ?_); (case ye0 => walk_at "y_look"); (case ye1 => assumption); (case ye2 => assumption); (case ye3 => rfl))
  | ((with_reducible refine i_methd (dx := ?ydx) (fs := ?yfs) ?ye0 ?ye3 ?_); (case ye0 => walk_at "y_look"); (case ye3 => rfl)))
include hC n1 n2
theorem rd_read_term (CT : Addr) (ds : List D) (M : Mm) (Q : QD) (E : DX) (h : spRd C CT rTerm ds M Q E) : r_read_term (fun _ => lessX E) C (spSkip C) (spNum C CT) (spPeek C) spName (spStop C CT) (spTakeW C CT) { nx := fun _ M' => less Q .non M', rt := less Q } (startD 2 ds) M := by
  obtain ⟨r, dx, ws, us, rfl, h, q1, q2⟩ := h
  show r_read_term _ _ _ _ _ _ _ _ _ [some (.ref r), none] M
  have hm := h.m
  unfold rdO at hm
  have hwl : (us.headD "").length ≤ 1000000 := by
    cases us with
    | nil => decide +kernel
    | cons w us => exact h.wok.2
  unfold r_read_term g_DIGITS
  walk_at "ys"
  refine ⟨r, dx, ws, us, "nil", rfl, h, by decide +kernel, fun u e => ?_, fun ne => ?_⟩
  · subst e
    walk_at "ys"
    exact less_of (q1 _ _ (if_pos rfl)) rfl
  · walk_at "ys"
    refine ⟨r, dx, ws, us, "-", rfl, h, by decide +kernel, fun u e => ?_, fun ne2 => ?_⟩
    · subst e
      have et : rTerm (("-" : Str) :: u) = (match rNum u with | some (n, u) => .ok (.int (-n), u) | none => .error u) := by
        unfold rTerm
        rw [if_neg (show ¬ ((("-" : Str) :: u).headD "" = "nil") from by show ¬ (("-" : Str) = "nil"); decide +kernel)]
        exact if_pos rfl
      walk_at "ys"
      refine ⟨r, dx, ws, u, rfl, h.put (List.suffix_cons _ _), fun n u' e => ?_, fun e => ?_⟩
      · walk_at "ys"
        rw [put_put]
        exact less_of (q1 _ _ (by rw [et, e])) rfl
      · exact errL (L := []) (q2 _ (by rw [et, e])) (by walk_at "y_fr") (fun _ z => nomatch z)
    · walk_at "ys"
      refine ⟨r, dx, ws, us, rfl, h, ?_⟩
      have num : hdDig (us.headD "") = true → spNum C CT [.ref r] M (less Q) (lessX E) := fun hd => by
        have et : rTerm us = (match rNum us with | some (n, u) => .ok (.int n, u) | none => .error us) := by
          unfold rTerm
          rw [if_neg ne, if_neg ne2, if_pos hd]
        refine ⟨r, dx, ws, us, rfl, h, fun n u' e => ?_, fun e => ?_⟩
        · exact less_of (q1 _ _ (by rw [et, e])) rfl
        · exact errL (L := []) (q2 _ (by rw [et, e])) (Fr.refl _ _) (fun _ z => nomatch z)
      walk_at "ys"
      · rename_i hc
        cases us with
        | nil => exact absurd rfl hc
        | cons w us =>
          obtain ⟨c, cr, hcc⟩ := cps_ne h.wok.1
          refine v_subS (sizeS hwl) (c := c) (by show atI w.cps.toList 0 = _; rw [hcc]; exact atI_nn (c :: cr) 0) ?_
          have hh : hdDig w = inS DIG c := by unfold hdDig; rw [hcc]; rfl
          walk_at "ys"
          · rename_i hd
            exact num (hh.trans hd)
          · rename_i hd
            have hd : hdDig w = false := hh.trans hd
            refine ⟨_, rfl, .inl ⟨w, rfl, hwl, ?_⟩⟩
            have et : ∀ b, isNm w = b → rTerm (w :: us) = if b = true then .ok (.str w, us) else .error (w :: us) := fun b e => by
              unfold rTerm
              rw [if_neg ne, if_neg ne2, if_neg (show ¬ (hdDig ((w :: us).headD "") = true) from by show ¬ (hdDig w = true); rw [hd]; decide), ← e]
              rfl
            walk_at "ys"
            · rename_i e
              exact i_stop hC n1 n2 h (q2 _ (by rw [et false (by simpa using e)]; rfl)) (L := []) (Fr.refl _ _) (fun _ z => nomatch z)
            · rename_i e
              refine ⟨r, dx, ws, w :: us, rfl, h, fun w' u e2 => ?_, fun z => by cases z⟩
              cases e2
              exact less_of (q1 _ _ (by rw [et true (by simpa using e)]; rfl)) rfl
      · rename_i hc
        have hc : us.headD "" = "" := hc
        refine ⟨_, rfl, .inl ⟨us.headD "", rfl, hwl, ?_⟩⟩
        rw [hc]
        have e0 : isNm "" = false := by decide +kernel
        rw [e0]
        walk_at "ys"
        refine i_stop hC n1 n2 h (q2 _ ?_) (L := []) (Fr.refl _ _) (fun _ z => nomatch z)
        unfold rTerm
        rw [if_neg ne, if_neg ne2, hc, if_neg (by decide +kernel), if_neg (by rw [e0]; decide)]
def spCellR (C CT : Addr) : DSp := fun ds M Q E => ∃ r dx ws us at_, ds = [.ref r, at_] ∧ Rd M r C dx ws us ∧ (∀ d u, rCell at_ us = .ok (d, u) → Q d (put M r (rdO C dx ws u))) ∧ ∀ u, rCell at_ us = .error u → E (.ref CT) (frm ws u) (Y.drop M r)
theorem rd_read_cell (CT : Addr) (ds : List D) (M : Mm) (Q : QD) (E : DX) (h : spCellR C CT ds M Q E) : r_read_cell K (fun _ => lessX E) C (spNeed C CT) (spRd C CT rTerm) (spSkip C) (spNum C CT) (spStop C CT) { nx := fun _ M' => less Q .non M', rt := less Q } (startD 5 ds) M := by
  obtain ⟨r, dx, ws, us, at_, rfl, h, q1, q2⟩ := h
  show r_read_cell _ _ _ _ _ _ _ _ _ [some (.ref r), some at_, none, none, none] M
  have hm := h.m
  unfold rdO at hm
  unfold rCell at q1 q2
  have noL : ∀ p ∈ ([] : List Addr), M p = none := fun _ z => nomatch z
  unfold r_read_cell g_WHOLE
  walk_at "ys"
  refine s_need h (by decide +kernel) q2 (Fr.refl _ _) noL fun u1 s1 e1 => ?_
  rw [e1] at q1 q2
  walk_at "ys"
  refine s_rd (fun _ _ => term_suf) (h.put s1) q2 (by walk_at "y_fr") noL fun d2 u2 s2 e2 => ?_
  rw [e2] at q1 q2
  rw [put_put]
  walk_at "ys"
  refine s_need (h.put (s2.trans s1)) (by decide +kernel) q2 (by walk_at "y_fr") noL fun u3 s3 e3 => ?_
  rw [e3] at q1 q2
  rw [put_put]
  walk_at "ys"
  refine s_rd (fun _ _ => term_suf) (h.put (s3.trans (s2.trans s1))) q2 (by walk_at "y_fr") noL fun d4 u4 s4 e4 => ?_
  rw [e4] at q1 q2
  rw [put_put]
  walk_at "ys"
  have s4' := s4.trans (s3.trans (s2.trans s1))
  refine s_need (h.put s4') (by decide +kernel) q2 (by walk_at "y_fr") noL fun u5 s5 e5 => ?_
  rw [e5] at q1 q2
  rw [put_put]
  walk_at "ys"
  have s5' := s5.trans s4'
  refine ⟨r, dx, ws, u5, "by", rfl, h.put s5', by decide +kernel, fun u6 e => ?_, fun ne => ?_⟩
  · subst e
    rw [if_pos (show (("by" : Str) :: u6).headD "" = "by" from rfl)] at q1
    simp only [if_pos (show (("by" : Str) :: u6).headD "" = "by" from rfl)] at q2
    walk_at "ys"
    rw [put_put]
    have s6 := (List.suffix_cons ("by" : Str) u6).trans s5'
    refine ⟨r, dx, ws, u6, rfl, h.put s6, fun n u7 e => ?_, fun e => ?_⟩
    · rw [show (("by" : Str) :: u6).tail = u6 from rfl, e] at q1
      simp only [show (("by" : Str) :: u6).tail = u6 from rfl, e] at q2
      obtain ⟨w, rfl⟩ := num_cons e
      have hl : (w :: u7).length ≤ ws.length := (s6.trans h.s).length_le
      rw [put_put]
      have stop : ¬ (1 ≤ n ∧ n ≤ 12) → ∀ M1, M1 = put M r (rdO C dx ws (w :: u7)) → spStop C CT [.ref r] M1 (fun _ _ => True) (lessX E) := fun hn M1 eM => by
        subst eM
        simp only [if_neg hn] at q2
        exact i_stop hC n1 n2 (h.put s6) (q2 _ rfl) (L := []) (by walk_at "y_fr") noL
      have sub : ∀ {M1 : Mm} {Q' : QD} {E' : DX}, spStop C CT [.ref r] M1 (fun _ _ => True) E' → spStop C CT [.ref r] M1 Q' E' := fun z => z
      have hM1 : put M r (rdO C dx ws u7) r = some (.ins C dx [("_words", .lst (ws.map D.str)), ("at", .int ((ws.length - u7.length : Nat) : Int))]) := put_same
      walk_at "ys"
      · rename_i h1 h2
        rw [put_put, put_back hl]
        exact sub (stop (fun z => h2 z.2) _ rfl)
      · rename_i h1 h2
        simp only [if_pos (show 1 ≤ n ∧ n ≤ 12 from ⟨h1, h2⟩)] at q1
        exact less_of (q1 _ _ rfl) rfl
      · rename_i h1
        rw [put_put, put_back hl]
        exact sub (stop (fun z => h1 z.1) _ rfl)
    · exact errL (L := []) (q2 _ (by rw [show (("by" : Str) :: u6).tail = u6 from rfl, e])) (by walk_at "y_fr") noL
  · walk_at "ys"
    rw [if_neg ne] at q1
    exact less_of (q1 _ _ rfl) rfl
theorem cell_suf {at_ d : D} {us u : List Str} (h : rCell at_ us = .ok (d, u)) : u <:+ us := by
  have nd : ∀ {w : Str} {a b : List Str}, needW w a = .ok b → b <:+ a := fun {w a b} e => by
    unfold needW at e
    split at e
    · cases e; exact tail_suf a
    · cases e
  unfold rCell at h
  cases e1 : needW "(" us with
  | error z => rw [e1] at h; cases h
  | ok u1 =>
    rw [e1] at h
    cases e2 : rTerm u1 with
    | error z => simp only [bindE, e2] at h; cases h
    | ok p =>
      cases e3 : needW "," p.2 with
      | error z => simp only [bindE, e2, e3] at h; cases h
      | ok u3 =>
        cases e4 : rTerm u3 with
        | error z => simp only [bindE, e2, e3, e4] at h; cases h
        | ok q =>
          cases e5 : needW ")" q.2 with
          | error z => simp only [bindE, e2, e3, e4, e5] at h; cases h
          | ok u5 =>
            simp only [bindE, e2, e3, e4, e5] at h
            have s5 : u5 <:+ us := (nd e5).trans ((term_suf e4).trans ((nd e3).trans ((term_suf e2).trans (nd e1))))
            split at h
            · split at h
              · rename_i n u6 en
                split at h
                · cases h; exact (num_suf en).trans ((tail_suf u5).trans s5)
                · cases h
              · cases h
            · cases h; exact s5
theorem rd_read_part (CT : Addr) (ds : List D) (M : Mm) (Q : QD) (E : DX) (h : spRd C CT rPart ds M Q E) : r_read_part (fun _ => lessX E) C (spSkip C) (spNeed C CT) (spRd C CT rTerm) (spCellR C CT) { nx := fun _ M' => less Q .non M', rt := less Q } (startD 5 ds) M := by
  obtain ⟨r, dx, ws, us, rfl, h, q1, q2⟩ := h
  show r_read_part _ _ _ _ _ _ _ [some (.ref r), none, none, none, none] M
  have hm := h.m
  unfold rdO at hm
  unfold rPart at q1 q2
  have noL : ∀ p ∈ ([] : List Addr), M p = none := fun _ z => nomatch z
  unfold r_read_part
  walk_at "ys"
  refine ⟨r, dx, ws, us, "emp", rfl, h, by decide +kernel, fun u e => ?_, fun ne1 => ?_⟩
  · subst e
    walk_at "ys"
    exact less_of (q1 _ _ (if_pos rfl)) rfl
  simp only [if_neg ne1] at q1 q2
  walk_at "ys"
  refine ⟨r, dx, ws, us, "list", rfl, h, by decide +kernel, fun u0 e => ?_, fun ne2 => ?_⟩
  · have et : us.headD "" = "list" := by rw [e]; rfl
    have es : us.tail = u0 := by rw [e]; rfl
    simp only [if_pos et, es] at q1 q2
    have s0 : u0 <:+ us := es ▸ tail_suf us
    walk_at "ys"
    refine s_need (h.put s0) (by decide +kernel) q2 (by walk_at "y_fr") noL fun u1 s1 e1 => ?_
    rw [e1] at q1 q2
    rw [put_put]
    have s1' := s1.trans s0
    walk_at "ys"
    refine s_rd (fun _ _ => term_suf) (h.put s1') q2 (by walk_at "y_fr") noL fun d2 u2 s2 e2 => ?_
    rw [e2] at q1 q2
    rw [put_put]
    have s2' := s2.trans s1'
    walk_at "ys"
    refine s_need (h.put s2') (by decide +kernel) q2 (by walk_at "y_fr") noL fun u3 s3 e3 => ?_
    rw [e3] at q1 q2
    rw [put_put]
    have s3' := s3.trans s2'
    walk_at "ys"
    refine s_rd (fun _ _ => term_suf) (h.put s3') q2 (by walk_at "y_fr") noL fun d4 u4 s4 e4 => ?_
    rw [e4] at q1 q2
    rw [put_put]
    have s4' := s4.trans s3'
    walk_at "ys"
    refine s_need (h.put s4') (by decide +kernel) q2 (by walk_at "y_fr") noL fun u5 s5 e5 => ?_
    rw [e5] at q1 q2
    rw [put_put]
    walk_at "ys"
    exact less_of (q1 _ _ rfl) rfl
  simp only [if_neg ne2] at q1 q2
  walk_at "ys"
  refine ⟨r, dx, ws, us, "tree", rfl, h, by decide +kernel, fun u0 e => ?_, fun ne3 => ?_⟩
  · have et : us.headD "" = "tree" := by rw [e]; rfl
    have es : us.tail = u0 := by rw [e]; rfl
    simp only [if_pos et, es] at q1 q2
    have s0 : u0 <:+ us := es ▸ tail_suf us
    walk_at "ys"
    refine s_need (h.put s0) (by decide +kernel) q2 (by walk_at "y_fr") noL fun u1 s1 e1 => ?_
    rw [e1] at q1 q2
    rw [put_put]
    have s1' := s1.trans s0
    walk_at "ys"
    refine s_rd (fun _ _ => term_suf) (h.put s1') q2 (by walk_at "y_fr") noL fun d2 u2 s2 e2 => ?_
    rw [e2] at q1 q2
    rw [put_put]
    have s2' := s2.trans s1'
    walk_at "ys"
    refine s_need (h.put s2') (by decide +kernel) q2 (by walk_at "y_fr") noL fun u3 s3 e3 => ?_
    rw [e3] at q1 q2
    rw [put_put]
    walk_at "ys"
    exact less_of (q1 _ _ rfl) rfl
  simp only [if_neg ne3] at q1 q2
  walk_at "ys"
  refine s_rd (fun _ _ => term_suf) h q2 (Fr.refl _ _) noL fun d1 u1 s1 e1 => ?_
  rw [e1] at q1 q2
  walk_at "ys"
  refine ⟨r, dx, ws, u1, "==", rfl, h.put s1, by decide +kernel, fun u0 e => ?_, fun ne4 => ?_⟩
  · have et : u1.headD "" = "==" := by rw [e]; rfl
    have es : u1.tail = u0 := by rw [e]; rfl
    simp only [if_pos et, es] at q1 q2
    have s0 : u0 <:+ us := (es ▸ tail_suf u1 : u0 <:+ u1).trans s1
    rw [put_put]
    walk_at "ys"
    refine s_rd (fun _ _ => term_suf) (h.put s0) q2 (by walk_at "y_fr") noL fun d2 u2 s2 e2 => ?_
    rw [e2] at q1 q2
    rw [put_put]
    walk_at "ys"
    exact less_of (q1 _ _ rfl) rfl
  simp only [if_neg ne4] at q1 q2
  walk_at "ys"
  refine ⟨r, dx, ws, u1, "!=", rfl, h.put s1, by decide +kernel, fun u0 e => ?_, fun ne5 => ?_⟩
  · have et : u1.headD "" = "!=" := by rw [e]; rfl
    have es : u1.tail = u0 := by rw [e]; rfl
    simp only [if_pos et, es] at q1 q2
    have s0 : u0 <:+ us := (es ▸ tail_suf u1 : u0 <:+ u1).trans s1
    rw [put_put]
    walk_at "ys"
    refine s_rd (fun _ _ => term_suf) (h.put s0) q2 (by walk_at "y_fr") noL fun d2 u2 s2 e2 => ?_
    rw [e2] at q1 q2
    rw [put_put]
    walk_at "ys"
    exact less_of (q1 _ _ rfl) rfl
  simp only [if_neg ne5] at q1 q2
  walk_at "ys"
  refine s_need (h.put s1) (by decide +kernel) q2 (by walk_at "y_fr") noL fun u3 s3 e3 => ?_
  rw [e3] at q1 q2
  rw [put_put]
  walk_at "ys"
  refine ⟨r, dx, ws, u3, d1, rfl, h.put (s3.trans s1), fun d u e => ?_, fun u e => errL (L := []) (q2 u e) (by walk_at "y_fr") noL⟩
  rw [put_put]
  exact less_of (q1 d u e) rfl
end
end K04


set_option Elab.async false
set_option linter.all false
set_option maxRecDepth 100000
set_option maxHeartbeats 4000000
set_option pp.deepTerms true
set_option pp.maxSteps 3000
/-! the readings of law k04: names, shapes -/
namespace K04
open PySem PySem.Spec PyProof.Rows L2 Y YD
local macro_rules | `(tactic| walk_at "y_ne") => `(tactic| first | assumption | exact Ne.symm (by assumption) | ((refine ne_none (M := ?yM) (m := ?ymo) ?ym1 ?ym2); (case ym2 => assumption); (case ym1 => walk_at "y_look")) | ((refine Ne.symm (ne_none (M := ?yM) (m := ?ymo) ?ym1 ?ym2)); (case ym2 => assumption); (case ym1 => walk_at "y_look")) | ((refine ne_none (M := ?yM) (m := ?ymo) ?ym1 (put_none (M := ?yM) (a := ?yma) (m := ?ymo2) ?ym2).2); (case ym2 => assumption); (case ym1 => walk_at "y_look")) | ((refine Ne.symm (ne_none (M := ?yM) (m := ?ymo) ?ym1 (put_none (M := ?yM) (a := ?yma) (m := ?ymo2) ?ym2).2)); (case ym2 => assumption); (case ym1 => walk_at "y_look")))
local macro_rules | `(tactic| walk_at "y_look") => `(tactic| first | assumption | exact put_same | ((with_reducible refine Eq.trans (put_ne ?yn) ?_); (case yn => walk_at "y_ne"); (walk_at "y_look")) | ((with_reducible refine Eq.trans (drop_ne ?yn) ?_); (case yn => walk_at "y_ne"); (walk_at "y_look")))
local macro_rules | `(tactic| walk_at "y_pl") => `(tactic| first | assumption | exact PlL.nil | exact Pl.int _ | exact Pl.non | exact Pl.bl _ | exact Pl.str (by decide +kernel) | ((with_reducible refine PlL.cons ?yp1 ?yp2); (case yp1 => walk_at "y_pl"); (case yp2 => walk_at "y_pl")) | ((with_reducible refine PlL.append ?yp1 ?yp2); (case yp1 => walk_at "y_pl"); (case yp2 => walk_at "y_pl")) | ((with_reducible refine Pl.tup ?yp1); (case yp1 => walk_at "y_pl")) | ((with_reducible refine PlL.mono (j := ?yj) ?yp1 ?yp2); (case yp1 => assumption); (case yp2 => first | decide | omega)) | ((with_reducible refine Pl.mono (j := ?yj) ?yp1 ?yp2); (case yp1 => assumption); (case yp2 => first | decide | omega)))
local macro_rules | `(tactic| walk_at "y_len") => `(tactic| ((try simp only [List.length_append, List.length_cons, List.length_nil, List.length_map, sizeLine_eq] at *); omega))
local macro_rules | `(tactic| walk_at "y_rfl") => `(tactic| first | rfl | (simp only [atI_nn]; rfl))
local macro_rules | `(tactic| walk_at "y_at") => `(tactic| first | exact atI_nn _ 0 | rfl)
local macro_rules | `(tactic| walk_at "y_cond") => `(tactic| first
  | (show (0 : Int) < _; first | decide | assumption | omega)
  | (exact ⟨by first | decide | assumption | omega, by first | decide | assumption | omega⟩)
  | (exact Or.inl ⟨by first | decide | assumption | omega, by first | decide | assumption | omega⟩)
  | (exact Or.inr ⟨by first | decide | assumption | omega, by first | decide | assumption | omega⟩)
  | (exact ⟨by decide, by decide, by decide⟩))
local macro_rules | `(tactic| walk_at "y1") => `(tactic| first
  | (with_reducible first | refine i_seq ?_ | refine i_next ?_ | refine i_asg ?_ | refine i_ret ?_ | refine i_retN ?_ | refine i_drop ?_ | refine i_cont ?_ | refine i_break ?_ | refine i_ifs ?_ | refine i_if ?_ | refine i_and ?_ | refine i_or ?_ | refine i_not ?_ | refine i_test ?_ | refine i_tru ?_ | refine i_andV ?_ | refine i_orV ?_ | refine i_notV ?_ | refine i_bl ?_ | refine i_op ?_ | refine i_chain ?_ | refine i_c ?_ | refine i_cd ?_ | refine i_nil ?_ | refine i_cons ?_ | refine i_call ?_ | refine i_cb ?_ | refine i_tup ?_ | refine i_lst ?_ | refine i_lstM ?_ | refine i_dict ?_ | refine i_frz ?_ | refine i_name ?_ | refine i_gcons ?_ | refine i_gnil ?_ | refine i_gsub ?_ | refine i_par ?_ | refine i_par2 ?_ | refine i_un ?_ | refine i_int ?_ | refine i_slice ?_ | refine i_onone ?_ | refine i_osome ?_ | refine i_bm ?_ | refine i_bm0 ?_ | refine i_get1 ?_ | refine i_get2 ?_ | refine i_del ?_ | refine i_for ?_ | refine i_lc ?_ | refine i_dc ?_ | refine i_yes ?_ | refine i_it ?_ | refine i_rng1 ?_ | refine i_fld ?_ | refine i_sfld ?_ | refine i_meth ?_ | refine i_make ?_ | refine v_I0 ?_ | refine v_plusI ?_ | refine v_eqI ?_ | refine v_eqS ?_ | refine v_isN ?_ | refine v_int ?_ | refine v_abs ?_ | refine v_sliceT ?_ | refine v_sliceL ?_ | refine b_fx ?_ | refine b_tx ?_)
  | ((with_reducible refine i_var (d := ?yd) ?ye0 ?_); (case ye0 => rfl))
  | ((with_reducible refine i_gtup ?ye0 ?_); (case ye0 => rfl))
  | (with_reducible refine iteT ?_)
  | (with_reducible refine iteF ?_)
  | (with_reducible refine b_dec ?_ ?_ <;> intro hc)
  | (with_reducible refine b_ndec ?_ ?_ <;> intro hc)
  | ((with_reducible refine v_subT (d := ?yd) ?ye0 ?_); (case ye0 => rfl))
  | ((with_reducible refine v_subL (d := ?yd) ?ye0 ?_); (case ye0 => rfl))
  | ((with_reducible refine v_subM (ds := ?yds) (d := ?yd) ?ye0 ?ye1 ?_); (case ye0 => (walk_at "y_look")); (case ye1 => rfl))
  | ((with_reducible refine v_setL (ds := ?yds) (j := ?yj) ?ye0 ?ye1 ?_); (case ye0 => (walk_at "y_look")); (case ye1 => rfl))
  | ((with_reducible refine v_I ?ye0 ?_); (case ye0 => (walk_at "y_cond")))
  | ((with_reducible refine i_sz ?ye0 ?_); (case ye0 => (first | exact Nat.le_of_ble_eq_true rfl | (simp only [List.length_append, List.length_cons, List.length_nil, List.length_map, sizeLine_eq] at *; omega))))
  | (with_reducible refine i_new fun yp yhp => ?_)
  | ((with_reducible refine v_app (ds := ?yds) ?ye0 ?ye1 ?_); (case ye0 => (walk_at "y_look")); (case ye1 => (first | (simp only [List.length_append, List.length_cons, List.length_nil, List.length_map, sizeLine_eq] at *; omega))))
  | ((with_reducible refine i_tyL (ds := ?yds) ?ye0 ?_); (case ye0 => (walk_at "y_look")))
  | (with_reducible refine i_tyl ?_)
  | ((with_reducible refine v_subK (kvs := ?ykv) (k := ?yk) (d := ?yd) ?ye0 ?ye1 ?ye2 ?_); (case ye0 => (walk_at "y_look")); (case ye1 => rfl); (case ye2 => first | assumption | rfl))
  | ((with_reducible refine v_plusL (ds := ?yds) (es := ?yes) ?ye0 ?ye1 ?ye2 ?_); (case ye0 => first | rfl | (with_reducible refine lsD_ref (ds := ?yds2) ?yl0; walk_at "y_look")); (case ye1 => first | rfl | (with_reducible refine lsD_ref (ds := ?yds2) ?yl0; walk_at "y_look")); (case ye2 => (simp only [List.length_append, List.length_cons, List.length_nil, List.length_map, sizeLine_eq] at *; omega)))
  | ((with_reducible refine v_plusT ?ye0 ?_); (case ye0 => (simp only [List.length_append, List.length_cons, List.length_nil, List.length_map, sizeLine_eq] at *; omega)))
  | ((with_reducible refine i_rng1d ?ye0 ?_); (case ye0 => (constructor <;> omega)))
  | ((with_reducible refine v_len (n := ?yn) ?ye0 ?_); (case ye0 => first | ((with_reducible refine lenD_ref (ds := ?yds) ?yl0); (case yl0 => walk_at "y_look")) | rfl))
  | ((with_reducible refine v_list (es := ?yes) ?ye0 ?_); (case ye0 => first | (with_reducible refine itD_ref (ds := ?yds) ?yl0; walk_at "y_look") | rfl))
  | ((with_reducible refine v_tuple (es := ?yes) ?ye0 ?_); (case ye0 => first | (with_reducible refine itD_ref (ds := ?yds) ?yl0; walk_at "y_look") | rfl))
  | ((with_reducible refine v_eqP ?ye0 ?ye1 fun yb => ?_); (case ye0 => walk_at "y_pl"); (case ye1 => walk_at "y_pl"))
  | (with_reducible refine b_emp ?_ ?_ <;> intro hc)
  | (with_reducible refine i_trul ?_)
  | (with_reducible refine i_trut ?_)
  | (with_reducible refine i_trub ?_)
  | ((with_reducible refine v_inT ?ye0 ?_); (case ye0 => exact ⟨rfl, rfl⟩))
  | (with_reducible refine b_var ?_ ?_ <;> intro hc)
  | ((with_reducible refine i_its (ds := ?yds) ?ye0 ?_); (case ye0 => rfl)))
local macro_rules | `(tactic| walk_at "y0") => `(tactic| repeat' (walk_at "y1"))
local macro_rules | `(tactic| walk_at "ys") => `(tactic| walk_at "y0")
local macro_rules | `(tactic| walk_at "y_nn") => `(tactic| first | assumption | exact (put_none (by assumption)).2 | exact (put_none (put_none (by assumption)).2).2 | exact (put_none (put_none (put_none (by assumption)).2).2).2)
local macro_rules | `(tactic| walk_at "y_kl1") => `(tactic| first | (with_reducible exact KL.merge) | ((with_reducible refine KL.put (n := ?ykn) ?ykk); (case ykk => walk_at "y_kl1")))
local macro_rules | `(tactic| walk_at "y_kl") => `(tactic| ((refine KL.lt (n := ?yn) ?yk1 ?yk2); (case yk1 => walk_at "y_kl1"); (case yk2 => first | decide | (simp; done))))
local macro_rules | `(tactic| walk_at "y_fr") => `(tactic| first | exact Fr.refl _ _ | assumption | ((refine Fr.put ?yf1 ?yf2); (case yf2 => simp); (case yf1 => walk_at "y_fr")) | ((refine Fr.drop ?yf1 ?yf2); (case yf2 => simp); (case yf1 => walk_at "y_fr")))
local macro_rules | `(tactic| walk_at "y_fin") => `(tactic| first | assumption | rfl | walk_at "y_look" | walk_at "y_pl" | walk_at "y_fr" | omega | walk_at "y_len" | (intros; omega))
local macro_rules | `(tactic| walk_at "y_take") => `(tactic| ((with_reducible refine i_take (t := ?yt) ?yl ?yo ?yb fun yr yt' yr0 yr1 yok => ?_); (case yl => walk_at "y_look"); (case yo => assumption); (case yb => (constructor <;> first | omega | (simp; omega)))))
local macro_rules | `(tactic| walk_at "y_pick") => `(tactic| first | ((with_reducible refine i_pick2 (k := 0) (t := ?yt) ?yl ?yo ?yb ?yP fun yd yt' yP ym yok => ?_); (case yl => walk_at "y_look"); (case yo => assumption); (case yb => (constructor <;> walk_at "y_len")); (case yP => walk_at "y_pl")) | ((with_reducible refine i_pick2 (k := 5) (t := ?yt) ?yl ?yo ?yb ?yP fun yd yt' yP ym yok => ?_); (case yl => walk_at "y_look"); (case yo => assumption); (case yb => (constructor <;> walk_at "y_len")); (case yP => walk_at "y_pl")))
local macro_rules | `(tactic| walk_at "y2") => `(tactic| first | walk_at "y1" | walk_at "y_take" | walk_at "y_pick" | (with_reducible refine i_disp fun yp yhp => ?_) | (with_reducible refine i_pcons ?_) | (with_reducible refine i_pnil ?_) | (with_reducible refine i_mut ?_) | ((with_reducible refine v_inT' ?ye0 ?ye1 fun yb => ?_); (case ye0 => walk_at "y_pl"); (case ye1 => walk_at "y_pl")) | ((with_reducible refine v_setK (kvs := ?ykv) (k := ?yk) ?ye0 ?ye1 ?ye2 ?_); (case ye0 => walk_at "y_look"); (case ye1 => rfl); (case ye2 => walk_at "y_kl")) | ((with_reducible refine i_mutd (ds := ?yds) ?ye0 ?_); (case ye0 => walk_at "y_look")) | ((with_reducible refine i_glst' ?ye0 ?_); (case ye0 => rfl)))
local macro_rules | `(tactic| walk_at "ys") => `(tactic| repeat' (walk_at "y2"))
local macro_rules | `(tactic| walk_at "y1") => `(tactic| (with_reducible first | refine i_callX ?_ | refine i_methX ?_ | refine i_raise ?_ | refine i_tryAs ?_ | refine i_tryOnly ?_ | refine i_xf ?_ | refine i_isE ?_ | refine i_zip ?_ | refine i_enum ?_ | refine i_rev ?_))
local macro_rules | `(tactic| walk_at "y1") => `(tactic| ((with_reducible refine v_subLk (kvs := ?ykv) (k := ?yk) (d := ?yd) (od := ?yod) (xs := ?yxs) ?ye0 ?ye1 ?ye2 ?_); (case ye0 => (walk_at "y_look")); (case ye1 => rfl); (case ye2 => first | assumption | rfl)))
local macro_rules | `(tactic| walk_at "y1") => `(tactic| first
  | (with_reducible first | refine v_isT ?_ | refine v_isF ?_ | refine iteNT ?_ | refine iteNF ?_)
  | ((with_reducible refine v_isNF ?ye0 ?_); (case ye0 => rfl))
  | ((with_reducible refine v_isNT ?ye0 ?_); (case ye0 => rfl)))
theorem put2 {M : Mm} {a b : Addr} {m n k : MO} (h : a ≠ b) : put (put (put M a m) b n) a k = put (put M a k) b n := by
  rw [Y.put_comm (Ne.symm h), put_put]
def rNames : Nat → List Str → List Str → Except (List Str) (List Str × List Str)
  | 0, us, _ => .error us
  | n + 1, us, found => if isNm (us.headD "") = true then (if us.tail.headD "" = "," then rNames n us.tail.tail (found ++ [us.headD ""]) else .ok (found ++ [us.headD ""], us.tail)) else .error us
def spNames (C CT : Addr) : DSp := fun ds M Q E => ∃ r dx ws us, ds = [.ref r] ∧ Rd M r C dx ws us ∧ (∀ ns u, rNames (us.length + 1) us [] = .ok (ns, u) → u <:+ us → Q (.tup (ns.map D.str)) (put M r (rdO C dx ws u))) ∧ ∀ u, rNames (us.length + 1) us [] = .error u → E (.ref CT) (frm ws u) (Y.drop M r)
def nmBody (W : DW) (C CT : Addr) : DS := (dSeq (dIfS (dNot (dTru (dCall spName (dCons (dMeth C "peek" (spPeek C) (dVar 0) dNil) (dNil))))) (dDrop (dMethX W C "stop" (spStop C CT) (dVar 0) dNil)) (dNext)) (dSeq (dDrop (dBM "list" mAppend (dVar 1) (dCons (dMethX W C "take" (spTakeW C CT) (dVar 0) dNil) (dNil)))) (dIfS (dNot (dTru (dMeth C "skip" (spSkip C) (dVar 0) (dCons (dC (.str ",")) (dNil))))) (dRet (dCB cTuple (dCons (dVar 1) (dNil)))) (dNext))))
theorem nm_head {w : Str} (h : isNm w = true) : w ≠ "" := fun z => by rw [z] at h; exact absurd h (by decide +kernel)
section
variable {K : PySem.W.Frag} {C : Addr} (hC : Cls K C) (n1 : NoAttr K C "_words") (n2 : NoAttr K C "at")
local macro_rules | `(tactic| walk_at "y1") => `(tactic| first
  | (with_reducible refine v_inS ?_)
  | (with_reducible refine v_inSN ?_)
  | (with_reducible refine i_tyS ?_)
  | ((with_reducible refine v_lenS ?ye0 ?_); (case ye0 => (rw [sizeLine_eq]; omega)))
  | (with_reducible refine i_itS ?_)
  | ((with_reducible refine i_aug (x := ?yx) ?ye0 ?_); (case ye0 => rfl))
  | (with_reducible refine i_faug ?_)
  | ((with_reducible refine i_fend (dx := ?ydx) (fs := ?yfs) ?ye0 ?ye1 ?_); (case ye0 => walk_at "y_look"); (case ye1 => (first | decide | (simp; done))))
  | ((with_reducible refine i_fldd (C := ?yC) (dx := ?ydx) (fs := ?yfs) (d := ?yd) ?ye0 ?ye1 ?ye2 ?ye3 ?_); (case ye0 => walk_at "y_look"); (case ye1 => assumption); (case ye2 => assumption); (case ye3 => rfl))
  | ((with_reducible refine i_fldg (C := ?yC) (dx := ?ydx) (fs := ?yfs) (d := ?yd) ?ye0 ?ye1 ?ye2 ?ye3 ?_); (case ye0 => walk_at "y_look"); (case ye1 => assumption); (case ye2 => assumption); (case ye3 => rfl))
  | ((with_reducible refine i_methd (dx := ?ydx) (fs := ?yfs) ?ye0 ?ye3 ?_); (case ye0 => walk_at "y_look"); (case ye3 => rfl)))
include hC n1 n2
theorem nm_loop {CT r dx p : Addr} {ws us0 : List Str} {M : Mm} {EX : DX} {E : DEnds} (h0 : Rd M r C dx ws us0) (hp : M p = none) : ∀ (n : Nat) (us : List Str) (found : List Str), us.length < n → us <:+ us0 → found.length + us.length ≤ 2000000 →
    (∀ ns u, rNames n us found = .ok (ns, u) → u <:+ us0 → E.rt (.tup (ns.map D.str)) (put (put M r (rdO C dx ws u)) p (.lst (ns.map D.str)))) → (∀ u, rNames n us found = .error u → EX (.ref CT) (frm ws u) (Y.drop M r)) →
    whileD (dTru (dC (.bl true))) (nmBody (fun _ => lessX EX) C CT) E n [some (.ref r), some (.ref p)] (put (put M r (rdO C dx ws us)) p (.lst (found.map D.str))) := by
  have hrp : r ≠ p := ne_none h0.m hp
  intro n
  induction n with
  | zero => intro us found h; omega
  | succ n ih =>
    intro us found hn hs hz k1 k2
    refine ⟨fun δ' M' => whileD (dTru (dC (.bl true))) (nmBody (fun _ => lessX EX) C CT) E n δ' M', fun _ _ h => h, ?_⟩
    obtain ⟨N, hN⟩ : ∃ N : Y.Env → Mm → Prop, N = fun δ' M' => whileD (dTru (dC (.bl true))) (nmBody (fun _ => lessX EX) C CT) E n δ' M' := ⟨_, rfl⟩
    rw [← hN]
    have hR : Rd (put (put M r (rdO C dx ws us)) p (.lst (found.map D.str))) r C dx ws us := ⟨by rw [put_ne hrp]; exact put_same, hs.trans h0.s, h0.n, h0.ok⟩
    have hm := hR.m
    unfold rdO at hm
    have hfl : (found.map D.str).length ≤ 2000000 := by rw [List.length_map]; omega
    have hwl : (us.headD "").length ≤ 1000000 := by
      cases us with
      | nil => decide +kernel
      | cons w us => exact hR.wok.2
    walk_at "ys"
    unfold nmBody
    walk_at "ys"
    refine ⟨r, dx, ws, us, rfl, hR, ?_⟩
    walk_at "ys"
    refine ⟨_, rfl, .inl ⟨us.headD "", rfl, hwl, ?_⟩⟩
    walk_at "ys"
    · rename_i hc
      refine i_stop hC n1 n2 hR (k2 us ?_) (L := [p]) (by walk_at "y_fr") (by simp [hp])
      exact if_neg (by rw [show isNm (us.headD "") = false by simpa using hc]; decide)
    · rename_i hc
      have hc : isNm (us.headD "") = true := by simpa using hc
      cases us with
      | nil => exact absurd rfl (nm_head hc)
      | cons w us =>
        have er : rNames (n + 1) (w :: us) found = if us.headD "" = "," then rNames n us.tail (found ++ [w]) else .ok (found ++ [w], us) := if_pos hc
        have hsu : us <:+ us0 := (List.suffix_cons w us).trans hs
        refine ⟨r, dx, ws, w :: us, rfl, hR, fun w' u e => ?_, fun z => by cases z⟩
        cases e
        rw [put2 hrp]
        walk_at "ys"
        rw [put_put]
        have eL : found.map D.str ++ [D.str w] = (found ++ [w]).map D.str := by simp
        rw [eL]
        have hR2 : Rd (put (put M r (rdO C dx ws us)) p (.lst ((found ++ [w]).map D.str))) r C dx ws us := ⟨by rw [put_ne hrp]; exact put_same, hsu.trans h0.s, h0.n, h0.ok⟩
        refine ⟨r, dx, ws, us, ",", rfl, hR2, by decide +kernel, fun u e => ?_, fun ne => ?_⟩
        · subst e
          have er : rNames (n + 1) (w :: ("," : Str) :: u) found = rNames n u (found ++ [w]) := by rw [er]; exact if_pos rfl
          rw [er] at k1 k2
          walk_at "ys"
          rw [put2 hrp, hN]
          exact ih u (found ++ [w]) (by simp at hn; omega) ((List.suffix_cons _ _).trans hsu) (by simp at hz ⊢; omega) k1 k2
        · have er : rNames (n + 1) (w :: us) found = .ok (found ++ [w], us) := by rw [er]; exact if_neg ne
          walk_at "ys"
          exact k1 _ _ er hsu
theorem rd_names (CT : Addr) (ds : List D) (M : Mm) (Q : QD) (E : DX) (h : spNames C CT ds M Q E) : r_read_names (fun _ => lessX E) C (spPeek C) spName (spStop C CT) (spTakeW C CT) (spSkip C) { nx := fun _ M' => less Q .non M', rt := less Q } (startD 2 ds) M := by
  obtain ⟨r, dx, ws, us, rfl, h, q1, q2⟩ := h
  show r_read_names _ _ _ _ _ _ _ _ [some (.ref r), none] M
  unfold r_read_names
  walk_at "ys"
  rename_i p hp
  refine ⟨us.length + 1, ?_⟩
  have hrp : r ≠ p := ne_none h.m hp
  have e0 : M = put M r (rdO C dx ws us) := (put_id h.m).symm
  have hl := h.le
  have hn := h.n
  have key := nm_loop hC n1 n2 (CT := CT) (EX := E) (E := { nx := fun _ M' => less Q .non M', rt := less Q }) h hp (us.length + 1) us [] (by omega) (List.suffix_refl us) (by simp; omega) (fun ns u e hs => ?_) (fun u e => q2 u e)
  · rw [← e0] at key
    exact key
  · refine ⟨put M r (rdO C dx ws u), fun b n hb => ?_, q1 ns u e hs⟩
    by_cases z : b = p
    · subst z
      rw [put_ne (Ne.symm hrp), hp] at hb
      cases hb
    · rw [put_ne z]; exact hb
def isPure (d : D) : Bool := match d with
  | .tup (.v (.str s) :: _) => decide (s = "eq") || decide (s = "ne")
  | _ => false
def rLoop : Nat → List Str → List D → List D → Except (List Str) ((List D × List D) × List Str)
  | 0, us, _, _ => .error us
  | n + 1, us, pure, items => bindE (rPart us) fun p =>
      let pure' := if isPure p.1 = true then pure ++ [p.1] else pure
      let items' := if isPure p.1 = true then items else if nonD p.1 = true then items else items ++ [p.1]
      if p.2.headD "" = "*" then rLoop n p.2.tail pure' items' else .ok ((pure', items'), p.2)
end
end K04


set_option Elab.async false
set_option linter.all false
set_option maxRecDepth 100000
set_option maxHeartbeats 4000000
set_option pp.deepTerms true
set_option pp.maxSteps 3000
/-! the readings of law k04: shapes -/
namespace K04
open PySem PySem.Spec PyProof.Rows L2 Y YD
local macro_rules | `(tactic| walk_at "y_ne") => `(tactic| first | assumption | exact Ne.symm (by assumption) | ((refine ne_none (M := ?yM) (m := ?ymo) ?ym1 ?ym2); (case ym2 => assumption); (case ym1 => walk_at "y_look")) | ((refine Ne.symm (ne_none (M := ?yM) (m := ?ymo) ?ym1 ?ym2)); (case ym2 => assumption); (case ym1 => walk_at "y_look")) | ((refine ne_none (M := ?yM) (m := ?ymo) ?ym1 (put_none (M := ?yM) (a := ?yma) (m := ?ymo2) ?ym2).2); (case ym2 => assumption); (case ym1 => walk_at "y_look")) | ((refine Ne.symm (ne_none (M := ?yM) (m := ?ymo) ?ym1 (put_none (M := ?yM) (a := ?yma) (m := ?ymo2) ?ym2).2)); (case ym2 => assumption); (case ym1 => walk_at "y_look")))
local macro_rules | `(tactic| walk_at "y_look") => `(tactic| first | assumption | exact put_same | ((with_reducible refine Eq.trans (put_ne ?yn) ?_); (case yn => walk_at "y_ne"); (walk_at "y_look")) | ((with_reducible refine Eq.trans (drop_ne ?yn) ?_); (case yn => walk_at "y_ne"); (walk_at "y_look")))
local macro_rules | `(tactic| walk_at "y_pl") => `(tactic| first | assumption | exact PlL.nil | exact Pl.int _ | exact Pl.non | exact Pl.bl _ | exact Pl.str (by decide +kernel) | ((with_reducible refine PlL.cons ?yp1 ?yp2); (case yp1 => walk_at "y_pl"); (case yp2 => walk_at "y_pl")) | ((with_reducible refine PlL.append ?yp1 ?yp2); (case yp1 => walk_at "y_pl"); (case yp2 => walk_at "y_pl")) | ((with_reducible refine Pl.tup ?yp1); (case yp1 => walk_at "y_pl")) | ((with_reducible refine PlL.mono (j := ?yj) ?yp1 ?yp2); (case yp1 => assumption); (case yp2 => first | decide | omega)) | ((with_reducible refine Pl.mono (j := ?yj) ?yp1 ?yp2); (case yp1 => assumption); (case yp2 => first | decide | omega)))
local macro_rules | `(tactic| walk_at "y_len") => `(tactic| ((try simp only [List.length_append, List.length_cons, List.length_nil, List.length_map, sizeLine_eq] at *); omega))
local macro_rules | `(tactic| walk_at "y_rfl") => `(tactic| first | rfl | (simp only [atI_nn]; rfl))
local macro_rules | `(tactic| walk_at "y_at") => `(tactic| first | exact atI_nn _ 0 | rfl)
local macro_rules | `(tactic| walk_at "y_cond") => `(tactic| first
  | (show (0 : Int) < _; first | decide | assumption | omega)
  | (exact ⟨by first | decide | assumption | omega, by first | decide | assumption | omega⟩)
  | (exact Or.inl ⟨by first | decide | assumption | omega, by first | decide | assumption | omega⟩)
  | (exact Or.inr ⟨by first | decide | assumption | omega, by first | decide | assumption | omega⟩)
  | (exact ⟨by decide, by decide, by decide⟩))
local macro_rules | `(tactic| walk_at "y1") => `(tactic| first
  | (with_reducible first | refine i_seq ?_ | refine i_next ?_ | refine i_asg ?_ | refine i_ret ?_ | refine i_retN ?_ | refine i_drop ?_ | refine i_cont ?_ | refine i_break ?_ | refine i_ifs ?_ | refine i_if ?_ | refine i_and ?_ | refine i_or ?_ | refine i_not ?_ | refine i_test ?_ | refine i_tru ?_ | refine i_andV ?_ | refine i_orV ?_ | refine i_notV ?_ | refine i_bl ?_ | refine i_op ?_ | refine i_chain ?_ | refine i_c ?_ | refine i_cd ?_ | refine i_nil ?_ | refine i_cons ?_ | refine i_call ?_ | refine i_cb ?_ | refine i_tup ?_ | refine i_lst ?_ | refine i_lstM ?_ | refine i_dict ?_ | refine i_frz ?_ | refine i_name ?_ | refine i_gcons ?_ | refine i_gnil ?_ | refine i_gsub ?_ | refine i_par ?_ | refine i_par2 ?_ | refine i_un ?_ | refine i_int ?_ | refine i_slice ?_ | refine i_onone ?_ | refine i_osome ?_ | refine i_bm ?_ | refine i_bm0 ?_ | refine i_get1 ?_ | refine i_get2 ?_ | refine i_del ?_ | refine i_for ?_ | refine i_lc ?_ | refine i_dc ?_ | refine i_yes ?_ | refine i_it ?_ | refine i_rng1 ?_ | refine i_fld ?_ | refine i_sfld ?_ | refine i_meth ?_ | refine i_make ?_ | refine v_I0 ?_ | refine v_plusI ?_ | refine v_eqI ?_ | refine v_eqS ?_ | refine v_isN ?_ | refine v_int ?_ | refine v_abs ?_ | refine v_sliceT ?_ | refine v_sliceL ?_ | refine b_fx ?_ | refine b_tx ?_)
  | ((with_reducible refine i_var (d := ?yd) ?ye0 ?_); (case ye0 => rfl))
  | ((with_reducible refine i_gtup ?ye0 ?_); (case ye0 => rfl))
  | (with_reducible refine iteT ?_)
  | (with_reducible refine iteF ?_)
  | (with_reducible refine b_dec ?_ ?_ <;> intro hc)
  | (with_reducible refine b_ndec ?_ ?_ <;> intro hc)
  | ((with_reducible refine v_subT (d := ?yd) ?ye0 ?_); (case ye0 => rfl))
  | ((with_reducible refine v_subL (d := ?yd) ?ye0 ?_); (case ye0 => rfl))
  | ((with_reducible refine v_subM (ds := ?yds) (d := ?yd) ?ye0 ?ye1 ?_); (case ye0 => (walk_at "y_look")); (case ye1 => rfl))
  | ((with_reducible refine v_setL (ds := ?yds) (j := ?yj) ?ye0 ?ye1 ?_); (case ye0 => (walk_at "y_look")); (case ye1 => rfl))
  | ((with_reducible refine v_I ?ye0 ?_); (case ye0 => (walk_at "y_cond")))
  | ((with_reducible refine i_sz ?ye0 ?_); (case ye0 => (first | exact Nat.le_of_ble_eq_true rfl | (simp only [List.length_append, List.length_cons, List.length_nil, List.length_map, sizeLine_eq] at *; omega))))
  | (with_reducible refine i_new fun yp yhp => ?_)
  | ((with_reducible refine v_app (ds := ?yds) ?ye0 ?ye1 ?_); (case ye0 => (walk_at "y_look")); (case ye1 => (first | (simp only [List.length_append, List.length_cons, List.length_nil, List.length_map, sizeLine_eq] at *; omega))))
  | ((with_reducible refine i_tyL (ds := ?yds) ?ye0 ?_); (case ye0 => (walk_at "y_look")))
  | (with_reducible refine i_tyl ?_)
  | ((with_reducible refine v_subK (kvs := ?ykv) (k := ?yk) (d := ?yd) ?ye0 ?ye1 ?ye2 ?_); (case ye0 => (walk_at "y_look")); (case ye1 => rfl); (case ye2 => first | assumption | rfl))
  | ((with_reducible refine v_plusL (ds := ?yds) (es := ?yes) ?ye0 ?ye1 ?ye2 ?_); (case ye0 => first | rfl | (with_reducible refine lsD_ref (ds := ?yds2) ?yl0; walk_at "y_look")); (case ye1 => first | rfl | (with_reducible refine lsD_ref (ds := ?yds2) ?yl0; walk_at "y_look")); (case ye2 => (simp only [List.length_append, List.length_cons, List.length_nil, List.length_map, sizeLine_eq] at *; omega)))
  | ((with_reducible refine v_plusT ?ye0 ?_); (case ye0 => (simp only [List.length_append, List.length_cons, List.length_nil, List.length_map, sizeLine_eq] at *; omega)))
  | ((with_reducible refine i_rng1d ?ye0 ?_); (case ye0 => (constructor <;> omega)))
  | ((with_reducible refine v_len (n := ?yn) ?ye0 ?_); (case ye0 => first | ((with_reducible refine lenD_ref (ds := ?yds) ?yl0); (case yl0 => walk_at "y_look")) | rfl))
  | ((with_reducible refine v_list (es := ?yes) ?ye0 ?_); (case ye0 => first | (with_reducible refine itD_ref (ds := ?yds) ?yl0; walk_at "y_look") | rfl))
  | ((with_reducible refine v_tuple (es := ?yes) ?ye0 ?_); (case ye0 => first | (with_reducible refine itD_ref (ds := ?yds) ?yl0; walk_at "y_look") | rfl))
  | ((with_reducible refine v_eqP ?ye0 ?ye1 fun yb => ?_); (case ye0 => walk_at "y_pl"); (case ye1 => walk_at "y_pl"))
  | (with_reducible refine b_emp ?_ ?_ <;> intro hc)
  | (with_reducible refine i_trul ?_)
  | (with_reducible refine i_trut ?_)
  | (with_reducible refine i_trub ?_)
  | ((with_reducible refine v_inT ?ye0 ?_); (case ye0 => exact ⟨rfl, rfl⟩))
  | (with_reducible refine b_var ?_ ?_ <;> intro hc)
  | ((with_reducible refine i_its (ds := ?yds) ?ye0 ?_); (case ye0 => rfl)))
local macro_rules | `(tactic| walk_at "y0") => `(tactic| repeat' (walk_at "y1"))
local macro_rules | `(tactic| walk_at "ys") => `(tactic| walk_at "y0")
local macro_rules | `(tactic| walk_at "y_nn") => `(tactic| first | assumption | exact (put_none (by assumption)).2 | exact (put_none (put_none (by assumption)).2).2 | exact (put_none (put_none (put_none (by assumption)).2).2).2)
local macro_rules | `(tactic| walk_at "y_kl1") => `(tactic| first | (with_reducible exact KL.merge) | ((with_reducible refine KL.put (n := ?ykn) ?ykk); (case ykk => walk_at "y_kl1")))
local macro_rules | `(tactic| walk_at "y_kl") => `(tactic| ((refine KL.lt (n := ?yn) ?yk1 ?yk2); (case yk1 => walk_at "y_kl1"); (case yk2 => first | decide | (simp; done))))
local macro_rules | `(tactic| walk_at "y_fr") => `(tactic| first | exact Fr.refl _ _ | assumption | ((refine Fr.put ?yf1 ?yf2); (case yf2 => simp); (case yf1 => walk_at "y_fr")) | ((refine Fr.drop ?yf1 ?yf2); (case yf2 => simp); (case yf1 => walk_at "y_fr")))
local macro_rules | `(tactic| walk_at "y_fin") => `(tactic| first | assumption | rfl | walk_at "y_look" | walk_at "y_pl" | walk_at "y_fr" | omega | walk_at "y_len" | (intros; omega))
local macro_rules | `(tactic| walk_at "y_take") => `(tactic| ((with_reducible refine i_take (t := ?yt) ?yl ?yo ?yb fun yr yt' yr0 yr1 yok => ?_); (case yl => walk_at "y_look"); (case yo => assumption); (case yb => (constructor <;> first | omega | (simp; omega)))))
local macro_rules | `(tactic| walk_at "y_pick") => `(tactic| first | ((with_reducible refine i_pick2 (k := 0) (t := ?yt) ?yl ?yo ?yb ?yP fun yd yt' yP ym yok => ?_); (case yl => walk_at "y_look"); (case yo => assumption); (case yb => (constructor <;> walk_at "y_len")); (case yP => walk_at "y_pl")) | ((with_reducible refine i_pick2 (k := 5) (t := ?yt) ?yl ?yo ?yb ?yP fun yd yt' yP ym yok => ?_); (case yl => walk_at "y_look"); (case yo => assumption); (case yb => (constructor <;> walk_at "y_len")); (case yP => walk_at "y_pl")))
local macro_rules | `(tactic| walk_at "y2") => `(tactic| first | walk_at "y1" | walk_at "y_take" | walk_at "y_pick" | (with_reducible refine i_disp fun yp yhp => ?_) | (with_reducible refine i_pcons ?_) | (with_reducible refine i_pnil ?_) | (with_reducible refine i_mut ?_) | ((with_reducible refine v_inT' ?ye0 ?ye1 fun yb => ?_); (case ye0 => walk_at "y_pl"); (case ye1 => walk_at "y_pl")) | ((with_reducible refine v_setK (kvs := ?ykv) (k := ?yk) ?ye0 ?ye1 ?ye2 ?_); (case ye0 => walk_at "y_look"); (case ye1 => rfl); (case ye2 => walk_at "y_kl")) | ((with_reducible refine i_mutd (ds := ?yds) ?ye0 ?_); (case ye0 => walk_at "y_look")) | ((with_reducible refine i_glst' ?ye0 ?_); (case ye0 => rfl)))
local macro_rules | `(tactic| walk_at "ys") => `(tactic| repeat' (walk_at "y2"))
local macro_rules | `(tactic| walk_at "y1") => `(tactic| (with_reducible first | refine i_callX ?_ | refine i_methX ?_ | refine i_raise ?_ | refine i_tryAs ?_ | refine i_tryOnly ?_ | refine i_xf ?_ | refine i_isE ?_ | refine i_zip ?_ | refine i_enum ?_ | refine i_rev ?_))
local macro_rules | `(tactic| walk_at "y1") => `(tactic| ((with_reducible refine v_subLk (kvs := ?ykv) (k := ?yk) (d := ?yd) (od := ?yod) (xs := ?yxs) ?ye0 ?ye1 ?ye2 ?_); (case ye0 => (walk_at "y_look")); (case ye1 => rfl); (case ye2 => first | assumption | rfl)))
local macro_rules | `(tactic| walk_at "y1") => `(tactic| first
  | (with_reducible first | refine v_isT ?_ | refine v_isF ?_ | refine iteNT ?_ | refine iteNF ?_)
  | ((with_reducible refine v_isNF ?ye0 ?_); (case ye0 => rfl))
  | ((with_reducible refine v_isNT ?ye0 ?_); (case ye0 => rfl)))
theorem bind_ok {α β ε : Type} {x : Except ε α} {f : α → Except ε β} {y : β} (h : bindE x f = .ok y) : ∃ a, x = .ok a ∧ f a = .ok y := by
  cases x with
  | ok a => exact ⟨a, rfl, h⟩
  | error e => cases h
theorem need_suf {w : Str} {a b : List Str} (e : needW w a = .ok b) : b <:+ a := by
  unfold needW at e
  split at e
  · cases e; exact tail_suf a
  · cases e
theorem cell_shape {at_ d : D} {us u : List Str} (h : rCell at_ us = .ok (d, u)) : ∃ r, d = .tup (.str "cell" :: r) := by
  unfold rCell at h
  obtain ⟨u1, e1, h⟩ := bind_ok h
  obtain ⟨p, e2, h⟩ := bind_ok h
  obtain ⟨u3, e3, h⟩ := bind_ok h
  obtain ⟨q, e4, h⟩ := bind_ok h
  obtain ⟨u5, e5, h⟩ := bind_ok h
  split at h
  · split at h
    · split at h
      · cases h; exact ⟨_, rfl⟩
      · cases h
    · cases h
  · cases h; exact ⟨_, rfl⟩
theorem cell_suf' {at_ d : D} {us u : List Str} (h : rCell at_ us = .ok (d, u)) : u <:+ us := by
  unfold rCell at h
  obtain ⟨u1, e1, h⟩ := bind_ok h
  obtain ⟨p, e2, h⟩ := bind_ok h
  obtain ⟨u3, e3, h⟩ := bind_ok h
  obtain ⟨q, e4, h⟩ := bind_ok h
  obtain ⟨u5, e5, h⟩ := bind_ok h
  have s5 : u5 <:+ us := (need_suf e5).trans ((term_suf (d := q.1) e4).trans ((need_suf e3).trans ((term_suf (d := p.1) e2).trans (need_suf e1))))
  split at h
  · split at h
    · rename_i n u6 en
      split at h
      · cases h; exact (num_suf en).trans ((tail_suf u5).trans s5)
      · cases h
    · cases h
  · cases h; exact s5
/-- what a part may be -/
theorem part_shape {us u : List Str} {d : D} (h : rPart us = .ok (d, u)) : u <:+ us ∧ (d = .non ∨ ∃ s r, d = .tup (.str s :: r) ∧ s ∈ ([("eq" : Str), "ne", "list", "tree", "cell"] : List Str)) := by
  unfold rPart at h
  split at h
  · cases h; exact ⟨tail_suf us, .inl rfl⟩
  · split at h
    · obtain ⟨u1, e1, h⟩ := bind_ok h
      obtain ⟨p, e2, h⟩ := bind_ok h
      obtain ⟨u3, e3, h⟩ := bind_ok h
      obtain ⟨q, e4, h⟩ := bind_ok h
      obtain ⟨u5, e5, h⟩ := bind_ok h
      cases h
      exact ⟨(need_suf e5).trans ((term_suf (d := q.1) e4).trans ((need_suf e3).trans ((term_suf (d := p.1) e2).trans ((need_suf e1).trans (tail_suf us))))), .inr ⟨_, _, rfl, by decide +kernel⟩⟩
    · split at h
      · obtain ⟨u1, e1, h⟩ := bind_ok h
        obtain ⟨p, e2, h⟩ := bind_ok h
        obtain ⟨u3, e3, h⟩ := bind_ok h
        cases h
        exact ⟨(need_suf e3).trans ((term_suf (d := p.1) e2).trans ((need_suf e1).trans (tail_suf us))), .inr ⟨_, _, rfl, by decide +kernel⟩⟩
      · obtain ⟨p, e1, h⟩ := bind_ok h
        have s1 := term_suf (d := p.1) e1
        split at h
        · obtain ⟨q, e2, h⟩ := bind_ok h
          cases h
          exact ⟨(term_suf (d := q.1) e2).trans ((tail_suf _).trans s1), .inr ⟨_, _, rfl, by decide +kernel⟩⟩
        · split at h
          · obtain ⟨q, e2, h⟩ := bind_ok h
            cases h
            exact ⟨(term_suf (d := q.1) e2).trans ((tail_suf _).trans s1), .inr ⟨_, _, rfl, by decide +kernel⟩⟩
          · obtain ⟨u1, e2, h⟩ := bind_ok h
            obtain ⟨r, rfl⟩ := cell_shape h
            exact ⟨(cell_suf' h).trans ((need_suf e2).trans s1), .inr ⟨_, _, rfl, by decide +kernel⟩⟩
def shTail (C : Addr) : DS := (dIfS (dNot (dTru (dMeth C "skip" (spSkip C) (dVar 0) (dCons (dC (.str "*")) (dNil))))) (dRet (dTup (dCons (dVar 1) (dCons (dCB cTuple (dCons (dVar 2) (dNil))) (dCons (dCB cTuple (dCons (dVar 3) (dNil))) (dNil)))))) (dNext))
def shBody (W : DW) (C CT : Addr) : DS := (dSeq (dAsg (dCallX W (spRd C CT rPart) (dCons (dVar 0) (dNil))) (dgName 4)) (dSeq (dIfS (dAnd (dTest (dOp (isN true) (dVar 4) (dC .non))) (dTest (dOp (inD false) (dOp subD (dVar 4) (dC (.int 0))) (dTup (dCons (dC (.str "eq")) (dCons (dC (.str "ne")) (dNil))))))) (dDrop (dBM "list" mAppend (dVar 2) (dCons (dVar 4) (dNil)))) (dIfS (dTest (dOp (isN true) (dVar 4) (dC .non))) (dDrop (dBM "list" mAppend (dVar 3) (dCons (dVar 4) (dNil)))) (dNext))) (shTail C)))
def mSh (M : Mm) (r pP pI C dx : Addr) (ws us : List Str) (pu it : List D) : Mm := put (put (put M r (rdO C dx ws us)) pP (.lst pu)) pI (.lst it)
theorem memD_eqne (s : Str) : memD (.str s) [.str "eq", .str "ne"] = (decide (s = "eq") || decide (s = "ne")) := by
  simp only [memD, eqV, List.any_cons, List.any_nil, Bool.or_false]
  have e : ∀ a : Str, (a == s) = decide (s = a) := fun a => by rw [Bool.eq_iff_iff, beq_iff_eq, decide_eq_true_iff]; exact eq_comm
  rw [e, e]
section
variable {K : PySem.W.Frag} {C : Addr} (hC : Cls K C) (n1 : NoAttr K C "_words") (n2 : NoAttr K C "at")
local macro_rules | `(tactic| walk_at "y1") => `(tactic| first
  | (with_reducible refine v_inS ?_)
  | (with_reducible refine v_inSN ?_)
  | (with_reducible refine i_tyS ?_)
  | ((with_reducible refine v_lenS ?ye0 ?_); (case ye0 => (rw [sizeLine_eq]; omega)))
  | (with_reducible refine i_itS ?_)
  | ((with_reducible refine i_aug (x := ?yx) ?ye0 ?_); (case ye0 => rfl))
  | (with_reducible refine i_faug ?_)
  | ((with_reducible refine i_fend (dx := ?ydx) (fs := ?yfs) ?ye0 ?ye1 ?_); (case ye0 => walk_at "y_look"); (case ye1 => (first | decide | (simp; done))))
  | ((with_reducible refine i_fldd (C := ?yC) (dx := ?ydx) (fs := ?yfs) (d := ?yd) ?ye0 ?ye1 ?ye2 ?ye3 ?_); (case ye0 => walk_at "y_look"); (case ye1 => assumption); (case ye2 => assumption); (case ye3 => rfl))
  | ((with_reducible refine i_fldg (C := ?yC) (dx := ?ydx) (fs := ?yfs) (d := ?yd) ?ye0 ?ye1 ?ye2 ?ye3 ?_); (case ye0 => walk_at "y_look"); (case ye1 => assumption); (case ye2 => assumption); (case ye3 => rfl))
  | ((with_reducible refine i_methd (dx := ?ydx) (fs := ?yfs) ?ye0 ?ye3 ?_); (case ye0 => walk_at "y_look"); (case ye3 => rfl)))
include hC n1 n2
theorem sh_loop {CT r dx pP pI : Addr} {ws us0 : List Str} {M : Mm} {EX : DX} {E : DEnds} {unk : D} (h0 : Rd M r C dx ws us0) (hP : M pP = none) (hI : M pI = none) (hne : pP ≠ pI) : ∀ (n : Nat) (us : List Str) (pu it : List D) (x4 : Option D), us.length < n → us <:+ us0 → pu.length + us.length ≤ 2000000 → it.length + us.length ≤ 2000000 →
    (∀ p i u, rLoop n us pu it = .ok ((p, i), u) → u <:+ us0 → E.rt (.tup [unk, .tup p, .tup i]) (mSh M r pP pI C dx ws u p i)) → (∀ u, rLoop n us pu it = .error u → EX (.ref CT) (frm ws u) (Y.drop M r)) →
    whileD (dTru (dC (.bl true))) (shBody (fun _ => lessX EX) C CT) E n [some (.ref r), some unk, some (.ref pP), some (.ref pI), x4] (mSh M r pP pI C dx ws us pu it) := by
  have hrP : r ≠ pP := ne_none h0.m hP
  have hrI : r ≠ pI := ne_none h0.m hI
  intro n
  induction n with
  | zero => intro us pu it x4 h; omega
  | succ n ih =>
    intro us pu it x4 hn hs hz1 hz2 k1 k2
    refine ⟨fun δ' M' => whileD (dTru (dC (.bl true))) (shBody (fun _ => lessX EX) C CT) E n δ' M', fun _ _ h => h, ?_⟩
    obtain ⟨N, hN⟩ : ∃ N : Y.Env → Mm → Prop, N = fun δ' M' => whileD (dTru (dC (.bl true))) (shBody (fun _ => lessX EX) C CT) E n δ' M' := ⟨_, rfl⟩
    rw [← hN]
    have mR : ∀ u p i, u <:+ us0 → Rd (mSh M r pP pI C dx ws u p i) r C dx ws u := fun u p i hs => ⟨by unfold mSh; rw [put_ne hrI, put_ne hrP]; exact put_same, hs.trans h0.s, h0.n, h0.ok⟩
    have mr : ∀ u v p i, put (mSh M r pP pI C dx ws u p i) r (rdO C dx ws v) = mSh M r pP pI C dx ws v p i := fun u v p i => by
      unfold mSh
      rw [Y.put_comm hrI.symm, put2 hrP]
    have mp : ∀ u p i q, put (mSh M r pP pI C dx ws u p i) pP (.lst q) = mSh M r pP pI C dx ws u q i := fun u p i q => by
      unfold mSh
      rw [put2 hne]
    have mi : ∀ u p i q, put (mSh M r pP pI C dx ws u p i) pI (.lst q) = mSh M r pP pI C dx ws u p q := fun u p i q => by
      unfold mSh
      rw [put_put]
    have lp : ∀ u p i, mSh M r pP pI C dx ws u p i pP = some (.lst p) := fun u p i => by unfold mSh; rw [put_ne hne]; exact put_same
    have li : ∀ u p i, mSh M r pP pI C dx ws u p i pI = some (.lst i) := fun u p i => by unfold mSh; exact put_same
    have fr : ∀ u p i, Fr M (mSh M r pP pI C dx ws u p i) (r :: [pP, pI]) := fun u p i => by unfold mSh; walk_at "y_fr"
    have hL : ∀ p ∈ [pP, pI], M p = none := by simp [hP, hI]
    have el : rLoop (n + 1) us pu it = bindE (rPart us) fun p => (if p.2.headD "" = "*" then rLoop n p.2.tail (if isPure p.1 = true then pu ++ [p.1] else pu) (if isPure p.1 = true then it else if nonD p.1 = true then it else it ++ [p.1]) else .ok ((if isPure p.1 = true then pu ++ [p.1] else pu, if isPure p.1 = true then it else if nonD p.1 = true then it else it ++ [p.1]), p.2)) := rfl
    rw [el] at k1 k2
    walk_at "ys"
    unfold shBody
    walk_at "ys"
    refine ⟨r, dx, ws, us, rfl, mR us pu it hs, fun d u e => ?_, fun u e => errL (k2 u (by rw [e]; rfl)) (fr us pu it) hL⟩
    obtain ⟨s1, hd⟩ := part_shape e
    rw [e] at k1 k2
    have s1' := s1.trans hs
    rw [mr]
    -- behind the part
    have tail : ∀ p i, (if isPure d = true then pu ++ [d] else pu) = p → (if isPure d = true then it else if nonD d = true then it else it ++ [d]) = i → p.length ≤ pu.length + 1 → i.length ≤ it.length + 1 →
        shTail C { nx := N, rt := E.rt, bk := E.nx, ct := N } [some (.ref r), some unk, some (.ref pP), some (.ref pI), some d] (mSh M r pP pI C dx ws u p i) := fun p i ep ei lp1 li1 => by
      have k1' : ∀ p' i' u', (if u.headD "" = "*" then rLoop n u.tail p i else .ok ((p, i), u)) = .ok ((p', i'), u') → u' <:+ us0 → E.rt (.tup [unk, .tup p', .tup i']) (mSh M r pP pI C dx ws u' p' i') := by subst ep ei; exact k1
      have k2' : ∀ u', (if u.headD "" = "*" then rLoop n u.tail p i else .ok ((p, i), u)) = .error u' → EX (.ref CT) (frm ws u') (Y.drop M r) := by subst ep ei; exact k2
      have hm := (mR u p i s1').m
      unfold rdO at hm
      unfold shTail
      walk_at "ys"
      refine ⟨r, dx, ws, u, "*", rfl, mR u p i s1', by decide +kernel, fun u' e2 => ?_, fun ne => ?_⟩
      · subst e2
        rw [mr]
        walk_at "ys"
        rw [hN]
        rw [if_pos (show (("*" : Str) :: u').headD "" = "*" from rfl)] at k1' k2'
        have hl2 := s1.length_le
        exact ih u' p i _ (by simp at hl2; omega) ((List.suffix_cons _ _).trans s1') (by simp at hl2; omega) (by simp at hl2; omega) k1' k2'
      · have hp1 := lp u p i
        have hi1 := li u p i
        walk_at "ys"
        rw [if_neg ne] at k1'
        exact k1' _ _ _ rfl s1'
    have hlp : pu.length ≤ 2000000 := by omega
    have hli : it.length ≤ 2000000 := by omega
    have hp1 := lp u pu it
    have hi1 := li u pu it
    rcases hd with rfl | ⟨s, rr, rfl, hmem⟩
    · walk_at "ys"
      exact tail pu it rfl rfl (by omega) (by omega)
    · have ePu : isPure (.tup (.str s :: rr)) = (decide (s = "eq") || decide (s = "ne")) := rfl
      have hps : Pl 0 (.str s) := by
        simp only [List.mem_cons, List.not_mem_nil, or_false] at hmem
        rcases hmem with rfl | rfl | rfl | rfl | rfl <;> exact Pl.str (by decide +kernel)
      walk_at "ys"
      refine ⟨0, .str s, rfl, atI_nn (D.str s :: rr) 0, ?_⟩
      walk_at "ys"
      · rename_i hc
        have hc : isPure (.tup (.str s :: rr)) = true := by rw [ePu, ← memD_eqne]; exact (Bool.false_xor _).symm.trans hc
        have hp2 := lp u pu it
        walk_at "ys"
        rw [mp]
        exact tail (pu ++ [.tup (.str s :: rr)]) it (if_pos hc) (if_pos hc) (by simp) (by omega)
      · rename_i hc
        have hc : ¬ isPure (.tup (.str s :: rr)) = true := by rw [ePu, ← memD_eqne, show memD (.str s) [.str "eq", .str "ne"] = false from (Bool.false_xor _).symm.trans hc]; decide
        have hi2 := li u pu it
        walk_at "ys"
        rw [mi]
        exact tail pu (it ++ [.tup (.str s :: rr)]) (if_neg hc) ((if_neg hc).trans (if_neg (fun z : nonD (.tup (.str s :: rr)) = true => by cases z))) (by omega) (by simp)
end
end K04


set_option Elab.async false
set_option linter.all false
set_option maxRecDepth 100000
set_option maxHeartbeats 4000000
set_option pp.deepTerms true
set_option pp.maxSteps 3000
/-! the readings of law k04: shapes, texts -/
namespace K04
open PySem PySem.Spec PyProof.Rows L2 Y YD
local macro_rules | `(tactic| walk_at "y_ne") => `(tactic| first | assumption | exact Ne.symm (by assumption) | ((refine ne_none (M := ?yM) (m := ?ymo) ?ym1 ?ym2); (case ym2 => assumption); (case ym1 => walk_at "y_look")) | ((refine Ne.symm (ne_none (M := ?yM) (m := ?ymo) ?ym1 ?ym2)); (case ym2 => assumption); (case ym1 => walk_at "y_look")) | ((refine ne_none (M := ?yM) (m := ?ymo) ?ym1 (put_none (M := ?yM) (a := ?yma) (m := ?ymo2) ?ym2).2); (case ym2 => assumption); (case ym1 => walk_at "y_look")) | ((refine Ne.symm (ne_none (M := ?yM) (m := ?ymo) ?ym1 (put_none (M := ?yM) (a := ?yma) (m := ?ymo2) ?ym2).2)); (case ym2 => assumption); (case ym1 => walk_at "y_look")))
local macro_rules | `(tactic| walk_at "y_look") => `(tactic| first | assumption | exact put_same | ((with_reducible refine Eq.trans (put_ne ?yn) ?_); (case yn => walk_at "y_ne"); (walk_at "y_look")) | ((with_reducible refine Eq.trans (drop_ne ?yn) ?_); (case yn => walk_at "y_ne"); (walk_at "y_look")))
local macro_rules | `(tactic| walk_at "y_pl") => `(tactic| first | assumption | exact PlL.nil | exact Pl.int _ | exact Pl.non | exact Pl.bl _ | exact Pl.str (by decide +kernel) | ((with_reducible refine PlL.cons ?yp1 ?yp2); (case yp1 => walk_at "y_pl"); (case yp2 => walk_at "y_pl")) | ((with_reducible refine PlL.append ?yp1 ?yp2); (case yp1 => walk_at "y_pl"); (case yp2 => walk_at "y_pl")) | ((with_reducible refine Pl.tup ?yp1); (case yp1 => walk_at "y_pl")) | ((with_reducible refine PlL.mono (j := ?yj) ?yp1 ?yp2); (case yp1 => assumption); (case yp2 => first | decide | omega)) | ((with_reducible refine Pl.mono (j := ?yj) ?yp1 ?yp2); (case yp1 => assumption); (case yp2 => first | decide | omega)))
local macro_rules | `(tactic| walk_at "y_len") => `(tactic| ((try simp only [List.length_append, List.length_cons, List.length_nil, List.length_map, sizeLine_eq] at *); omega))
local macro_rules | `(tactic| walk_at "y_rfl") => `(tactic| first | rfl | (simp only [atI_nn]; rfl))
local macro_rules | `(tactic| walk_at "y_at") => `(tactic| first | exact atI_nn _ 0 | rfl)
local macro_rules | `(tactic| walk_at "y_cond") => `(tactic| first
  | (show (0 : Int) < _; first | decide | assumption | omega)
  | (exact ⟨by first | decide | assumption | omega, by first | decide | assumption | omega⟩)
  | (exact Or.inl ⟨by first | decide | assumption | omega, by first | decide | assumption | omega⟩)
  | (exact Or.inr ⟨by first | decide | assumption | omega, by first | decide | assumption | omega⟩)
  | (exact ⟨by decide, by decide, by decide⟩))
local macro_rules | `(tactic| walk_at "y1") => `(tactic| first
  | (with_reducible first | refine i_seq ?_ | refine i_next ?_ | refine i_asg ?_ | refine i_ret ?_ | refine i_retN ?_ | refine i_drop ?_ | refine i_cont ?_ | refine i_break ?_ | refine i_ifs ?_ | refine i_if ?_ | refine i_and ?_ | refine i_or ?_ | refine i_not ?_ | refine i_test ?_ | refine i_tru ?_ | refine i_andV ?_ | refine i_orV ?_ | refine i_notV ?_ | refine i_bl ?_ | refine i_op ?_ | refine i_chain ?_ | refine i_c ?_ | refine i_cd ?_ | refine i_nil ?_ | refine i_cons ?_ | refine i_call ?_ | refine i_cb ?_ | refine i_tup ?_ | refine i_lst ?_ | refine i_lstM ?_ | refine i_dict ?_ | refine i_frz ?_ | refine i_name ?_ | refine i_gcons ?_ | refine i_gnil ?_ | refine i_gsub ?_ | refine i_par ?_ | refine i_par2 ?_ | refine i_un ?_ | refine i_int ?_ | refine i_slice ?_ | refine i_onone ?_ | refine i_osome ?_ | refine i_bm ?_ | refine i_bm0 ?_ | refine i_get1 ?_ | refine i_get2 ?_ | refine i_del ?_ | refine i_for ?_ | refine i_lc ?_ | refine i_dc ?_ | refine i_yes ?_ | refine i_it ?_ | refine i_rng1 ?_ | refine i_fld ?_ | refine i_sfld ?_ | refine i_meth ?_ | refine i_make ?_ | refine v_I0 ?_ | refine v_plusI ?_ | refine v_eqI ?_ | refine v_eqS ?_ | refine v_isN ?_ | refine v_int ?_ | refine v_abs ?_ | refine v_sliceT ?_ | refine v_sliceL ?_ | refine b_fx ?_ | refine b_tx ?_)
  | ((with_reducible refine i_var (d := ?yd) ?ye0 ?_); (case ye0 => rfl))
  | ((with_reducible refine i_gtup ?ye0 ?_); (case ye0 => rfl))
  | (with_reducible refine iteT ?_)
  | (with_reducible refine iteF ?_)
  | (with_reducible refine b_dec ?_ ?_ <;> intro hc)
  | (with_reducible refine b_ndec ?_ ?_ <;> intro hc)
  | ((with_reducible refine v_subT (d := ?yd) ?ye0 ?_); (case ye0 => rfl))
  | ((with_reducible refine v_subL (d := ?yd) ?ye0 ?_); (case ye0 => rfl))
  | ((with_reducible refine v_subM (ds := ?yds) (d := ?yd) ?ye0 ?ye1 ?_); (case ye0 => (walk_at "y_look")); (case ye1 => rfl))
  | ((with_reducible refine v_setL (ds := ?yds) (j := ?yj) ?ye0 ?ye1 ?_); (case ye0 => (walk_at "y_look")); (case ye1 => rfl))
  | ((with_reducible refine v_I ?ye0 ?_); (case ye0 => (walk_at "y_cond")))
  | ((with_reducible refine i_sz ?ye0 ?_); (case ye0 => (first | exact Nat.le_of_ble_eq_true rfl | (simp only [List.length_append, List.length_cons, List.length_nil, List.length_map, sizeLine_eq] at *; omega))))
  | (with_reducible refine i_new fun yp yhp => ?_)
  | ((with_reducible refine v_app (ds := ?yds) ?ye0 ?ye1 ?_); (case ye0 => (walk_at "y_look")); (case ye1 => (first | (simp only [List.length_append, List.length_cons, List.length_nil, List.length_map, sizeLine_eq] at *; omega))))
  | ((with_reducible refine i_tyL (ds := ?yds) ?ye0 ?_); (case ye0 => (walk_at "y_look")))
  | (with_reducible refine i_tyl ?_)
  | ((with_reducible refine v_subK (kvs := ?ykv) (k := ?yk) (d := ?yd) ?ye0 ?ye1 ?ye2 ?_); (case ye0 => (walk_at "y_look")); (case ye1 => rfl); (case ye2 => first | assumption | rfl))
  | ((with_reducible refine v_plusL (ds := ?yds) (es := ?yes) ?ye0 ?ye1 ?ye2 ?_); (case ye0 => first | rfl | (with_reducible refine lsD_ref (ds := ?yds2) ?yl0; walk_at "y_look")); (case ye1 => first | rfl | (with_reducible refine lsD_ref (ds := ?yds2) ?yl0; walk_at "y_look")); (case ye2 => (simp only [List.length_append, List.length_cons, List.length_nil, List.length_map, sizeLine_eq] at *; omega)))
  | ((with_reducible refine v_plusT ?ye0 ?_); (case ye0 => (simp only [List.length_append, List.length_cons, List.length_nil, List.length_map, sizeLine_eq] at *; omega)))
  | ((with_reducible refine i_rng1d ?ye0 ?_); (case ye0 => (constructor <;> omega)))
  | ((with_reducible refine v_len (n := ?yn) ?ye0 ?_); (case ye0 => first | ((with_reducible refine lenD_ref (ds := ?yds) ?yl0); (case yl0 => walk_at "y_look")) | rfl))
  | ((with_reducible refine v_list (es := ?yes) ?ye0 ?_); (case ye0 => first | (with_reducible refine itD_ref (ds := ?yds) ?yl0; walk_at "y_look") | rfl))
  | ((with_reducible refine v_tuple (es := ?yes) ?ye0 ?_); (case ye0 => first | (with_reducible refine itD_ref (ds := ?yds) ?yl0; walk_at "y_look") | rfl))
  | ((with_reducible refine v_eqP ?ye0 ?ye1 fun yb => ?_); (case ye0 => walk_at "y_pl"); (case ye1 => walk_at "y_pl"))
  | (with_reducible refine b_emp ?_ ?_ <;> intro hc)
  | (with_reducible refine i_trul ?_)
  | (with_reducible refine i_trut ?_)
  | (with_reducible refine i_trub ?_)
  | ((with_reducible refine v_inT ?ye0 ?_); (case ye0 => exact ⟨rfl, rfl⟩))
  | (with_reducible refine b_var ?_ ?_ <;> intro hc)
  | ((with_reducible refine i_its (ds := ?yds) ?ye0 ?_); (case ye0 => rfl)))
local macro_rules | `(tactic| walk_at "y0") => `(tactic| repeat' (walk_at "y1"))
local macro_rules | `(tactic| walk_at "ys") => `(tactic| walk_at "y0")
local macro_rules | `(tactic| walk_at "y_nn") => `(tactic| first | assumption | exact (put_none (by assumption)).2 | exact (put_none (put_none (by assumption)).2).2 | exact (put_none (put_none (put_none (by assumption)).2).2).2)
local macro_rules | `(tactic| walk_at "y_kl1") => `(tactic| first | (with_reducible exact KL.merge) | ((with_reducible refine KL.put (n := ?ykn) ?ykk); (case ykk => walk_at "y_kl1")))
local macro_rules | `(tactic| walk_at "y_kl") => `(tactic| ((refine KL.lt (n := ?yn) ?yk1 ?yk2); (case yk1 => walk_at "y_kl1"); (case yk2 => first | decide | (simp; done))))
local macro_rules | `(tactic| walk_at "y_fr") => `(tactic| first | exact Fr.refl _ _ | assumption | ((refine Fr.put ?yf1 ?yf2); (case yf2 => simp); (case yf1 => walk_at "y_fr")) | ((refine Fr.drop ?yf1 ?yf2); (case yf2 => simp); (case yf1 => walk_at "y_fr")))
local macro_rules | `(tactic| walk_at "y_fin") => `(tactic| first | assumption | rfl | walk_at "y_look" | walk_at "y_pl" | walk_at "y_fr" | omega | walk_at "y_len" | (intros; omega))
local macro_rules | `(tactic| walk_at "y_take") => `(tactic| ((with_reducible refine i_take (t := ?yt) ?yl ?yo ?yb fun yr yt' yr0 yr1 yok => ?_); (case yl => walk_at "y_look"); (case yo => assumption); (case yb => (constructor <;> first | omega | (simp; omega)))))
local macro_rules | `(tactic| walk_at "y_pick") => `(tactic| first | ((with_reducible refine i_pick2 (k := 0) (t := ?yt) ?yl ?yo ?yb ?yP fun yd yt' yP ym yok => ?_); (case yl => walk_at "y_look"); (case yo => assumption); (case yb => (constructor <;> walk_at "y_len")); (case yP => walk_at "y_pl")) | ((with_reducible refine i_pick2 (k := 5) (t := ?yt) ?yl ?yo ?yb ?yP fun yd yt' yP ym yok => ?_); (case yl => walk_at "y_look"); (case yo => assumption); (case yb => (constructor <;> walk_at "y_len")); (case yP => walk_at "y_pl")))
local macro_rules | `(tactic| walk_at "y2") => `(tactic| first | walk_at "y1" | walk_at "y_take" | walk_at "y_pick" | (with_reducible refine i_disp fun yp yhp => ?_) | (with_reducible refine i_pcons ?_) | (with_reducible refine i_pnil ?_) | (with_reducible refine i_mut ?_) | ((with_reducible refine v_inT' ?ye0 ?ye1 fun yb => ?_); (case ye0 => walk_at "y_pl"); (case ye1 => walk_at "y_pl")) | ((with_reducible refine v_setK (kvs := ?ykv) (k := ?yk) ?ye0 ?ye1 ?ye2 ?_); (case ye0 => walk_at "y_look"); (case ye1 => rfl); (case ye2 => walk_at "y_kl")) | ((with_reducible refine i_mutd (ds := ?yds) ?ye0 ?_); (case ye0 => walk_at "y_look")) | ((with_reducible refine i_glst' ?ye0 ?_); (case ye0 => rfl)))
local macro_rules | `(tactic| walk_at "ys") => `(tactic| repeat' (walk_at "y2"))
local macro_rules | `(tactic| walk_at "y1") => `(tactic| (with_reducible first | refine i_callX ?_ | refine i_methX ?_ | refine i_raise ?_ | refine i_tryAs ?_ | refine i_tryOnly ?_ | refine i_xf ?_ | refine i_isE ?_ | refine i_zip ?_ | refine i_enum ?_ | refine i_rev ?_))
local macro_rules | `(tactic| walk_at "y1") => `(tactic| ((with_reducible refine v_subLk (kvs := ?ykv) (k := ?yk) (d := ?yd) (od := ?yod) (xs := ?yxs) ?ye0 ?ye1 ?ye2 ?_); (case ye0 => (walk_at "y_look")); (case ye1 => rfl); (case ye2 => first | assumption | rfl)))
local macro_rules | `(tactic| walk_at "y1") => `(tactic| first
  | (with_reducible first | refine v_isT ?_ | refine v_isF ?_ | refine iteNT ?_ | refine iteNF ?_)
  | ((with_reducible refine v_isNF ?ye0 ?_); (case ye0 => rfl))
  | ((with_reducible refine v_isNT ?ye0 ?_); (case ye0 => rfl)))
theorem bindE_ok {α β ε : Type} (a : α) (f : α → Except ε β) : bindE (.ok a) f = f a := rfl
def rTail (unk : List D) (u : List Str) : Ps := bindE (rLoop (u.length + 1) u [] []) fun z => .ok (.tup [.tup unk, .tup z.1.1, .tup z.1.2], z.2)
def rShape (us : List Str) : Ps :=
  if us.headD "" = "some" then bindE (rNames (us.tail.length + 1) us.tail []) fun q => bindE (needW "." q.2) fun u => rTail (q.1.map D.str) u
  else rTail [] us
theorem loop_suf : ∀ (n : Nat) (us : List Str) (pu it : List D) (p i : List D) (u : List Str), rLoop n us pu it = .ok ((p, i), u) → u <:+ us
  | 0, us, pu, it, p, i, u, h => by cases h
  | n + 1, us, pu, it, p, i, u, h => by
    unfold rLoop at h
    obtain ⟨q, e1, h⟩ := bind_ok h
    have s1 := (part_shape (d := q.1) e1).1
    simp only at h
    split at h
    · exact (loop_suf n _ _ _ _ _ _ h).trans ((tail_suf _).trans s1)
    · cases h; exact s1
theorem tail_suf2 {unk : List D} {us u : List Str} {d : D} (h : rTail unk us = .ok (d, u)) : u <:+ us := by
  unfold rTail at h
  obtain ⟨z, e1, h⟩ := bind_ok h
  cases h
  exact loop_suf _ _ _ _ z.1.1 z.1.2 z.2 e1
theorem names_suf : ∀ (n : Nat) (us found ns : List Str) (u : List Str), rNames n us found = .ok (ns, u) → u <:+ us
  | 0, us, found, ns, u, h => by cases h
  | n + 1, us, found, ns, u, h => by
    unfold rNames at h
    split at h
    · split at h
      · exact (names_suf n _ _ _ _ h).trans ((tail_suf _).trans (tail_suf us))
      · cases h; exact tail_suf us
    · cases h
theorem shape_suf {us u : List Str} {d : D} (h : rShape us = .ok (d, u)) : u <:+ us := by
  unfold rShape at h
  split at h
  · obtain ⟨q, e1, h⟩ := bind_ok h
    obtain ⟨u1, e2, h⟩ := bind_ok h
    exact (tail_suf2 h).trans ((need_suf e2).trans ((names_suf _ _ _ q.1 q.2 e1).trans (tail_suf us)))
  · exact tail_suf2 h
section
variable {K : PySem.W.Frag} {C : Addr} (hC : Cls K C) (n1 : NoAttr K C "_words") (n2 : NoAttr K C "at")
local macro_rules | `(tactic| walk_at "y1") => `(tactic| first
  | (with_reducible refine v_inS ?_)
  | (with_reducible refine v_inSN ?_)
  | (with_reducible refine i_tyS ?_)
  | ((with_reducible refine v_lenS ?ye0 ?_); (case ye0 => (rw [sizeLine_eq]; omega)))
  | (with_reducible refine i_itS ?_)
  | ((with_reducible refine i_aug (x := ?yx) ?ye0 ?_); (case ye0 => rfl))
  | (with_reducible refine i_faug ?_)
  | ((with_reducible refine i_fend (dx := ?ydx) (fs := ?yfs) ?ye0 ?ye1 ?_); (case ye0 => walk_at "y_look"); (case ye1 => (first | decide | (simp; done))))
  | ((with_reducible refine i_fldd (C := ?yC) (dx := ?ydx) (fs := ?yfs) (d := ?yd) ?ye0 ?ye1 ?ye2 ?ye3 ?_); (case ye0 => walk_at "y_look"); (case ye1 => assumption); (case ye2 => assumption); (case ye3 => rfl))
  | ((with_reducible refine i_fldg (C := ?yC) (dx := ?ydx) (fs := ?yfs) (d := ?yd) ?ye0 ?ye1 ?ye2 ?ye3 ?_); (case ye0 => walk_at "y_look"); (case ye1 => assumption); (case ye2 => assumption); (case ye3 => rfl))
  | ((with_reducible refine i_methd (dx := ?ydx) (fs := ?yfs) ?ye0 ?ye3 ?_); (case ye0 => walk_at "y_look"); (case ye3 => rfl)))
include hC n1 n2
def shTop (W : DW) (C CT : Addr) : DS := dSeq (dPar 2 3 (dCons (dLstM (dNil)) (dCons (dLstM (dNil)) (dNil)))) (dWhile (dTru (dC (.bl true))) (shBody W C CT))
theorem sh_top {CT r dx : Addr} {ws us : List Str} {M M1 : Mm} {EX : DX} {Q : QD} {unk : List D} (h : Rd M r C dx ws us) (eM : M1 = M) (k1 : ∀ d u, rTail unk us = .ok (d, u) → u <:+ us → Q d (put M r (rdO C dx ws u))) (k2 : ∀ u, rTail unk us = .error u → EX (.ref CT) (frm ws u) (Y.drop M r)) :
    shTop (fun _ => lessX EX) C CT { nx := fun _ M' => less Q .non M', rt := less Q } [some (.ref r), some (.tup unk), none, none, none] M1 := by
  subst eM
  unfold shTop
  walk_at "ys"
  rename_i pP hP pI hI
  have hI' := put_none hI
  refine ⟨us.length + 1, ?_⟩
  have hl := h.le
  have hn := h.n
  have e0 : M1 = put M1 r (rdO C dx ws us) := (put_id h.m).symm
  have key := sh_loop hC n1 n2 (CT := CT) (EX := EX) (E := { nx := fun _ M' => less Q .non M', rt := less Q }) (unk := .tup unk) h hP hI'.2 hI'.1.symm (us.length + 1) us [] [] none (by omega) (List.suffix_refl us) (by simp; omega) (by simp; omega) (fun p i u e hs => ?_) (fun u e => k2 u (by unfold rTail; rw [e]; rfl))
  · unfold mSh at key
    rw [← e0] at key
    exact key
  · refine ⟨put M1 r (rdO C dx ws u), fun b n hb => ?_, k1 _ u (by unfold rTail; rw [e]; rfl) hs⟩
    unfold mSh
    have hrP : r ≠ pP := ne_none h.m hP
    have hrI : r ≠ pI := ne_none h.m hI'.2
    by_cases z : b = pI
    · subst z
      rw [put_ne hrI.symm, hI'.2] at hb
      cases hb
    · rw [put_ne z]
      by_cases z2 : b = pP
      · subst z2
        rw [put_ne hrP.symm, hP] at hb
        cases hb
      · rw [put_ne z2]; exact hb
theorem rd_read_shape (CT : Addr) (ds : List D) (M : Mm) (Q : QD) (E : DX) (h : spRd C CT rShape ds M Q E) : r_read_shape (fun _ => lessX E) C (spSkip C) (spNames C CT) (spNeed C CT) (spRd C CT rPart) { nx := fun _ M' => less Q .non M', rt := less Q } (startD 5 ds) M := by
  obtain ⟨r, dx, ws, us, rfl, h, q1, q2⟩ := h
  show dSeq (dAsg (dTup (dNil)) (dgName 1)) (dSeq (dIfS (dTru (dMeth C "skip" (spSkip C) (dVar 0) (dCons (dC (.str "some")) (dNil)))) (dSeq (dAsg (dCallX (fun _ => lessX E) (spNames C CT) (dCons (dVar 0) (dNil))) (dgName 1)) (dDrop (dMethX (fun _ => lessX E) C "need" (spNeed C CT) (dVar 0) (dCons (dC (.str ".")) (dNil))))) (dNext)) (shTop (fun _ => lessX E) C CT)) _ [some (.ref r), none, none, none, none] M
  have hm := h.m
  unfold rdO at hm
  have noL : ∀ p ∈ ([] : List Addr), M p = none := fun _ z => nomatch z
  walk_at "ys"
  refine ⟨r, dx, ws, us, "some", rfl, h, by decide +kernel, fun u0 e => ?_, fun ne => ?_⟩
  · subst e
    have er : rShape (("some" : Str) :: u0) = bindE (rNames (u0.length + 1) u0 []) fun q => bindE (needW "." q.2) fun u => rTail (q.1.map D.str) u := if_pos rfl
    rw [er] at q1 q2
    have s0 : u0 <:+ ("some" : Str) :: u0 := List.suffix_cons _ _
    walk_at "ys"
    refine ⟨r, dx, ws, u0, rfl, h.put s0, fun ns u e s1 => ?_, fun u e => errL (L := []) (q2 u (by rw [e]; rfl)) (by walk_at "y_fr") noL⟩
    rw [e] at q1 q2
    simp only [bindE_ok] at q1 q2
    rw [put_put]
    have s1' := s1.trans s0
    walk_at "ys"
    refine s_need (h.put s1') (by decide +kernel) q2 (by walk_at "y_fr") noL fun u3 s3 e3 => ?_
    rw [e3] at q1 q2
    rw [put_put]
    have s3' := s3.trans s1'
    walk_at "ys"
    refine sh_top hC n1 n2 (h.put (M' := M) s3') rfl (fun d u e _ => ?_) (fun u e => ?_)
    · rw [put_put]
      exact q1 d u e
    · rw [drop_put_same]
      exact q2 u e
  · have er : rShape us = rTail [] us := if_neg ne
    rw [er] at q1 q2
    walk_at "ys"
    exact sh_top hC n1 n2 h rfl (fun d u e _ => q1 d u e) q2
/-! the whole of a text -/
def pShape (ws : List Str) : Except Nat D := match rShape ws with
  | .error u => .error (ws.length - u.length)
  | .ok (d, u) => if u = [] then .ok d else .error (ws.length - u.length)
/-- how a text is told: refused with code and place, or read -/
def pText (p : List Str → Except Nat D) (s : Str) : Except (Str × Nat) D := match wordsOf s with
  | .error m => .error ("sign", m)
  | .ok ws => match p ws with
    | .error m => .error ("form", m)
    | .ok d => .ok d
def okIn (s : Str) : Prop := s.length ≤ 1000000 ∧ (∀ c ∈ s.cps.toList, c ≠ 35) ∧ ∀ ws, wordsOf s = .ok ws → ws.length ≤ 1000000 ∧ ∀ w ∈ ws, 1 ≤ w.length ∧ w.length ≤ 1000000
/-- a shape that is right: here without unknown names -/
def tmT (d : D) : Prop := tmS d ∧ tmOk d = true
def factT (d : D) : Prop := ∃ s a b, d = .tup [.str s, a, b] ∧ (s = "eq" ∨ s = "ne") ∧ tmT a ∧ tmT b
def itemT (d : D) : Prop := (∃ n a b c, d = .tup [.str "cell", .int n, a, b, c] ∧ 1 ≤ n ∧ n ≤ 12 ∧ tmT a ∧ tmT b ∧ tmT c) ∨ (∃ a b, d = .tup [.str "list", a, b] ∧ tmT a ∧ tmT b) ∨ ∃ a, d = .tup [.str "tree", a] ∧ tmT a
def shapeT (d : D) : Prop := ∃ pu it, d = .tup [.tup [], .tup pu, .tup it] ∧ pu.length ≤ 100000 ∧ it.length ≤ 100000 ∧ (∀ f ∈ pu, factT f) ∧ ∀ i ∈ it, itemT i
def spCheck : DSp := fun ds M Q _ => ∃ d, ds = [d] ∧ shapeT d ∧ Q .non M
def spParse (CT : Addr) : DSp := fun ds M Q E => ∃ s : Str, ds = [.str s] ∧ okIn s ∧ (∀ d, pText pShape s = .ok d → shapeT d ∧ Q d M) ∧ ∀ c n, pText pShape s = .error (c, n) → E (.ref CT) [("at", .int (n : Nat)), ("code", .str c)] M
theorem rd_parse (CT : Addr) (ds : List D) (M : Mm) (Q : QD) (E : DX) (h : spParse CT ds M Q E) : r_parse_shape (fun _ => lessX E) (spWords CT) C (spInit C) (spRd C CT rShape) (spEndR C CT) spCheck { nx := fun _ M' => less Q .non M', rt := less Q } (startD 3 ds) M := by
  obtain ⟨s, rfl, ⟨hl, hno, hws⟩, q1, q2⟩ := h
  show r_parse_shape _ _ _ _ _ _ _ _ [some (.str s), none, none] M
  unfold r_parse_shape
  walk_at "ys"
  refine ⟨s, rfl, hl, hno, fun ws e => ?_, fun m e => ?_⟩
  · obtain ⟨hw1, hw2⟩ := hws ws e
    have ep : pText pShape s = match pShape ws with | .error m => .error ("form", m) | .ok d => .ok d := by unfold pText; rw [e]
    walk_at "ys"
    intro x dx hx
    refine ⟨x, dx, ws, rfl, put_same, rfl, ?_⟩
    rw [put_put]
    have hR : Rd (put M x (rdO C dx ws ws)) x C dx ws ws := ⟨put_same, List.suffix_refl ws, hw1, hw2⟩
    have hm := hR.m
    unfold rdO at hm
    have eD : ∀ m, Y.drop (put M x m) x = M := fun m => Y.drop_put hx
    walk_at "ys"
    refine ⟨x, dx, ws, ws, rfl, hR, fun d u e2 => ?_, fun u e2 => ?_⟩
    · rw [put_put]
      have s1 : u <:+ ws := shape_suf e2
      have ep2 : pShape ws = if u = [] then .ok d else .error (ws.length - u.length) := by unfold pShape; rw [e2]
      have hR2 : Rd (put M x (rdO C dx ws u)) x C dx ws u := ⟨put_same, s1, hw1, hw2⟩
      walk_at "ys"
      refine ⟨x, dx, ws, u, rfl, hR2, fun eu => ?_, fun nu => ?_⟩
      · have e3 : pText pShape s = .ok d := by rw [ep, ep2, if_pos eu]
        obtain ⟨hT, hQ⟩ := q1 d e3
        walk_at "ys"
        refine ⟨d, rfl, hT, ?_⟩
        walk_at "ys"
        exact less_fr0 hQ (L := [x]) (by walk_at "y_fr") (by simp [hx])
      · rw [eD]
        have e3 : pText pShape s = .error ("form", ws.length - u.length) := by rw [ep, ep2, if_neg nu]
        exact lessX_of (q2 _ _ e3) rfl
    · rw [eD]
      have e3 : pText pShape s = .error ("form", ws.length - u.length) := by rw [ep]; unfold pShape; rw [e2]
      exact lessX_of (q2 _ _ e3) rfl
  · exact lessX_of (q2 _ _ (by unfold pText; rw [e])) rfl
end
end K04


set_option Elab.async false
set_option linter.all false
set_option maxRecDepth 100000
set_option maxHeartbeats 4000000
set_option pp.deepTerms true
set_option pp.maxSteps 3000
/-! the readings of law k04: check_shape, for right shapes -/
namespace K04
open PySem PySem.Spec PyProof.Rows L2 Y YD
local macro_rules | `(tactic| walk_at "y_ne") => `(tactic| first | assumption | exact Ne.symm (by assumption) | ((refine ne_none (M := ?yM) (m := ?ymo) ?ym1 ?ym2); (case ym2 => assumption); (case ym1 => walk_at "y_look")) | ((refine Ne.symm (ne_none (M := ?yM) (m := ?ymo) ?ym1 ?ym2)); (case ym2 => assumption); (case ym1 => walk_at "y_look")) | ((refine ne_none (M := ?yM) (m := ?ymo) ?ym1 (put_none (M := ?yM) (a := ?yma) (m := ?ymo2) ?ym2).2); (case ym2 => assumption); (case ym1 => walk_at "y_look")) | ((refine Ne.symm (ne_none (M := ?yM) (m := ?ymo) ?ym1 (put_none (M := ?yM) (a := ?yma) (m := ?ymo2) ?ym2).2)); (case ym2 => assumption); (case ym1 => walk_at "y_look")))
local macro_rules | `(tactic| walk_at "y_look") => `(tactic| first | assumption | exact put_same | ((with_reducible refine Eq.trans (put_ne ?yn) ?_); (case yn => walk_at "y_ne"); (walk_at "y_look")) | ((with_reducible refine Eq.trans (drop_ne ?yn) ?_); (case yn => walk_at "y_ne"); (walk_at "y_look")))
local macro_rules | `(tactic| walk_at "y_pl") => `(tactic| first | assumption | exact PlL.nil | exact Pl.int _ | exact Pl.non | exact Pl.bl _ | exact Pl.str (by decide +kernel) | ((with_reducible refine PlL.cons ?yp1 ?yp2); (case yp1 => walk_at "y_pl"); (case yp2 => walk_at "y_pl")) | ((with_reducible refine PlL.append ?yp1 ?yp2); (case yp1 => walk_at "y_pl"); (case yp2 => walk_at "y_pl")) | ((with_reducible refine Pl.tup ?yp1); (case yp1 => walk_at "y_pl")) | ((with_reducible refine PlL.mono (j := ?yj) ?yp1 ?yp2); (case yp1 => assumption); (case yp2 => first | decide | omega)) | ((with_reducible refine Pl.mono (j := ?yj) ?yp1 ?yp2); (case yp1 => assumption); (case yp2 => first | decide | omega)))
local macro_rules | `(tactic| walk_at "y_len") => `(tactic| ((try simp only [List.length_append, List.length_cons, List.length_nil, List.length_map, sizeLine_eq] at *); omega))
local macro_rules | `(tactic| walk_at "y_rfl") => `(tactic| first | rfl | (simp only [atI_nn]; rfl))
local macro_rules | `(tactic| walk_at "y_at") => `(tactic| first | exact atI_nn _ 0 | rfl)
local macro_rules | `(tactic| walk_at "y_cond") => `(tactic| first
  | (show (0 : Int) < _; first | decide | assumption | omega)
  | (exact ⟨by first | decide | assumption | omega, by first | decide | assumption | omega⟩)
  | (exact Or.inl ⟨by first | decide | assumption | omega, by first | decide | assumption | omega⟩)
  | (exact Or.inr ⟨by first | decide | assumption | omega, by first | decide | assumption | omega⟩)
  | (exact ⟨by decide, by decide, by decide⟩))
local macro_rules | `(tactic| walk_at "y1") => `(tactic| first
  | (with_reducible first | refine i_seq ?_ | refine i_next ?_ | refine i_asg ?_ | refine i_ret ?_ | refine i_retN ?_ | refine i_drop ?_ | refine i_cont ?_ | refine i_break ?_ | refine i_ifs ?_ | refine i_if ?_ | refine i_and ?_ | refine i_or ?_ | refine i_not ?_ | refine i_test ?_ | refine i_tru ?_ | refine i_andV ?_ | refine i_orV ?_ | refine i_notV ?_ | refine i_bl ?_ | refine i_op ?_ | refine i_chain ?_ | refine i_c ?_ | refine i_cd ?_ | refine i_nil ?_ | refine i_cons ?_ | refine i_call ?_ | refine i_cb ?_ | refine i_tup ?_ | refine i_lst ?_ | refine i_lstM ?_ | refine i_dict ?_ | refine i_frz ?_ | refine i_name ?_ | refine i_gcons ?_ | refine i_gnil ?_ | refine i_gsub ?_ | refine i_par ?_ | refine i_par2 ?_ | refine i_un ?_ | refine i_int ?_ | refine i_slice ?_ | refine i_onone ?_ | refine i_osome ?_ | refine i_bm ?_ | refine i_bm0 ?_ | refine i_get1 ?_ | refine i_get2 ?_ | refine i_del ?_ | refine i_for ?_ | refine i_lc ?_ | refine i_dc ?_ | refine i_yes ?_ | refine i_it ?_ | refine i_rng1 ?_ | refine i_fld ?_ | refine i_sfld ?_ | refine i_meth ?_ | refine i_make ?_ | refine v_I0 ?_ | refine v_plusI ?_ | refine v_eqI ?_ | refine v_eqS ?_ | refine v_isN ?_ | refine v_int ?_ | refine v_abs ?_ | refine v_sliceT ?_ | refine v_sliceL ?_ | refine b_fx ?_ | refine b_tx ?_)
  | ((with_reducible refine i_var (d := ?yd) ?ye0 ?_); (case ye0 => rfl))
  | ((with_reducible refine i_gtup ?ye0 ?_); (case ye0 => rfl))
  | (with_reducible refine iteT ?_)
  | (with_reducible refine iteF ?_)
  | (with_reducible refine b_dec ?_ ?_ <;> intro hc)
  | (with_reducible refine b_ndec ?_ ?_ <;> intro hc)
  | ((with_reducible refine v_subT (d := ?yd) ?ye0 ?_); (case ye0 => rfl))
  | ((with_reducible refine v_subL (d := ?yd) ?ye0 ?_); (case ye0 => rfl))
  | ((with_reducible refine v_subM (ds := ?yds) (d := ?yd) ?ye0 ?ye1 ?_); (case ye0 => (walk_at "y_look")); (case ye1 => rfl))
  | ((with_reducible refine v_setL (ds := ?yds) (j := ?yj) ?ye0 ?ye1 ?_); (case ye0 => (walk_at "y_look")); (case ye1 => rfl))
  | ((with_reducible refine v_I ?ye0 ?_); (case ye0 => (walk_at "y_cond")))
  | ((with_reducible refine i_sz ?ye0 ?_); (case ye0 => (first | exact Nat.le_of_ble_eq_true rfl | (simp only [List.length_append, List.length_cons, List.length_nil, List.length_map, sizeLine_eq] at *; omega))))
  | (with_reducible refine i_new fun yp yhp => ?_)
  | ((with_reducible refine v_app (ds := ?yds) ?ye0 ?ye1 ?_); (case ye0 => (walk_at "y_look")); (case ye1 => (first | (simp only [List.length_append, List.length_cons, List.length_nil, List.length_map, sizeLine_eq] at *; omega))))
  | ((with_reducible refine i_tyL (ds := ?yds) ?ye0 ?_); (case ye0 => (walk_at "y_look")))
  | (with_reducible refine i_tyl ?_)
  | ((with_reducible refine v_subK (kvs := ?ykv) (k := ?yk) (d := ?yd) ?ye0 ?ye1 ?ye2 ?_); (case ye0 => (walk_at "y_look")); (case ye1 => rfl); (case ye2 => first | assumption | rfl))
  | ((with_reducible refine v_plusL (ds := ?yds) (es := ?yes) ?ye0 ?ye1 ?ye2 ?_); (case ye0 => first | rfl | (with_reducible refine lsD_ref (ds := ?yds2) ?yl0; walk_at "y_look")); (case ye1 => first | rfl | (with_reducible refine lsD_ref (ds := ?yds2) ?yl0; walk_at "y_look")); (case ye2 => (simp only [List.length_append, List.length_cons, List.length_nil, List.length_map, sizeLine_eq] at *; omega)))
  | ((with_reducible refine v_plusT ?ye0 ?_); (case ye0 => (simp only [List.length_append, List.length_cons, List.length_nil, List.length_map, sizeLine_eq] at *; omega)))
  | ((with_reducible refine i_rng1d ?ye0 ?_); (case ye0 => (constructor <;> omega)))
  | ((with_reducible refine v_len (n := ?yn) ?ye0 ?_); (case ye0 => first | ((with_reducible refine lenD_ref (ds := ?yds) ?yl0); (case yl0 => walk_at "y_look")) | rfl))
  | ((with_reducible refine v_list (es := ?yes) ?ye0 ?_); (case ye0 => first | (with_reducible refine itD_ref (ds := ?yds) ?yl0; walk_at "y_look") | rfl))
  | ((with_reducible refine v_tuple (es := ?yes) ?ye0 ?_); (case ye0 => first | (with_reducible refine itD_ref (ds := ?yds) ?yl0; walk_at "y_look") | rfl))
  | ((with_reducible refine v_eqP ?ye0 ?ye1 fun yb => ?_); (case ye0 => walk_at "y_pl"); (case ye1 => walk_at "y_pl"))
  | (with_reducible refine b_emp ?_ ?_ <;> intro hc)
  | (with_reducible refine i_trul ?_)
  | (with_reducible refine i_trut ?_)
  | (with_reducible refine i_trub ?_)
  | ((with_reducible refine v_inT ?ye0 ?_); (case ye0 => exact ⟨rfl, rfl⟩))
  | (with_reducible refine b_var ?_ ?_ <;> intro hc)
  | ((with_reducible refine i_its (ds := ?yds) ?ye0 ?_); (case ye0 => rfl)))
local macro_rules | `(tactic| walk_at "y0") => `(tactic| repeat' (walk_at "y1"))
local macro_rules | `(tactic| walk_at "ys") => `(tactic| walk_at "y0")
local macro_rules | `(tactic| walk_at "y_nn") => `(tactic| first | assumption | exact (put_none (by assumption)).2 | exact (put_none (put_none (by assumption)).2).2 | exact (put_none (put_none (put_none (by assumption)).2).2).2)
local macro_rules | `(tactic| walk_at "y_kl1") => `(tactic| first | (with_reducible exact KL.merge) | ((with_reducible refine KL.put (n := ?ykn) ?ykk); (case ykk => walk_at "y_kl1")))
local macro_rules | `(tactic| walk_at "y_kl") => `(tactic| ((refine KL.lt (n := ?yn) ?yk1 ?yk2); (case yk1 => walk_at "y_kl1"); (case yk2 => first | decide | (simp; done))))
local macro_rules | `(tactic| walk_at "y_fr") => `(tactic| first | exact Fr.refl _ _ | assumption | ((refine Fr.put ?yf1 ?yf2); (case yf2 => simp); (case yf1 => walk_at "y_fr")) | ((refine Fr.drop ?yf1 ?yf2); (case yf2 => simp); (case yf1 => walk_at "y_fr")))
local macro_rules | `(tactic| walk_at "y_fin") => `(tactic| first | assumption | rfl | walk_at "y_look" | walk_at "y_pl" | walk_at "y_fr" | omega | walk_at "y_len" | (intros; omega))
local macro_rules | `(tactic| walk_at "y_take") => `(tactic| ((with_reducible refine i_take (t := ?yt) ?yl ?yo ?yb fun yr yt' yr0 yr1 yok => ?_); (case yl => walk_at "y_look"); (case yo => assumption); (case yb => (constructor <;> first | omega | (simp; omega)))))
local macro_rules | `(tactic| walk_at "y_pick") => `(tactic| first | ((with_reducible refine i_pick2 (k := 0) (t := ?yt) ?yl ?yo ?yb ?yP fun yd yt' yP ym yok => ?_); (case yl => walk_at "y_look"); (case yo => assumption); (case yb => (constructor <;> walk_at "y_len")); (case yP => walk_at "y_pl")) | ((with_reducible refine i_pick2 (k := 5) (t := ?yt) ?yl ?yo ?yb ?yP fun yd yt' yP ym yok => ?_); (case yl => walk_at "y_look"); (case yo => assumption); (case yb => (constructor <;> walk_at "y_len")); (case yP => walk_at "y_pl")))
local macro_rules | `(tactic| walk_at "y2") => `(tactic| first | walk_at "y1" | walk_at "y_take" | walk_at "y_pick" | (with_reducible refine i_disp fun yp yhp => ?_) | (with_reducible refine i_pcons ?_) | (with_reducible refine i_pnil ?_) | (with_reducible refine i_mut ?_) | ((with_reducible refine v_inT' ?ye0 ?ye1 fun yb => ?_); (case ye0 => walk_at "y_pl"); (case ye1 => walk_at "y_pl")) | ((with_reducible refine v_setK (kvs := ?ykv) (k := ?yk) ?ye0 ?ye1 ?ye2 ?_); (case ye0 => walk_at "y_look"); (case ye1 => rfl); (case ye2 => walk_at "y_kl")) | ((with_reducible refine i_mutd (ds := ?yds) ?ye0 ?_); (case ye0 => walk_at "y_look")) | ((with_reducible refine i_glst' ?ye0 ?_); (case ye0 => rfl)))
local macro_rules | `(tactic| walk_at "ys") => `(tactic| repeat' (walk_at "y2"))
local macro_rules | `(tactic| walk_at "y1") => `(tactic| (with_reducible first | refine i_callX ?_ | refine i_methX ?_ | refine i_raise ?_ | refine i_tryAs ?_ | refine i_tryOnly ?_ | refine i_xf ?_ | refine i_isE ?_ | refine i_zip ?_ | refine i_enum ?_ | refine i_rev ?_))
local macro_rules | `(tactic| walk_at "y1") => `(tactic| ((with_reducible refine v_subLk (kvs := ?ykv) (k := ?yk) (d := ?yd) (od := ?yod) (xs := ?yxs) ?ye0 ?ye1 ?ye2 ?_); (case ye0 => (walk_at "y_look")); (case ye1 => rfl); (case ye2 => first | assumption | rfl)))
local macro_rules | `(tactic| walk_at "y1") => `(tactic| first
  | (with_reducible first | refine v_isT ?_ | refine v_isF ?_ | refine iteNT ?_ | refine iteNF ?_)
  | ((with_reducible refine v_isNF ?ye0 ?_); (case ye0 => rfl))
  | ((with_reducible refine v_isNT ?ye0 ?_); (case ye0 => rfl)))
theorem i_isi {d : D} {t n : String} {b : Bool} {M : Mm} {Q : QD} (h1 : typD d M = some t) (h2 : kitB t n = some b) (q : Q (.bl b) M) : cIsi [d, .v (.ty n)] M Q := ⟨d, t, n, b, rfl, h1, h2, q⟩
theorem i_term {d : D} {M : Mm} {Q : QD} {E : DX} (h : tmT d) (q : Q (.bl true) M) : spTerm [d] M Q E := ⟨d, rfl, h.1, by rw [h.2]; exact q⟩
theorem v_sub0 {x : D} {r : List D} {M : Mm} {Q : QD} (q : Q x M) : subD (.tup (x :: r)) (.int 0) M Q := ⟨0, x, rfl, atI_nn (x :: r) 0, q⟩
local macro_rules | `(tactic| walk_at "y1") => `(tactic| ((with_reducible refine i_term ?ye0 ?_); (case ye0 => assumption)))
def spFact : DSp := fun ds M Q _ => ∃ d, ds = [d] ∧ factT d ∧ Q (.bl true) M
theorem rd_fact (ds : List D) (M : Mm) (Q : QD) (E : DX) (h : spFact ds M Q E) : r_is_fact spTerm { nx := fun _ M' => less Q .non M', rt := less Q } (startD 1 ds) M := by
  obtain ⟨d, rfl, ⟨s, a, b, rfl, hs, ha, hb⟩, q⟩ := h
  show r_is_fact _ _ [some (.tup [.str s, a, b])] M
  have hps : Pl 0 (.str s) := by rcases hs with rfl | rfl <;> exact Pl.str (by decide +kernel)
  unfold r_is_fact
  walk_at "ys"
  refine i_isi (t := "tuple") (b := true) rfl (by decide +kernel) ?_
  walk_at "ys"
  · rename_i hc
    exact absurd rfl hc
  · rename_i hc
    have : memD (.str s) [.str "eq", .str "ne"] = true := by rw [memD_eqne]; rcases hs with rfl | rfl <;> decide +kernel
    have hc2 : (true ^^ memD (.str s) [.str "eq", .str "ne"]) = true := hc
    rw [this] at hc2
    cases hc2
  · exact less_of q rfl
theorem i_whole {i : Int} {M : Mm} {Q : QD} {E : DX} (q : Q (.bl true) M) : spWhole [.int i] M Q E := ⟨_, rfl, .inl ⟨i, rfl, q⟩⟩
local macro_rules | `(tactic| walk_at "y1") => `(tactic| (with_reducible refine i_whole ?_))
def spItem : DSp := fun ds M Q _ => ∃ d, ds = [d] ∧ itemT d ∧ Q (.bl true) M
theorem tms_all : ∀ (ts : List D), (∀ t ∈ ts, tmT t) → ∀ {M : Mm} {g : DG} {te : DE} {δ0 : Y.Env} {p : Addr} {Q : Mm → Prop}, ts.length ≤ 100 →
    (∀ d ∈ ts, ∀ acc (R : QD), R (.bl true) (put M p (.lst acc)) → g d δ0 (put M p (.lst acc)) fun δ' M1 => te δ' M1 R) → Q (put M p (.lst (ts.map fun _ => D.bl true))) → lcD GT g tYesD te δ0 p Q ts (put M p (.lst [])) :=
  fun ts h M g te δ0 p Q hl hs k => lc_fun (f := fun _ => D.bl true) (by rw [sizeLine_eq]; omega) hs k
theorem rd_item (ds : List D) (M : Mm) (Q : QD) (E : DX) (h : spItem ds M Q E) : r_is_item spWhole spTerm { nx := fun _ M' => less Q .non M', rt := less Q } (startD 2 ds) M := by
  obtain ⟨d, rfl, h, q⟩ := h
  have e1 : ("cell" : Str) ≠ "list" ∧ ("cell" : Str) ≠ "tree" ∧ ("list" : Str) ≠ "cell" ∧ ("list" : Str) ≠ "tree" ∧ ("tree" : Str) ≠ "cell" ∧ ("tree" : Str) ≠ "list" := by decide +kernel
  obtain ⟨x1, x2, x3, x4, x5, x6⟩ := e1
  rcases h with ⟨n, a, b, c, rfl, h1, h12, ha, hb, hc⟩ | ⟨a, b, rfl, ha, hb⟩ | ⟨a, rfl, ha⟩
  · show r_is_item _ _ _ [some (.tup [.str "cell", .int n, a, b, c]), none] M
    unfold r_is_item g_WHOLE
    walk_at "ys"
    refine i_isi (t := "tuple") (b := true) rfl (by decide +kernel) ?_
    walk_at "ys"
    · rename_i z
      exact absurd z (by simp)
    refine i_isi (t := "str") (b := true) rfl (by decide +kernel) ?_
    walk_at "ys"
    all_goals first
      | exact less_of q rfl
      | contradiction
      | (exact absurd rfl (by assumption))
      | (rename_i p hp
         refine tms_all [a, b, c] (by simp [ha, hb, hc]) (by simp) ?_ ?_
         · intro d hd acc R hR
           have hT : tmT d := by simp at hd; rcases hd with rfl | rfl | rfl <;> assumption
           walk_at "ys"
           exact hR
         · walk_at "ys"
           rw [Y.drop_put hp]
           refine ⟨_, _, [true, true, true], rfl, rfl, rfl, ?_⟩
           exact less_of q rfl)
  · show r_is_item _ _ _ [some (.tup [.str "list", a, b]), none] M
    unfold r_is_item g_WHOLE
    walk_at "ys"
    refine i_isi (t := "tuple") (b := true) rfl (by decide +kernel) ?_
    walk_at "ys"
    · rename_i z
      exact absurd z (by simp)
    refine i_isi (t := "str") (b := true) rfl (by decide +kernel) ?_
    walk_at "ys"
    all_goals first
      | exact less_of q rfl
      | contradiction
      | (exact absurd rfl (by assumption))
  · show r_is_item _ _ _ [some (.tup [.str "tree", a]), none] M
    unfold r_is_item g_WHOLE
    walk_at "ys"
    refine i_isi (t := "tuple") (b := true) rfl (by decide +kernel) ?_
    walk_at "ys"
    · rename_i z
      exact absurd z (by simp)
    refine i_isi (t := "str") (b := true) rfl (by decide +kernel) ?_
    walk_at "ys"
    all_goals first
      | exact less_of q rfl
      | contradiction
      | (exact absurd rfl (by assumption))
/-- what the items lead to: asked only where no name is unknown -/
def spLed : DSp := fun ds M Q _ => ∃ pu it, ds = [.tup [.tup [], .tup pu, .tup it]] ∧ it.length ≤ 100000 ∧ (∀ i ∈ it, itemT i) ∧ ∀ p, M p = none → Q (.ref p) (put M p (.dct []))
theorem tm_flat {d : D} (h : tmT d) : flatD d = true := by
  rcases h.1 with ⟨i, rfl⟩ | ⟨s, rfl, _⟩ <;> rfl
theorem v_inE {neg : Bool} {d : D} {M : Mm} {Q : QD} (h : tmT d) (q : Q (.bl neg) M) : inD neg d (.tup []) M Q := v_inT ⟨tm_flat h, rfl⟩ (by rw [show memD d [] = false from rfl]; cases neg <;> exact q)
theorem rd_led (ds : List D) (M : Mm) (Q : QD) (E : DX) (h : spLed ds M Q E) : r_led_to { nx := fun _ M' => less Q .non M', rt := less Q } (startD 7 ds) M := by
  obtain ⟨pu, it, rfl, hl, hT, q⟩ := h
  show r_led_to _ [some (.tup [.tup [], .tup pu, .tup it]), none, none, none, none, none, none] M
  obtain ⟨x1, x2, x3, x4, x5, x6⟩ : ("cell" : Str) ≠ "list" ∧ ("cell" : Str) ≠ "tree" ∧ ("list" : Str) ≠ "cell" ∧ ("list" : Str) ≠ "tree" ∧ ("tree" : Str) ≠ "cell" ∧ ("tree" : Str) ≠ "list" := by decide +kernel
  unfold r_led_to
  walk_at "ys"
  rename_i p hp
  refine for_wordG (fun i δ' M' => (∃ a b c, δ' = [some (.tup [.tup [], .tup pu, .tup it]), some (.tup []), a, some (.tup it), some (.ref p), b, c]) ∧ M' = put M p (.dct [])) ⟨⟨_, _, _, rfl⟩, rfl⟩ ?_ ?_ (fun _ _ _ _ => trivial)
  · rintro i d δ' M' hd ⟨⟨a, b, c, rfl⟩, rfl⟩
    walk_at "ys"
    refine for_wordG (fun i δ' M' => (∃ a b c, δ' = [some (.tup [.tup [], .tup pu, .tup it]), some (.tup []), a, some (.tup it), some (.ref p), b, c]) ∧ M' = put M p (.dct [])) ⟨⟨_, _, _, rfl⟩, rfl⟩ ?_ ?_ (fun _ _ _ _ => trivial)
    · rintro j e δ' M' he ⟨⟨a, b, c, rfl⟩, rfl⟩
      rcases hT e (List.mem_of_getElem? he) with ⟨n, t1, t2, t3, rfl, h1, h12, ha, hb, hc⟩ | ⟨t1, t2, rfl, ha, hb⟩ | ⟨t1, rfl, ha⟩
      · walk_at "ys"
        · refine v_inE ha ?_
          walk_at "ys"
          refine for_wordG (fun i δ' M' => (∃ a b c, δ' = [some (.tup [.tup [], .tup pu, .tup it]), some (.tup []), a, some (.tup it), some (.ref p), b, c]) ∧ M' = put M p (.dct [])) ⟨⟨_, _, _, rfl⟩, rfl⟩ ?_ ?_ (fun _ _ _ _ => trivial)
          · rintro k t δ' M' ht ⟨⟨a, b, c, rfl⟩, rfl⟩
            have hT2 : tmT t := by
              have := List.mem_of_getElem? ht
              rw [show cut [D.str "cell", .int n, t1, t2, t3] (some 3) none = [t2, t3] from rfl] at this
              simp at this
              rcases this with rfl | rfl <;> assumption
            walk_at "ys"
            refine v_inE hT2 ?_
            walk_at "ys"
            exact ⟨⟨_, _, _, rfl⟩, rfl⟩
          · rintro δ' M' ⟨⟨a, b, c, rfl⟩, rfl⟩
            exact ⟨⟨_, _, _, rfl⟩, rfl⟩
        · contradiction
      · walk_at "ys"
        · contradiction
        · exact ⟨⟨_, _, _, rfl⟩, rfl⟩
      · walk_at "ys"
        · contradiction
        · exact ⟨⟨_, _, _, rfl⟩, rfl⟩
    · rintro δ' M' ⟨⟨a, b, c, rfl⟩, rfl⟩
      exact ⟨⟨_, _, _, rfl⟩, rfl⟩
  · rintro δ' M' ⟨⟨a, b, c, rfl⟩, rfl⟩
    walk_at "ys"
    exact less_of (q p hp) rfl
end K04


set_option Elab.async false
set_option linter.all false
set_option maxRecDepth 100000
set_option maxHeartbeats 4000000
set_option pp.deepTerms true
set_option pp.maxSteps 3000
/-! the readings of law k04: check_shape, for right shapes -/
namespace K04
open PySem PySem.Spec PyProof.Rows L2 Y YD
local macro_rules | `(tactic| walk_at "y_ne") => `(tactic| first | assumption | exact Ne.symm (by assumption) | ((refine ne_none (M := ?yM) (m := ?ymo) ?ym1 ?ym2); (case ym2 => assumption); (case ym1 => walk_at "y_look")) | ((refine Ne.symm (ne_none (M := ?yM) (m := ?ymo) ?ym1 ?ym2)); (case ym2 => assumption); (case ym1 => walk_at "y_look")) | ((refine ne_none (M := ?yM) (m := ?ymo) ?ym1 (put_none (M := ?yM) (a := ?yma) (m := ?ymo2) ?ym2).2); (case ym2 => assumption); (case ym1 => walk_at "y_look")) | ((refine Ne.symm (ne_none (M := ?yM) (m := ?ymo) ?ym1 (put_none (M := ?yM) (a := ?yma) (m := ?ymo2) ?ym2).2)); (case ym2 => assumption); (case ym1 => walk_at "y_look")))
local macro_rules | `(tactic| walk_at "y_look") => `(tactic| first | assumption | exact put_same | ((with_reducible refine Eq.trans (put_ne ?yn) ?_); (case yn => walk_at "y_ne"); (walk_at "y_look")) | ((with_reducible refine Eq.trans (drop_ne ?yn) ?_); (case yn => walk_at "y_ne"); (walk_at "y_look")))
local macro_rules | `(tactic| walk_at "y_pl") => `(tactic| first | assumption | exact PlL.nil | exact Pl.int _ | exact Pl.non | exact Pl.bl _ | exact Pl.str (by decide +kernel) | ((with_reducible refine PlL.cons ?yp1 ?yp2); (case yp1 => walk_at "y_pl"); (case yp2 => walk_at "y_pl")) | ((with_reducible refine PlL.append ?yp1 ?yp2); (case yp1 => walk_at "y_pl"); (case yp2 => walk_at "y_pl")) | ((with_reducible refine Pl.tup ?yp1); (case yp1 => walk_at "y_pl")) | ((with_reducible refine PlL.mono (j := ?yj) ?yp1 ?yp2); (case yp1 => assumption); (case yp2 => first | decide | omega)) | ((with_reducible refine Pl.mono (j := ?yj) ?yp1 ?yp2); (case yp1 => assumption); (case yp2 => first | decide | omega)))
local macro_rules | `(tactic| walk_at "y_len") => `(tactic| ((try simp only [List.length_append, List.length_cons, List.length_nil, List.length_map, sizeLine_eq] at *); omega))
local macro_rules | `(tactic| walk_at "y_rfl") => `(tactic| first | rfl | (simp only [atI_nn]; rfl))
local macro_rules | `(tactic| walk_at "y_at") => `(tactic| first | exact atI_nn _ 0 | rfl)
local macro_rules | `(tactic| walk_at "y_cond") => `(tactic| first
  | (show (0 : Int) < _; first | decide | assumption | omega)
  | (exact ⟨by first | decide | assumption | omega, by first | decide | assumption | omega⟩)
  | (exact Or.inl ⟨by first | decide | assumption | omega, by first | decide | assumption | omega⟩)
  | (exact Or.inr ⟨by first | decide | assumption | omega, by first | decide | assumption | omega⟩)
  | (exact ⟨by decide, by decide, by decide⟩))
local macro_rules | `(tactic| walk_at "y1") => `(tactic| first
  | (with_reducible first | refine i_seq ?_ | refine i_next ?_ | refine i_asg ?_ | refine i_ret ?_ | refine i_retN ?_ | refine i_drop ?_ | refine i_cont ?_ | refine i_break ?_ | refine i_ifs ?_ | refine i_if ?_ | refine i_and ?_ | refine i_or ?_ | refine i_not ?_ | refine i_test ?_ | refine i_tru ?_ | refine i_andV ?_ | refine i_orV ?_ | refine i_notV ?_ | refine i_bl ?_ | refine i_op ?_ | refine i_chain ?_ | refine i_c ?_ | refine i_cd ?_ | refine i_nil ?_ | refine i_cons ?_ | refine i_call ?_ | refine i_cb ?_ | refine i_tup ?_ | refine i_lst ?_ | refine i_lstM ?_ | refine i_dict ?_ | refine i_frz ?_ | refine i_name ?_ | refine i_gcons ?_ | refine i_gnil ?_ | refine i_gsub ?_ | refine i_par ?_ | refine i_par2 ?_ | refine i_un ?_ | refine i_int ?_ | refine i_slice ?_ | refine i_onone ?_ | refine i_osome ?_ | refine i_bm ?_ | refine i_bm0 ?_ | refine i_get1 ?_ | refine i_get2 ?_ | refine i_del ?_ | refine i_for ?_ | refine i_lc ?_ | refine i_dc ?_ | refine i_yes ?_ | refine i_it ?_ | refine i_rng1 ?_ | refine i_fld ?_ | refine i_sfld ?_ | refine i_meth ?_ | refine i_make ?_ | refine v_I0 ?_ | refine v_plusI ?_ | refine v_eqI ?_ | refine v_eqS ?_ | refine v_isN ?_ | refine v_int ?_ | refine v_abs ?_ | refine v_sliceT ?_ | refine v_sliceL ?_ | refine b_fx ?_ | refine b_tx ?_)
  | ((with_reducible refine i_var (d := ?yd) ?ye0 ?_); (case ye0 => rfl))
  | ((with_reducible refine i_gtup ?ye0 ?_); (case ye0 => rfl))
  | (with_reducible refine iteT ?_)
  | (with_reducible refine iteF ?_)
  | (with_reducible refine b_dec ?_ ?_ <;> intro hc)
  | (with_reducible refine b_ndec ?_ ?_ <;> intro hc)
  | ((with_reducible refine v_subT (d := ?yd) ?ye0 ?_); (case ye0 => rfl))
  | ((with_reducible refine v_subL (d := ?yd) ?ye0 ?_); (case ye0 => rfl))
  | ((with_reducible refine v_subM (ds := ?yds) (d := ?yd) ?ye0 ?ye1 ?_); (case ye0 => (walk_at "y_look")); (case ye1 => rfl))
  | ((with_reducible refine v_setL (ds := ?yds) (j := ?yj) ?ye0 ?ye1 ?_); (case ye0 => (walk_at "y_look")); (case ye1 => rfl))
  | ((with_reducible refine v_I ?ye0 ?_); (case ye0 => (walk_at "y_cond")))
  | ((with_reducible refine i_sz ?ye0 ?_); (case ye0 => (first | exact Nat.le_of_ble_eq_true rfl | (simp only [List.length_append, List.length_cons, List.length_nil, List.length_map, sizeLine_eq] at *; omega))))
  | (with_reducible refine i_new fun yp yhp => ?_)
  | ((with_reducible refine v_app (ds := ?yds) ?ye0 ?ye1 ?_); (case ye0 => (walk_at "y_look")); (case ye1 => (first | (simp only [List.length_append, List.length_cons, List.length_nil, List.length_map, sizeLine_eq] at *; omega))))
  | ((with_reducible refine i_tyL (ds := ?yds) ?ye0 ?_); (case ye0 => (walk_at "y_look")))
  | (with_reducible refine i_tyl ?_)
  | ((with_reducible refine v_subK (kvs := ?ykv) (k := ?yk) (d := ?yd) ?ye0 ?ye1 ?ye2 ?_); (case ye0 => (walk_at "y_look")); (case ye1 => rfl); (case ye2 => first | assumption | rfl))
  | ((with_reducible refine v_plusL (ds := ?yds) (es := ?yes) ?ye0 ?ye1 ?ye2 ?_); (case ye0 => first | rfl | (with_reducible refine lsD_ref (ds := ?yds2) ?yl0; walk_at "y_look")); (case ye1 => first | rfl | (with_reducible refine lsD_ref (ds := ?yds2) ?yl0; walk_at "y_look")); (case ye2 => (simp only [List.length_append, List.length_cons, List.length_nil, List.length_map, sizeLine_eq] at *; omega)))
  | ((with_reducible refine v_plusT ?ye0 ?_); (case ye0 => (simp only [List.length_append, List.length_cons, List.length_nil, List.length_map, sizeLine_eq] at *; omega)))
  | ((with_reducible refine i_rng1d ?ye0 ?_); (case ye0 => (constructor <;> omega)))
  | ((with_reducible refine v_len (n := ?yn) ?ye0 ?_); (case ye0 => first | ((with_reducible refine lenD_ref (ds := ?yds) ?yl0); (case yl0 => walk_at "y_look")) | rfl))
  | ((with_reducible refine v_list (es := ?yes) ?ye0 ?_); (case ye0 => first | (with_reducible refine itD_ref (ds := ?yds) ?yl0; walk_at "y_look") | rfl))
  | ((with_reducible refine v_tuple (es := ?yes) ?ye0 ?_); (case ye0 => first | (with_reducible refine itD_ref (ds := ?yds) ?yl0; walk_at "y_look") | rfl))
  | ((with_reducible refine v_eqP ?ye0 ?ye1 fun yb => ?_); (case ye0 => walk_at "y_pl"); (case ye1 => walk_at "y_pl"))
  | (with_reducible refine b_emp ?_ ?_ <;> intro hc)
  | (with_reducible refine i_trul ?_)
  | (with_reducible refine i_trut ?_)
  | (with_reducible refine i_trub ?_)
  | ((with_reducible refine v_inT ?ye0 ?_); (case ye0 => exact ⟨rfl, rfl⟩))
  | (with_reducible refine b_var ?_ ?_ <;> intro hc)
  | ((with_reducible refine i_its (ds := ?yds) ?ye0 ?_); (case ye0 => rfl)))
local macro_rules | `(tactic| walk_at "y0") => `(tactic| repeat' (walk_at "y1"))
local macro_rules | `(tactic| walk_at "ys") => `(tactic| walk_at "y0")
local macro_rules | `(tactic| walk_at "y_nn") => `(tactic| first | assumption | exact (put_none (by assumption)).2 | exact (put_none (put_none (by assumption)).2).2 | exact (put_none (put_none (put_none (by assumption)).2).2).2)
local macro_rules | `(tactic| walk_at "y_kl1") => `(tactic| first | (with_reducible exact KL.merge) | ((with_reducible refine KL.put (n := ?ykn) ?ykk); (case ykk => walk_at "y_kl1")))
local macro_rules | `(tactic| walk_at "y_kl") => `(tactic| ((refine KL.lt (n := ?yn) ?yk1 ?yk2); (case yk1 => walk_at "y_kl1"); (case yk2 => first | decide | (simp; done))))
local macro_rules | `(tactic| walk_at "y_fr") => `(tactic| first | exact Fr.refl _ _ | assumption | ((refine Fr.put ?yf1 ?yf2); (case yf2 => simp); (case yf1 => walk_at "y_fr")) | ((refine Fr.drop ?yf1 ?yf2); (case yf2 => simp); (case yf1 => walk_at "y_fr")))
local macro_rules | `(tactic| walk_at "y_fin") => `(tactic| first | assumption | rfl | walk_at "y_look" | walk_at "y_pl" | walk_at "y_fr" | omega | walk_at "y_len" | (intros; omega))
local macro_rules | `(tactic| walk_at "y_take") => `(tactic| ((with_reducible refine i_take (t := ?yt) ?yl ?yo ?yb fun yr yt' yr0 yr1 yok => ?_); (case yl => walk_at "y_look"); (case yo => assumption); (case yb => (constructor <;> first | omega | (simp; omega)))))
local macro_rules | `(tactic| walk_at "y_pick") => `(tactic| first | ((with_reducible refine i_pick2 (k := 0) (t := ?yt) ?yl ?yo ?yb ?yP fun yd yt' yP ym yok => ?_); (case yl => walk_at "y_look"); (case yo => assumption); (case yb => (constructor <;> walk_at "y_len")); (case yP => walk_at "y_pl")) | ((with_reducible refine i_pick2 (k := 5) (t := ?yt) ?yl ?yo ?yb ?yP fun yd yt' yP ym yok => ?_); (case yl => walk_at "y_look"); (case yo => assumption); (case yb => (constructor <;> walk_at "y_len")); (case yP => walk_at "y_pl")))
local macro_rules | `(tactic| walk_at "y2") => `(tactic| first | walk_at "y1" | walk_at "y_take" | walk_at "y_pick" | (with_reducible refine i_disp fun yp yhp => ?_) | (with_reducible refine i_pcons ?_) | (with_reducible refine i_pnil ?_) | (with_reducible refine i_mut ?_) | ((with_reducible refine v_inT' ?ye0 ?ye1 fun yb => ?_); (case ye0 => walk_at "y_pl"); (case ye1 => walk_at "y_pl")) | ((with_reducible refine v_setK (kvs := ?ykv) (k := ?yk) ?ye0 ?ye1 ?ye2 ?_); (case ye0 => walk_at "y_look"); (case ye1 => rfl); (case ye2 => walk_at "y_kl")) | ((with_reducible refine i_mutd (ds := ?yds) ?ye0 ?_); (case ye0 => walk_at "y_look")) | ((with_reducible refine i_glst' ?ye0 ?_); (case ye0 => rfl)))
local macro_rules | `(tactic| walk_at "ys") => `(tactic| repeat' (walk_at "y2"))
local macro_rules | `(tactic| walk_at "y1") => `(tactic| (with_reducible first | refine i_callX ?_ | refine i_methX ?_ | refine i_raise ?_ | refine i_tryAs ?_ | refine i_tryOnly ?_ | refine i_xf ?_ | refine i_isE ?_ | refine i_zip ?_ | refine i_enum ?_ | refine i_rev ?_))
local macro_rules | `(tactic| walk_at "y1") => `(tactic| ((with_reducible refine v_subLk (kvs := ?ykv) (k := ?yk) (d := ?yd) (od := ?yod) (xs := ?yxs) ?ye0 ?ye1 ?ye2 ?_); (case ye0 => (walk_at "y_look")); (case ye1 => rfl); (case ye2 => first | assumption | rfl)))
local macro_rules | `(tactic| walk_at "y1") => `(tactic| first
  | (with_reducible first | refine v_isT ?_ | refine v_isF ?_ | refine iteNT ?_ | refine iteNF ?_)
  | ((with_reducible refine v_isNF ?ye0 ?_); (case ye0 => rfl))
  | ((with_reducible refine v_isNT ?ye0 ?_); (case ye0 => rfl)))
/-- all of a comprehension that is true throughout -/
theorem all_true {ds : List D} {g : DG} {te : DE} {δ0 : Y.Env} {p : Addr} {M : Mm} {Q : Mm → Prop} (hl : ds.length ≤ 1000000) (hs : ∀ d ∈ ds, ∀ acc (R : QD), R (.bl true) (put M p (.lst acc)) → g d δ0 (put M p (.lst acc)) fun δ' M1 => te δ' M1 R) (k : Q (put M p (.lst (ds.map fun _ => D.bl true)))) : lcD GT g tYesD te δ0 p Q ds (put M p (.lst [])) :=
  lc_fun (f := fun _ => D.bl true) (by rw [sizeLine_eq]; omega) hs k
theorem all_bls (ds : List D) : blsD (ds.map fun _ => D.bl true) = some (ds.map fun _ => true) := blsD_map ds fun _ => true
theorem all_id (ds : List D) : (ds.map fun _ => true).all id = true := by simp
theorem rd_check (CI : Addr) (ds : List D) (M : Mm) (Q : QD) (E : DX) (h : spCheck ds M Q E) : r_check_shape (fun _ => lessX E) CI spName spFact spItem spLed { nx := fun _ M' => less Q .non M', rt := less Q } (startD 9 ds) M := by
  obtain ⟨d, rfl, ⟨pu, it, rfl, hl1, hl2, hf, hi⟩, q⟩ := h
  show r_check_shape _ _ _ _ _ _ _ [some (.tup [.tup [], .tup pu, .tup it]), none, none, none, none, none, none, none, none] M
  unfold r_check_shape
  walk_at "ys"
  refine i_isi (t := "tuple") (b := true) rfl (by decide +kernel) ?_
  walk_at "ys"
  · rename_i hc
    exact absurd rfl hc
  rename_i hc p1 hp1
  refine all_true (by simp) ?_ ?_
  · intro d hd acc R hR
    have ht : typD d (put M p1 (.lst acc)) = some "tuple" := by simp at hd; rcases hd with rfl | rfl | rfl <;> rfl
    walk_at "ys"
    refine i_isi ht (b := true) (by decide +kernel) ?_
    walk_at "ys"
    exact hR
  walk_at "ys"
  rw [Y.drop_put hp1]
  refine ⟨_, _, _, rfl, rfl, all_bls _, ?_⟩
  rw [all_id]
  walk_at "ys"
  rename_i p2 hp2
  refine all_true (by simp) (fun d hd => nomatch hd) ?_
  walk_at "ys"
  rw [Y.drop_put hp2]
  refine ⟨_, _, _, rfl, rfl, all_bls _, ?_⟩
  rw [all_id]
  walk_at "ys"
  rename_i p3 hp3
  refine ⟨trivial, ?_⟩
  walk_at "ys"
  refine ⟨.ref p3, 0, rfl, by simp [lenD, put_same], ?_⟩
  walk_at "ys"
  · rename_i hc
    exact absurd hc (by decide)
  rename_i hc3 p4 hp4
  refine all_true (by omega) ?_ ?_
  · intro d hd acc R hR
    walk_at "ys"
    refine ⟨d, rfl, hf d hd, ?_⟩
    walk_at "ys"
    exact hR
  walk_at "ys"
  rw [Y.drop_put hp4]
  refine ⟨_, _, _, rfl, rfl, all_bls _, ?_⟩
  rw [all_id]
  walk_at "ys"
  rename_i p5 hp5
  refine all_true (by omega) ?_ ?_
  · intro d hd acc R hR
    walk_at "ys"
    refine ⟨d, rfl, hi d hd, ?_⟩
    walk_at "ys"
    exact hR
  walk_at "ys"
  rw [Y.drop_put hp5]
  refine ⟨_, _, _, rfl, rfl, all_bls _, ?_⟩
  rw [all_id]
  walk_at "ys"
  refine ⟨pu, it, rfl, hl2, hi, fun p6 hp6 => ?_⟩
  walk_at "ys"
  rename_i p7 hp7
  refine all_true (by simp) (fun d hd => nomatch hd) ?_
  walk_at "ys"
  rw [Y.drop_put hp7]
  refine ⟨_, _, _, rfl, rfl, all_bls _, ?_⟩
  rw [all_id]
  walk_at "ys"
  exact less_fr0 q (L := [p3, p6]) (by walk_at "y_fr") (by simp [hp3, (put_none hp6).2])
end K04


set_option Elab.async false
set_option linter.all false
set_option maxRecDepth 100000
set_option maxHeartbeats 4000000
set_option pp.deepTerms true
set_option pp.maxSteps 3000
/-! the readings of law k04: assertions -/
namespace K04
open PySem PySem.Spec PyProof.Rows L2 Y YD
local macro_rules | `(tactic| walk_at "y_ne") => `(tactic| first | assumption | exact Ne.symm (by assumption) | ((refine ne_none (M := ?yM) (m := ?ymo) ?ym1 ?ym2); (case ym2 => assumption); (case ym1 => walk_at "y_look")) | ((refine Ne.symm (ne_none (M := ?yM) (m := ?ymo) ?ym1 ?ym2)); (case ym2 => assumption); (case ym1 => walk_at "y_look")) | ((refine ne_none (M := ?yM) (m := ?ymo) ?ym1 (put_none (M := ?yM) (a := ?yma) (m := ?ymo2) ?ym2).2); (case ym2 => assumption); (case ym1 => walk_at "y_look")) | ((refine Ne.symm (ne_none (M := ?yM) (m := ?ymo) ?ym1 (put_none (M := ?yM) (a := ?yma) (m := ?ymo2) ?ym2).2)); (case ym2 => assumption); (case ym1 => walk_at "y_look")))
local macro_rules | `(tactic| walk_at "y_look") => `(tactic| first | assumption | exact put_same | ((with_reducible refine Eq.trans (put_ne ?yn) ?_); (case yn => walk_at "y_ne"); (walk_at "y_look")) | ((with_reducible refine Eq.trans (drop_ne ?yn) ?_); (case yn => walk_at "y_ne"); (walk_at "y_look")))
local macro_rules | `(tactic| walk_at "y_pl") => `(tactic| first | assumption | exact PlL.nil | exact Pl.int _ | exact Pl.non | exact Pl.bl _ | exact Pl.str (by decide +kernel) | ((with_reducible refine PlL.cons ?yp1 ?yp2); (case yp1 => walk_at "y_pl"); (case yp2 => walk_at "y_pl")) | ((with_reducible refine PlL.append ?yp1 ?yp2); (case yp1 => walk_at "y_pl"); (case yp2 => walk_at "y_pl")) | ((with_reducible refine Pl.tup ?yp1); (case yp1 => walk_at "y_pl")) | ((with_reducible refine PlL.mono (j := ?yj) ?yp1 ?yp2); (case yp1 => assumption); (case yp2 => first | decide | omega)) | ((with_reducible refine Pl.mono (j := ?yj) ?yp1 ?yp2); (case yp1 => assumption); (case yp2 => first | decide | omega)))
local macro_rules | `(tactic| walk_at "y_len") => `(tactic| ((try simp only [List.length_append, List.length_cons, List.length_nil, List.length_map, sizeLine_eq] at *); omega))
local macro_rules | `(tactic| walk_at "y_rfl") => `(tactic| first | rfl | (simp only [atI_nn]; rfl))
local macro_rules | `(tactic| walk_at "y_at") => `(tactic| first | exact atI_nn _ 0 | rfl)
local macro_rules | `(tactic| walk_at "y_cond") => `(tactic| first
  | (show (0 : Int) < _; first | decide | assumption | omega)
  | (exact ⟨by first | decide | assumption | omega, by first | decide | assumption | omega⟩)
  | (exact Or.inl ⟨by first | decide | assumption | omega, by first | decide | assumption | omega⟩)
  | (exact Or.inr ⟨by first | decide | assumption | omega, by first | decide | assumption | omega⟩)
  | (exact ⟨by decide, by decide, by decide⟩))
local macro_rules | `(tactic| walk_at "y1") => `(tactic| first
  | (with_reducible first | refine i_seq ?_ | refine i_next ?_ | refine i_asg ?_ | refine i_ret ?_ | refine i_retN ?_ | refine i_drop ?_ | refine i_cont ?_ | refine i_break ?_ | refine i_ifs ?_ | refine i_if ?_ | refine i_and ?_ | refine i_or ?_ | refine i_not ?_ | refine i_test ?_ | refine i_tru ?_ | refine i_andV ?_ | refine i_orV ?_ | refine i_notV ?_ | refine i_bl ?_ | refine i_op ?_ | refine i_chain ?_ | refine i_c ?_ | refine i_cd ?_ | refine i_nil ?_ | refine i_cons ?_ | refine i_call ?_ | refine i_cb ?_ | refine i_tup ?_ | refine i_lst ?_ | refine i_lstM ?_ | refine i_dict ?_ | refine i_frz ?_ | refine i_name ?_ | refine i_gcons ?_ | refine i_gnil ?_ | refine i_gsub ?_ | refine i_par ?_ | refine i_par2 ?_ | refine i_un ?_ | refine i_int ?_ | refine i_slice ?_ | refine i_onone ?_ | refine i_osome ?_ | refine i_bm ?_ | refine i_bm0 ?_ | refine i_get1 ?_ | refine i_get2 ?_ | refine i_del ?_ | refine i_for ?_ | refine i_lc ?_ | refine i_dc ?_ | refine i_yes ?_ | refine i_it ?_ | refine i_rng1 ?_ | refine i_fld ?_ | refine i_sfld ?_ | refine i_meth ?_ | refine i_make ?_ | refine v_I0 ?_ | refine v_plusI ?_ | refine v_eqI ?_ | refine v_eqS ?_ | refine v_isN ?_ | refine v_int ?_ | refine v_abs ?_ | refine v_sliceT ?_ | refine v_sliceL ?_ | refine b_fx ?_ | refine b_tx ?_)
  | ((with_reducible refine i_var (d := ?yd) ?ye0 ?_); (case ye0 => rfl))
  | ((with_reducible refine i_gtup ?ye0 ?_); (case ye0 => rfl))
  | (with_reducible refine iteT ?_)
  | (with_reducible refine iteF ?_)
  | (with_reducible refine b_dec ?_ ?_ <;> intro hc)
  | (with_reducible refine b_ndec ?_ ?_ <;> intro hc)
  | ((with_reducible refine v_subT (d := ?yd) ?ye0 ?_); (case ye0 => rfl))
  | ((with_reducible refine v_subL (d := ?yd) ?ye0 ?_); (case ye0 => rfl))
  | ((with_reducible refine v_subM (ds := ?yds) (d := ?yd) ?ye0 ?ye1 ?_); (case ye0 => (walk_at "y_look")); (case ye1 => rfl))
  | ((with_reducible refine v_setL (ds := ?yds) (j := ?yj) ?ye0 ?ye1 ?_); (case ye0 => (walk_at "y_look")); (case ye1 => rfl))
  | ((with_reducible refine v_I ?ye0 ?_); (case ye0 => (walk_at "y_cond")))
  | ((with_reducible refine i_sz ?ye0 ?_); (case ye0 => (first | exact Nat.le_of_ble_eq_true rfl | (simp only [List.length_append, List.length_cons, List.length_nil, List.length_map, sizeLine_eq] at *; omega))))
  | (with_reducible refine i_new fun yp yhp => ?_)
  | ((with_reducible refine v_app (ds := ?yds) ?ye0 ?ye1 ?_); (case ye0 => (walk_at "y_look")); (case ye1 => (first | (simp only [List.length_append, List.length_cons, List.length_nil, List.length_map, sizeLine_eq] at *; omega))))
  | ((with_reducible refine i_tyL (ds := ?yds) ?ye0 ?_); (case ye0 => (walk_at "y_look")))
  | (with_reducible refine i_tyl ?_)
  | ((with_reducible refine v_subK (kvs := ?ykv) (k := ?yk) (d := ?yd) ?ye0 ?ye1 ?ye2 ?_); (case ye0 => (walk_at "y_look")); (case ye1 => rfl); (case ye2 => first | assumption | rfl))
  | ((with_reducible refine v_plusL (ds := ?yds) (es := ?yes) ?ye0 ?ye1 ?ye2 ?_); (case ye0 => first | rfl | (with_reducible refine lsD_ref (ds := ?yds2) ?yl0; walk_at "y_look")); (case ye1 => first | rfl | (with_reducible refine lsD_ref (ds := ?yds2) ?yl0; walk_at "y_look")); (case ye2 => (simp only [List.length_append, List.length_cons, List.length_nil, List.length_map, sizeLine_eq] at *; omega)))
  | ((with_reducible refine v_plusT ?ye0 ?_); (case ye0 => (simp only [List.length_append, List.length_cons, List.length_nil, List.length_map, sizeLine_eq] at *; omega)))
  | ((with_reducible refine i_rng1d ?ye0 ?_); (case ye0 => (constructor <;> omega)))
  | ((with_reducible refine v_len (n := ?yn) ?ye0 ?_); (case ye0 => first | ((with_reducible refine lenD_ref (ds := ?yds) ?yl0); (case yl0 => walk_at "y_look")) | rfl))
  | ((with_reducible refine v_list (es := ?yes) ?ye0 ?_); (case ye0 => first | (with_reducible refine itD_ref (ds := ?yds) ?yl0; walk_at "y_look") | rfl))
  | ((with_reducible refine v_tuple (es := ?yes) ?ye0 ?_); (case ye0 => first | (with_reducible refine itD_ref (ds := ?yds) ?yl0; walk_at "y_look") | rfl))
  | ((with_reducible refine v_eqP ?ye0 ?ye1 fun yb => ?_); (case ye0 => walk_at "y_pl"); (case ye1 => walk_at "y_pl"))
  | (with_reducible refine b_emp ?_ ?_ <;> intro hc)
  | (with_reducible refine i_trul ?_)
  | (with_reducible refine i_trut ?_)
  | (with_reducible refine i_trub ?_)
  | ((with_reducible refine v_inT ?ye0 ?_); (case ye0 => exact ⟨rfl, rfl⟩))
  | (with_reducible refine b_var ?_ ?_ <;> intro hc)
  | ((with_reducible refine i_its (ds := ?yds) ?ye0 ?_); (case ye0 => rfl)))
local macro_rules | `(tactic| walk_at "y0") => `(tactic| repeat' (walk_at "y1"))
local macro_rules | `(tactic| walk_at "ys") => `(tactic| walk_at "y0")
local macro_rules | `(tactic| walk_at "y_nn") => `(tactic| first | assumption | exact (put_none (by assumption)).2 | exact (put_none (put_none (by assumption)).2).2 | exact (put_none (put_none (put_none (by assumption)).2).2).2)
local macro_rules | `(tactic| walk_at "y_kl1") => `(tactic| first | (with_reducible exact KL.merge) | ((with_reducible refine KL.put (n := ?ykn) ?ykk); (case ykk => walk_at "y_kl1")))
local macro_rules | `(tactic| walk_at "y_kl") => `(tactic| ((refine KL.lt (n := ?yn) ?yk1 ?yk2); (case yk1 => walk_at "y_kl1"); (case yk2 => first | decide | (simp; done))))
local macro_rules | `(tactic| walk_at "y_fr") => `(tactic| first | exact Fr.refl _ _ | assumption | ((refine Fr.put ?yf1 ?yf2); (case yf2 => simp); (case yf1 => walk_at "y_fr")) | ((refine Fr.drop ?yf1 ?yf2); (case yf2 => simp); (case yf1 => walk_at "y_fr")))
local macro_rules | `(tactic| walk_at "y_fin") => `(tactic| first | assumption | rfl | walk_at "y_look" | walk_at "y_pl" | walk_at "y_fr" | omega | walk_at "y_len" | (intros; omega))
local macro_rules | `(tactic| walk_at "y_take") => `(tactic| ((with_reducible refine i_take (t := ?yt) ?yl ?yo ?yb fun yr yt' yr0 yr1 yok => ?_); (case yl => walk_at "y_look"); (case yo => assumption); (case yb => (constructor <;> first | omega | (simp; omega)))))
local macro_rules | `(tactic| walk_at "y_pick") => `(tactic| first | ((with_reducible refine i_pick2 (k := 0) (t := ?yt) ?yl ?yo ?yb ?yP fun yd yt' yP ym yok => ?_); (case yl => walk_at "y_look"); (case yo => assumption); (case yb => (constructor <;> walk_at "y_len")); (case yP => walk_at "y_pl")) | ((with_reducible refine i_pick2 (k := 5) (t := ?yt) ?yl ?yo ?yb ?yP fun yd yt' yP ym yok => ?_); (case yl => walk_at "y_look"); (case yo => assumption); (case yb => (constructor <;> walk_at "y_len")); (case yP => walk_at "y_pl")))
local macro_rules | `(tactic| walk_at "y2") => `(tactic| first | walk_at "y1" | walk_at "y_take" | walk_at "y_pick" | (with_reducible refine i_disp fun yp yhp => ?_) | (with_reducible refine i_pcons ?_) | (with_reducible refine i_pnil ?_) | (with_reducible refine i_mut ?_) | ((with_reducible refine v_inT' ?ye0 ?ye1 fun yb => ?_); (case ye0 => walk_at "y_pl"); (case ye1 => walk_at "y_pl")) | ((with_reducible refine v_setK (kvs := ?ykv) (k := ?yk) ?ye0 ?ye1 ?ye2 ?_); (case ye0 => walk_at "y_look"); (case ye1 => rfl); (case ye2 => walk_at "y_kl")) | ((with_reducible refine i_mutd (ds := ?yds) ?ye0 ?_); (case ye0 => walk_at "y_look")) | ((with_reducible refine i_glst' ?ye0 ?_); (case ye0 => rfl)))
local macro_rules | `(tactic| walk_at "ys") => `(tactic| repeat' (walk_at "y2"))
local macro_rules | `(tactic| walk_at "y1") => `(tactic| (with_reducible first | refine i_callX ?_ | refine i_methX ?_ | refine i_raise ?_ | refine i_tryAs ?_ | refine i_tryOnly ?_ | refine i_xf ?_ | refine i_isE ?_ | refine i_zip ?_ | refine i_enum ?_ | refine i_rev ?_))
local macro_rules | `(tactic| walk_at "y1") => `(tactic| ((with_reducible refine v_subLk (kvs := ?ykv) (k := ?yk) (d := ?yd) (od := ?yod) (xs := ?yxs) ?ye0 ?ye1 ?ye2 ?_); (case ye0 => (walk_at "y_look")); (case ye1 => rfl); (case ye2 => first | assumption | rfl)))
local macro_rules | `(tactic| walk_at "y1") => `(tactic| first
  | (with_reducible first | refine v_isT ?_ | refine v_isF ?_ | refine iteNT ?_ | refine iteNF ?_)
  | ((with_reducible refine v_isNF ?ye0 ?_); (case ye0 => rfl))
  | ((with_reducible refine v_isNT ?ye0 ?_); (case ye0 => rfl)))
def rAw : Nat → List Str → List D → Except (List Str) (List D × List Str)
  | 0, us, _ => .error us
  | n + 1, us, found => if us.headD "" = "or" then bindE (rShape us.tail) fun p => rAw n p.2 (found ++ [p.1]) else .ok (found, us)
def rAss (us : List Str) : Except (List Str) (List D × List Str) := bindE (rShape us) fun p => rAw (p.2.length + 1) p.2 [p.1]
def spAss (C CT : Addr) : DSp := fun ds M Q E => ∃ r dx ws us, ds = [.ref r] ∧ Rd M r C dx ws us ∧ (∀ ls u, rAss us = .ok (ls, u) → u <:+ us → Q (.tup ls) (put M r (rdO C dx ws u))) ∧ ∀ u, rAss us = .error u → E (.ref CT) (frm ws u) (Y.drop M r)
section
variable {K : PySem.W.Frag} {C : Addr} (hC : Cls K C) (n1 : NoAttr K C "_words") (n2 : NoAttr K C "at")
local macro_rules | `(tactic| walk_at "y1") => `(tactic| first
  | (with_reducible refine v_inS ?_)
  | (with_reducible refine v_inSN ?_)
  | (with_reducible refine i_tyS ?_)
  | ((with_reducible refine v_lenS ?ye0 ?_); (case ye0 => (rw [sizeLine_eq]; omega)))
  | (with_reducible refine i_itS ?_)
  | ((with_reducible refine i_aug (x := ?yx) ?ye0 ?_); (case ye0 => rfl))
  | (with_reducible refine i_faug ?_)
  | ((with_reducible refine i_fend (dx := ?ydx) (fs := ?yfs) ?ye0 ?ye1 ?_); (case ye0 => walk_at "y_look"); (case ye1 => (first | decide | (simp; done))))
  | ((with_reducible refine i_fldd (C := ?yC) (dx := ?ydx) (fs := ?yfs) (d := ?yd) ?ye0 ?ye1 ?ye2 ?ye3 ?_); (case ye0 => walk_at "y_look"); (case ye1 => assumption); (case ye2 => assumption); (case ye3 => rfl))
  | ((with_reducible refine i_fldg (C := ?yC) (dx := ?ydx) (fs := ?yfs) (d := ?yd) ?ye0 ?ye1 ?ye2 ?ye3 ?_); (case ye0 => walk_at "y_look"); (case ye1 => assumption); (case ye2 => assumption); (case ye3 => rfl))
  | ((with_reducible refine i_methd (dx := ?ydx) (fs := ?yfs) ?ye0 ?ye3 ?_); (case ye0 => walk_at "y_look"); (case ye3 => rfl)))
include hC n1 n2
def asC (C : Addr) : DT := dTru (dMeth C "skip" (spSkip C) (dVar 0) (dCons (dC (.str "or")) (dNil)))
def asB (W : DW) (C CT : Addr) : DS := dDrop (dBM "list" mAppend (dVar 1) (dCons (dCallX W (spRd C CT rShape) (dCons (dVar 0) (dNil))) (dNil)))
theorem as_loop {CT r dx p : Addr} {ws us0 : List Str} {M : Mm} {EX : DX} {E : DEnds} (h0 : Rd M r C dx ws us0) (hp : M p = none) : ∀ (n : Nat) (us : List Str) (found : List D), us.length < n → us <:+ us0 → found.length + us.length ≤ 2000000 →
    (∀ ls u, rAw n us found = .ok (ls, u) → u <:+ us0 → E.nx [some (.ref r), some (.ref p)] (put (put M r (rdO C dx ws u)) p (.lst ls))) → (∀ u, rAw n us found = .error u → EX (.ref CT) (frm ws u) (Y.drop M r)) →
    whileD (asC C) (asB (fun _ => lessX EX) C CT) E n [some (.ref r), some (.ref p)] (put (put M r (rdO C dx ws us)) p (.lst found)) := by
  have hrp : r ≠ p := ne_none h0.m hp
  intro n
  induction n with
  | zero => intro us found h; omega
  | succ n ih =>
    intro us found hn hs hz k1 k2
    refine ⟨fun δ' M' => whileD (asC C) (asB (fun _ => lessX EX) C CT) E n δ' M', fun _ _ h => h, ?_⟩
    obtain ⟨N, hN⟩ : ∃ N : Y.Env → Mm → Prop, N = fun δ' M' => whileD (asC C) (asB (fun _ => lessX EX) C CT) E n δ' M' := ⟨_, rfl⟩
    rw [← hN]
    have hR : Rd (put (put M r (rdO C dx ws us)) p (.lst found)) r C dx ws us := ⟨by rw [put_ne hrp]; exact put_same, hs.trans h0.s, h0.n, h0.ok⟩
    have hm := hR.m
    unfold rdO at hm
    have er : rAw (n + 1) us found = if us.headD "" = "or" then bindE (rShape us.tail) fun p => rAw n p.2 (found ++ [p.1]) else .ok (found, us) := rfl
    rw [er] at k1 k2
    unfold asC
    walk_at "ys"
    refine ⟨r, dx, ws, us, "or", rfl, hR, by decide +kernel, fun u e => ?_, fun ne => ?_⟩
    · have e1 : us.headD "" = "or" := by rw [e]; rfl
      have e2 : us.tail = u := by rw [e]; rfl
      simp only [if_pos e1, e2] at k1 k2
      have su : u <:+ us0 := (e2 ▸ tail_suf us : u <:+ us).trans hs
      have hlu : u.length < us.length := by rw [e]; simp
      rw [put2 hrp]
      have hR2 : Rd (put (put M r (rdO C dx ws u)) p (.lst found)) r C dx ws u := ⟨by rw [put_ne hrp]; exact put_same, su.trans h0.s, h0.n, h0.ok⟩
      unfold asB
      walk_at "ys"
      refine ⟨r, dx, ws, u, rfl, hR2, fun d u2 e3 => ?_, fun u2 e3 => errL (L := [p]) (k2 u2 (by rw [e3]; rfl)) (by walk_at "y_fr") (by simp [hp])⟩
      rw [e3] at k1 k2
      simp only [bindE_ok] at k1 k2
      have s2 := shape_suf e3
      rw [put2 hrp]
      have hfl : found.length ≤ 2000000 := by omega
      walk_at "ys"
      rw [put_put, hN]
      have hl2 := s2.length_le
      exact ih u2 (found ++ [d]) (by omega) (s2.trans su) (by simp; omega) k1 k2
    · walk_at "ys"
      rw [if_neg ne] at k1
      exact k1 _ _ rfl hs
theorem rd_ass (CT : Addr) (ds : List D) (M : Mm) (Q : QD) (E : DX) (h : spAss C CT ds M Q E) : r_read_assertion (fun _ => lessX E) (spRd C CT rShape) C (spSkip C) { nx := fun _ M' => less Q .non M', rt := less Q } (startD 2 ds) M := by
  obtain ⟨r, dx, ws, us, rfl, h, q1, q2⟩ := h
  show r_read_assertion _ _ _ _ _ [some (.ref r), none] M
  unfold rAss at q1 q2
  unfold r_read_assertion
  have noL : ∀ p ∈ ([] : List Addr), M p = none := fun _ z => nomatch z
  walk_at "ys"
  refine ⟨r, dx, ws, us, rfl, h, fun d u e => ?_, fun u e => errL (L := []) (q2 u (by rw [e]; rfl)) (Fr.refl _ _) noL⟩
  rw [e] at q1 q2
  simp only [bindE_ok] at q1 q2
  have s1 := shape_suf e
  have hl := h.le
  have hn := h.n
  have hl1 := s1.length_le
  walk_at "ys"
  rename_i p hp
  have hp' := put_none hp
  refine ⟨u.length + 1, ?_⟩
  have key := as_loop hC n1 n2 (CT := CT) (EX := E) (E := { nx := dRet (dCB cTuple (dCons (dVar 1) dNil)) { nx := fun _ M' => less Q .non M', rt := less Q }, rt := less Q }) h hp'.2 (u.length + 1) u [d] (by omega) s1 (by simp; omega) (fun ls u2 e2 hs => ?_) (fun u2 e2 => q2 u2 e2)
  · exact key
  · walk_at "ys"
    refine ⟨put M r (rdO C dx ws u2), fun b n hb => ?_, q1 ls u2 e2 hs⟩
    have hrp : r ≠ p := hp'.1.symm
    by_cases z : b = p
    · subst z
      rw [put_ne hrp.symm, hp'.2] at hb
      cases hb
    · rw [put_ne z]; exact hb
end
end K04


set_option Elab.async false
set_option linter.all false
set_option maxRecDepth 100000
set_option maxHeartbeats 4000000
set_option pp.deepTerms true
set_option pp.maxSteps 3000
/-! the readings of law k04: parse_assertion, told -/
namespace K04
open PySem PySem.Spec PyProof.Rows L2 Y YD
local macro_rules | `(tactic| walk_at "y_ne") => `(tactic| first | assumption | exact Ne.symm (by assumption) | ((refine ne_none (M := ?yM) (m := ?ymo) ?ym1 ?ym2); (case ym2 => assumption); (case ym1 => walk_at "y_look")) | ((refine Ne.symm (ne_none (M := ?yM) (m := ?ymo) ?ym1 ?ym2)); (case ym2 => assumption); (case ym1 => walk_at "y_look")) | ((refine ne_none (M := ?yM) (m := ?ymo) ?ym1 (put_none (M := ?yM) (a := ?yma) (m := ?ymo2) ?ym2).2); (case ym2 => assumption); (case ym1 => walk_at "y_look")) | ((refine Ne.symm (ne_none (M := ?yM) (m := ?ymo) ?ym1 (put_none (M := ?yM) (a := ?yma) (m := ?ymo2) ?ym2).2)); (case ym2 => assumption); (case ym1 => walk_at "y_look")))
local macro_rules | `(tactic| walk_at "y_look") => `(tactic| first | assumption | exact put_same | ((with_reducible refine Eq.trans (put_ne ?yn) ?_); (case yn => walk_at "y_ne"); (walk_at "y_look")) | ((with_reducible refine Eq.trans (drop_ne ?yn) ?_); (case yn => walk_at "y_ne"); (walk_at "y_look")))
local macro_rules | `(tactic| walk_at "y_pl") => `(tactic| first | assumption | exact PlL.nil | exact Pl.int _ | exact Pl.non | exact Pl.bl _ | exact Pl.str (by decide +kernel) | ((with_reducible refine PlL.cons ?yp1 ?yp2); (case yp1 => walk_at "y_pl"); (case yp2 => walk_at "y_pl")) | ((with_reducible refine PlL.append ?yp1 ?yp2); (case yp1 => walk_at "y_pl"); (case yp2 => walk_at "y_pl")) | ((with_reducible refine Pl.tup ?yp1); (case yp1 => walk_at "y_pl")) | ((with_reducible refine PlL.mono (j := ?yj) ?yp1 ?yp2); (case yp1 => assumption); (case yp2 => first | decide | omega)) | ((with_reducible refine Pl.mono (j := ?yj) ?yp1 ?yp2); (case yp1 => assumption); (case yp2 => first | decide | omega)))
local macro_rules | `(tactic| walk_at "y_len") => `(tactic| ((try simp only [List.length_append, List.length_cons, List.length_nil, List.length_map, sizeLine_eq] at *); omega))
local macro_rules | `(tactic| walk_at "y_rfl") => `(tactic| first | rfl | (simp only [atI_nn]; rfl))
local macro_rules | `(tactic| walk_at "y_at") => `(tactic| first | exact atI_nn _ 0 | rfl)
local macro_rules | `(tactic| walk_at "y_cond") => `(tactic| first
  | (show (0 : Int) < _; first | decide | assumption | omega)
  | (exact ⟨by first | decide | assumption | omega, by first | decide | assumption | omega⟩)
  | (exact Or.inl ⟨by first | decide | assumption | omega, by first | decide | assumption | omega⟩)
  | (exact Or.inr ⟨by first | decide | assumption | omega, by first | decide | assumption | omega⟩)
  | (exact ⟨by decide, by decide, by decide⟩))
local macro_rules | `(tactic| walk_at "y1") => `(tactic| first
  | (with_reducible first | refine i_seq ?_ | refine i_next ?_ | refine i_asg ?_ | refine i_ret ?_ | refine i_retN ?_ | refine i_drop ?_ | refine i_cont ?_ | refine i_break ?_ | refine i_ifs ?_ | refine i_if ?_ | refine i_and ?_ | refine i_or ?_ | refine i_not ?_ | refine i_test ?_ | refine i_tru ?_ | refine i_andV ?_ | refine i_orV ?_ | refine i_notV ?_ | refine i_bl ?_ | refine i_op ?_ | refine i_chain ?_ | refine i_c ?_ | refine i_cd ?_ | refine i_nil ?_ | refine i_cons ?_ | refine i_call ?_ | refine i_cb ?_ | refine i_tup ?_ | refine i_lst ?_ | refine i_lstM ?_ | refine i_dict ?_ | refine i_frz ?_ | refine i_name ?_ | refine i_gcons ?_ | refine i_gnil ?_ | refine i_gsub ?_ | refine i_par ?_ | refine i_par2 ?_ | refine i_un ?_ | refine i_int ?_ | refine i_slice ?_ | refine i_onone ?_ | refine i_osome ?_ | refine i_bm ?_ | refine i_bm0 ?_ | refine i_get1 ?_ | refine i_get2 ?_ | refine i_del ?_ | refine i_for ?_ | refine i_lc ?_ | refine i_dc ?_ | refine i_yes ?_ | refine i_it ?_ | refine i_rng1 ?_ | refine i_fld ?_ | refine i_sfld ?_ | refine i_meth ?_ | refine i_make ?_ | refine v_I0 ?_ | refine v_plusI ?_ | refine v_eqI ?_ | refine v_eqS ?_ | refine v_isN ?_ | refine v_int ?_ | refine v_abs ?_ | refine v_sliceT ?_ | refine v_sliceL ?_ | refine b_fx ?_ | refine b_tx ?_)
  | ((with_reducible refine i_var (d := ?yd) ?ye0 ?_); (case ye0 => rfl))
  | ((with_reducible refine i_gtup ?ye0 ?_); (case ye0 => rfl))
  | (with_reducible refine iteT ?_)
  | (with_reducible refine iteF ?_)
  | (with_reducible refine b_dec ?_ ?_ <;> intro hc)
  | (with_reducible refine b_ndec ?_ ?_ <;> intro hc)
  | ((with_reducible refine v_subT (d := ?yd) ?ye0 ?_); (case ye0 => rfl))
  | ((with_reducible refine v_subL (d := ?yd) ?ye0 ?_); (case ye0 => rfl))
  | ((with_reducible refine v_subM (ds := ?yds) (d := ?yd) ?ye0 ?ye1 ?_); (case ye0 => (walk_at "y_look")); (case ye1 => rfl))
  | ((with_reducible refine v_setL (ds := ?yds) (j := ?yj) ?ye0 ?ye1 ?_); (case ye0 => (walk_at "y_look")); (case ye1 => rfl))
  | ((with_reducible refine v_I ?ye0 ?_); (case ye0 => (walk_at "y_cond")))
  | ((with_reducible refine i_sz ?ye0 ?_); (case ye0 => (first | exact Nat.le_of_ble_eq_true rfl | (simp only [List.length_append, List.length_cons, List.length_nil, List.length_map, sizeLine_eq] at *; omega))))
  | (with_reducible refine i_new fun yp yhp => ?_)
  | ((with_reducible refine v_app (ds := ?yds) ?ye0 ?ye1 ?_); (case ye0 => (walk_at "y_look")); (case ye1 => (first | (simp only [List.length_append, List.length_cons, List.length_nil, List.length_map, sizeLine_eq] at *; omega))))
  | ((with_reducible refine i_tyL (ds := ?yds) ?ye0 ?_); (case ye0 => (walk_at "y_look")))
  | (with_reducible refine i_tyl ?_)
  | ((with_reducible refine v_subK (kvs := ?ykv) (k := ?yk) (d := ?yd) ?ye0 ?ye1 ?ye2 ?_); (case ye0 => (walk_at "y_look")); (case ye1 => rfl); (case ye2 => first | assumption | rfl))
  | ((with_reducible refine v_plusL (ds := ?yds) (es := ?yes) ?ye0 ?ye1 ?ye2 ?_); (case ye0 => first | rfl | (with_reducible refine lsD_ref (ds := ?yds2) ?yl0; walk_at "y_look")); (case ye1 => first | rfl | (with_reducible refine lsD_ref (ds := ?yds2) ?yl0; walk_at "y_look")); (case ye2 => (simp only [List.length_append, List.length_cons, List.length_nil, List.length_map, sizeLine_eq] at *; omega)))
  | ((with_reducible refine v_plusT ?ye0 ?_); (case ye0 => (simp only [List.length_append, List.length_cons, List.length_nil, List.length_map, sizeLine_eq] at *; omega)))
  | ((with_reducible refine i_rng1d ?ye0 ?_); (case ye0 => (constructor <;> omega)))
  | ((with_reducible refine v_len (n := ?yn) ?ye0 ?_); (case ye0 => first | ((with_reducible refine lenD_ref (ds := ?yds) ?yl0); (case yl0 => walk_at "y_look")) | rfl))
  | ((with_reducible refine v_list (es := ?yes) ?ye0 ?_); (case ye0 => first | (with_reducible refine itD_ref (ds := ?yds) ?yl0; walk_at "y_look") | rfl))
  | ((with_reducible refine v_tuple (es := ?yes) ?ye0 ?_); (case ye0 => first | (with_reducible refine itD_ref (ds := ?yds) ?yl0; walk_at "y_look") | rfl))
  | ((with_reducible refine v_eqP ?ye0 ?ye1 fun yb => ?_); (case ye0 => walk_at "y_pl"); (case ye1 => walk_at "y_pl"))
  | (with_reducible refine b_emp ?_ ?_ <;> intro hc)
  | (with_reducible refine i_trul ?_)
  | (with_reducible refine i_trut ?_)
  | (with_reducible refine i_trub ?_)
  | ((with_reducible refine v_inT ?ye0 ?_); (case ye0 => exact ⟨rfl, rfl⟩))
  | (with_reducible refine b_var ?_ ?_ <;> intro hc)
  | ((with_reducible refine i_its (ds := ?yds) ?ye0 ?_); (case ye0 => rfl)))
local macro_rules | `(tactic| walk_at "y0") => `(tactic| repeat' (walk_at "y1"))
local macro_rules | `(tactic| walk_at "ys") => `(tactic| walk_at "y0")
local macro_rules | `(tactic| walk_at "y_nn") => `(tactic| first | assumption | exact (put_none (by assumption)).2 | exact (put_none (put_none (by assumption)).2).2 | exact (put_none (put_none (put_none (by assumption)).2).2).2)
local macro_rules | `(tactic| walk_at "y_kl1") => `(tactic| first | (with_reducible exact KL.merge) | ((with_reducible refine KL.put (n := ?ykn) ?ykk); (case ykk => walk_at "y_kl1")))
local macro_rules | `(tactic| walk_at "y_kl") => `(tactic| ((refine KL.lt (n := ?yn) ?yk1 ?yk2); (case yk1 => walk_at "y_kl1"); (case yk2 => first | decide | (simp; done))))
local macro_rules | `(tactic| walk_at "y_fr") => `(tactic| first | exact Fr.refl _ _ | assumption | ((refine Fr.put ?yf1 ?yf2); (case yf2 => simp); (case yf1 => walk_at "y_fr")) | ((refine Fr.drop ?yf1 ?yf2); (case yf2 => simp); (case yf1 => walk_at "y_fr")))
local macro_rules | `(tactic| walk_at "y_fin") => `(tactic| first | assumption | rfl | walk_at "y_look" | walk_at "y_pl" | walk_at "y_fr" | omega | walk_at "y_len" | (intros; omega))
local macro_rules | `(tactic| walk_at "y_take") => `(tactic| ((with_reducible refine i_take (t := ?yt) ?yl ?yo ?yb fun yr yt' yr0 yr1 yok => ?_); (case yl => walk_at "y_look"); (case yo => assumption); (case yb => (constructor <;> first | omega | (simp; omega)))))
local macro_rules | `(tactic| walk_at "y_pick") => `(tactic| first | ((with_reducible refine i_pick2 (k := 0) (t := ?yt) ?yl ?yo ?yb ?yP fun yd yt' yP ym yok => ?_); (case yl => walk_at "y_look"); (case yo => assumption); (case yb => (constructor <;> walk_at "y_len")); (case yP => walk_at "y_pl")) | ((with_reducible refine i_pick2 (k := 5) (t := ?yt) ?yl ?yo ?yb ?yP fun yd yt' yP ym yok => ?_); (case yl => walk_at "y_look"); (case yo => assumption); (case yb => (constructor <;> walk_at "y_len")); (case yP => walk_at "y_pl")))
local macro_rules | `(tactic| walk_at "y2") => `(tactic| first | walk_at "y1" | walk_at "y_take" | walk_at "y_pick" | (with_reducible refine i_disp fun yp yhp => ?_) | (with_reducible refine i_pcons ?_) | (with_reducible refine i_pnil ?_) | (with_reducible refine i_mut ?_) | ((with_reducible refine v_inT' ?ye0 ?ye1 fun yb => ?_); (case ye0 => walk_at "y_pl"); (case ye1 => walk_at "y_pl")) | ((with_reducible refine v_setK (kvs := ?ykv) (k := ?yk) ?ye0 ?ye1 ?ye2 ?_); (case ye0 => walk_at "y_look"); (case ye1 => rfl); (case ye2 => walk_at "y_kl")) | ((with_reducible refine i_mutd (ds := ?yds) ?ye0 ?_); (case ye0 => walk_at "y_look")) | ((with_reducible refine i_glst' ?ye0 ?_); (case ye0 => rfl)))
local macro_rules | `(tactic| walk_at "ys") => `(tactic| repeat' (walk_at "y2"))
local macro_rules | `(tactic| walk_at "y1") => `(tactic| (with_reducible first | refine i_callX ?_ | refine i_methX ?_ | refine i_raise ?_ | refine i_tryAs ?_ | refine i_tryOnly ?_ | refine i_xf ?_ | refine i_isE ?_ | refine i_zip ?_ | refine i_enum ?_ | refine i_rev ?_))
local macro_rules | `(tactic| walk_at "y1") => `(tactic| ((with_reducible refine v_subLk (kvs := ?ykv) (k := ?yk) (d := ?yd) (od := ?yod) (xs := ?yxs) ?ye0 ?ye1 ?ye2 ?_); (case ye0 => (walk_at "y_look")); (case ye1 => rfl); (case ye2 => first | assumption | rfl)))
local macro_rules | `(tactic| walk_at "y1") => `(tactic| first
  | (with_reducible first | refine v_isT ?_ | refine v_isF ?_ | refine iteNT ?_ | refine iteNF ?_)
  | ((with_reducible refine v_isNF ?ye0 ?_); (case ye0 => rfl))
  | ((with_reducible refine v_isNT ?ye0 ?_); (case ye0 => rfl)))
local macro_rules | `(tactic| walk_at "y1") => `(tactic| ((with_reducible refine i_methd (dx := ?ydx) (fs := ?yfs) ?ye0 ?ye3 ?_); (case ye0 => walk_at "y_look"); (case ye3 => rfl)))
def pAss (ws : List Str) : Except Nat D := match rAss ws with
  | .error u => .error (ws.length - u.length)
  | .ok (ls, u) => if u = [] then .ok (.tup ls) else .error (ws.length - u.length)
/-- only where it is refused -/
def spPA (CT : Addr) : DSp := fun ds M Q E => ∃ (s : Str) (c : Str) (n : Nat), ds = [.str s] ∧ okIn s ∧ pText pAss s = .error (c, n) ∧ E (.ref CT) [("at", .int (n : Nat)), ("code", .str c)] M
def spNo : DSp := fun _ _ _ _ => False
theorem rd_pa {C : Addr} (CT : Addr) (ds : List D) (M : Mm) (Q : QD) (E : DX) (h : spPA CT ds M Q E) : r_parse_assertion (fun _ => lessX E) (spWords CT) C (spInit C) (spAss C CT) (spEndR C CT) spNo { nx := fun _ M' => less Q .non M', rt := less Q } (startD 3 ds) M := by
  obtain ⟨s, c, n, rfl, ⟨hl, hno, hws⟩, he, k⟩ := h
  show r_parse_assertion _ _ _ _ _ _ _ _ [some (.str s), none, none] M
  unfold r_parse_assertion
  walk_at "ys"
  refine ⟨s, rfl, hl, hno, fun ws e => ?_, fun m e => ?_⟩
  · obtain ⟨hw1, hw2⟩ := hws ws e
    have ep : pText pAss s = match pAss ws with | .error m => .error ("form", m) | .ok d => .ok d := by unfold pText; rw [e]; try rfl
    rw [ep] at he
    walk_at "ys"
    intro x dx hx
    refine ⟨x, dx, ws, rfl, put_same, rfl, ?_⟩
    rw [put_put]
    have hR : Rd (put M x (rdO C dx ws ws)) x C dx ws ws := ⟨put_same, List.suffix_refl ws, hw1, hw2⟩
    have eD : ∀ m, Y.drop (put M x m) x = M := fun m => Y.drop_put hx
    walk_at "ys"
    refine ⟨x, dx, ws, ws, rfl, hR, fun ls u e2 s1 => ?_, fun u e2 => ?_⟩
    · rw [put_put]
      have hR2 : Rd (put M x (rdO C dx ws u)) x C dx ws u := ⟨put_same, s1, hw1, hw2⟩
      have hm := hR2.m
      unfold rdO at hm
      unfold pAss at he
      rw [e2] at he
      simp only at he
      walk_at "ys"
      refine ⟨x, dx, ws, u, rfl, hR2, fun eu => ?_, fun nu => ?_⟩
      · rw [if_pos eu] at he
        cases he
      · rw [eD]
        rw [if_neg nu] at he
        simp only [Except.error.injEq, Prod.mk.injEq] at he
        obtain ⟨rfl, rfl⟩ := he
        exact lessX_of k rfl
    · rw [eD]
      unfold pAss at he
      rw [e2] at he
      simp only [Except.error.injEq, Prod.mk.injEq] at he
      obtain ⟨rfl, rfl⟩ := he
      exact lessX_of k rfl
  · have : pText pAss s = .error ("sign", m) := by unfold pText; rw [e]
    rw [this] at he
    simp only [Except.error.injEq, Prod.mk.injEq] at he
    obtain ⟨rfl, rfl⟩ := he
    exact lessX_of k rfl
/-! what the law asks of the exceptions' classes -/
structure XT (K : PySem.W.Frag) (CH CI CT : Addr) : Prop where
  exT : PySem.W.exmOne K (.ref CT) (.ref CH) = some true
  isT : PySem.W.kitOne K (.ref CT) (.ref CT) = some true
  noI : PySem.W.kitOne K (.ref CT) (.ref CI) = some false
  ecT : ExcC K CT
  xfT : XfC K CT
  nfT : PySem.W.findIn K (.ref CT) "code" = some none
  nfA : PySem.W.findIn K (.ref CT) "at" = some none
def spTold : DSp := fun ds M Q _ => ∃ s, ds = [.str s] ∧ okIn s ∧ (∀ d, pText pShape s = .ok d → shapeT d ∧ Q .non M) ∧ ∀ c n, pText pShape s = .error (c, n) → Q (.tup [.str c, .int (n : Nat)]) M
theorem rd_told {K : PySem.W.Frag} {CH CI CT : Addr} (T : XT K CH CI CT) (ds : List D) (M : Mm) (Q : QD) (E : DX) (h : spTold ds M Q E) : r__law_told K CH (spParse CT) CT CI { nx := fun _ M' => less Q .non M', rt := less Q } (startD 2 ds) M := by
  obtain ⟨s, rfl, h1, k1, k2⟩ := h
  show r__law_told _ _ _ _ _ _ [some (.str s), none] M
  unfold r__law_told
  walk_at "ys"
  refine ⟨s, rfl, h1, fun d e => ?_, fun c n e => ?_⟩
  · obtain ⟨hT, q⟩ := k1 d e
    refine ⟨hT, ?_⟩
    walk_at "ys"
    exact less_of q rfl
  · refine ⟨true, T.exT, fun _ a ha => ?_, fun z => by cases z⟩
    walk_at "ys"
    refine ⟨rfl, CT, true, rfl, T.ecT, T.isT, ?_⟩
    walk_at "ys"
    refine ⟨rfl, CT, false, rfl, T.ecT, T.noI, ?_⟩
    walk_at "ys"
    refine ⟨rfl, CT, .str c, rfl, T.xfT, T.nfT, rfl, ?_⟩
    walk_at "ys"
    refine ⟨rfl, CT, .int (n : Nat), rfl, T.xfT, T.nfA, rfl, ?_⟩
    walk_at "ys"
    exact less_of (k2 c n e) rfl
end K04


set_option Elab.async false
set_option linter.all false
set_option maxRecDepth 100000
set_option maxHeartbeats 4000000
/-! law k04: the words of joined texts, in plain -/
namespace K04
open PySem PySem.Spec PyProof.Rows L2 Y YD TL
theorem sgn_ok : ∀ w ∈ SGL, sgn (w.cps.toList ++ [32]) = some w ∧ sgn w.cps.toList = some w := by decide +kernel
theorem sgl_len : ∀ w ∈ SGL, 1 ≤ w.length ∧ w.length ≤ 2 := by decide +kernel
def hdS (w : Str) : Bool := match w.cps.toList with | c :: _ => !isSp c && !isHd c | [] => false
theorem sgl_hd : ∀ w ∈ SGL, hdS w = true := by decide +kernel
theorem lx_cons (n c : Nat) (r : List Nat) (found : List Str) : lx (n + 1) (c :: r) found = if isSp c = true then lx n r found else if isHd c = true then lx n (r.drop (tw r)) (found ++ [⟨(c :: r.take (tw r)).toArray⟩])
    else match sgn (c :: r) with | none => .error found.length | some g => lx n ((c :: r).drop g.length) (found ++ [g]) := rfl
theorem find_congr {p q : Str → Bool} : ∀ {l : List Str}, (∀ g ∈ l, p g = q g) → l.find? p = l.find? q
  | [], _ => rfl
  | x :: l, h => by
    rw [List.find?_cons, List.find?_cons, h x List.mem_cons_self, find_congr fun g hg => h g (List.mem_cons_of_mem _ hg)]
theorem sgn_blank {w : Str} (h : w ∈ SGL) (r : List Nat) : sgn (w.cps.toList ++ 32 :: r) = some w := by
  rw [← (sgn_ok w h).1]
  apply find_congr
  intro g hg
  unfold pfx
  have e : w.cps.toList ++ 32 :: r = (w.cps.toList ++ [32]) ++ r := by simp
  rw [e, List.take_append_of_le_length]
  rw [List.length_append, len_cps]
  have h1 := (sgl_len g hg).2
  have h2 := (sgl_len w h).1
  simp
  omega
/-- a name or a number -/
def runW (w : Str) : Bool := match w.cps.toList with
  | c :: r => !isSp c && isHd c && r.all okN
  | [] => false
def gdW (w : Str) : Prop := runW w = true ∨ w ∈ SGL
theorem okN32 : okN 32 = false := by decide +kernel
theorem tw_all : ∀ {r : List Nat} (rest : List Nat), r.all okN = true → (rest = [] ∨ ∃ q, rest = 32 :: q) → tw (r ++ rest) = r.length
  | [], rest, _, h => by
    rcases h with rfl | ⟨q, rfl⟩
    · rfl
    · exact okN_stop okN32
  | c :: r, rest, h, hr => by
    simp only [List.all_cons, Bool.and_eq_true] at h
    rw [List.cons_append, okN_cons h.1, tw_all rest h.2 hr]
    rfl
/-- one word ahead of a blank or the end -/
theorem lx_word {w : Str} (h : gdW w) {rest : List Nat} (hr : rest = [] ∨ ∃ q, rest = 32 :: q) (n : Nat) (found : List Str) : lx (n + 1) (w.cps.toList ++ rest) found = lx n rest (found ++ [w]) := by
  rcases h with h | h
  · unfold runW at h
    cases hc : w.cps.toList with
    | nil => rw [hc] at h; cases h
    | cons c r =>
      rw [hc] at h
      simp only [Bool.and_eq_true, Bool.not_eq_true'] at h
      have ht := tw_all rest h.2 hr
      rw [List.cons_append, lx_cons, if_neg (by rw [h.1.1]; decide), if_pos h.1.2, ht]
      have e1 : (r ++ rest).drop r.length = rest := by simp
      have e2 : (⟨(c :: (r ++ rest).take r.length).toArray⟩ : Str) = w := by
        apply str_ext
        rw [hc]
        simp
      rw [e1, e2]
  · have hh := sgl_hd w h
    have hs : sgn (w.cps.toList ++ rest) = some w := by
      rcases hr with rfl | ⟨q, rfl⟩
      · rw [List.append_nil]; exact (sgn_ok w h).2
      · exact sgn_blank h q
    cases hc : w.cps.toList with
    | nil => unfold hdS at hh; rw [hc] at hh; cases hh
    | cons c r =>
      unfold hdS at hh
      rw [hc] at hh hs
      simp only [Bool.and_eq_true, Bool.not_eq_true'] at hh
      rw [List.cons_append] at hs ⊢
      rw [lx_cons, if_neg (by rw [hh.1]; decide), if_neg (by rw [hh.2]; decide), hs]
      simp only
      have e1 : (c :: (r ++ rest)).drop w.length = rest := by
        rw [← len_cps, hc]
        simp
      rw [e1]
theorem lx_blank (n : Nat) (cs : List Nat) (found : List Str) : lx (n + 1) (32 :: cs) found = lx n cs found := by
  rw [lx_cons, if_pos (by decide +kernel)]
/-- joined by blanks -/
theorem lx_join : ∀ (ws : List Str) (n : Nat) (rest : List Nat) (found : List Str), ws ≠ [] → (∀ w ∈ ws, gdW w) → (rest = [] ∨ ∃ q, rest = 32 :: q) → lx (n + (2 * ws.length - 1)) (joinL [32] (ws.map TL.tl) ++ rest) found = lx n rest (found ++ ws)
  | [], _, _, _, h, _, _ => absurd rfl h
  | [w], n, rest, found, _, hw, hr => lx_word (hw w (by simp)) hr n found
  | w :: v :: ws, n, rest, found, _, hw, hr => by
    have e : joinL [32] ((w :: v :: ws).map TL.tl) ++ rest = w.cps.toList ++ 32 :: (joinL [32] ((v :: ws).map TL.tl) ++ rest) := by
      show (TL.tl w ++ ([32] ++ joinL [32] ((v :: ws).map TL.tl))) ++ rest = _
      simp [TL.tl]
    rw [e, show n + (2 * (w :: v :: ws).length - 1) = (n + (2 * (v :: ws).length - 1)) + 1 + 1 by simp; omega, lx_word (hw w (by simp)) (.inr ⟨_, rfl⟩), lx_blank, lx_join (v :: ws) n rest _ (by simp) (fun x hx => hw x (List.mem_cons_of_mem _ hx)) hr]
    simp
theorem lx_nil (n : Nat) (found : List Str) : lx n [] found = .ok found := by cases n <;> rfl
theorem gd_pos {w : Str} (h : gdW w) : 1 ≤ w.length := by
  rcases h with h | h
  · unfold runW at h
    have := len_cps w
    cases hc : w.cps.toList with
    | nil => rw [hc] at h; cases h
    | cons c r => rw [hc] at this; simp at this; omega
  · exact (sgl_len w h).1
theorem join_ge : ∀ ws : List Str, ws ≠ [] → (∀ w ∈ ws, gdW w) → 2 * ws.length - 1 ≤ (joinL [32] (ws.map TL.tl)).length
  | [], h, _ => absurd rfl h
  | [w], _, hw => by
    have := gd_pos (hw w (by simp))
    show 1 ≤ (TL.tl w).length
    rw [← len_tl]
    exact this
  | w :: v :: ws, _, hw => by
    have h1 := gd_pos (hw w (by simp))
    have h2 := join_ge (v :: ws) (by simp) fun x hx => hw x (List.mem_cons_of_mem _ hx)
    rw [len_tl] at h1
    simp only [List.map_cons, joinL, List.length_append, List.length_cons] at h2 ⊢
    simp only [List.length_nil]
    omega
theorem tl_sp : TL.tl (" " : Str) = [32] := by decide +kernel
theorem cps_join (ws : List Str) : (Txt.join " " ws).cps.toList = joinL [32] (ws.map TL.tl) := by
  show TL.tl _ = _
  rw [join_eq, tl_join, tl_sp]
/-- the words of a text of words -/
theorem words_join {ws : List Str} (hne : ws ≠ []) (hw : ∀ w ∈ ws, gdW w) : wordsOf (Txt.join " " ws) = .ok ws := by
  have hl := join_ge ws hne hw
  unfold wordsOf
  rw [← len_cps, cps_join]
  obtain ⟨n, hn⟩ : ∃ n, (joinL [32] (ws.map TL.tl)).length = n + (2 * ws.length - 1) := ⟨_, (Nat.sub_add_cancel hl).symm⟩
  have := lx_join ws n [] [] hne hw (.inl rfl)
  rw [List.append_nil] at this
  rw [hn, this, lx_nil]
  rfl
/-- a strange sign: with how many words ahead -/
theorem lx_bad (n c : Nat) (q : List Nat) (found : List Str) (h1 : isSp c = false) (h2 : isHd c = false) (h3 : sgn (c :: q) = none) : lx (n + 1) (c :: q) found = .error found.length := by
  rw [lx_cons, if_neg (by rw [h1]; decide), if_neg (by rw [h2]; decide), h3]
theorem words_strange {ws : List Str} (hw : ∀ w ∈ ws, gdW w) (hne : ws ≠ []) (c : Nat) (q : List Nat) (h1 : isSp c = false) (h2 : isHd c = false) (h3 : sgn (c :: q) = none) (s : Str) (hs : s.cps.toList = joinL [32] (ws.map TL.tl) ++ 32 :: c :: q) : wordsOf s = .error ws.length := by
  have hl := join_ge ws hne hw
  unfold wordsOf
  rw [← len_cps, hs]
  obtain ⟨n, hn⟩ : ∃ n, (joinL [32] (ws.map TL.tl) ++ 32 :: c :: q).length = (n + 1 + 1) + (2 * ws.length - 1) := by
    refine ⟨(joinL [32] (ws.map TL.tl)).length - (2 * ws.length - 1) + q.length, ?_⟩
    simp only [List.length_append, List.length_cons]
    omega
  rw [hn, lx_join ws (n + 1 + 1) (32 :: c :: q) [] hne hw (.inr ⟨_, rfl⟩), lx_blank, lx_bad _ _ _ _ h1 h2 h3]
  rfl
end K04


set_option Elab.async false
set_option linter.all false
set_option maxRecDepth 100000
set_option maxHeartbeats 4000000
/-! law k04: parts and shapes of words, in plain -/
namespace K04
open PySem PySem.Spec PyProof.Rows L2 Y YD TL PySem.NumText
theorem term_nil (r : List Str) : rTerm (("nil" : Str) :: r) = .ok (.int 0, r) := if_pos rfl
theorem term_neg (r : List Str) : rTerm (("-" : Str) :: r) = (match rNum r with | some (n, u) => .ok (.int (-n), u) | none => .error r) := by
  unfold rTerm
  rw [if_neg (show ¬ ((("-" : Str) :: r).headD "" = "nil") from by show ¬ (("-" : Str) = "nil"); decide +kernel)]
  exact if_pos rfl
structure NmW (w : Str) : Prop where
  a : w ≠ "nil"
  b : w ≠ "-"
  c : hdDig w = false
  d : isNm w = true
theorem term_name {w : Str} (h : NmW w) (r : List Str) : rTerm (w :: r) = .ok (.str w, r) := by
  unfold rTerm
  rw [if_neg (show ¬ ((w :: r).headD "" = "nil") from h.a), if_neg (show ¬ ((w :: r).headD "" = "-") from h.b), if_neg (show ¬ (hdDig ((w :: r).headD "") = true) from by show ¬ (hdDig w = true); rw [h.c]; decide)]
  exact if_pos h.d
structure DgW (w : Str) (n : Int) : Prop where
  a : w ≠ "nil"
  b : w ≠ "-"
  c : hdDig w = true
  d : w ≠ "" ∧ w.cps.toList.all isDig = true ∧ w.length ≤ 30
  e : (PySem.intText? w).getD 0 = n
theorem num_dig {w : Str} {n : Int} (h : DgW w n) (r : List Str) : rNum (w :: r) = some (n, r) := by
  rw [← h.e]
  exact if_pos h.d
theorem term_dig {w : Str} {n : Int} (h : DgW w n) (r : List Str) : rTerm (w :: r) = .ok (.int n, r) := by
  unfold rTerm
  rw [if_neg (show ¬ ((w :: r).headD "" = "nil") from h.a), if_neg (show ¬ ((w :: r).headD "" = "-") from h.b), if_pos (show hdDig ((w :: r).headD "") = true from h.c), num_dig h]
theorem nm_x : NmW "x" := ⟨by decide +kernel, by decide +kernel, by decide +kernel, by decide +kernel⟩
theorem nm_y : NmW "y" := ⟨by decide +kernel, by decide +kernel, by decide +kernel, by decide +kernel⟩
theorem need_ok (w : Str) (r : List Str) : needW w (w :: r) = .ok r := if_pos rfl
theorem need_no {w v : Str} (h : v ≠ w) (r : List Str) : needW w (v :: r) = .error (v :: r) := if_neg h
def partT (d : D) : Prop := d = .non ∨ factT d ∨ itemT d
theorem tm_x : tmT (.str "x") := ⟨.inr ⟨_, rfl, by decide +kernel⟩, by decide +kernel⟩
theorem tm_y : tmT (.str "y") := ⟨.inr ⟨_, rfl, by decide +kernel⟩, by decide +kernel⟩
theorem tm_int {i : Int} (h : numOk i = true) : tmT (.int i) := ⟨.inl ⟨i, rfl⟩, h⟩
/-- a word that begins no emp, list or tree -/
theorem part_term {w : Str} (h1 : w ≠ "emp") (h2 : w ≠ "list") (h3 : w ≠ "tree") (r : List Str) : rPart (w :: r) = bindE (rTerm (w :: r)) fun p =>
    if p.2.headD "" = "==" then bindE (rTerm p.2.tail) fun q => .ok (.tup [.str "eq", p.1, q.1], q.2)
    else if p.2.headD "" = "!=" then bindE (rTerm p.2.tail) fun q => .ok (.tup [.str "ne", p.1, q.1], q.2)
    else bindE (needW "->" p.2) fun u => rCell p.1 u := by
  unfold rPart
  rw [if_neg (show ¬ ((w :: r).headD "" = "emp") from h1), if_neg (show ¬ ((w :: r).headD "" = "list") from h2), if_neg (show ¬ ((w :: r).headD "" = "tree") from h3)]
def endW (rest : List Str) : Prop := rest = [] ∨ ∃ q, rest = ("*" : Str) :: q
theorem end_by {rest : List Str} (h : endW rest) : rest.headD "" ≠ "by" := by
  rcases h with rfl | ⟨q, rfl⟩
  · show ("" : Str) ≠ "by"; decide +kernel
  · show ("*" : Str) ≠ "by"; decide +kernel
theorem part_cell {rest : List Str} (h : endW rest) : rPart (([("x" : Str), "->", "(", "y", ",", "nil", ")"] : List Str) ++ rest) = .ok (.tup [.str "cell", .int 12, .str "x", .str "y", .int 0], rest) := by
  show rPart (("x" : Str) :: ("->" : Str) :: ("(" : Str) :: ("y" : Str) :: ("," : Str) :: ("nil" : Str) :: (")" : Str) :: rest) = _
  rw [part_term (by decide +kernel) (by decide +kernel) (by decide +kernel), term_name nm_x, bindE_ok]
  simp only
  rw [if_neg (by show ¬ (("->" : Str) = "=="); decide +kernel), if_neg (by show ¬ (("->" : Str) = "!="); decide +kernel), need_ok, bindE_ok]
  unfold rCell
  rw [need_ok, bindE_ok, term_name nm_y, bindE_ok]
  simp only
  rw [need_ok, bindE_ok, term_nil, bindE_ok]
  simp only
  rw [need_ok, bindE_ok, if_neg (end_by h)]
theorem dg7 : DgW "7" 7 := ⟨by decide +kernel, by decide +kernel, by decide +kernel, by decide +kernel, by decide +kernel⟩
theorem dg3 : DgW "3" 3 := ⟨by decide +kernel, by decide +kernel, by decide +kernel, by decide +kernel, by decide +kernel⟩
theorem part_list (rest : List Str) : rPart (([("list" : Str), "(", "x", ",", "y", ")"] : List Str) ++ rest) = .ok (.tup [.str "list", .str "x", .str "y"], rest) := by
  show rPart (("list" : Str) :: ("(" : Str) :: ("x" : Str) :: ("," : Str) :: ("y" : Str) :: (")" : Str) :: rest) = _
  unfold rPart
  simp only [List.headD_cons]
  rw [if_neg (by show ¬ (("list" : Str) = "emp"); decide +kernel), if_pos trivial]
  simp only [List.tail_cons]
  rw [need_ok, bindE_ok, term_name nm_x, bindE_ok]
  simp only
  rw [need_ok, bindE_ok, term_name nm_y, bindE_ok]
  simp only
  rw [need_ok, bindE_ok]
theorem part_tree (rest : List Str) : rPart (([("tree" : Str), "(", "7", ")"] : List Str) ++ rest) = .ok (.tup [.str "tree", .int 7], rest) := by
  show rPart (("tree" : Str) :: ("(" : Str) :: ("7" : Str) :: (")" : Str) :: rest) = _
  unfold rPart
  simp only [List.headD_cons]
  rw [if_neg (by show ¬ (("tree" : Str) = "emp"); decide +kernel), if_neg (by show ¬ (("tree" : Str) = "list"); decide +kernel), if_pos trivial]
  simp only [List.tail_cons]
  rw [need_ok, bindE_ok, term_dig dg7, bindE_ok]
  simp only
  rw [need_ok, bindE_ok]
theorem part_eq (rest : List Str) : rPart (([("x" : Str), "==", "-", "3"] : List Str) ++ rest) = .ok (.tup [.str "eq", .str "x", .int (-3)], rest) := by
  show rPart (("x" : Str) :: ("==" : Str) :: ("-" : Str) :: ("3" : Str) :: rest) = _
  rw [part_term (by decide +kernel) (by decide +kernel) (by decide +kernel), term_name nm_x, bindE_ok]
  simp only [List.headD_cons]
  rw [if_pos trivial]
  simp only [List.tail_cons]
  rw [term_neg, num_dig dg3]
  rfl
theorem part_emp (rest : List Str) : rPart (([("emp" : Str)] : List Str) ++ rest) = .ok (.non, rest) := if_pos rfl
theorem part_ne (rest : List Str) : rPart (([("y" : Str), "!=", "nil"] : List Str) ++ rest) = .ok (.tup [.str "ne", .str "y", .int 0], rest) := by
  show rPart (("y" : Str) :: ("!=" : Str) :: ("nil" : Str) :: rest) = _
  rw [part_term (by decide +kernel) (by decide +kernel) (by decide +kernel), term_name nm_y, bindE_ok]
  simp only [List.headD_cons]
  rw [if_neg (by show ¬ (("!=" : Str) = "=="); decide +kernel), if_pos trivial]
  simp only [List.tail_cons]
  rw [term_nil]
  rfl
/-- the parts that the law draws -/
def PM : List (List Str) := [["x", "->", "(", "y", ",", "nil", ")"], ["list", "(", "x", ",", "y", ")"], ["tree", "(", "7", ")"], ["x", "==", "-", "3"], ["emp"], ["y", "!=", "nil"]]
theorem part_ok {p rest : List Str} (hp : p ∈ PM) (h : endW rest) : ∃ d, rPart (p ++ rest) = .ok (d, rest) ∧ partT d := by
  unfold PM at hp
  simp only [List.mem_cons, List.not_mem_nil, or_false] at hp
  have t0 : tmT (.int 0) := tm_int (by decide +kernel)
  have t3 : tmT (.int (-3)) := tm_int (by decide +kernel)
  have t7 : tmT (.int 7) := tm_int (by decide +kernel)
  rcases hp with rfl | rfl | rfl | rfl | rfl | rfl
  · exact ⟨_, part_cell h, .inr (.inr (.inl ⟨12, _, _, _, rfl, by decide, by decide, tm_x, tm_y, t0⟩))⟩
  · exact ⟨_, part_list rest, .inr (.inr (.inr (.inl ⟨_, _, rfl, tm_x, tm_y⟩)))⟩
  · exact ⟨_, part_tree rest, .inr (.inr (.inr (.inr ⟨_, rfl, t7⟩)))⟩
  · exact ⟨_, part_eq rest, .inr (.inl ⟨_, _, _, rfl, .inl rfl, tm_x, t3⟩)⟩
  · exact ⟨_, part_emp rest, .inl rfl⟩
  · exact ⟨_, part_ne rest, .inr (.inl ⟨_, _, _, rfl, .inr rfl, tm_y, t0⟩)⟩
end K04


set_option Elab.async false
set_option linter.all false
set_option maxRecDepth 100000
set_option maxHeartbeats 4000000
/-! law k04: shapes of drawn parts, in plain -/
namespace K04
open PySem PySem.Spec PyProof.Rows L2 Y YD TL PySem.NumText
def ahd (ps : List (List Str)) : List Str := ps.flatMap fun p => p ++ [("*" : Str)]
def bhd (ps : List (List Str)) : List Str := ps.flatMap fun p => ("*" : Str) :: p
/-- what was found so far is right -/
structure Gd (pu it : List D) : Prop where
  f : ∀ d ∈ pu, factT d
  i : ∀ d ∈ it, itemT d
theorem fact_pure {d : D} (h : factT d) : isPure d = true := by
  obtain ⟨s, a, b, rfl, hs, _⟩ := h
  rcases hs with rfl | rfl
  · show (decide (("eq" : Str) = "eq") || decide (("eq" : Str) = "ne")) = true; decide +kernel
  · show (decide (("ne" : Str) = "eq") || decide (("ne" : Str) = "ne")) = true; decide +kernel
theorem item_pure {d : D} (h : itemT d) : isPure d = false ∧ nonD d = false := by
  rcases h with ⟨n, a, b, c, rfl, _⟩ | ⟨a, b, rfl, _⟩ | ⟨a, rfl, _⟩
  · exact ⟨by show (decide (("cell" : Str) = "eq") || decide (("cell" : Str) = "ne")) = false; decide +kernel, rfl⟩
  · exact ⟨by show (decide (("list" : Str) = "eq") || decide (("list" : Str) = "ne")) = false; decide +kernel, rfl⟩
  · exact ⟨by show (decide (("tree" : Str) = "eq") || decide (("tree" : Str) = "ne")) = false; decide +kernel, rfl⟩
theorem put_part {pu it : List D} {d : D} (g : Gd pu it) (h : partT d) : Gd (if isPure d = true then pu ++ [d] else pu) (if isPure d = true then it else if nonD d = true then it else it ++ [d]) ∧
    (if isPure d = true then pu ++ [d] else pu).length ≤ pu.length + 1 ∧ (if isPure d = true then it else if nonD d = true then it else it ++ [d]).length ≤ it.length + 1 := by
  rcases h with rfl | h | h
  · exact ⟨g, by show pu.length ≤ _; omega, by show it.length ≤ _; omega⟩
  · rw [if_pos (fact_pure h), if_pos (fact_pure h)]
    refine ⟨⟨fun e he => ?_, g.i⟩, by simp, by omega⟩
    rcases List.mem_append.mp he with he | he
    · exact g.f e he
    · simp at he; subst he; exact h
  · have hp := item_pure h
    rw [if_neg (by rw [hp.1]; decide), if_neg (by rw [hp.1]; decide), if_neg (by rw [hp.2]; decide)]
    refine ⟨⟨g.f, fun e he => ?_⟩, by omega, by simp⟩
    rcases List.mem_append.mp he with he | he
    · exact g.i e he
    · simp at he; subst he; exact h
theorem part_ok2 {p : List Str} (hp : p ∈ PM) : ∃ d, partT d ∧ ∀ rest, endW rest → rPart (p ++ rest) = .ok (d, rest) := by
  unfold PM at hp
  simp only [List.mem_cons, List.not_mem_nil, or_false] at hp
  have t0 : tmT (.int 0) := tm_int (by decide +kernel)
  have t3 : tmT (.int (-3)) := tm_int (by decide +kernel)
  have t7 : tmT (.int 7) := tm_int (by decide +kernel)
  rcases hp with rfl | rfl | rfl | rfl | rfl | rfl
  · exact ⟨_, .inr (.inr (.inl ⟨12, _, _, _, rfl, by decide, by decide, tm_x, tm_y, t0⟩)), fun _ h => part_cell h⟩
  · exact ⟨_, .inr (.inr (.inr (.inl ⟨_, _, rfl, tm_x, tm_y⟩))), fun r _ => part_list r⟩
  · exact ⟨_, .inr (.inr (.inr (.inr ⟨_, rfl, t7⟩))), fun r _ => part_tree r⟩
  · exact ⟨_, .inr (.inl ⟨_, _, _, rfl, .inl rfl, tm_x, t3⟩), fun r _ => part_eq r⟩
  · exact ⟨_, .inl rfl, fun r _ => part_emp r⟩
  · exact ⟨_, .inr (.inl ⟨_, _, _, rfl, .inr rfl, tm_y, t0⟩), fun r _ => part_ne r⟩
theorem rLoop_succ (n : Nat) (us : List Str) (pu it : List D) : rLoop (n + 1) us pu it = bindE (rPart us) fun p => (if p.2.headD "" = "*" then rLoop n p.2.tail (if isPure p.1 = true then pu ++ [p.1] else pu) (if isPure p.1 = true then it else if nonD p.1 = true then it else it ++ [p.1]) else .ok ((if isPure p.1 = true then pu ++ [p.1] else pu, if isPure p.1 = true then it else if nonD p.1 = true then it else it ++ [p.1]), p.2)) := rfl
theorem loop_ahead : ∀ (ps : List (List Str)), (∀ p ∈ ps, p ∈ PM) → ∀ (n : Nat) (rest : List Str) (pu it : List D), Gd pu it → ∃ pu' it', Gd pu' it' ∧ pu'.length ≤ pu.length + ps.length ∧ it'.length ≤ it.length + ps.length ∧ rLoop (n + ps.length) (ahd ps ++ rest) pu it = rLoop n rest pu' it'
  | [], _, n, rest, pu, it, g => ⟨pu, it, g, Nat.le_refl _, Nat.le_refl _, rfl⟩
  | p :: ps, hp, n, rest, pu, it, g => by
    obtain ⟨d, e, hd⟩ := part_ok (hp p List.mem_cons_self) (rest := ("*" : Str) :: (ahd ps ++ rest)) (.inr ⟨_, rfl⟩)
    have g2 := put_part g hd
    obtain ⟨pu', it', g', l1, l2, er⟩ := loop_ahead ps (fun q hq => hp q (List.mem_cons_of_mem _ hq)) n rest _ _ g2.1
    refine ⟨pu', it', g', by simp only [List.length_cons]; omega, by simp only [List.length_cons]; omega, ?_⟩
    have e1 : ahd (p :: ps) ++ rest = p ++ ("*" : Str) :: (ahd ps ++ rest) := by simp [ahd]
    rw [e1, show n + (p :: ps).length = (n + ps.length) + 1 by simp; omega, rLoop_succ, e, bindE_ok]
    simp only
    rw [if_pos (show (("*" : Str) :: (ahd ps ++ rest)).headD "" = "*" from rfl), List.tail_cons, er]
theorem loop_behind : ∀ (ps : List (List Str)), (∀ p ∈ ps, p ∈ PM) → ∀ (n : Nat) (cp : List Str) (d : D), (∀ rest, endW rest → rPart (cp ++ rest) = .ok (d, rest)) → partT d → ∀ (pu it : List D), Gd pu it → ∃ pu' it', Gd pu' it' ∧ pu'.length ≤ pu.length + ps.length + 1 ∧ it'.length ≤ it.length + ps.length + 1 ∧ rLoop (n + ps.length + 1) (cp ++ bhd ps) pu it = .ok ((pu', it'), [])
  | [], _, n, cp, d, hc, hd, pu, it, g => by
    have g2 := put_part g hd
    refine ⟨_, _, g2.1, g2.2.1, g2.2.2, ?_⟩
    rw [rLoop_succ, hc (bhd []) (.inl rfl), bindE_ok]
    exact if_neg (by show ¬ (("" : Str) = "*"); decide +kernel)
  | p :: ps, hp, n, cp, d, hc, hd, pu, it, g => by
    have g2 := put_part g hd
    have e1 : bhd (p :: ps) = ("*" : Str) :: (p ++ bhd ps) := by simp [bhd]
    obtain ⟨d2, hd2, e2⟩ := part_ok2 (hp p List.mem_cons_self)
    obtain ⟨pu', it', g', l1, l2, er⟩ := loop_behind ps (fun q hq => hp q (List.mem_cons_of_mem _ hq)) n p d2 e2 hd2 _ _ g2.1
    refine ⟨pu', it', g', by simp only [List.length_cons]; omega, by simp only [List.length_cons]; omega, ?_⟩
    rw [e1, show n + (p :: ps).length + 1 = (n + ps.length + 1) + 1 by simp; omega, rLoop_succ, hc _ (.inr ⟨_, rfl⟩), bindE_ok]
    simp only
    rw [if_pos (show (("*" : Str) :: (p ++ bhd ps)).headD "" = "*" from rfl), List.tail_cons, er]
end K04


set_option Elab.async false
set_option linter.all false
set_option maxRecDepth 100000
set_option maxHeartbeats 4000000
/-! law k04: the law's cell and its bad forms, in plain -/
namespace K04
open PySem PySem.Spec PyProof.Rows L2 Y YD TL PySem.NumText
/-- a field of the law's cell: y, nil or 5 -/
def fldW (w : Str) (d : D) : Prop := tmT d ∧ ∀ r, rTerm (w :: r) = .ok (d, r)
theorem dg5 : DgW "5" 5 := ⟨by decide +kernel, by decide +kernel, by decide +kernel, by decide +kernel, by decide +kernel⟩
theorem fld_ok {w : Str} (h : w ∈ ([("y" : Str), "nil", "5"] : List Str)) : ∃ d, fldW w d := by
  simp only [List.mem_cons, List.not_mem_nil, or_false] at h
  rcases h with rfl | rfl | rfl
  · exact ⟨_, tm_y, term_name nm_y⟩
  · exact ⟨_, tm_int (by decide +kernel), term_nil⟩
  · exact ⟨_, tm_int (by decide +kernel), term_dig dg5⟩
/-- the share's word -/
def shrW (w : Str) (n : Int) : Prop := 1 ≤ n ∧ n ≤ 12 ∧ ∀ r, rNum (w :: r) = some (n, r)
def cellW (f g s : Str) : List Str := ["x", "->", "(", f, ",", g, ")", "by", s]
theorem cell_part {f g s : Str} {df dg : D} {n : Int} (hf : fldW f df) (hg : fldW g dg) (hs : shrW s n) (rest : List Str) : rPart (cellW f g s ++ rest) = .ok (.tup [.str "cell", .int n, .str "x", df, dg], rest) := by
  show rPart (("x" : Str) :: ("->" : Str) :: ("(" : Str) :: f :: ("," : Str) :: g :: (")" : Str) :: ("by" : Str) :: s :: rest) = _
  rw [part_term (by decide +kernel) (by decide +kernel) (by decide +kernel), term_name nm_x, bindE_ok]
  simp only
  rw [if_neg (by show ¬ (("->" : Str) = "=="); decide +kernel), if_neg (by show ¬ (("->" : Str) = "!="); decide +kernel), need_ok, bindE_ok]
  unfold rCell
  rw [need_ok, bindE_ok, hf.2, bindE_ok]
  simp only
  rw [need_ok, bindE_ok, hg.2, bindE_ok]
  simp only
  rw [need_ok, bindE_ok, if_pos (show (("by" : Str) :: s :: rest).headD "" = "by" from rfl), List.tail_cons, hs.2.2]
  simp only
  rw [if_pos ⟨hs.1, hs.2.1⟩]
theorem cell_partT {f g s : Str} {df dg : D} {n : Int} (hf : fldW f df) (hg : fldW g dg) (hs : shrW s n) : partT (.tup [.str "cell", .int n, .str "x", df, dg]) := .inr (.inr (.inl ⟨n, _, _, _, rfl, hs.1, hs.2.1, tm_x, hf.1, hg.1⟩))
/-- the whole text of the law -/
theorem law_shape {f g s : Str} {df dg : D} {n : Int} (hf : fldW f df) (hg : fldW g dg) (hs : shrW s n) {ps qs : List (List Str)} (hp : ∀ p ∈ ps, p ∈ PM) (hq : ∀ p ∈ qs, p ∈ PM) (hl : ps.length ≤ 1000 ∧ qs.length ≤ 1000) : ∃ d, shapeT d ∧ rTail [] (ahd ps ++ (cellW f g s ++ bhd qs)) = .ok (d, []) := by
  have hfuel : ps.length + qs.length + 2 ≤ (ahd ps ++ (cellW f g s ++ bhd qs)).length + 1 := by
    have h1 : ps.length ≤ (ahd ps).length := by
      clear hp
      induction ps with
      | nil => exact Nat.le_refl _
      | cons p ps ih =>
        have := ih (by simp at hl; omega)
        simp [ahd] at this ⊢
        omega
    have h2 : qs.length ≤ (bhd qs).length := by
      clear hq
      induction qs with
      | nil => exact Nat.le_refl _
      | cons p ps ih =>
        have := ih (by simp at hl; omega)
        simp [bhd] at this ⊢
        omega
    simp [cellW] at *
    omega
  obtain ⟨k, hk⟩ : ∃ k, (ahd ps ++ (cellW f g s ++ bhd qs)).length + 1 = (k + qs.length + 1) + ps.length := ⟨(ahd ps ++ (cellW f g s ++ bhd qs)).length - qs.length - ps.length, by omega⟩
  obtain ⟨pu, it, g1, l1, l2, e1⟩ := loop_ahead ps hp (k + qs.length + 1) (cellW f g s ++ bhd qs) [] [] ⟨fun _ h => (nomatch h), fun _ h => (nomatch h)⟩
  obtain ⟨pu2, it2, g2, l3, l4, e2⟩ := loop_behind qs hq k (cellW f g s) _ (fun rest _ => cell_part hf hg hs rest) (cell_partT hf hg hs) pu it g1
  refine ⟨.tup [.tup [], .tup pu2, .tup it2], ⟨pu2, it2, rfl, by simp at l1; omega, by simp at l2; omega, g2.f, g2.i⟩, ?_⟩
  unfold rTail
  rw [hk, e1, e2]
  rfl
/-- what is refused in the cell is refused in the whole, at the same place -/
theorem law_bad {us u : List Str} (he : rPart us = .error u) {ps : List (List Str)} (hp : ∀ p ∈ ps, p ∈ PM) : rTail [] (ahd ps ++ us) = .error u := by
  have h1 : ps.length ≤ (ahd ps).length := by
    clear hp
    induction ps with
    | nil => exact Nat.le_refl _
    | cons p ps ih => simp [ahd] at ih ⊢; omega
  obtain ⟨k, hk⟩ : ∃ k, (ahd ps ++ us).length + 1 = (k + 1) + ps.length := ⟨(ahd ps ++ us).length - ps.length, by simp; omega⟩
  obtain ⟨pu, it, g1, l1, l2, e1⟩ := loop_ahead ps hp (k + 1) us [] [] ⟨fun _ h => (nomatch h), fun _ h => (nomatch h)⟩
  unfold rTail
  rw [hk, e1, rLoop_succ, he]
  rfl
end K04


set_option Elab.async false
set_option linter.all false
set_option maxRecDepth 100000
set_option maxHeartbeats 4000000
/-! law k04: bad forms of the law's cell, in plain -/
namespace K04
open PySem PySem.Spec PyProof.Rows L2 Y YD TL PySem.NumText
/-- a word that begins no term -/
structure NoT (w : Str) : Prop where
  a : w ≠ "nil"
  b : w ≠ "-"
  c : hdDig w = false
  d : isNm w = false
theorem term_bad {w : Str} (h : NoT w) (r : List Str) : rTerm (w :: r) = .error (w :: r) := by
  unfold rTerm
  rw [if_neg (show ¬ ((w :: r).headD "" = "nil") from h.a), if_neg (show ¬ ((w :: r).headD "" = "-") from h.b), if_neg (show ¬ (hdDig ((w :: r).headD "") = true) from by show ¬ (hdDig w = true); rw [h.c]; decide)]
  exact if_neg (by show ¬ (isNm w = true); rw [h.d]; decide)
theorem term_end : rTerm [] = .error [] := by
  unfold rTerm
  rw [if_neg (show ¬ (([] : List Str).headD "" = "nil") from by show ¬ (("" : Str) = "nil"); decide +kernel), if_neg (show ¬ (([] : List Str).headD "" = "-") from by show ¬ (("" : Str) = "-"); decide +kernel), if_neg (show ¬ (hdDig (([] : List Str).headD "") = true) from by show ¬ (hdDig ("" : Str) = true); decide +kernel)]
  exact if_neg (by show ¬ (isNm ("" : Str) = true); decide +kernel)
theorem need_end {w : Str} (h : w ≠ "") : needW w [] = .error [] := if_neg fun z => h z.symm
theorem bindE_err {α β ε : Type} (e : ε) (f : α → Except ε β) : bindE (.error e) f = .error e := rfl
theorem bad0 {w : Str} (h : NoT w) (h1 : w ≠ "emp" ∧ w ≠ "list" ∧ w ≠ "tree") (r : List Str) : rPart (w :: r) = .error (w :: r) := by
  rw [part_term h1.1 h1.2.1 h1.2.2, term_bad h, bindE_err]
/-- behind x: what is no ==, != -/
theorem part_x {us : List Str} (h1 : us.headD "" ≠ "==") (h2 : us.headD "" ≠ "!=") : rPart (("x" : Str) :: us) = bindE (needW "->" us) fun u => rCell (.str "x") u := by
  rw [part_term (by decide +kernel) (by decide +kernel) (by decide +kernel), term_name nm_x, bindE_ok]
  simp only
  rw [if_neg h1, if_neg h2]
theorem bad1 {us : List Str} (h1 : us.headD "" ≠ "==") (h2 : us.headD "" ≠ "!=") (h3 : us.headD "" ≠ "->") : rPart (("x" : Str) :: us) = .error us := by
  rw [part_x h1 h2, show needW "->" us = .error us from if_neg h3, bindE_err]
/-- behind x -> -/
theorem part_arrow (us : List Str) : rPart (("x" : Str) :: ("->" : Str) :: us) = rCell (.str "x") us := by
  rw [part_x (by show ("->" : Str) ≠ "=="; decide +kernel) (by show ("->" : Str) ≠ "!="; decide +kernel), need_ok, bindE_ok]
theorem bad2 {us : List Str} (h : us.headD "" ≠ "(") : rPart (("x" : Str) :: ("->" : Str) :: us) = .error us := by
  rw [part_arrow]
  unfold rCell
  rw [show needW "(" us = .error us from if_neg h, bindE_err]
theorem bad3 {us : List Str} (h : rTerm us = .error us) : rPart (("x" : Str) :: ("->" : Str) :: ("(" : Str) :: us) = .error us := by
  rw [part_arrow]
  unfold rCell
  rw [need_ok, bindE_ok, h, bindE_err]
theorem bad4 {f : Str} {df : D} (hf : fldW f df) {us : List Str} (h : us.headD "" ≠ ",") : rPart (("x" : Str) :: ("->" : Str) :: ("(" : Str) :: f :: us) = .error us := by
  rw [part_arrow]
  unfold rCell
  rw [need_ok, bindE_ok, hf.2, bindE_ok]
  simp only
  rw [show needW "," us = .error us from if_neg h, bindE_err]
theorem bad5 {f : Str} {df : D} (hf : fldW f df) {us : List Str} (h : rTerm us = .error us) : rPart (("x" : Str) :: ("->" : Str) :: ("(" : Str) :: f :: ("," : Str) :: us) = .error us := by
  rw [part_arrow]
  unfold rCell
  rw [need_ok, bindE_ok, hf.2, bindE_ok]
  simp only
  rw [need_ok, bindE_ok, h, bindE_err]
theorem bad6 {f g : Str} {df dg : D} (hf : fldW f df) (hg : fldW g dg) {us : List Str} (h : us.headD "" ≠ ")") : rPart (("x" : Str) :: ("->" : Str) :: ("(" : Str) :: f :: ("," : Str) :: g :: us) = .error us := by
  rw [part_arrow]
  unfold rCell
  rw [need_ok, bindE_ok, hf.2, bindE_ok]
  simp only
  rw [need_ok, bindE_ok, hg.2, bindE_ok]
  simp only
  rw [show needW ")" us = .error us from if_neg h, bindE_err]
/-- a word that is no by: the cell is whole and something stands behind it -/
theorem bad7 {f g : Str} {df dg : D} (hf : fldW f df) (hg : fldW g dg) {us : List Str} (h : us.headD "" ≠ "by") : rPart (("x" : Str) :: ("->" : Str) :: ("(" : Str) :: f :: ("," : Str) :: g :: (")" : Str) :: us) = .ok (.tup [.str "cell", .int 12, .str "x", df, dg], us) := by
  rw [part_arrow]
  unfold rCell
  rw [need_ok, bindE_ok, hf.2, bindE_ok]
  simp only
  rw [need_ok, bindE_ok, hg.2, bindE_ok]
  simp only
  rw [need_ok, bindE_ok, if_neg h]
/-- the share is none -/
theorem bad8 {f g : Str} {df dg : D} (hf : fldW f df) (hg : fldW g dg) {us : List Str} (h : ∀ n u, rNum us = some (n, u) → ¬ (1 ≤ n ∧ n ≤ 12)) : rPart (("x" : Str) :: ("->" : Str) :: ("(" : Str) :: f :: ("," : Str) :: g :: (")" : Str) :: ("by" : Str) :: us) = .error us := by
  rw [part_arrow]
  unfold rCell
  rw [need_ok, bindE_ok, hf.2, bindE_ok]
  simp only
  rw [need_ok, bindE_ok, hg.2, bindE_ok]
  simp only
  rw [need_ok, bindE_ok, if_pos (show (("by" : Str) :: us).headD "" = "by" from rfl), List.tail_cons]
  cases e : rNum us with
  | none => rfl
  | some p =>
    obtain ⟨n, u⟩ := p
    simp only
    rw [if_neg (h n u e)]
end K04


set_option Elab.async false
set_option linter.all false
set_option maxRecDepth 100000
set_option maxHeartbeats 4000000
set_option pp.deepTerms true
set_option pp.maxSteps 3000
/-! the readings of law k04: the drawn part -/
namespace K04
open PySem PySem.Spec PyProof.Rows L2 Y YD
local macro_rules | `(tactic| walk_at "y_ne") => `(tactic| first | assumption | exact Ne.symm (by assumption) | ((refine ne_none (M := ?yM) (m := ?ymo) ?ym1 ?ym2); (case ym2 => assumption); (case ym1 => walk_at "y_look")) | ((refine Ne.symm (ne_none (M := ?yM) (m := ?ymo) ?ym1 ?ym2)); (case ym2 => assumption); (case ym1 => walk_at "y_look")) | ((refine ne_none (M := ?yM) (m := ?ymo) ?ym1 (put_none (M := ?yM) (a := ?yma) (m := ?ymo2) ?ym2).2); (case ym2 => assumption); (case ym1 => walk_at "y_look")) | ((refine Ne.symm (ne_none (M := ?yM) (m := ?ymo) ?ym1 (put_none (M := ?yM) (a := ?yma) (m := ?ymo2) ?ym2).2)); (case ym2 => assumption); (case ym1 => walk_at "y_look")))
local macro_rules | `(tactic| walk_at "y_look") => `(tactic| first | assumption | exact put_same | ((with_reducible refine Eq.trans (put_ne ?yn) ?_); (case yn => walk_at "y_ne"); (walk_at "y_look")) | ((with_reducible refine Eq.trans (drop_ne ?yn) ?_); (case yn => walk_at "y_ne"); (walk_at "y_look")))
local macro_rules | `(tactic| walk_at "y_pl") => `(tactic| first | assumption | exact PlL.nil | exact Pl.int _ | exact Pl.non | exact Pl.bl _ | exact Pl.str (by decide +kernel) | ((with_reducible refine PlL.cons ?yp1 ?yp2); (case yp1 => walk_at "y_pl"); (case yp2 => walk_at "y_pl")) | ((with_reducible refine PlL.append ?yp1 ?yp2); (case yp1 => walk_at "y_pl"); (case yp2 => walk_at "y_pl")) | ((with_reducible refine Pl.tup ?yp1); (case yp1 => walk_at "y_pl")) | ((with_reducible refine PlL.mono (j := ?yj) ?yp1 ?yp2); (case yp1 => assumption); (case yp2 => first | decide | omega)) | ((with_reducible refine Pl.mono (j := ?yj) ?yp1 ?yp2); (case yp1 => assumption); (case yp2 => first | decide | omega)))
local macro_rules | `(tactic| walk_at "y_len") => `(tactic| ((try simp only [List.length_append, List.length_cons, List.length_nil, List.length_map, sizeLine_eq] at *); omega))
local macro_rules | `(tactic| walk_at "y_rfl") => `(tactic| first | rfl | (simp only [atI_nn]; rfl))
local macro_rules | `(tactic| walk_at "y_at") => `(tactic| first | exact atI_nn _ 0 | rfl)
local macro_rules | `(tactic| walk_at "y_cond") => `(tactic| first
  | (show (0 : Int) < _; first | decide | assumption | omega)
  | (exact ⟨by first | decide | assumption | omega, by first | decide | assumption | omega⟩)
  | (exact Or.inl ⟨by first | decide | assumption | omega, by first | decide | assumption | omega⟩)
  | (exact Or.inr ⟨by first | decide | assumption | omega, by first | decide | assumption | omega⟩)
  | (exact ⟨by decide, by decide, by decide⟩))
local macro_rules | `(tactic| walk_at "y1") => `(tactic| first
  | (with_reducible first | refine i_seq ?_ | refine i_next ?_ | refine i_asg ?_ | refine i_ret ?_ | refine i_retN ?_ | refine i_drop ?_ | refine i_cont ?_ | refine i_break ?_ | refine i_ifs ?_ | refine i_if ?_ | refine i_and ?_ | refine i_or ?_ | refine i_not ?_ | refine i_test ?_ | refine i_tru ?_ | refine i_andV ?_ | refine i_orV ?_ | refine i_notV ?_ | refine i_bl ?_ | refine i_op ?_ | refine i_chain ?_ | refine i_c ?_ | refine i_cd ?_ | refine i_nil ?_ | refine i_cons ?_ | refine i_call ?_ | refine i_cb ?_ | refine i_tup ?_ | refine i_lst ?_ | refine i_lstM ?_ | refine i_dict ?_ | refine i_frz ?_ | refine i_name ?_ | refine i_gcons ?_ | refine i_gnil ?_ | refine i_gsub ?_ | refine i_par ?_ | refine i_par2 ?_ | refine i_un ?_ | refine i_int ?_ | refine i_slice ?_ | refine i_onone ?_ | refine i_osome ?_ | refine i_bm ?_ | refine i_bm0 ?_ | refine i_get1 ?_ | refine i_get2 ?_ | refine i_del ?_ | refine i_for ?_ | refine i_lc ?_ | refine i_dc ?_ | refine i_yes ?_ | refine i_it ?_ | refine i_rng1 ?_ | refine i_fld ?_ | refine i_sfld ?_ | refine i_meth ?_ | refine i_make ?_ | refine v_I0 ?_ | refine v_plusI ?_ | refine v_eqI ?_ | refine v_eqS ?_ | refine v_isN ?_ | refine v_int ?_ | refine v_abs ?_ | refine v_sliceT ?_ | refine v_sliceL ?_ | refine b_fx ?_ | refine b_tx ?_)
  | ((with_reducible refine i_var (d := ?yd) ?ye0 ?_); (case ye0 => rfl))
  | ((with_reducible refine i_gtup ?ye0 ?_); (case ye0 => rfl))
  | (with_reducible refine iteT ?_)
  | (with_reducible refine iteF ?_)
  | (with_reducible refine b_dec ?_ ?_ <;> intro hc)
  | (with_reducible refine b_ndec ?_ ?_ <;> intro hc)
  | ((with_reducible refine v_subT (d := ?yd) ?ye0 ?_); (case ye0 => rfl))
  | ((with_reducible refine v_subL (d := ?yd) ?ye0 ?_); (case ye0 => rfl))
  | ((with_reducible refine v_subM (ds := ?yds) (d := ?yd) ?ye0 ?ye1 ?_); (case ye0 => (walk_at "y_look")); (case ye1 => rfl))
  | ((with_reducible refine v_setL (ds := ?yds) (j := ?yj) ?ye0 ?ye1 ?_); (case ye0 => (walk_at "y_look")); (case ye1 => rfl))
  | ((with_reducible refine v_I ?ye0 ?_); (case ye0 => (walk_at "y_cond")))
  | ((with_reducible refine i_sz ?ye0 ?_); (case ye0 => (first | exact Nat.le_of_ble_eq_true rfl | (simp only [List.length_append, List.length_cons, List.length_nil, List.length_map, sizeLine_eq] at *; omega))))
  | (with_reducible refine i_new fun yp yhp => ?_)
  | ((with_reducible refine v_app (ds := ?yds) ?ye0 ?ye1 ?_); (case ye0 => (walk_at "y_look")); (case ye1 => (first | (simp only [List.length_append, List.length_cons, List.length_nil, List.length_map, sizeLine_eq] at *; omega))))
  | ((with_reducible refine i_tyL (ds := ?yds) ?ye0 ?_); (case ye0 => (walk_at "y_look")))
  | (with_reducible refine i_tyl ?_)
  | ((with_reducible refine v_subK (kvs := ?ykv) (k := ?yk) (d := ?yd) ?ye0 ?ye1 ?ye2 ?_); (case ye0 => (walk_at "y_look")); (case ye1 => rfl); (case ye2 => first | assumption | rfl))
  | ((with_reducible refine v_plusL (ds := ?yds) (es := ?yes) ?ye0 ?ye1 ?ye2 ?_); (case ye0 => first | rfl | (with_reducible refine lsD_ref (ds := ?yds2) ?yl0; walk_at "y_look")); (case ye1 => first | rfl | (with_reducible refine lsD_ref (ds := ?yds2) ?yl0; walk_at "y_look")); (case ye2 => (simp only [List.length_append, List.length_cons, List.length_nil, List.length_map, sizeLine_eq] at *; omega)))
  | ((with_reducible refine v_plusT ?ye0 ?_); (case ye0 => (simp only [List.length_append, List.length_cons, List.length_nil, List.length_map, sizeLine_eq] at *; omega)))
  | ((with_reducible refine i_rng1d ?ye0 ?_); (case ye0 => (constructor <;> omega)))
  | ((with_reducible refine v_len (n := ?yn) ?ye0 ?_); (case ye0 => first | ((with_reducible refine lenD_ref (ds := ?yds) ?yl0); (case yl0 => walk_at "y_look")) | rfl))
  | ((with_reducible refine v_list (es := ?yes) ?ye0 ?_); (case ye0 => first | (with_reducible refine itD_ref (ds := ?yds) ?yl0; walk_at "y_look") | rfl))
  | ((with_reducible refine v_tuple (es := ?yes) ?ye0 ?_); (case ye0 => first | (with_reducible refine itD_ref (ds := ?yds) ?yl0; walk_at "y_look") | rfl))
  | ((with_reducible refine v_eqP ?ye0 ?ye1 fun yb => ?_); (case ye0 => walk_at "y_pl"); (case ye1 => walk_at "y_pl"))
  | (with_reducible refine b_emp ?_ ?_ <;> intro hc)
  | (with_reducible refine i_trul ?_)
  | (with_reducible refine i_trut ?_)
  | (with_reducible refine i_trub ?_)
  | ((with_reducible refine v_inT ?ye0 ?_); (case ye0 => exact ⟨rfl, rfl⟩))
  | (with_reducible refine b_var ?_ ?_ <;> intro hc)
  | ((with_reducible refine i_its (ds := ?yds) ?ye0 ?_); (case ye0 => rfl)))
local macro_rules | `(tactic| walk_at "y0") => `(tactic| repeat' (walk_at "y1"))
local macro_rules | `(tactic| walk_at "ys") => `(tactic| walk_at "y0")
local macro_rules | `(tactic| walk_at "y_nn") => `(tactic| first | assumption | exact (put_none (by assumption)).2 | exact (put_none (put_none (by assumption)).2).2 | exact (put_none (put_none (put_none (by assumption)).2).2).2)
local macro_rules | `(tactic| walk_at "y_kl1") => `(tactic| first | (with_reducible exact KL.merge) | ((with_reducible refine KL.put (n := ?ykn) ?ykk); (case ykk => walk_at "y_kl1")))
local macro_rules | `(tactic| walk_at "y_kl") => `(tactic| ((refine KL.lt (n := ?yn) ?yk1 ?yk2); (case yk1 => walk_at "y_kl1"); (case yk2 => first | decide | (simp; done))))
local macro_rules | `(tactic| walk_at "y_fr") => `(tactic| first | exact Fr.refl _ _ | assumption | ((refine Fr.put ?yf1 ?yf2); (case yf2 => simp); (case yf1 => walk_at "y_fr")) | ((refine Fr.drop ?yf1 ?yf2); (case yf2 => simp); (case yf1 => walk_at "y_fr")))
local macro_rules | `(tactic| walk_at "y_fin") => `(tactic| first | assumption | rfl | walk_at "y_look" | walk_at "y_pl" | walk_at "y_fr" | omega | walk_at "y_len" | (intros; omega))
local macro_rules | `(tactic| walk_at "y_take") => `(tactic| ((with_reducible refine i_take (t := ?yt) ?yl ?yo ?yb fun yr yt' yr0 yr1 yok => ?_); (case yl => walk_at "y_look"); (case yo => assumption); (case yb => (constructor <;> first | omega | (simp; omega)))))
local macro_rules | `(tactic| walk_at "y_pick") => `(tactic| first | ((with_reducible refine i_pick2 (k := 0) (t := ?yt) ?yl ?yo ?yb ?yP fun yd yt' yP ym yok => ?_); (case yl => walk_at "y_look"); (case yo => assumption); (case yb => (constructor <;> walk_at "y_len")); (case yP => walk_at "y_pl")) | ((with_reducible refine i_pick2 (k := 5) (t := ?yt) ?yl ?yo ?yb ?yP fun yd yt' yP ym yok => ?_); (case yl => walk_at "y_look"); (case yo => assumption); (case yb => (constructor <;> walk_at "y_len")); (case yP => walk_at "y_pl")))
local macro_rules | `(tactic| walk_at "y2") => `(tactic| first | walk_at "y1" | walk_at "y_take" | walk_at "y_pick" | (with_reducible refine i_disp fun yp yhp => ?_) | (with_reducible refine i_pcons ?_) | (with_reducible refine i_pnil ?_) | (with_reducible refine i_mut ?_) | ((with_reducible refine v_inT' ?ye0 ?ye1 fun yb => ?_); (case ye0 => walk_at "y_pl"); (case ye1 => walk_at "y_pl")) | ((with_reducible refine v_setK (kvs := ?ykv) (k := ?yk) ?ye0 ?ye1 ?ye2 ?_); (case ye0 => walk_at "y_look"); (case ye1 => rfl); (case ye2 => walk_at "y_kl")) | ((with_reducible refine i_mutd (ds := ?yds) ?ye0 ?_); (case ye0 => walk_at "y_look")) | ((with_reducible refine i_glst' ?ye0 ?_); (case ye0 => rfl)))
local macro_rules | `(tactic| walk_at "ys") => `(tactic| repeat' (walk_at "y2"))
local macro_rules | `(tactic| walk_at "y1") => `(tactic| (with_reducible first | refine i_callX ?_ | refine i_methX ?_ | refine i_raise ?_ | refine i_tryAs ?_ | refine i_tryOnly ?_ | refine i_xf ?_ | refine i_isE ?_ | refine i_zip ?_ | refine i_enum ?_ | refine i_rev ?_))
local macro_rules | `(tactic| walk_at "y1") => `(tactic| ((with_reducible refine v_subLk (kvs := ?ykv) (k := ?yk) (d := ?yd) (od := ?yod) (xs := ?yxs) ?ye0 ?ye1 ?ye2 ?_); (case ye0 => (walk_at "y_look")); (case ye1 => rfl); (case ye2 => first | assumption | rfl)))
local macro_rules | `(tactic| walk_at "y1") => `(tactic| first
  | (with_reducible first | refine v_isT ?_ | refine v_isF ?_ | refine iteNT ?_ | refine iteNF ?_)
  | ((with_reducible refine v_isNF ?ye0 ?_); (case ye0 => rfl))
  | ((with_reducible refine v_isNT ?ye0 ?_); (case ye0 => rfl)))
def spPart : DSp := fun ds M Q _ => ∃ a t, ds = [.ref a] ∧ M a = some (tkM t) ∧ t.ok ∧ ∀ p t', p ∈ PM → t'.ok → Q (.lst (p.map D.str)) (put M a (tkM t'))
theorem rd_part (ds : List D) (M : Mm) (Q : QD) (E : DX) (h : spPart ds M Q E) : r__law_part spPick { nx := fun _ M' => less Q .non M', rt := less Q } (startD 1 ds) M := by
  obtain ⟨a, t, rfl, hM, ok, k⟩ := h
  show r__law_part _ _ [some (.ref a)] M
  unfold r__law_part
  have key : spPick [.ref a, .lst (PM.map fun p => D.lst (p.map D.str))] M (less Q) noX := by
    refine i_pick (P := fun d => ∃ p ∈ PM, d = .lst (p.map D.str)) hM ok ⟨by decide, by decide⟩ (fun d hd => ?_) fun d t' hd ok' => ?_
    · obtain ⟨p, hp, rfl⟩ := List.mem_map.mp hd
      exact ⟨p, hp, rfl⟩
    · obtain ⟨p, hp, rfl⟩ := hd
      exact less_of (k p t' hp ok') rfl
  refine i_ret (i_call (i_cons (i_var rfl (i_cons ?_))))
  walk_at "ys"
  exact key
end K04


set_option Elab.async false
set_option linter.all false
set_option maxRecDepth 100000
set_option maxHeartbeats 4000000
/-! law k04: joined texts as they are told, in plain -/
namespace K04
open PySem PySem.Spec PyProof.Rows L2 Y YD TL
theorem gd_no35 {w : Str} (h : gdW w) : ∀ c ∈ w.cps.toList, c ≠ 35 := by
  rcases h with h | h
  · unfold runW at h
    cases hc : w.cps.toList with
    | nil => exact fun c hc => nomatch hc
    | cons c r =>
      rw [hc] at h
      simp only [Bool.and_eq_true, Bool.not_eq_true', List.all_eq_true] at h
      intro d hd
      rcases List.mem_cons.mp hd with rfl | hd
      · intro z; subst z; exact absurd h.1.2 (by decide +kernel)
      · intro z; subst z; exact absurd (h.2 35 hd) (by decide +kernel)
  · exact (by decide +kernel : ∀ w ∈ SGL, ∀ c ∈ w.cps.toList, c ≠ 35) w h
theorem join_mem : ∀ (ps : List (List Nat)) (c : Nat), c ∈ joinL [32] ps → c = 32 ∨ ∃ p ∈ ps, c ∈ p
  | [], c, h => nomatch h
  | [p], c, h => .inr ⟨p, by simp, h⟩
  | p :: q :: r, c, h => by
    simp only [joinL, List.mem_append, List.mem_cons, List.not_mem_nil, or_false] at h
    rcases h with h | rfl | h
    · exact .inr ⟨p, by simp, h⟩
    · exact .inl rfl
    · rcases join_mem (q :: r) c h with h | ⟨z, hz, hc⟩
      · exact .inl h
      · exact .inr ⟨z, List.mem_cons_of_mem _ hz, hc⟩
theorem join_le : ∀ (ps : List (List Nat)), (∀ p ∈ ps, p.length ≤ 100) → (joinL [32] ps).length ≤ 101 * ps.length
  | [], _ => Nat.zero_le _
  | [p], h => by have := h p (by simp); simp only [joinL, List.length_cons, List.length_nil]; omega
  | p :: q :: r, h => by
    have h1 := h p (by simp)
    have h2 := join_le (q :: r) fun z hz => h z (List.mem_cons_of_mem _ hz)
    simp only [joinL, List.length_append, List.length_cons, List.length_nil] at h2 ⊢
    omega
/-- a joined text may be told of -/
theorem join_in {ws : List Str} (hne : ws ≠ []) (hw : ∀ w ∈ ws, gdW w ∧ w.length ≤ 100) (hn : ws.length ≤ 5000) : okIn (Txt.join " " ws) := by
  refine ⟨?_, ?_, ?_⟩
  · rw [← len_cps, cps_join]
    have := join_le (ws.map TL.tl) fun p hp => by
      obtain ⟨w, hw', rfl⟩ := List.mem_map.mp hp
      rw [← len_tl]
      exact (hw w hw').2
    rw [List.length_map] at this
    omega
  · rw [cps_join]
    intro c hc
    rcases join_mem _ c hc with rfl | ⟨p, hp, hc⟩
    · decide
    · obtain ⟨w, hw', rfl⟩ := List.mem_map.mp hp
      exact gd_no35 (hw w hw').1 c hc
  · intro us e
    rw [words_join hne fun w h => (hw w h).1] at e
    cases e
    exact ⟨by omega, fun w h => ⟨gd_pos (hw w h).1, by have := (hw w h).2; omega⟩⟩
end K04


set_option Elab.async false
set_option linter.all false
set_option maxRecDepth 100000
set_option maxHeartbeats 4000000
/-! law k04: what is told of the law's texts, in plain -/
namespace K04
open PySem PySem.Spec PyProof.Rows L2 Y YD TL
/-- a text whose first word is no some -/
theorem shape_plain {us : List Str} (h : us.headD "" ≠ "some") : rShape us = rTail [] us := if_neg h
theorem told_ok {ws : List Str} {d : D} (hne : ws ≠ []) (hw : ∀ w ∈ ws, gdW w) (hs : ws.headD "" ≠ "some") (h : rTail [] ws = .ok (d, [])) : pText pShape (Txt.join " " ws) = .ok d := by
  unfold pText
  rw [words_join hne hw]
  simp only
  unfold pShape
  rw [shape_plain hs, h]
  rfl
/-- refused with u left of it -/
theorem told_bad {ws u : List Str} (hne : ws ≠ []) (hw : ∀ w ∈ ws, gdW w) (hs : ws.headD "" ≠ "some") (h : rTail [] ws = .error u) : pText pShape (Txt.join " " ws) = .error ("form", ws.length - u.length) := by
  unfold pText
  rw [words_join hne hw]
  simp only
  unfold pShape
  rw [shape_plain hs, h]
/-- something stands behind the shape -/
theorem told_more {ws u : List Str} {d : D} (hne : ws ≠ []) (hw : ∀ w ∈ ws, gdW w) (hs : ws.headD "" ≠ "some") (hu : u ≠ []) (h : rTail [] ws = .ok (d, u)) : pText pShape (Txt.join " " ws) = .error ("form", ws.length - u.length) := by
  unfold pText
  rw [words_join hne hw]
  simp only
  unfold pShape
  rw [shape_plain hs, h]
  simp only
  rw [if_neg hu]
theorem told_sign {s : Str} {m : Nat} (h : wordsOf s = .error m) : pText pShape s = .error ("sign", m) := by
  unfold pText
  rw [h]
/-- the cell whole, and us behind it -/
theorem law_more {cp us : List Str} {d : D} (hc : rPart (cp ++ us) = .ok (d, us)) (hd : partT d) (hu : us.headD "" ≠ "*") {ps : List (List Str)} (hp : ∀ p ∈ ps, p ∈ PM) : ∃ e, rTail [] (ahd ps ++ (cp ++ us)) = .ok (e, us) := by
  have h1 : ps.length ≤ (ahd ps).length := by
    clear hp
    induction ps with
    | nil => exact Nat.le_refl _
    | cons p ps ih => simp [ahd] at ih ⊢; omega
  obtain ⟨k, hk⟩ : ∃ k, (ahd ps ++ (cp ++ us)).length + 1 = (k + 1) + ps.length := ⟨(ahd ps ++ (cp ++ us)).length - ps.length, by simp; omega⟩
  obtain ⟨pu, it, g1, l1, l2, e1⟩ := loop_ahead ps hp (k + 1) (cp ++ us) [] [] ⟨fun _ h => (nomatch h), fun _ h => (nomatch h)⟩
  unfold rTail
  rw [hk, e1, rLoop_succ, hc, bindE_ok]
  simp only
  rw [if_neg hu]
  exact ⟨_, rfl⟩
end K04


set_option Elab.async false
set_option linter.all false
set_option maxRecDepth 100000
set_option maxHeartbeats 4000000
set_option pp.deepTerms true
set_option pp.maxSteps 3000
/-! the readings of law k04: the law, its end -/
namespace K04
open PySem PySem.Spec PyProof.Rows L2 Y YD TL
local macro_rules | `(tactic| walk_at "y_ne") => `(tactic| first | assumption | exact Ne.symm (by assumption) | ((refine ne_none (M := ?yM) (m := ?ymo) ?ym1 ?ym2); (case ym2 => assumption); (case ym1 => walk_at "y_look")) | ((refine Ne.symm (ne_none (M := ?yM) (m := ?ymo) ?ym1 ?ym2)); (case ym2 => assumption); (case ym1 => walk_at "y_look")) | ((refine ne_none (M := ?yM) (m := ?ymo) ?ym1 (put_none (M := ?yM) (a := ?yma) (m := ?ymo2) ?ym2).2); (case ym2 => assumption); (case ym1 => walk_at "y_look")) | ((refine Ne.symm (ne_none (M := ?yM) (m := ?ymo) ?ym1 (put_none (M := ?yM) (a := ?yma) (m := ?ymo2) ?ym2).2)); (case ym2 => assumption); (case ym1 => walk_at "y_look")))
local macro_rules | `(tactic| walk_at "y_look") => `(tactic| first | assumption | exact put_same | ((with_reducible refine Eq.trans (put_ne ?yn) ?_); (case yn => walk_at "y_ne"); (walk_at "y_look")) | ((with_reducible refine Eq.trans (drop_ne ?yn) ?_); (case yn => walk_at "y_ne"); (walk_at "y_look")))
local macro_rules | `(tactic| walk_at "y_pl") => `(tactic| first | assumption | exact PlL.nil | exact Pl.int _ | exact Pl.non | exact Pl.bl _ | exact Pl.str (by decide +kernel) | ((with_reducible refine PlL.cons ?yp1 ?yp2); (case yp1 => walk_at "y_pl"); (case yp2 => walk_at "y_pl")) | ((with_reducible refine PlL.append ?yp1 ?yp2); (case yp1 => walk_at "y_pl"); (case yp2 => walk_at "y_pl")) | ((with_reducible refine Pl.tup ?yp1); (case yp1 => walk_at "y_pl")) | ((with_reducible refine PlL.mono (j := ?yj) ?yp1 ?yp2); (case yp1 => assumption); (case yp2 => first | decide | omega)) | ((with_reducible refine Pl.mono (j := ?yj) ?yp1 ?yp2); (case yp1 => assumption); (case yp2 => first | decide | omega)))
local macro_rules | `(tactic| walk_at "y_len") => `(tactic| ((try simp only [List.length_append, List.length_cons, List.length_nil, List.length_map, sizeLine_eq] at *); omega))
local macro_rules | `(tactic| walk_at "y_rfl") => `(tactic| first | rfl | (simp only [atI_nn]; rfl))
local macro_rules | `(tactic| walk_at "y_at") => `(tactic| first | exact atI_nn _ 0 | rfl)
local macro_rules | `(tactic| walk_at "y_cond") => `(tactic| first
  | (show (0 : Int) < _; first | decide | assumption | omega)
  | (exact ⟨by first | decide | assumption | omega, by first | decide | assumption | omega⟩)
  | (exact Or.inl ⟨by first | decide | assumption | omega, by first | decide | assumption | omega⟩)
  | (exact Or.inr ⟨by first | decide | assumption | omega, by first | decide | assumption | omega⟩)
  | (exact ⟨by decide, by decide, by decide⟩))
local macro_rules | `(tactic| walk_at "y1") => `(tactic| first
  | (with_reducible first | refine i_seq ?_ | refine i_next ?_ | refine i_asg ?_ | refine i_ret ?_ | refine i_retN ?_ | refine i_drop ?_ | refine i_cont ?_ | refine i_break ?_ | refine i_ifs ?_ | refine i_if ?_ | refine i_and ?_ | refine i_or ?_ | refine i_not ?_ | refine i_test ?_ | refine i_tru ?_ | refine i_andV ?_ | refine i_orV ?_ | refine i_notV ?_ | refine i_bl ?_ | refine i_op ?_ | refine i_chain ?_ | refine i_c ?_ | refine i_cd ?_ | refine i_nil ?_ | refine i_cons ?_ | refine i_call ?_ | refine i_cb ?_ | refine i_tup ?_ | refine i_lst ?_ | refine i_lstM ?_ | refine i_dict ?_ | refine i_frz ?_ | refine i_name ?_ | refine i_gcons ?_ | refine i_gnil ?_ | refine i_gsub ?_ | refine i_par ?_ | refine i_par2 ?_ | refine i_un ?_ | refine i_int ?_ | refine i_slice ?_ | refine i_onone ?_ | refine i_osome ?_ | refine i_bm ?_ | refine i_bm0 ?_ | refine i_get1 ?_ | refine i_get2 ?_ | refine i_del ?_ | refine i_for ?_ | refine i_lc ?_ | refine i_dc ?_ | refine i_yes ?_ | refine i_it ?_ | refine i_rng1 ?_ | refine i_fld ?_ | refine i_sfld ?_ | refine i_meth ?_ | refine i_make ?_ | refine v_I0 ?_ | refine v_plusI ?_ | refine v_eqI ?_ | refine v_eqS ?_ | refine v_isN ?_ | refine v_int ?_ | refine v_abs ?_ | refine v_sliceT ?_ | refine v_sliceL ?_ | refine b_fx ?_ | refine b_tx ?_)
  | ((with_reducible refine i_var (d := ?yd) ?ye0 ?_); (case ye0 => rfl))
  | ((with_reducible refine i_gtup ?ye0 ?_); (case ye0 => rfl))
  | (with_reducible refine iteT ?_)
  | (with_reducible refine iteF ?_)
  | (with_reducible refine b_dec ?_ ?_ <;> intro hc)
  | (with_reducible refine b_ndec ?_ ?_ <;> intro hc)
  | ((with_reducible refine v_subT (d := ?yd) ?ye0 ?_); (case ye0 => rfl))
  | ((with_reducible refine v_subL (d := ?yd) ?ye0 ?_); (case ye0 => rfl))
  | ((with_reducible refine v_subM (ds := ?yds) (d := ?yd) ?ye0 ?ye1 ?_); (case ye0 => (walk_at "y_look")); (case ye1 => rfl))
  | ((with_reducible refine v_setL (ds := ?yds) (j := ?yj) ?ye0 ?ye1 ?_); (case ye0 => (walk_at "y_look")); (case ye1 => rfl))
  | ((with_reducible refine v_I ?ye0 ?_); (case ye0 => (walk_at "y_cond")))
  | ((with_reducible refine i_sz ?ye0 ?_); (case ye0 => (first | exact Nat.le_of_ble_eq_true rfl | (simp only [List.length_append, List.length_cons, List.length_nil, List.length_map, sizeLine_eq] at *; omega))))
  | (with_reducible refine i_new fun yp yhp => ?_)
  | ((with_reducible refine v_app (ds := ?yds) ?ye0 ?ye1 ?_); (case ye0 => (walk_at "y_look")); (case ye1 => (first | (simp only [List.length_append, List.length_cons, List.length_nil, List.length_map, sizeLine_eq] at *; omega))))
  | ((with_reducible refine i_tyL (ds := ?yds) ?ye0 ?_); (case ye0 => (walk_at "y_look")))
  | (with_reducible refine i_tyl ?_)
  | ((with_reducible refine v_subK (kvs := ?ykv) (k := ?yk) (d := ?yd) ?ye0 ?ye1 ?ye2 ?_); (case ye0 => (walk_at "y_look")); (case ye1 => rfl); (case ye2 => first | assumption | rfl))
  | ((with_reducible refine v_plusL (ds := ?yds) (es := ?yes) ?ye0 ?ye1 ?ye2 ?_); (case ye0 => first | rfl | (with_reducible refine lsD_ref (ds := ?yds2) ?yl0; walk_at "y_look")); (case ye1 => first | rfl | (with_reducible refine lsD_ref (ds := ?yds2) ?yl0; walk_at "y_look")); (case ye2 => (simp only [List.length_append, List.length_cons, List.length_nil, List.length_map, sizeLine_eq] at *; omega)))
  | ((with_reducible refine v_plusT ?ye0 ?_); (case ye0 => (simp only [List.length_append, List.length_cons, List.length_nil, List.length_map, sizeLine_eq] at *; omega)))
  | ((with_reducible refine i_rng1d ?ye0 ?_); (case ye0 => (constructor <;> omega)))
  | ((with_reducible refine v_len (n := ?yn) ?ye0 ?_); (case ye0 => first | ((with_reducible refine lenD_ref (ds := ?yds) ?yl0); (case yl0 => walk_at "y_look")) | rfl))
  | ((with_reducible refine v_list (es := ?yes) ?ye0 ?_); (case ye0 => first | (with_reducible refine itD_ref (ds := ?yds) ?yl0; walk_at "y_look") | rfl))
  | ((with_reducible refine v_tuple (es := ?yes) ?ye0 ?_); (case ye0 => first | (with_reducible refine itD_ref (ds := ?yds) ?yl0; walk_at "y_look") | rfl))
  | ((with_reducible refine v_eqP ?ye0 ?ye1 fun yb => ?_); (case ye0 => walk_at "y_pl"); (case ye1 => walk_at "y_pl"))
  | (with_reducible refine b_emp ?_ ?_ <;> intro hc)
  | (with_reducible refine i_trul ?_)
  | (with_reducible refine i_trut ?_)
  | (with_reducible refine i_trub ?_)
  | ((with_reducible refine v_inT ?ye0 ?_); (case ye0 => exact ⟨rfl, rfl⟩))
  | (with_reducible refine b_var ?_ ?_ <;> intro hc)
  | ((with_reducible refine i_its (ds := ?yds) ?ye0 ?_); (case ye0 => rfl)))
local macro_rules | `(tactic| walk_at "y0") => `(tactic| repeat' (walk_at "y1"))
local macro_rules | `(tactic| walk_at "ys") => `(tactic| walk_at "y0")
local macro_rules | `(tactic| walk_at "y_nn") => `(tactic| first | assumption | exact (put_none (by assumption)).2 | exact (put_none (put_none (by assumption)).2).2 | exact (put_none (put_none (put_none (by assumption)).2).2).2)
local macro_rules | `(tactic| walk_at "y_kl1") => `(tactic| first | (with_reducible exact KL.merge) | ((with_reducible refine KL.put (n := ?ykn) ?ykk); (case ykk => walk_at "y_kl1")))
local macro_rules | `(tactic| walk_at "y_kl") => `(tactic| ((refine KL.lt (n := ?yn) ?yk1 ?yk2); (case yk1 => walk_at "y_kl1"); (case yk2 => first | decide | (simp; done))))
local macro_rules | `(tactic| walk_at "y_fr") => `(tactic| first | exact Fr.refl _ _ | assumption | ((refine Fr.put ?yf1 ?yf2); (case yf2 => simp); (case yf1 => walk_at "y_fr")) | ((refine Fr.drop ?yf1 ?yf2); (case yf2 => simp); (case yf1 => walk_at "y_fr")))
local macro_rules | `(tactic| walk_at "y_fin") => `(tactic| first | assumption | rfl | walk_at "y_look" | walk_at "y_pl" | walk_at "y_fr" | omega | walk_at "y_len" | (intros; omega))
local macro_rules | `(tactic| walk_at "y_take") => `(tactic| ((with_reducible refine i_take (t := ?yt) ?yl ?yo ?yb fun yr yt' yr0 yr1 yok => ?_); (case yl => walk_at "y_look"); (case yo => assumption); (case yb => (constructor <;> first | omega | (simp; omega)))))
local macro_rules | `(tactic| walk_at "y_pick") => `(tactic| first | ((with_reducible refine i_pick2 (k := 0) (t := ?yt) ?yl ?yo ?yb ?yP fun yd yt' yP ym yok => ?_); (case yl => walk_at "y_look"); (case yo => assumption); (case yb => (constructor <;> walk_at "y_len")); (case yP => walk_at "y_pl")) | ((with_reducible refine i_pick2 (k := 5) (t := ?yt) ?yl ?yo ?yb ?yP fun yd yt' yP ym yok => ?_); (case yl => walk_at "y_look"); (case yo => assumption); (case yb => (constructor <;> walk_at "y_len")); (case yP => walk_at "y_pl")))
local macro_rules | `(tactic| walk_at "y2") => `(tactic| first | walk_at "y1" | walk_at "y_take" | walk_at "y_pick" | (with_reducible refine i_disp fun yp yhp => ?_) | (with_reducible refine i_pcons ?_) | (with_reducible refine i_pnil ?_) | (with_reducible refine i_mut ?_) | ((with_reducible refine v_inT' ?ye0 ?ye1 fun yb => ?_); (case ye0 => walk_at "y_pl"); (case ye1 => walk_at "y_pl")) | ((with_reducible refine v_setK (kvs := ?ykv) (k := ?yk) ?ye0 ?ye1 ?ye2 ?_); (case ye0 => walk_at "y_look"); (case ye1 => rfl); (case ye2 => walk_at "y_kl")) | ((with_reducible refine i_mutd (ds := ?yds) ?ye0 ?_); (case ye0 => walk_at "y_look")) | ((with_reducible refine i_glst' ?ye0 ?_); (case ye0 => rfl)))
local macro_rules | `(tactic| walk_at "ys") => `(tactic| repeat' (walk_at "y2"))
local macro_rules | `(tactic| walk_at "y1") => `(tactic| (with_reducible first | refine i_callX ?_ | refine i_methX ?_ | refine i_raise ?_ | refine i_tryAs ?_ | refine i_tryOnly ?_ | refine i_xf ?_ | refine i_isE ?_ | refine i_zip ?_ | refine i_enum ?_ | refine i_rev ?_))
local macro_rules | `(tactic| walk_at "y1") => `(tactic| ((with_reducible refine v_subLk (kvs := ?ykv) (k := ?yk) (d := ?yd) (od := ?yod) (xs := ?yxs) ?ye0 ?ye1 ?ye2 ?_); (case ye0 => (walk_at "y_look")); (case ye1 => rfl); (case ye2 => first | assumption | rfl)))
local macro_rules | `(tactic| walk_at "y1") => `(tactic| first
  | (with_reducible first | refine v_isT ?_ | refine v_isF ?_ | refine iteNT ?_ | refine iteNF ?_)
  | ((with_reducible refine v_isNF ?ye0 ?_); (case ye0 => rfl))
  | ((with_reducible refine v_isNT ?ye0 ?_); (case ye0 => rfl)))
theorem v_plusStr {a b : Str} {M : Mm} {Q : QD} (h : a.length + b.length ≤ sizeLine) (q : Q (.str (a ++ b)) M) : plusD (.str a) (.str b) M Q := ⟨h, q⟩
theorem strsD_map : ∀ ws : List Str, strsD (ws.map D.str) = some ws
  | [] => rfl
  | w :: ws => by simp [strsD, strsD_map ws]
theorem v_joinS {s : Str} {ws : List Str} {M : Mm} {Q : QD} (h : (ws.map (·.length)).sum + ws.length * s.length ≤ 16777216) (q : Q (.str (Txt.join s ws)) M) : mJoin (.str s) [.lst (ws.map D.str)] M Q :=
  ⟨s, _, _, ws, rfl, rfl, rfl, strsD_map ws, h, q⟩
local macro_rules | `(tactic| walk_at "y1") => `(tactic| (with_reducible refine i_tyS ?_))
abbrev EL (Q : QD) : DEnds := { nx := fun _ M' => less Q .non M', rt := less Q }
theorem tail1 {K : PySem.W.Frag} {CH CI CT : Addr} (T : XT K CH CI CT) (TT : PySem.W.exmOne K (.ref CT) (.ref CT) = some true) {Q : QD} {M : Mm} {ws : List Str} {x0 x1 x2 x3 x4 x5 x6 x8 x9 x10 x11 x12 x13 x14 x15 : Option D} (k : ∀ M', Q (.bl true) M')
    (hz : (ws.map (·.length)).sum ≤ 1000000 ∧ ws.length ≤ 100000 ∧ (Txt.join " " ws).length ≤ 2000000) (hin : okIn (Txt.join " " ws ++ " or")) (he : pText pAss (Txt.join " " ws ++ " or") = .error ("form", ws.length + 1)) :
    r_law_c1 K spBegin spTake spPart spPick spTold CT (spPA CT) (EL Q) [x0, x1, x2, x3, x4, x5, x6, some (.lst (ws.map D.str)), x8, x9, x10, x11, x12, x13, x14, x15, none] M := by
  have s1 : (" " : Str).length = 1 := by decide +kernel
  have s2 : (" or" : Str).length = 3 := by decide +kernel
  unfold r_law_c1
  walk_at "ys"
  refine v_joinS (by rw [s1]; omega) ?_
  walk_at "ys"
  refine v_plusStr (by rw [sizeLine_eq, s2]; omega) ?_
  walk_at "ys"
  refine ⟨_, _, _, rfl, hin, he, ?_⟩
  refine ⟨true, TT, fun _ a ha => ?_, fun z => by cases z⟩
  walk_at "ys"
  refine ⟨rfl, CT, .str "form", rfl, T.xfT, T.nfT, rfl, ?_⟩
  walk_at "ys"
  refine ⟨rfl, CT, .int ((ws.length + 1 : Nat) : Int), rfl, T.xfT, T.nfA, rfl, ?_⟩
  walk_at "ys"
  · have e : decide (((ws.length + 1 : Nat) : Int) = (((ws.map D.str).length : Nat) : Int) + 1) = true := decide_eq_true (by rw [List.length_map]; rfl)
    rw [e]
    exact less_of (k _) rfl
  · contradiction
def isErr (x : Except (Str × Nat) D) (c : Str) (n : Nat) : Bool := match x with | .error (a, b) => decide (a = c) && decide (b = n) | .ok _ => false
theorem of_isErr {x : Except (Str × Nat) D} {c : Str} {n : Nat} (h : isErr x c n = true) : x = .error (c, n) := by
  unfold isErr at h
  split at h
  · simp only [Bool.and_eq_true, decide_eq_true_eq] at h
    rw [h.1, h.2]
  · cases h
def okB (s : Str) : Bool := decide (s.length ≤ 1000000) && s.cps.toList.all (fun c => decide (c ≠ 35)) && (match wordsOf s with | .ok ws => decide (ws.length ≤ 1000000) && ws.all (fun w => decide (1 ≤ w.length ∧ w.length ≤ 1000000)) | .error _ => true)
theorem of_okB {s : Str} (h : okB s = true) : okIn s := by
  unfold okB at h
  simp only [Bool.and_eq_true, decide_eq_true_eq, List.all_eq_true] at h
  refine ⟨h.1.1, h.1.2, fun ws e => ?_⟩
  have h2 := h.2
  rw [e] at h2
  simp only [Bool.and_eq_true, decide_eq_true_eq, List.all_eq_true] at h2
  exact h2
theorem i_told {s : Str} {c : Str} {n : Nat} {M : Mm} {Q : QD} {E : DX} (h1 : okIn s) (h2 : pText pShape s = .error (c, n)) (q : Q (.tup [.str c, .int (n : Nat)]) M) : spTold [.str s] M Q E :=
  ⟨s, rfl, h1, fun d e => (by rw [h2] at e; cases e), fun c' n' e => (by rw [h2] at e; cases e; exact q)⟩
theorem t_none : okIn "" ∧ pText pShape "" = .error ("form", 0) := ⟨of_okB (by decide +kernel), of_isErr (by decide +kernel)⟩
theorem t_some1 : okIn "some . emp" ∧ pText pShape "some . emp" = .error ("form", 1) := ⟨of_okB (by decide +kernel), of_isErr (by decide +kernel)⟩
theorem t_some2 : okIn "some d emp" ∧ pText pShape "some d emp" = .error ("form", 2) := ⟨of_okB (by decide +kernel), of_isErr (by decide +kernel)⟩
local macro_rules | `(tactic| walk_at "y1") => `(tactic| ((with_reducible refine v_eqSame ?ye0 ?_); (case ye0 => walk_at "y_pl")))
theorem tail2 {K : PySem.W.Frag} {CH CI CT : Addr} (T : XT K CH CI CT) (TT : PySem.W.exmOne K (.ref CT) (.ref CT) = some true) {Q : QD} {M : Mm} {ws : List Str} {x0 x1 x2 x3 x4 x5 x6 x8 x9 x10 x11 x12 x13 x14 x15 : Option D} (k : ∀ M', Q (.bl true) M')
    (hz : (ws.map (·.length)).sum ≤ 1000000 ∧ ws.length ≤ 100000 ∧ (Txt.join " " ws).length ≤ 2000000) (hin : okIn (Txt.join " " ws ++ " or")) (he : pText pAss (Txt.join " " ws ++ " or") = .error ("form", ws.length + 1)) :
    r_law_c2 K spBegin spTake spPart spPick spTold CT (spPA CT) (EL Q) [x0, x1, x2, x3, x4, x5, x6, some (.lst (ws.map D.str)), x8, x9, x10, x11, x12, x13, x14, x15, none] M := by
  unfold r_law_c2
  walk_at "ys"
  refine i_told t_none.1 t_none.2 ?_
  rw [show ((0 : Nat) : Int) = 0 from rfl]
  walk_at "ys"
  refine i_told t_some1.1 t_some1.2 ?_
  rw [show ((1 : Nat) : Int) = 1 from rfl]
  walk_at "ys"
  refine i_told t_some2.1 t_some2.2 ?_
  rw [show ((2 : Nat) : Int) = 2 from rfl]
  walk_at "ys"
  exact tail1 T TT k hz hin he
end K04


set_option Elab.async false
set_option linter.all false
set_option maxRecDepth 100000
set_option maxHeartbeats 4000000
set_option pp.deepTerms true
set_option pp.maxSteps 3000
/-! the readings of law k04: the law's long numbers -/
namespace K04
open PySem PySem.Spec PyProof.Rows L2 Y YD TL
local macro_rules | `(tactic| walk_at "y_ne") => `(tactic| first | assumption | exact Ne.symm (by assumption) | ((refine ne_none (M := ?yM) (m := ?ymo) ?ym1 ?ym2); (case ym2 => assumption); (case ym1 => walk_at "y_look")) | ((refine Ne.symm (ne_none (M := ?yM) (m := ?ymo) ?ym1 ?ym2)); (case ym2 => assumption); (case ym1 => walk_at "y_look")) | ((refine ne_none (M := ?yM) (m := ?ymo) ?ym1 (put_none (M := ?yM) (a := ?yma) (m := ?ymo2) ?ym2).2); (case ym2 => assumption); (case ym1 => walk_at "y_look")) | ((refine Ne.symm (ne_none (M := ?yM) (m := ?ymo) ?ym1 (put_none (M := ?yM) (a := ?yma) (m := ?ymo2) ?ym2).2)); (case ym2 => assumption); (case ym1 => walk_at "y_look")))
local macro_rules | `(tactic| walk_at "y_look") => `(tactic| first | assumption | exact put_same | ((with_reducible refine Eq.trans (put_ne ?yn) ?_); (case yn => walk_at "y_ne"); (walk_at "y_look")) | ((with_reducible refine Eq.trans (drop_ne ?yn) ?_); (case yn => walk_at "y_ne"); (walk_at "y_look")))
local macro_rules | `(tactic| walk_at "y_pl") => `(tactic| first | assumption | exact PlL.nil | exact Pl.int _ | exact Pl.non | exact Pl.bl _ | exact Pl.str (by decide +kernel) | ((with_reducible refine PlL.cons ?yp1 ?yp2); (case yp1 => walk_at "y_pl"); (case yp2 => walk_at "y_pl")) | ((with_reducible refine PlL.append ?yp1 ?yp2); (case yp1 => walk_at "y_pl"); (case yp2 => walk_at "y_pl")) | ((with_reducible refine Pl.tup ?yp1); (case yp1 => walk_at "y_pl")) | ((with_reducible refine PlL.mono (j := ?yj) ?yp1 ?yp2); (case yp1 => assumption); (case yp2 => first | decide | omega)) | ((with_reducible refine Pl.mono (j := ?yj) ?yp1 ?yp2); (case yp1 => assumption); (case yp2 => first | decide | omega)))
local macro_rules | `(tactic| walk_at "y_len") => `(tactic| ((try simp only [List.length_append, List.length_cons, List.length_nil, List.length_map, sizeLine_eq] at *); omega))
local macro_rules | `(tactic| walk_at "y_rfl") => `(tactic| first | rfl | (simp only [atI_nn]; rfl))
local macro_rules | `(tactic| walk_at "y_at") => `(tactic| first | exact atI_nn _ 0 | rfl)
local macro_rules | `(tactic| walk_at "y_cond") => `(tactic| first
  | (show (0 : Int) < _; first | decide | assumption | omega)
  | (exact ⟨by first | decide | assumption | omega, by first | decide | assumption | omega⟩)
  | (exact Or.inl ⟨by first | decide | assumption | omega, by first | decide | assumption | omega⟩)
  | (exact Or.inr ⟨by first | decide | assumption | omega, by first | decide | assumption | omega⟩)
  | (exact ⟨by decide, by decide, by decide⟩))
local macro_rules | `(tactic| walk_at "y1") => `(tactic| first
  | (with_reducible first | refine i_seq ?_ | refine i_next ?_ | refine i_asg ?_ | refine i_ret ?_ | refine i_retN ?_ | refine i_drop ?_ | refine i_cont ?_ | refine i_break ?_ | refine i_ifs ?_ | refine i_if ?_ | refine i_and ?_ | refine i_or ?_ | refine i_not ?_ | refine i_test ?_ | refine i_tru ?_ | refine i_andV ?_ | refine i_orV ?_ | refine i_notV ?_ | refine i_bl ?_ | refine i_op ?_ | refine i_chain ?_ | refine i_c ?_ | refine i_cd ?_ | refine i_nil ?_ | refine i_cons ?_ | refine i_call ?_ | refine i_cb ?_ | refine i_tup ?_ | refine i_lst ?_ | refine i_lstM ?_ | refine i_dict ?_ | refine i_frz ?_ | refine i_name ?_ | refine i_gcons ?_ | refine i_gnil ?_ | refine i_gsub ?_ | refine i_par ?_ | refine i_par2 ?_ | refine i_un ?_ | refine i_int ?_ | refine i_slice ?_ | refine i_onone ?_ | refine i_osome ?_ | refine i_bm ?_ | refine i_bm0 ?_ | refine i_get1 ?_ | refine i_get2 ?_ | refine i_del ?_ | refine i_for ?_ | refine i_lc ?_ | refine i_dc ?_ | refine i_yes ?_ | refine i_it ?_ | refine i_rng1 ?_ | refine i_fld ?_ | refine i_sfld ?_ | refine i_meth ?_ | refine i_make ?_ | refine v_I0 ?_ | refine v_plusI ?_ | refine v_eqI ?_ | refine v_eqS ?_ | refine v_isN ?_ | refine v_int ?_ | refine v_abs ?_ | refine v_sliceT ?_ | refine v_sliceL ?_ | refine b_fx ?_ | refine b_tx ?_)
  | ((with_reducible refine i_var (d := ?yd) ?ye0 ?_); (case ye0 => rfl))
  | ((with_reducible refine i_gtup ?ye0 ?_); (case ye0 => rfl))
  | (with_reducible refine iteT ?_)
  | (with_reducible refine iteF ?_)
  | (with_reducible refine b_dec ?_ ?_ <;> intro hc)
  | (with_reducible refine b_ndec ?_ ?_ <;> intro hc)
  | ((with_reducible refine v_subT (d := ?yd) ?ye0 ?_); (case ye0 => rfl))
  | ((with_reducible refine v_subL (d := ?yd) ?ye0 ?_); (case ye0 => rfl))
  | ((with_reducible refine v_subM (ds := ?yds) (d := ?yd) ?ye0 ?ye1 ?_); (case ye0 => (walk_at "y_look")); (case ye1 => rfl))
  | ((with_reducible refine v_setL (ds := ?yds) (j := ?yj) ?ye0 ?ye1 ?_); (case ye0 => (walk_at "y_look")); (case ye1 => rfl))
  | ((with_reducible refine v_I ?ye0 ?_); (case ye0 => (walk_at "y_cond")))
  | ((with_reducible refine i_sz ?ye0 ?_); (case ye0 => (first | exact Nat.le_of_ble_eq_true rfl | (simp only [List.length_append, List.length_cons, List.length_nil, List.length_map, sizeLine_eq] at *; omega))))
  | (with_reducible refine i_new fun yp yhp => ?_)
  | ((with_reducible refine v_app (ds := ?yds) ?ye0 ?ye1 ?_); (case ye0 => (walk_at "y_look")); (case ye1 => (first | (simp only [List.length_append, List.length_cons, List.length_nil, List.length_map, sizeLine_eq] at *; omega))))
  | ((with_reducible refine i_tyL (ds := ?yds) ?ye0 ?_); (case ye0 => (walk_at "y_look")))
  | (with_reducible refine i_tyl ?_)
  | ((with_reducible refine v_subK (kvs := ?ykv) (k := ?yk) (d := ?yd) ?ye0 ?ye1 ?ye2 ?_); (case ye0 => (walk_at "y_look")); (case ye1 => rfl); (case ye2 => first | assumption | rfl))
  | ((with_reducible refine v_plusL (ds := ?yds) (es := ?yes) ?ye0 ?ye1 ?ye2 ?_); (case ye0 => first | rfl | (with_reducible refine lsD_ref (ds := ?yds2) ?yl0; walk_at "y_look")); (case ye1 => first | rfl | (with_reducible refine lsD_ref (ds := ?yds2) ?yl0; walk_at "y_look")); (case ye2 => (simp only [List.length_append, List.length_cons, List.length_nil, List.length_map, sizeLine_eq] at *; omega)))
  | ((with_reducible refine v_plusT ?ye0 ?_); (case ye0 => (simp only [List.length_append, List.length_cons, List.length_nil, List.length_map, sizeLine_eq] at *; omega)))
  | ((with_reducible refine i_rng1d ?ye0 ?_); (case ye0 => (constructor <;> omega)))
  | ((with_reducible refine v_len (n := ?yn) ?ye0 ?_); (case ye0 => first | ((with_reducible refine lenD_ref (ds := ?yds) ?yl0); (case yl0 => walk_at "y_look")) | rfl))
  | ((with_reducible refine v_list (es := ?yes) ?ye0 ?_); (case ye0 => first | (with_reducible refine itD_ref (ds := ?yds) ?yl0; walk_at "y_look") | rfl))
  | ((with_reducible refine v_tuple (es := ?yes) ?ye0 ?_); (case ye0 => first | (with_reducible refine itD_ref (ds := ?yds) ?yl0; walk_at "y_look") | rfl))
  | ((with_reducible refine v_eqP ?ye0 ?ye1 fun yb => ?_); (case ye0 => walk_at "y_pl"); (case ye1 => walk_at "y_pl"))
  | (with_reducible refine b_emp ?_ ?_ <;> intro hc)
  | (with_reducible refine i_trul ?_)
  | (with_reducible refine i_trut ?_)
  | (with_reducible refine i_trub ?_)
  | ((with_reducible refine v_inT ?ye0 ?_); (case ye0 => exact ⟨rfl, rfl⟩))
  | (with_reducible refine b_var ?_ ?_ <;> intro hc)
  | ((with_reducible refine i_its (ds := ?yds) ?ye0 ?_); (case ye0 => rfl)))
local macro_rules | `(tactic| walk_at "y0") => `(tactic| repeat' (walk_at "y1"))
local macro_rules | `(tactic| walk_at "ys") => `(tactic| walk_at "y0")
local macro_rules | `(tactic| walk_at "y_nn") => `(tactic| first | assumption | exact (put_none (by assumption)).2 | exact (put_none (put_none (by assumption)).2).2 | exact (put_none (put_none (put_none (by assumption)).2).2).2)
local macro_rules | `(tactic| walk_at "y_kl1") => `(tactic| first | (with_reducible exact KL.merge) | ((with_reducible refine KL.put (n := ?ykn) ?ykk); (case ykk => walk_at "y_kl1")))
local macro_rules | `(tactic| walk_at "y_kl") => `(tactic| ((refine KL.lt (n := ?yn) ?yk1 ?yk2); (case yk1 => walk_at "y_kl1"); (case yk2 => first | decide | (simp; done))))
local macro_rules | `(tactic| walk_at "y_fr") => `(tactic| first | exact Fr.refl _ _ | assumption | ((refine Fr.put ?yf1 ?yf2); (case yf2 => simp); (case yf1 => walk_at "y_fr")) | ((refine Fr.drop ?yf1 ?yf2); (case yf2 => simp); (case yf1 => walk_at "y_fr")))
local macro_rules | `(tactic| walk_at "y_fin") => `(tactic| first | assumption | rfl | walk_at "y_look" | walk_at "y_pl" | walk_at "y_fr" | omega | walk_at "y_len" | (intros; omega))
local macro_rules | `(tactic| walk_at "y_take") => `(tactic| ((with_reducible refine i_take (t := ?yt) ?yl ?yo ?yb fun yr yt' yr0 yr1 yok => ?_); (case yl => walk_at "y_look"); (case yo => assumption); (case yb => (constructor <;> first | omega | (simp; omega)))))
local macro_rules | `(tactic| walk_at "y_pick") => `(tactic| first | ((with_reducible refine i_pick2 (k := 0) (t := ?yt) ?yl ?yo ?yb ?yP fun yd yt' yP ym yok => ?_); (case yl => walk_at "y_look"); (case yo => assumption); (case yb => (constructor <;> walk_at "y_len")); (case yP => walk_at "y_pl")) | ((with_reducible refine i_pick2 (k := 5) (t := ?yt) ?yl ?yo ?yb ?yP fun yd yt' yP ym yok => ?_); (case yl => walk_at "y_look"); (case yo => assumption); (case yb => (constructor <;> walk_at "y_len")); (case yP => walk_at "y_pl")))
local macro_rules | `(tactic| walk_at "y2") => `(tactic| first | walk_at "y1" | walk_at "y_take" | walk_at "y_pick" | (with_reducible refine i_disp fun yp yhp => ?_) | (with_reducible refine i_pcons ?_) | (with_reducible refine i_pnil ?_) | (with_reducible refine i_mut ?_) | ((with_reducible refine v_inT' ?ye0 ?ye1 fun yb => ?_); (case ye0 => walk_at "y_pl"); (case ye1 => walk_at "y_pl")) | ((with_reducible refine v_setK (kvs := ?ykv) (k := ?yk) ?ye0 ?ye1 ?ye2 ?_); (case ye0 => walk_at "y_look"); (case ye1 => rfl); (case ye2 => walk_at "y_kl")) | ((with_reducible refine i_mutd (ds := ?yds) ?ye0 ?_); (case ye0 => walk_at "y_look")) | ((with_reducible refine i_glst' ?ye0 ?_); (case ye0 => rfl)))
local macro_rules | `(tactic| walk_at "ys") => `(tactic| repeat' (walk_at "y2"))
local macro_rules | `(tactic| walk_at "y1") => `(tactic| (with_reducible first | refine i_callX ?_ | refine i_methX ?_ | refine i_raise ?_ | refine i_tryAs ?_ | refine i_tryOnly ?_ | refine i_xf ?_ | refine i_isE ?_ | refine i_zip ?_ | refine i_enum ?_ | refine i_rev ?_))
local macro_rules | `(tactic| walk_at "y1") => `(tactic| ((with_reducible refine v_subLk (kvs := ?ykv) (k := ?yk) (d := ?yd) (od := ?yod) (xs := ?yxs) ?ye0 ?ye1 ?ye2 ?_); (case ye0 => (walk_at "y_look")); (case ye1 => rfl); (case ye2 => first | assumption | rfl)))
local macro_rules | `(tactic| walk_at "y1") => `(tactic| first
  | (with_reducible first | refine v_isT ?_ | refine v_isF ?_ | refine iteNT ?_ | refine iteNF ?_)
  | ((with_reducible refine v_isNF ?ye0 ?_); (case ye0 => rfl))
  | ((with_reducible refine v_isNT ?ye0 ?_); (case ye0 => rfl)))
local macro_rules | `(tactic| walk_at "y1") => `(tactic| (with_reducible refine i_tyS ?_))
local macro_rules | `(tactic| walk_at "y1") => `(tactic| ((with_reducible refine v_eqSame ?ye0 ?_); (case ye0 => walk_at "y_pl")))
theorem len_app (a b : Str) : (a ++ b : Str).length = a.length + b.length := by
  rw [len_tl, tl_append, List.length_append, ← len_tl, ← len_tl]
theorem i_toldY {s : Str} {d : D} {M : Mm} {Q : QD} {E : DX} (h1 : okIn s) (h2 : pText pShape s = .ok d) (h3 : shapeT d) (q : Q .non M) : spTold [.str s] M Q E :=
  ⟨s, rfl, h1, fun d' e => (by rw [h2] at e; cases e; exact ⟨h3, q⟩), fun c' n' e => (by rw [h2] at e; cases e)⟩
/-- x == n as a shape -/
def eqSh (n : Int) : D := .tup [.tup [], .tup [.tup [.str "eq", .str "x", .int n]], .tup []]
theorem eq_sh {n : Int} (h : numOk n = true) : shapeT (eqSh n) := by
  refine ⟨[.tup [.str "eq", .str "x", .int n]], [], rfl, by simp, by simp, ?_, fun _ z => nomatch z⟩
  intro f hf
  rw [List.mem_singleton] at hf
  subst hf
  exact ⟨_, _, _, rfl, .inl rfl, tm_x, tm_int h⟩
def isEq (x : Except (Str × Nat) D) (n : Int) : Bool := match x with
  | .ok (.tup [.tup [], .tup [.tup [.v (.str a), .v (.str b), .v (.int m)]], .tup []]) => decide (a = "eq") && decide (b = "x") && decide (m = n) && numOk n
  | _ => false
theorem of_isEq {x : Except (Str × Nat) D} {n : Int} (h : isEq x n = true) : x = .ok (eqSh n) ∧ shapeT (eqSh n) := by
  unfold isEq at h
  split at h
  · simp only [Bool.and_eq_true, decide_eq_true_eq] at h
    obtain ⟨⟨⟨rfl, rfl⟩, rfl⟩, h2⟩ := h
    exact ⟨rfl, eq_sh h2⟩
  · cases h
structure LongOk (f l : Str) : Prop where
  e : l = f ++ repS "7" (30 - f.length)
  z : f.length + (repS "7" (30 - f.length)).length ≤ 100 ∧ f.length ≤ 30 ∧ l.length ≤ 100
  a : okIn ("x == " ++ l) ∧ ∃ n, pText pShape ("x == " ++ l) = .ok (eqSh n) ∧ shapeT (eqSh n)
  b : okIn ("x == -" ++ l) ∧ ∃ n, pText pShape ("x == -" ++ l) = .ok (eqSh n) ∧ shapeT (eqSh n)
  c : okIn (("x == " ++ l) ++ "0") ∧ pText pShape (("x == " ++ l) ++ "0") = .error ("form", 2)
  d : okIn (("x == -" ++ l) ++ "1") ∧ pText pShape (("x == -" ++ l) ++ "1") = .error ("form", 3)
theorem long1 : LongOk "1" "177777777777777777777777777777" := ⟨by decide +kernel, by decide +kernel, ⟨of_okB (by decide +kernel), 177777777777777777777777777777, of_isEq (by decide +kernel)⟩, ⟨of_okB (by decide +kernel), -177777777777777777777777777777, of_isEq (by decide +kernel)⟩, ⟨of_okB (by decide +kernel), of_isErr (by decide +kernel)⟩, ⟨of_okB (by decide +kernel), of_isErr (by decide +kernel)⟩⟩
theorem long9 : LongOk "9" "977777777777777777777777777777" := ⟨by decide +kernel, by decide +kernel, ⟨of_okB (by decide +kernel), 977777777777777777777777777777, of_isEq (by decide +kernel)⟩, ⟨of_okB (by decide +kernel), -977777777777777777777777777777, of_isEq (by decide +kernel)⟩, ⟨of_okB (by decide +kernel), of_isErr (by decide +kernel)⟩, ⟨of_okB (by decide +kernel), of_isErr (by decide +kernel)⟩⟩
theorem long40 : LongOk "40" "407777777777777777777777777777" := ⟨by decide +kernel, by decide +kernel, ⟨of_okB (by decide +kernel), 407777777777777777777777777777, of_isEq (by decide +kernel)⟩, ⟨of_okB (by decide +kernel), -407777777777777777777777777777, of_isEq (by decide +kernel)⟩, ⟨of_okB (by decide +kernel), of_isErr (by decide +kernel)⟩, ⟨of_okB (by decide +kernel), of_isErr (by decide +kernel)⟩⟩
theorem long_of {f : Str} (h : f ∈ ([("1" : Str), "9", "40"] : List Str)) : ∃ l, LongOk f l := by
  simp only [List.mem_cons, List.not_mem_nil, or_false] at h
  rcases h with rfl | rfl | rfl
  · exact ⟨_, long1⟩
  · exact ⟨_, long9⟩
  · exact ⟨_, long40⟩
theorem tail3 {K : PySem.W.Frag} {CH CI CT : Addr} (T : XT K CH CI CT) (TT : PySem.W.exmOne K (.ref CT) (.ref CT) = some true) {Q : QD} {M : Mm} {ws : List Str} {f l : Str} (L : LongOk f l) {x0 x1 x2 x3 x4 x5 x6 x8 x9 x10 x11 x12 x13 x14 : Option D} (k : ∀ M', Q (.bl true) M')
    (hz : (ws.map (·.length)).sum ≤ 1000000 ∧ ws.length ≤ 100000 ∧ (Txt.join " " ws).length ≤ 2000000) (hin : okIn (Txt.join " " ws ++ " or")) (he : pText pAss (Txt.join " " ws ++ " or") = .error ("form", ws.length + 1)) :
    r_law_c3 K spBegin spTake spPart spPick spTold CT (spPA CT) (EL Q) [x0, x1, x2, x3, x4, x5, x6, some (.lst (ws.map D.str)), x8, x9, x10, x11, x12, x13, x14, some (.str l), none] M := by
  have s1 : ("x == " : Str).length = 5 := by decide +kernel
  have s2 : ("x == -" : Str).length = 6 := by decide +kernel
  have s3 : ("0" : Str).length = 1 := by decide +kernel
  have s4 : ("1" : Str).length = 1 := by decide +kernel
  have hl := L.z.2.2
  have t1 : ("x == " ++ l : Str).length ≤ 105 := by rw [show ("x == " ++ l : Str).length = ("x == " : Str).length + l.length from len_app _ _]; omega
  have t2 : ("x == -" ++ l : Str).length ≤ 106 := by rw [show ("x == -" ++ l : Str).length = ("x == -" : Str).length + l.length from len_app _ _]; omega
  unfold r_law_c3
  walk_at "ys"
  refine v_plusStr (by rw [sizeLine_eq]; omega) ?_
  walk_at "ys"
  refine v_plusStr (by rw [sizeLine_eq]; omega) ?_
  walk_at "ys"
  refine i_told L.c.1 L.c.2 ?_
  rw [show ((2 : Nat) : Int) = 2 from rfl]
  walk_at "ys"
  refine v_plusStr (by rw [sizeLine_eq]; omega) ?_
  walk_at "ys"
  refine v_plusStr (by rw [sizeLine_eq]; omega) ?_
  walk_at "ys"
  refine i_told L.d.1 L.d.2 ?_
  rw [show ((3 : Nat) : Int) = 3 from rfl]
  walk_at "ys"
  exact tail2 T TT k hz hin he
theorem tail4 {K : PySem.W.Frag} {CH CI CT : Addr} (T : XT K CH CI CT) (TT : PySem.W.exmOne K (.ref CT) (.ref CT) = some true) {Q : QD} {M : Mm} {ws : List Str} {f : Str} (hf : f ∈ ([("1" : Str), "9", "40"] : List Str)) {x0 x1 x2 x3 x4 x5 x6 x8 x9 x10 x11 x12 x13 : Option D} (k : ∀ M', Q (.bl true) M')
    (hz : (ws.map (·.length)).sum ≤ 1000000 ∧ ws.length ≤ 100000 ∧ (Txt.join " " ws).length ≤ 2000000) (hin : okIn (Txt.join " " ws ++ " or")) (he : pText pAss (Txt.join " " ws ++ " or") = .error ("form", ws.length + 1)) :
    r_law_c4 K spBegin spTake spPart spPick spTold CT (spPA CT) (EL Q) [x0, x1, x2, x3, x4, x5, x6, some (.lst (ws.map D.str)), x8, x9, x10, x11, x12, x13, some (.str f), none, none] M := by
  obtain ⟨l, L⟩ := long_of hf
  have s1 : ("x == " : Str).length = 5 := by decide +kernel
  have s2 : ("x == -" : Str).length = 6 := by decide +kernel
  have s7 : ("7" : Str).length = 1 := by decide +kernel
  obtain ⟨z1, z2, z3⟩ := L.z
  unfold r_law_c4
  walk_at "ys"
  refine v_lenS (by rw [sizeLine_eq]; omega) ?_
  walk_at "ys"
  rw [show (30 : Int) - (f.length : Nat) = ((30 - f.length : Nat) : Int) by omega]
  refine v_mulS ⟨by omega, by omega⟩ ?_
  refine v_plusStr (by rw [sizeLine_eq]; omega) ?_
  rw [← L.e]
  walk_at "ys"
  refine v_plusStr (by rw [sizeLine_eq]; omega) ?_
  walk_at "ys"
  refine i_toldY L.a.1 L.a.2.choose_spec.1 L.a.2.choose_spec.2 ?_
  walk_at "ys"
  refine v_plusStr (by rw [sizeLine_eq]; omega) ?_
  walk_at "ys"
  refine i_toldY L.b.1 L.b.2.choose_spec.1 L.b.2.choose_spec.2 ?_
  walk_at "ys"
  exact tail3 T TT L k hz hin he
end K04


set_option Elab.async false
set_option linter.all false
set_option maxRecDepth 100000
set_option maxHeartbeats 4000000
set_option pp.deepTerms true
set_option pp.maxSteps 3000
/-! the readings of law k04: strange signs -/
namespace K04
open PySem PySem.Spec PyProof.Rows L2 Y YD TL
local macro_rules | `(tactic| walk_at "y_ne") => `(tactic| first | assumption | exact Ne.symm (by assumption) | ((refine ne_none (M := ?yM) (m := ?ymo) ?ym1 ?ym2); (case ym2 => assumption); (case ym1 => walk_at "y_look")) | ((refine Ne.symm (ne_none (M := ?yM) (m := ?ymo) ?ym1 ?ym2)); (case ym2 => assumption); (case ym1 => walk_at "y_look")) | ((refine ne_none (M := ?yM) (m := ?ymo) ?ym1 (put_none (M := ?yM) (a := ?yma) (m := ?ymo2) ?ym2).2); (case ym2 => assumption); (case ym1 => walk_at "y_look")) | ((refine Ne.symm (ne_none (M := ?yM) (m := ?ymo) ?ym1 (put_none (M := ?yM) (a := ?yma) (m := ?ymo2) ?ym2).2)); (case ym2 => assumption); (case ym1 => walk_at "y_look")))
local macro_rules | `(tactic| walk_at "y_look") => `(tactic| first | assumption | exact put_same | ((with_reducible refine Eq.trans (put_ne ?yn) ?_); (case yn => walk_at "y_ne"); (walk_at "y_look")) | ((with_reducible refine Eq.trans (drop_ne ?yn) ?_); (case yn => walk_at "y_ne"); (walk_at "y_look")))
local macro_rules | `(tactic| walk_at "y_pl") => `(tactic| first | assumption | exact PlL.nil | exact Pl.int _ | exact Pl.non | exact Pl.bl _ | exact Pl.str (by decide +kernel) | ((with_reducible refine PlL.cons ?yp1 ?yp2); (case yp1 => walk_at "y_pl"); (case yp2 => walk_at "y_pl")) | ((with_reducible refine PlL.append ?yp1 ?yp2); (case yp1 => walk_at "y_pl"); (case yp2 => walk_at "y_pl")) | ((with_reducible refine Pl.tup ?yp1); (case yp1 => walk_at "y_pl")) | ((with_reducible refine PlL.mono (j := ?yj) ?yp1 ?yp2); (case yp1 => assumption); (case yp2 => first | decide | omega)) | ((with_reducible refine Pl.mono (j := ?yj) ?yp1 ?yp2); (case yp1 => assumption); (case yp2 => first | decide | omega)))
local macro_rules | `(tactic| walk_at "y_len") => `(tactic| ((try simp only [List.length_append, List.length_cons, List.length_nil, List.length_map, sizeLine_eq] at *); omega))
local macro_rules | `(tactic| walk_at "y_rfl") => `(tactic| first | rfl | (simp only [atI_nn]; rfl))
local macro_rules | `(tactic| walk_at "y_at") => `(tactic| first | exact atI_nn _ 0 | rfl)
local macro_rules | `(tactic| walk_at "y_cond") => `(tactic| first
  | (show (0 : Int) < _; first | decide | assumption | omega)
  | (exact ⟨by first | decide | assumption | omega, by first | decide | assumption | omega⟩)
  | (exact Or.inl ⟨by first | decide | assumption | omega, by first | decide | assumption | omega⟩)
  | (exact Or.inr ⟨by first | decide | assumption | omega, by first | decide | assumption | omega⟩)
  | (exact ⟨by decide, by decide, by decide⟩))
local macro_rules | `(tactic| walk_at "y1") => `(tactic| first
  | (with_reducible first | refine i_seq ?_ | refine i_next ?_ | refine i_asg ?_ | refine i_ret ?_ | refine i_retN ?_ | refine i_drop ?_ | refine i_cont ?_ | refine i_break ?_ | refine i_ifs ?_ | refine i_if ?_ | refine i_and ?_ | refine i_or ?_ | refine i_not ?_ | refine i_test ?_ | refine i_tru ?_ | refine i_andV ?_ | refine i_orV ?_ | refine i_notV ?_ | refine i_bl ?_ | refine i_op ?_ | refine i_chain ?_ | refine i_c ?_ | refine i_cd ?_ | refine i_nil ?_ | refine i_cons ?_ | refine i_call ?_ | refine i_cb ?_ | refine i_tup ?_ | refine i_lst ?_ | refine i_lstM ?_ | refine i_dict ?_ | refine i_frz ?_ | refine i_name ?_ | refine i_gcons ?_ | refine i_gnil ?_ | refine i_gsub ?_ | refine i_par ?_ | refine i_par2 ?_ | refine i_un ?_ | refine i_int ?_ | refine i_slice ?_ | refine i_onone ?_ | refine i_osome ?_ | refine i_bm ?_ | refine i_bm0 ?_ | refine i_get1 ?_ | refine i_get2 ?_ | refine i_del ?_ | refine i_for ?_ | refine i_lc ?_ | refine i_dc ?_ | refine i_yes ?_ | refine i_it ?_ | refine i_rng1 ?_ | refine i_fld ?_ | refine i_sfld ?_ | refine i_meth ?_ | refine i_make ?_ | refine v_I0 ?_ | refine v_plusI ?_ | refine v_eqI ?_ | refine v_eqS ?_ | refine v_isN ?_ | refine v_int ?_ | refine v_abs ?_ | refine v_sliceT ?_ | refine v_sliceL ?_ | refine b_fx ?_ | refine b_tx ?_)
  | ((with_reducible refine i_var (d := ?yd) ?ye0 ?_); (case ye0 => rfl))
  | ((with_reducible refine i_gtup ?ye0 ?_); (case ye0 => rfl))
  | (with_reducible refine iteT ?_)
  | (with_reducible refine iteF ?_)
  | (with_reducible refine b_dec ?_ ?_ <;> intro hc)
  | (with_reducible refine b_ndec ?_ ?_ <;> intro hc)
  | ((with_reducible refine v_subT (d := ?yd) ?ye0 ?_); (case ye0 => rfl))
  | ((with_reducible refine v_subL (d := ?yd) ?ye0 ?_); (case ye0 => rfl))
  | ((with_reducible refine v_subM (ds := ?yds) (d := ?yd) ?ye0 ?ye1 ?_); (case ye0 => (walk_at "y_look")); (case ye1 => rfl))
  | ((with_reducible refine v_setL (ds := ?yds) (j := ?yj) ?ye0 ?ye1 ?_); (case ye0 => (walk_at "y_look")); (case ye1 => rfl))
  | ((with_reducible refine v_I ?ye0 ?_); (case ye0 => (walk_at "y_cond")))
  | ((with_reducible refine i_sz ?ye0 ?_); (case ye0 => (first | exact Nat.le_of_ble_eq_true rfl | (simp only [List.length_append, List.length_cons, List.length_nil, List.length_map, sizeLine_eq] at *; omega))))
  | (with_reducible refine i_new fun yp yhp => ?_)
  | ((with_reducible refine v_app (ds := ?yds) ?ye0 ?ye1 ?_); (case ye0 => (walk_at "y_look")); (case ye1 => (first | (simp only [List.length_append, List.length_cons, List.length_nil, List.length_map, sizeLine_eq] at *; omega))))
  | ((with_reducible refine i_tyL (ds := ?yds) ?ye0 ?_); (case ye0 => (walk_at "y_look")))
  | (with_reducible refine i_tyl ?_)
  | ((with_reducible refine v_subK (kvs := ?ykv) (k := ?yk) (d := ?yd) ?ye0 ?ye1 ?ye2 ?_); (case ye0 => (walk_at "y_look")); (case ye1 => rfl); (case ye2 => first | assumption | rfl))
  | ((with_reducible refine v_plusL (ds := ?yds) (es := ?yes) ?ye0 ?ye1 ?ye2 ?_); (case ye0 => first | rfl | (with_reducible refine lsD_ref (ds := ?yds2) ?yl0; walk_at "y_look")); (case ye1 => first | rfl | (with_reducible refine lsD_ref (ds := ?yds2) ?yl0; walk_at "y_look")); (case ye2 => (simp only [List.length_append, List.length_cons, List.length_nil, List.length_map, sizeLine_eq] at *; omega)))
  | ((with_reducible refine v_plusT ?ye0 ?_); (case ye0 => (simp only [List.length_append, List.length_cons, List.length_nil, List.length_map, sizeLine_eq] at *; omega)))
  | ((with_reducible refine i_rng1d ?ye0 ?_); (case ye0 => (constructor <;> omega)))
  | ((with_reducible refine v_len (n := ?yn) ?ye0 ?_); (case ye0 => first | ((with_reducible refine lenD_ref (ds := ?yds) ?yl0); (case yl0 => walk_at "y_look")) | rfl))
  | ((with_reducible refine v_list (es := ?yes) ?ye0 ?_); (case ye0 => first | (with_reducible refine itD_ref (ds := ?yds) ?yl0; walk_at "y_look") | rfl))
  | ((with_reducible refine v_tuple (es := ?yes) ?ye0 ?_); (case ye0 => first | (with_reducible refine itD_ref (ds := ?yds) ?yl0; walk_at "y_look") | rfl))
  | ((with_reducible refine v_eqP ?ye0 ?ye1 fun yb => ?_); (case ye0 => walk_at "y_pl"); (case ye1 => walk_at "y_pl"))
  | (with_reducible refine b_emp ?_ ?_ <;> intro hc)
  | (with_reducible refine i_trul ?_)
  | (with_reducible refine i_trut ?_)
  | (with_reducible refine i_trub ?_)
  | ((with_reducible refine v_inT ?ye0 ?_); (case ye0 => exact ⟨rfl, rfl⟩))
  | (with_reducible refine b_var ?_ ?_ <;> intro hc)
  | ((with_reducible refine i_its (ds := ?yds) ?ye0 ?_); (case ye0 => rfl)))
local macro_rules | `(tactic| walk_at "y0") => `(tactic| repeat' (walk_at "y1"))
local macro_rules | `(tactic| walk_at "ys") => `(tactic| walk_at "y0")
local macro_rules | `(tactic| walk_at "y_nn") => `(tactic| first | assumption | exact (put_none (by assumption)).2 | exact (put_none (put_none (by assumption)).2).2 | exact (put_none (put_none (put_none (by assumption)).2).2).2)
local macro_rules | `(tactic| walk_at "y_kl1") => `(tactic| first | (with_reducible exact KL.merge) | ((with_reducible refine KL.put (n := ?ykn) ?ykk); (case ykk => walk_at "y_kl1")))
local macro_rules | `(tactic| walk_at "y_kl") => `(tactic| ((refine KL.lt (n := ?yn) ?yk1 ?yk2); (case yk1 => walk_at "y_kl1"); (case yk2 => first | decide | (simp; done))))
local macro_rules | `(tactic| walk_at "y_fr") => `(tactic| first | exact Fr.refl _ _ | assumption | ((refine Fr.put ?yf1 ?yf2); (case yf2 => simp); (case yf1 => walk_at "y_fr")) | ((refine Fr.drop ?yf1 ?yf2); (case yf2 => simp); (case yf1 => walk_at "y_fr")))
local macro_rules | `(tactic| walk_at "y_fin") => `(tactic| first | assumption | rfl | walk_at "y_look" | walk_at "y_pl" | walk_at "y_fr" | omega | walk_at "y_len" | (intros; omega))
local macro_rules | `(tactic| walk_at "y_take") => `(tactic| ((with_reducible refine i_take (t := ?yt) ?yl ?yo ?yb fun yr yt' yr0 yr1 yok => ?_); (case yl => walk_at "y_look"); (case yo => assumption); (case yb => (constructor <;> first | omega | (simp; omega)))))
local macro_rules | `(tactic| walk_at "y_pick") => `(tactic| first | ((with_reducible refine i_pick2 (k := 0) (t := ?yt) ?yl ?yo ?yb ?yP fun yd yt' yP ym yok => ?_); (case yl => walk_at "y_look"); (case yo => assumption); (case yb => (constructor <;> walk_at "y_len")); (case yP => walk_at "y_pl")) | ((with_reducible refine i_pick2 (k := 5) (t := ?yt) ?yl ?yo ?yb ?yP fun yd yt' yP ym yok => ?_); (case yl => walk_at "y_look"); (case yo => assumption); (case yb => (constructor <;> walk_at "y_len")); (case yP => walk_at "y_pl")))
local macro_rules | `(tactic| walk_at "y2") => `(tactic| first | walk_at "y1" | walk_at "y_take" | walk_at "y_pick" | (with_reducible refine i_disp fun yp yhp => ?_) | (with_reducible refine i_pcons ?_) | (with_reducible refine i_pnil ?_) | (with_reducible refine i_mut ?_) | ((with_reducible refine v_inT' ?ye0 ?ye1 fun yb => ?_); (case ye0 => walk_at "y_pl"); (case ye1 => walk_at "y_pl")) | ((with_reducible refine v_setK (kvs := ?ykv) (k := ?yk) ?ye0 ?ye1 ?ye2 ?_); (case ye0 => walk_at "y_look"); (case ye1 => rfl); (case ye2 => walk_at "y_kl")) | ((with_reducible refine i_mutd (ds := ?yds) ?ye0 ?_); (case ye0 => walk_at "y_look")) | ((with_reducible refine i_glst' ?ye0 ?_); (case ye0 => rfl)))
local macro_rules | `(tactic| walk_at "ys") => `(tactic| repeat' (walk_at "y2"))
local macro_rules | `(tactic| walk_at "y1") => `(tactic| (with_reducible first | refine i_callX ?_ | refine i_methX ?_ | refine i_raise ?_ | refine i_tryAs ?_ | refine i_tryOnly ?_ | refine i_xf ?_ | refine i_isE ?_ | refine i_zip ?_ | refine i_enum ?_ | refine i_rev ?_))
local macro_rules | `(tactic| walk_at "y1") => `(tactic| ((with_reducible refine v_subLk (kvs := ?ykv) (k := ?yk) (d := ?yd) (od := ?yod) (xs := ?yxs) ?ye0 ?ye1 ?ye2 ?_); (case ye0 => (walk_at "y_look")); (case ye1 => rfl); (case ye2 => first | assumption | rfl)))
local macro_rules | `(tactic| walk_at "y1") => `(tactic| first
  | (with_reducible first | refine v_isT ?_ | refine v_isF ?_ | refine iteNT ?_ | refine iteNF ?_)
  | ((with_reducible refine v_isNF ?ye0 ?_); (case ye0 => rfl))
  | ((with_reducible refine v_isNT ?ye0 ?_); (case ye0 => rfl)))
local macro_rules | `(tactic| walk_at "y1") => `(tactic| (with_reducible refine i_tyS ?_))
local macro_rules | `(tactic| walk_at "y1") => `(tactic| ((with_reducible refine v_eqSame ?ye0 ?_); (case ye0 => walk_at "y_pl")))
def STG : List Str := ["@", "[", "?", "/", "'", "&", "|"]
theorem stg_one : ∀ g ∈ STG, ∃ c, g.cps.toList = [c] ∧ c ≠ 35 ∧ isSp c = false ∧ isHd c = false ∧ ∀ s ∈ SGL, s.cps.toList.headD 0 ≠ c := by
  intro g hg
  simp only [STG, List.mem_cons, List.not_mem_nil, or_false] at hg
  rcases hg with rfl | rfl | rfl | rfl | rfl | rfl | rfl
  · exact ⟨64, by decide +kernel⟩
  · exact ⟨91, by decide +kernel⟩
  · exact ⟨63, by decide +kernel⟩
  · exact ⟨47, by decide +kernel⟩
  · exact ⟨39, by decide +kernel⟩
  · exact ⟨38, by decide +kernel⟩
  · exact ⟨124, by decide +kernel⟩
theorem sgn_none {c : Nat} (h : ∀ s ∈ SGL, s.cps.toList.headD 0 ≠ c) (q : List Nat) : sgn (c :: q) = none := by
  unfold sgn
  rw [List.find?_eq_none]
  intro g hg hp
  have h1 := h g hg
  have h2 := (sgl_len g hg).1
  unfold pfx at hp
  rw [← len_cps] at h2 hp
  cases hc : g.cps.toList with
  | nil => rw [hc] at h2; simp at h2
  | cons x r =>
    rw [hc] at hp h1
    simp at hp h1
    exact h1 hp.1.symm
theorem joinL_app : ∀ (as bs : List (List Nat)), as ≠ [] → bs ≠ [] → joinL [32] (as ++ bs) = joinL [32] as ++ 32 :: joinL [32] bs
  | [], _, h, _ => absurd rfl h
  | [p], b :: bs, _, _ => rfl
  | [p], [], _, h => absurd rfl h
  | p :: q :: r, bs, _, hb => by
    have := joinL_app (q :: r) bs (by simp) hb
    show p ++ ([32] ++ joinL [32] ((q :: r) ++ bs)) = (p ++ ([32] ++ joinL [32] (q :: r))) ++ 32 :: joinL [32] bs
    rw [this]
    simp
theorem joinL_cons (c : Nat) (bs : List (List Nat)) : ∃ q, joinL [32] ([c] :: bs) = c :: q := by
  cases bs with
  | nil => exact ⟨[], rfl⟩
  | cons b bs => exact ⟨[32] ++ joinL [32] (b :: bs), rfl⟩
theorem words_stg {as bs : List Str} {g : Str} (hg : g ∈ STG) (hw : ∀ w ∈ as, gdW w) : wordsOf (Txt.join " " (as ++ g :: bs)) = .error as.length := by
  obtain ⟨c, hc, h35, h1, h2, h3⟩ := stg_one g hg
  obtain ⟨q, hq⟩ := joinL_cons c (bs.map TL.tl)
  by_cases hne : as = []
  · subst hne
    unfold wordsOf
    rw [← len_cps, cps_join]
    have : joinL [32] (([] ++ g :: bs).map TL.tl) = c :: q := by
      show joinL [32] (TL.tl g :: bs.map TL.tl) = _
      rw [show TL.tl g = [c] from hc, hq]
    rw [this]
    exact lx_bad _ _ _ _ h1 h2 (sgn_none h3 q)
  · refine words_strange hw hne c q h1 h2 (sgn_none h3 q) _ ?_
    rw [cps_join, List.map_append, joinL_app _ _ (by simpa using hne) (by simp)]
    rw [List.map_cons, show TL.tl g = [c] from hc, hq]
theorem stg_len : ∀ g ∈ STG, g.length = 1 := by decide +kernel
theorem in_stg {as bs : List Str} {g : Str} (hg : g ∈ STG) (hw : ∀ w ∈ as, gdW w ∧ w.length ≤ 100) (hb : ∀ w ∈ bs, gdW w ∧ w.length ≤ 100) (hn : as.length + bs.length ≤ 4000) : okIn (Txt.join " " (as ++ g :: bs)) := by
  obtain ⟨c, hc, h35, h1, h2, h3⟩ := stg_one g hg
  refine ⟨?_, ?_, ?_⟩
  · rw [← len_cps, cps_join]
    have := join_le ((as ++ g :: bs).map TL.tl) fun p hp => by
      obtain ⟨w, hw', rfl⟩ := List.mem_map.mp hp
      rw [← len_tl]
      rcases List.mem_append.mp hw' with h | h
      · exact (hw w h).2
      · rcases List.mem_cons.mp h with rfl | h
        · rw [stg_len w hg]; omega
        · exact (hb w h).2
    rw [List.length_map] at this
    simp only [List.length_append, List.length_cons] at this
    omega
  · rw [cps_join]
    intro d hd
    rcases join_mem _ d hd with rfl | ⟨p, hp, hd⟩
    · decide
    · obtain ⟨w, hw', rfl⟩ := List.mem_map.mp hp
      rcases List.mem_append.mp hw' with h | h
      · exact gd_no35 (hw w h).1 d hd
      · rcases List.mem_cons.mp h with rfl | h
        · have h4 : d ∈ TL.tl w := by assumption
          rw [show TL.tl w = [c] from hc] at h4
          rw [List.mem_singleton.mp h4]; exact h35
        · exact gd_no35 (hb w h).1 d hd
  · intro us e
    rw [words_stg hg fun w h => (hw w h).1] at e
    cases e
theorem i_toldS {as bs : List Str} {g : Str} {n : Nat} (hg : g ∈ STG) (hw : ∀ w ∈ as, gdW w ∧ w.length ≤ 100) (hb : ∀ w ∈ bs, gdW w ∧ w.length ≤ 100) (hn : as.length + bs.length ≤ 4000) (en : as.length = n) {s : Str} (es : s = Txt.join " " (as ++ g :: bs)) {M : Mm} {Q : QD} {E : DX} (q : Q (.tup [.str "sign", .int (n : Nat)]) M) : spTold [.str s] M Q E := by
  subst es en
  exact i_told (in_stg hg hw hb hn) (told_sign (words_stg hg fun w h => (hw w h).1)) q
theorem cut_mid {α : Type} (ds : List α) (a b : Nat) : cut ds (some (a : Int)) (some (b : Int)) = (ds.take b).drop a := by
  unfold cut
  rw [HT.sIx_nat, HT.sIx_nat, List.drop_take]
  by_cases h : a ≤ ds.length
  · rw [Nat.min_eq_left h]
    by_cases h2 : b ≤ ds.length
    · rw [Nat.min_eq_left h2]
    · rw [Nat.min_eq_right (by omega : ds.length ≤ b), List.take_of_length_le (by simp), List.take_of_length_le (by simp; omega)]
  · rw [Nat.min_eq_right (by omega : ds.length ≤ a), List.drop_eq_nil_of_le (Nat.le_refl _), List.drop_eq_nil_of_le (show ds.length ≤ a by omega)]
    simp
theorem sum_len : ∀ {ws : List Str}, (∀ w ∈ ws, gdW w ∧ w.length ≤ 100) → (ws.map (·.length)).sum ≤ 100 * ws.length
  | [], _ => Nat.zero_le _
  | w :: ws, h => by
    have h1 := (h w (by simp)).2
    have h2 := sum_len (ws := ws) fun x hx => h x (List.mem_cons_of_mem _ hx)
    simp only [List.map_cons, List.sum_cons, List.length_cons]
    omega
/-- a list of told words, joined -/
theorem v_joinW {ws : List Str} {ds : List D} (e : ds = ws.map D.str) (h : (ws.map (·.length)).sum + ws.length ≤ 16777216) {M : Mm} {Q : QD} (q : Q (.str (Txt.join " " ws)) M) : mJoin (.str " ") [.lst ds] M Q := by
  subst e
  refine v_joinS ?_ q
  rw [show (" " : Str).length = 1 from by decide +kernel]
  omega
theorem v_plusLL {ds es : List D} {M : Mm} {Q : QD} (hl : ds.length + es.length ≤ sizeLine) (h : Q (.lst (ds ++ es)) M) : plusD (.lst ds) (.lst es) M Q := v_plusL rfl rfl hl h
local macro_rules | `(tactic| walk_at "y1") => `(tactic| ((with_reducible refine v_plusLL ?ye2 ?_); (case ye2 => ((simp only [cut_to, cut_from, cut_mid, List.length_append, List.length_cons, List.length_nil, List.length_map, List.length_take, List.length_drop, sizeLine_eq]); omega))))
theorem tail5 {K : PySem.W.Frag} {CH CI CT : Addr} (T : XT K CH CI CT) (TT : PySem.W.exmOne K (.ref CT) (.ref CT) = some true) {Q : QD} {M : Mm} {a : Addr} {t : Tk} (hM : M a = some (tkM t)) (ok : t.ok) {ws : List Str} {g : Str} (hg : g ∈ STG) {at_ pl : Nat} (ha : at_ ≤ ws.length) (hp : pl ≤ ws.length) (hw : ∀ w ∈ ws, gdW w ∧ w.length ≤ 100) (hl : ws.length ≤ 1000) {x0 x2 x3 x4 x5 x6 x9 x11 x12 : Option D} (k : ∀ M', Q (.bl true) M')
    (hz : (ws.map (·.length)).sum ≤ 1000000 ∧ ws.length ≤ 100000 ∧ (Txt.join " " ws).length ≤ 2000000) (hin : okIn (Txt.join " " ws ++ " or")) (he : pText pAss (Txt.join " " ws ++ " or") = .error ("form", ws.length + 1)) :
    r_law_c5 K spBegin spTake spPart spPick spTold CT (spPA CT) (EL Q) [x0, some (.ref a), x2, x3, x4, x5, x6, some (.lst (ws.map D.str)), some (.int (at_ : Nat)), x9, some (.int (pl : Nat)), x11, x12, some (.str g), none, none, none] M := by
  have g1 := stg_len g hg
  have hT : ∀ n, ∀ w ∈ ws.take n, gdW w ∧ w.length ≤ 100 := fun n w h => hw w (List.mem_of_mem_take h)
  have hD : ∀ n, ∀ w ∈ ws.drop n, gdW w ∧ w.length ≤ 100 := fun n w h => hw w (List.mem_of_mem_drop h)
  have hsT : ∀ n, ((ws.take n).map (·.length)).sum ≤ 100000 := fun n => by
    have := sum_len (hT n); have := List.length_take_le n ws; simp only [List.length_take] at *; omega
  have hsD : ∀ n, ((ws.drop n).map (·.length)).sum ≤ 100000 := fun n => by
    have := sum_len (hD n); simp only [List.length_drop] at *; omega
  have arrow : gdW ("->" : Str) ∧ ("->" : Str).length ≤ 100 := ⟨.inr (by decide +kernel), by decide +kernel⟩
  have arrow2 : ("->" : Str).length = 2 := by decide +kernel
  unfold r_law_c5
  walk_at "ys"
  rw [cut_to, cut_from]
  refine v_joinW (ws := ws.take pl ++ g :: ws.drop pl) (by simp) ?_ ?_
  · have h1 := hsT pl
    have h2 := hsD pl
    simp only [List.map_append, List.map_cons, List.sum_append, List.sum_cons, List.length_append, List.length_cons, List.length_take, List.length_drop, g1] at *
    omega
  walk_at "ys"
  refine i_toldS (n := pl) hg (hT pl) (hD pl) (by simp; omega) (by simp; omega) rfl ?_
  walk_at "ys"
  rw [cut_to, cut_mid]
  refine v_joinW (ws := (ws.take at_ ++ [("->" : Str)] ++ (ws.take pl).drop at_) ++ g :: []) (by simp) ?_ ?_
  · have h1 := hsT at_
    have h3 : (((ws.take pl).drop at_).map (·.length)).sum ≤ 100000 := by
      have := sum_len (ws := (ws.take pl).drop at_) fun w h => hw w (List.mem_of_mem_take (List.mem_of_mem_drop h))
      simp only [List.length_take, List.length_drop] at *; omega
    simp only [List.map_append, List.map_cons, List.map_nil, List.sum_append, List.sum_cons, List.sum_nil, List.length_append, List.length_cons, List.length_nil, List.length_take, List.length_drop, g1, arrow2] at *
    omega
  walk_at "ys"
  refine i_toldS (n := if pl + 1 > at_ + 1 then pl + 1 else at_ + 1) (bs := []) hg ?_ (fun _ z => nomatch z) (by simp; omega) ?_ rfl ?_
  · intro w h
    simp only [List.mem_append, List.mem_singleton] at h
    rcases h with (h | rfl) | h
    · exact hT _ w h
    · exact arrow
    · exact hw w (List.mem_of_mem_take (List.mem_of_mem_drop h))
  · simp only [List.length_append, List.length_cons, List.length_nil, List.length_take, List.length_drop]
    split <;> omega
  walk_at "ys"
  refine ⟨_, _, rfl, ?_⟩
  rw [show (if ((pl : Nat) : Int) + 1 > ((at_ : Nat) : Int) + 1 then ((pl : Nat) : Int) + 1 else ((at_ : Nat) : Int) + 1) = ((if pl + 1 > at_ + 1 then pl + 1 else at_ + 1 : Nat) : Int) by split <;> split <;> omega]
  walk_at "ys"
  rename_i d t' hP hd ok'
  obtain ⟨f, hf, rfl⟩ : ∃ f ∈ ([("1" : Str), "9", "40"] : List Str), d = .str f := by
    simp only [List.mem_cons, List.not_mem_nil, or_false] at hd
    rcases hd with rfl | rfl | rfl <;> exact ⟨_, by simp, rfl⟩
  exact tail4 T TT hf k hz hin he
end K04


set_option Elab.async false
set_option linter.all false
set_option maxRecDepth 100000
set_option maxHeartbeats 4000000
/-! law k04: the law's bad texts, in plain -/
namespace K04
open PySem PySem.Spec PyProof.Rows L2 Y YD TL PySem.NumText PySem.W.KIN
instance (w : Str) : Decidable (gdW w) := by unfold gdW; infer_instance
abbrev strN (i : Int) : Str := Str.ofString (toString i)
theorem fig_ok : ∀ d < 10, isSp (48 + d) = false ∧ isHd (48 + d) = true ∧ okN (48 + d) = true ∧ isDig (48 + d) = true := by decide +kernel
theorem strN_ok {i : Int} (h0 : 0 ≤ i) (h1 : i < 10 ^ 10) : (gdW (strN i) ∧ (strN i).length ≤ 100) ∧ ∀ r, rNum (strN i :: r) = some (i, r) := by
  have hr := num_reads h0 h1
  have hl := PySem.W.KT.len_num h0 h1
  obtain ⟨m, rfl⟩ := Int.eq_ofNat_of_zero_le h0
  have hd : ∀ c ∈ (strN ((m : Nat) : Int)).cps.toList, ∃ d < 10, c = 48 + d := by
    intro c hc
    rw [signs_num] at hc
    obtain ⟨ch, hch, e⟩ := List.mem_map.mp hc
    have r := digit_range (Nat.isDigit_of_mem_toDigits (by decide) (by decide) hch)
    rw [e] at r
    exact ⟨c - 48, by omega, by omega⟩
  have hne : (strN ((m : Nat) : Int)).cps.toList ≠ [] := by
    rw [signs_num]
    intro e
    have h := toDigits_len_ge 10 m
    rw [List.map_eq_nil_iff.mp e] at h
    exact absurd h (by decide)
  refine ⟨⟨.inl ?_, by have : (strN ((m : Nat) : Int)).length ≤ 10 := hl; omega⟩, fun r => ?_⟩
  · unfold runW
    cases hc : (strN ((m : Nat) : Int)).cps.toList with
    | nil => exact absurd hc hne
    | cons c r =>
      rw [hc] at hd
      obtain ⟨d, hd1, rfl⟩ := hd c (by simp)
      have f1 := fig_ok d hd1
      simp only [f1.1, f1.2.1, Bool.not_false, Bool.true_and, List.all_eq_true]
      intro x hx
      obtain ⟨e, he, rfl⟩ := hd x (by simp [hx])
      exact (fig_ok e he).2.2.1
  · have : rNum (strN ((m : Nat) : Int) :: r) = if strN ((m : Nat) : Int) ≠ "" ∧ (strN ((m : Nat) : Int)).cps.toList.all isDig = true ∧ (strN ((m : Nat) : Int)).length ≤ 30 then some ((PySem.intText? (strN ((m : Nat) : Int))).getD 0, r) else none := rfl
    rw [this, if_pos, hr]
    · rfl
    · refine ⟨fun z => hne (by rw [z]; rfl), List.all_eq_true.mpr fun c hc => ?_, by have : (strN ((m : Nat) : Int)).length ≤ 10 := hl; omega⟩
      obtain ⟨d, hd1, rfl⟩ := hd c hc
      exact (fig_ok d hd1).2.2.2
/-- words of parts -/
abbrev gW (w : Str) : Prop := gdW w ∧ w.length ≤ 100
theorem pm_w : ∀ p ∈ PM, (∀ w ∈ p, gW w) ∧ p.length ≤ 7 ∧ p ≠ [] ∧ p.headD "" ≠ "some" := by decide +kernel
theorem star_w : gW ("*" : Str) := by decide +kernel
theorem ahd_w {ps : List (List Str)} (h : ∀ p ∈ ps, p ∈ PM) : (∀ w ∈ ahd ps, gW w) ∧ (ahd ps).length ≤ 8 * ps.length := by
  induction ps with
  | nil => exact ⟨fun _ z => (nomatch z), Nat.le_refl _⟩
  | cons p ps ih =>
    have h1 := pm_w p (h p (by simp))
    have h2 := ih fun q hq => h q (List.mem_cons_of_mem _ hq)
    have e : ahd (p :: ps) = p ++ ("*" : Str) :: ahd ps := by simp [ahd]
    rw [e]
    refine ⟨fun w hw => ?_, (by simp; omega)⟩
    rcases List.mem_append.mp hw with hw | hw
    · exact h1.1 w hw
    · rcases List.mem_cons.mp hw with rfl | hw
      · exact star_w
      · exact h2.1 w hw
theorem bhd_w {ps : List (List Str)} (h : ∀ p ∈ ps, p ∈ PM) : (∀ w ∈ bhd ps, gW w) ∧ (bhd ps).length ≤ 8 * ps.length := by
  induction ps with
  | nil => exact ⟨fun _ z => (nomatch z), Nat.le_refl _⟩
  | cons p ps ih =>
    have h1 := pm_w p (h p (by simp))
    have h2 := ih fun q hq => h q (List.mem_cons_of_mem _ hq)
    have e : bhd (p :: ps) = ("*" : Str) :: (p ++ bhd ps) := by simp [bhd]
    rw [e]
    refine ⟨fun w hw => ?_, (by simp; omega)⟩
    rcases List.mem_cons.mp hw with rfl | hw
    · exact star_w
    · rcases List.mem_append.mp hw with hw | hw
      · exact h1.1 w hw
      · exact h2.1 w hw
theorem ahd_head {ps : List (List Str)} (h : ∀ p ∈ ps, p ∈ PM) {us : List Str} (hu : us.headD "" ≠ "some") : (ahd ps ++ us).headD "" ≠ "some" := by
  cases ps with
  | nil => exact hu
  | cons p ps =>
    have h1 := pm_w p (h p (by simp))
    have e : ahd (p :: ps) = p ++ ("*" : Str) :: ahd ps := by simp [ahd]
    rw [e]
    cases p with
    | nil => exact absurd rfl h1.2.2.1
    | cons w r => exact h1.2.2.2
/-- a text with drawn parts ahead whose next part is refused at place p -/
theorem told_err {ps : List (List Str)} (h : ∀ p ∈ ps, p ∈ PM) (hl : ps.length ≤ 10) {us u : List Str} {p : Nat} (hu : us.headD "" ≠ "some") (hn : us ≠ []) (hw : ∀ w ∈ us, gW w) (hz : us.length ≤ 1000) (e : rPart us = .error u) (en : us.length = p + u.length) : okIn (Txt.join " " (ahd ps ++ us)) ∧ pText pShape (Txt.join " " (ahd ps ++ us)) = .error ("form", (ahd ps).length + p) := by
  obtain ⟨h1, h2⟩ := ahd_w h
  have hw' : ∀ w ∈ ahd ps ++ us, gW w := fun w hx => (List.mem_append.mp hx).elim (h1 w) (hw w)
  have hne : ahd ps ++ us ≠ [] := by simp [hn]
  refine ⟨join_in hne hw' (by simp; omega), ?_⟩
  rw [told_bad hne (fun w hx => (hw' w hx).1) (ahd_head h hu) (law_bad e h)]
  congr 2
  simp
  omega
theorem told_err2 {ps : List (List Str)} (h : ∀ p ∈ ps, p ∈ PM) (hl : ps.length ≤ 10) {cp us : List Str} {d : D} {p : Nat} (hu : (cp ++ us).headD "" ≠ "some") (hn : us ≠ []) (hw : ∀ w ∈ cp ++ us, gW w) (hz : (cp ++ us).length ≤ 1000) (e : rPart (cp ++ us) = .ok (d, us)) (hd : partT d) (hs : us.headD "" ≠ "*") (en : cp.length = p) : okIn (Txt.join " " (ahd ps ++ (cp ++ us))) ∧ pText pShape (Txt.join " " (ahd ps ++ (cp ++ us))) = .error ("form", (ahd ps).length + p) := by
  obtain ⟨h1, h2⟩ := ahd_w h
  have hw' : ∀ w ∈ ahd ps ++ (cp ++ us), gW w := fun w hx => (List.mem_append.mp hx).elim (h1 w) (hw w)
  have hne : ahd ps ++ (cp ++ us) ≠ [] := by simp [hn]
  refine ⟨join_in hne hw' (by simp at hz ⊢; omega), ?_⟩
  obtain ⟨d2, e2⟩ := law_more e hd hs h
  rw [told_more hne (fun w hx => (hw' w hx).1) (ahd_head h hu) hn e2]
  congr 2
  simp
  omega
/-- the words that are put in -/
def turned (N : Str) : List (List Str) := [["*", ")", "or"], ["(", ",", "*"], [",", ")", "->"], [")", ",", "by"], ["->", ")", "x"], ["(", ",", "->"], ["(", ",", "emp"], ["x", "(", "3"], ["13", "0", "nil", "by", N]]
def badW (f g s w : Str) (p : Nat) (qs : List (List Str)) : List Str := (cellW f g s).take p ++ [w] ++ (cellW f g s).drop (p + 1) ++ bhd qs
instance (w : Str) : Decidable (NoT w) := decidable_of_iff (w ≠ "nil" ∧ w ≠ "-" ∧ hdDig w = false ∧ isNm w = false) ⟨fun h => ⟨h.1, h.2.1, h.2.2.1, h.2.2.2⟩, fun h => ⟨h.a, h.b, h.c, h.d⟩⟩
theorem tn0 : ∀ w ∈ ([("*" : Str), ")", "or"] : List Str), gW w ∧ NoT w ∧ w ≠ "emp" ∧ w ≠ "list" ∧ w ≠ "tree" ∧ w ≠ "some" := by decide +kernel
theorem tn1 : ∀ w ∈ ([("(" : Str), ",", "*"] : List Str), gW w ∧ w ≠ "==" ∧ w ≠ "!=" ∧ w ≠ "->" := by decide +kernel
theorem tn2 : ∀ w ∈ ([("," : Str), ")", "->"] : List Str), gW w ∧ w ≠ "(" := by decide +kernel
theorem tn3 : ∀ w ∈ ([(")" : Str), ",", "by"] : List Str), gW w ∧ NoT w := by decide +kernel
theorem tn4 : ∀ w ∈ ([("->" : Str), ")", "x"] : List Str), gW w ∧ w ≠ "," := by decide +kernel
theorem tn5 : ∀ w ∈ ([("(" : Str), ",", "->"] : List Str), gW w ∧ NoT w := by decide +kernel
theorem tn6 : ∀ w ∈ ([("(" : Str), ",", "emp"] : List Str), gW w ∧ w ≠ ")" := by decide +kernel
theorem tn7 : ∀ w ∈ ([("x" : Str), "(", "3"] : List Str), gW w ∧ w ≠ "by" ∧ w ≠ "*" := by decide +kernel
theorem tn8 : ∀ w ∈ ([("13" : Str), "0", "nil", "by"] : List Str), gW w ∧ (∀ n, (w ≠ "" ∧ w.cps.toList.all isDig = true ∧ w.length ≤ 30) → (PySem.intText? w).getD 0 = n → ¬ (1 ≤ n ∧ n ≤ 12)) := by
  have key : ∀ w ∈ ([("13" : Str), "0", "nil", "by"] : List Str), gW w ∧ ((w ≠ "" ∧ w.cps.toList.all isDig = true ∧ w.length ≤ 30) → ¬ (1 ≤ (PySem.intText? w).getD 0 ∧ (PySem.intText? w).getD 0 ≤ 12)) := by decide +kernel
  intro w hw
  exact ⟨(key w hw).1, fun n h e => by rw [← e]; exact (key w hw).2 h⟩
theorem turn8 {N w : Str} {n : Int} (hN : N = strN n) (h1 : 13 ≤ n) (h2 : n ≤ 2000000) (hw : w ∈ ([("13" : Str), "0", "nil", "by", N] : List Str)) : gW w ∧ ∀ (r u : List Str) (m : Int), rNum (w :: r) = some (m, u) → ¬ (1 ≤ m ∧ m ≤ 12) := by
  by_cases hx : w ∈ ([("13" : Str), "0", "nil", "by"] : List Str)
  · refine ⟨(tn8 w hx).1, fun r u m e => ?_⟩
    have e : (if w ≠ "" ∧ w.cps.toList.all isDig = true ∧ w.length ≤ 30 then some ((PySem.intText? w).getD 0, r) else none) = some (m, u) := e
    split at e
    · rename_i hc
      cases e
      exact (tn8 w hx).2 _ hc rfl
    · cases e
  · have : w = N := by
      simp only [List.mem_cons, List.not_mem_nil, or_false, not_or] at hw hx
      rcases hw with z | z | z | z | z
      · exact absurd z hx.1
      · exact absurd z hx.2.1
      · exact absurd z hx.2.2.1
      · exact absurd z hx.2.2.2
      · exact z
    subst this
    subst hN
    obtain ⟨g, e2⟩ := strN_ok (i := n) (by omega) (by omega)
    refine ⟨g, fun r u m e => ?_⟩
    rw [e2 r] at e
    cases e
    omega
theorem cell_w {f g s : Str} (hf : gW f) (hg : gW g) (hs : gW s) : ∀ w ∈ cellW f g s, gW w := by
  have h : gW ("x" : Str) ∧ gW ("->" : Str) ∧ gW ("(" : Str) ∧ gW ("," : Str) ∧ gW (")" : Str) ∧ gW ("by" : Str) := by decide +kernel
  intro w hw
  simp only [cellW, List.mem_cons, List.not_mem_nil, or_false] at hw
  rcases hw with rfl | rfl | rfl | rfl | rfl | rfl | rfl | rfl | rfl
  · exact h.1
  · exact h.2.1
  · exact h.2.2.1
  · exact hf
  · exact h.2.2.2.1
  · exact hg
  · exact h.2.2.2.2.1
  · exact h.2.2.2.2.2
  · exact hs
theorem x_some : ("x" : Str) ≠ "some" := by decide +kernel
theorem bad_at {f g s N : Str} {df dg : D} {n : Int} (hf : fldW f df) (hg : fldW g dg) (wf : gW f) (wg : gW g) (wsh : gW s) (hN : N = strN n) (h13 : 13 ≤ n) (h20 : n ≤ 2000000) {ps qs : List (List Str)} (hp : ∀ p ∈ ps, p ∈ PM) (hq : ∀ p ∈ qs, p ∈ PM) (lp : ps.length ≤ 10) (lq : qs.length ≤ 10) {p : Nat} {w : Str} {l : List Str} (hl : (turned N)[p]? = some l) (hw : w ∈ l) :
    okIn (Txt.join " " (ahd ps ++ badW f g s w p qs)) ∧ pText pShape (Txt.join " " (ahd ps ++ badW f g s w p qs)) = .error ("form", (ahd ps).length + p) := by
  obtain ⟨b1, b2⟩ := bhd_w hq
  have good : gW w → ∀ p, ∀ v ∈ badW f g s w p qs, gW v := fun hw p v hv => by
    simp only [badW, List.mem_append, List.mem_singleton] at hv
    rcases hv with ((hv | rfl) | hv) | hv
    · exact cell_w wf wg wsh v (List.mem_of_mem_take hv)
    · exact hw
    · exact cell_w wf wg wsh v (List.mem_of_mem_drop hv)
    · exact b1 v hv
  have len : ∀ p, (badW f g s w p qs).length ≤ 1000 := fun p => by
    simp only [badW, List.length_append, List.length_take, List.length_drop, List.length_cons, List.length_nil, cellW]
    omega
  match p, hl with
  | 0, hl =>
    cases hl
    obtain ⟨t1, t2, t3, t4, t5, t6⟩ := tn0 w hw
    exact told_err hp lp (p := 0) t6 (by simp [badW]) (good t1 0) (len 0) (bad0 t2 ⟨t3, t4, t5⟩ _) (by simp [badW, cellW])
  | 1, hl =>
    cases hl
    obtain ⟨t1, t2, t3, t4⟩ := tn1 w hw
    exact told_err hp lp (p := 1) x_some (by simp [badW]) (good t1 1) (len 1) (bad1 (us := w :: ((["(", f, ",", g, ")", "by", s] : List Str) ++ bhd qs)) t2 t3 t4) (by simp [badW, cellW]; omega)
  | 2, hl =>
    cases hl
    obtain ⟨t1, t2⟩ := tn2 w hw
    exact told_err hp lp (p := 2) x_some (by simp [badW]) (good t1 2) (len 2) (bad2 (us := w :: (([f, ",", g, ")", "by", s] : List Str) ++ bhd qs)) t2) (by simp [badW, cellW]; omega)
  | 3, hl =>
    cases hl
    obtain ⟨t1, t2⟩ := tn3 w hw
    exact told_err hp lp (p := 3) x_some (by simp [badW]) (good t1 3) (len 3) (bad3 (us := w :: (([",", g, ")", "by", s] : List Str) ++ bhd qs)) (term_bad t2 _)) (by simp [badW, cellW]; omega)
  | 4, hl =>
    cases hl
    obtain ⟨t1, t2⟩ := tn4 w hw
    exact told_err hp lp (p := 4) x_some (by simp [badW]) (good t1 4) (len 4) (bad4 hf (us := w :: (([g, ")", "by", s] : List Str) ++ bhd qs)) t2) (by simp [badW, cellW]; omega)
  | 5, hl =>
    cases hl
    obtain ⟨t1, t2⟩ := tn5 w hw
    exact told_err hp lp (p := 5) x_some (by simp [badW]) (good t1 5) (len 5) (bad5 hf (us := w :: (([")", "by", s] : List Str) ++ bhd qs)) (term_bad t2 _)) (by simp [badW, cellW]; omega)
  | 6, hl =>
    cases hl
    obtain ⟨t1, t2⟩ := tn6 w hw
    exact told_err hp lp (p := 6) x_some (by simp [badW]) (good t1 6) (len 6) (bad6 hf hg (us := w :: ((["by", s] : List Str) ++ bhd qs)) t2) (by simp [badW, cellW]; omega)
  | 7, hl =>
    cases hl
    obtain ⟨t1, t2, t3⟩ := tn7 w hw
    exact told_err2 hp lp (cp := ["x", "->", "(", f, ",", g, ")"]) (us := w :: (([s] : List Str) ++ bhd qs)) (p := 7) x_some (by simp) (good t1 7) (len 7) (bad7 hf hg t2) (.inr (.inr (.inl ⟨12, _, _, _, rfl, by decide, by decide, tm_x, hf.1, hg.1⟩))) t3 rfl
  | 8, hl =>
    cases hl
    obtain ⟨t1, t2⟩ := turn8 hN h13 h20 hw
    exact told_err hp lp (p := 8) x_some (by simp [badW]) (good t1 8) (len 8) (bad8 hf hg (us := w :: bhd qs) fun n u e => t2 _ u n e) (by simp [badW, cellW]; omega)
  | k + 9, hl => cases hl
/-- left out behind -/
theorem cut_at {f g s : Str} {df dg : D} (hf : fldW f df) (hg : fldW g dg) (wf : gW f) (wg : gW g) (wsh : gW s) {ps : List (List Str)} (hp : ∀ p ∈ ps, p ∈ PM) (lp : ps.length ≤ 10) {p : Nat} (h : (0 < p ∧ p < 7) ∨ p = 8) :
    okIn (Txt.join " " (ahd ps ++ (cellW f g s).take p)) ∧ pText pShape (Txt.join " " (ahd ps ++ (cellW f g s).take p)) = .error ("form", (ahd ps).length + p) := by
  have good : ∀ p, ∀ v ∈ (cellW f g s).take p, gW v := fun p v hv => cell_w wf wg wsh v (List.mem_of_mem_take hv)
  have len : ∀ p, ((cellW f g s).take p).length ≤ 1000 := fun p => by simp only [List.length_take, cellW, List.length_cons, List.length_nil]; omega
  have e1 : ("" : Str) ≠ "==" ∧ ("" : Str) ≠ "!=" ∧ ("" : Str) ≠ "->" ∧ ("" : Str) ≠ "(" ∧ ("" : Str) ≠ "," ∧ ("" : Str) ≠ ")" := by decide +kernel
  obtain ⟨z1, z2, z3, z4, z5, z6⟩ := e1
  match p, h with
  | 1, _ => exact told_err hp lp (p := 1) x_some (by simp [cellW]) (good 1) (len 1) (bad1 (us := []) z1 z2 z3) rfl
  | 2, _ => exact told_err hp lp (p := 2) x_some (by simp [cellW]) (good 2) (len 2) (bad2 (us := []) z4) rfl
  | 3, _ => exact told_err hp lp (p := 3) x_some (by simp [cellW]) (good 3) (len 3) (bad3 (us := []) term_end) rfl
  | 4, _ => exact told_err hp lp (p := 4) x_some (by simp [cellW]) (good 4) (len 4) (bad4 hf (us := []) z5) rfl
  | 5, _ => exact told_err hp lp (p := 5) x_some (by simp [cellW]) (good 5) (len 5) (bad5 hf (us := []) term_end) rfl
  | 6, _ => exact told_err hp lp (p := 6) x_some (by simp [cellW]) (good 6) (len 6) (bad6 hf hg (us := []) z6) rfl
  | 8, _ => exact told_err hp lp (p := 8) x_some (by simp [cellW]) (good 8) (len 8) (bad8 hf hg (us := []) fun n u e => (by cases e)) rfl
  | 0, h => omega
  | 7, h => omega
  | k + 9, h => omega
end K04


set_option Elab.async false
set_option linter.all false
set_option maxRecDepth 100000
set_option maxHeartbeats 4000000
/-! law k04: the text with or behind it, in plain -/
namespace K04
open PySem PySem.Spec PyProof.Rows L2 Y YD TL PySem.NumText
theorem part_ok3 {p : List Str} (hp : p ∈ PM) : ∃ d, partT d ∧ ∀ rest : List Str, rest.headD "" ≠ "by" → rPart (p ++ rest) = .ok (d, rest) := by
  have key : ∀ rest : List Str, rest.headD "" ≠ "by" → rPart (([("x" : Str), "->", "(", "y", ",", "nil", ")"] : List Str) ++ rest) = .ok (.tup [.str "cell", .int 12, .str "x", .str "y", .int 0], rest) := fun rest h => by
    show rPart (("x" : Str) :: ("->" : Str) :: ("(" : Str) :: ("y" : Str) :: ("," : Str) :: ("nil" : Str) :: (")" : Str) :: rest) = _
    rw [part_arrow]
    unfold rCell
    rw [need_ok, bindE_ok, term_name nm_y, bindE_ok]
    simp only
    rw [need_ok, bindE_ok, term_nil, bindE_ok]
    simp only
    rw [need_ok, bindE_ok, if_neg h]
  unfold PM at hp
  simp only [List.mem_cons, List.not_mem_nil, or_false] at hp
  have t0 : tmT (.int 0) := tm_int (by decide +kernel)
  have t3 : tmT (.int (-3)) := tm_int (by decide +kernel)
  have t7 : tmT (.int 7) := tm_int (by decide +kernel)
  rcases hp with rfl | rfl | rfl | rfl | rfl | rfl
  · exact ⟨_, .inr (.inr (.inl ⟨12, _, _, _, rfl, by decide, by decide, tm_x, tm_y, t0⟩)), key⟩
  · exact ⟨_, .inr (.inr (.inr (.inl ⟨_, _, rfl, tm_x, tm_y⟩))), fun r _ => part_list r⟩
  · exact ⟨_, .inr (.inr (.inr (.inr ⟨_, rfl, t7⟩))), fun r _ => part_tree r⟩
  · exact ⟨_, .inr (.inl ⟨_, _, _, rfl, .inl rfl, tm_x, t3⟩), fun r _ => part_eq r⟩
  · exact ⟨_, .inl rfl, fun r _ => part_emp r⟩
  · exact ⟨_, .inr (.inl ⟨_, _, _, rfl, .inr rfl, tm_y, t0⟩), fun r _ => part_ne r⟩
theorem loop_or : ∀ (ps : List (List Str)), (∀ p ∈ ps, p ∈ PM) → ∀ (us : List Str), us.headD "" ≠ "by" → us.headD "" ≠ "*" → ∀ (n : Nat) (cp : List Str) (d : D), (∀ rest : List Str, rest.headD "" ≠ "by" → rPart (cp ++ rest) = .ok (d, rest)) → ∀ (pu it : List D), ∃ pu' it', rLoop (n + ps.length + 1) (cp ++ (bhd ps ++ us)) pu it = .ok ((pu', it'), us)
  | [], _, us, hu, hu2, n, cp, d, hc, pu, it => by
    have e0 := rLoop_succ n (cp ++ (bhd [] ++ us)) pu it
    rw [hc (bhd [] ++ us) hu, bindE_ok] at e0
    exact ⟨_, _, e0.trans (if_neg hu2)⟩
  | p :: ps, hp, us, hu, hu2, n, cp, d, hc, pu, it => by
    have e1 : bhd (p :: ps) ++ us = ("*" : Str) :: (p ++ (bhd ps ++ us)) := by simp [bhd]
    obtain ⟨d2, hd2, e2⟩ := part_ok3 (hp p List.mem_cons_self)
    obtain ⟨pu', it', er⟩ := loop_or ps (fun q hq => hp q (List.mem_cons_of_mem _ hq)) us hu hu2 n p d2 e2 _ _
    refine ⟨pu', it', ?_⟩
    rw [e1, show n + (p :: ps).length + 1 = (n + ps.length + 1) + 1 by simp; omega, rLoop_succ, hc _ (by show ("*" : Str) ≠ "by"; decide +kernel), bindE_ok]
    simp only
    rw [if_pos (show (("*" : Str) :: (p ++ (bhd ps ++ us))).headD "" = "*" from rfl), List.tail_cons, er]
theorem cell_part2 {f g s : Str} {df dg : D} {n : Int} (hf : fldW f df) (hg : fldW g dg) (hs : shrW s n) (rest : List Str) : rPart (cellW f g s ++ rest) = .ok (.tup [.str "cell", .int n, .str "x", df, dg], rest) := cell_part hf hg hs rest
/-- the whole text and or behind it -/
theorem law_or {f g s : Str} {df dg : D} {n : Int} (hf : fldW f df) (hg : fldW g dg) (hs : shrW s n) {ps qs : List (List Str)} (hp : ∀ p ∈ ps, p ∈ PM) (hq : ∀ p ∈ qs, p ∈ PM) : pAss (ahd ps ++ (cellW f g s ++ (bhd qs ++ [("or" : Str)]))) = .error (((ahd ps ++ (cellW f g s ++ bhd qs)).length + 1)) := by
  have hfuel : ps.length + qs.length + 2 ≤ (ahd ps ++ (cellW f g s ++ (bhd qs ++ [("or" : Str)]))).length + 1 := by
    have h1 : ps.length ≤ (ahd ps).length := by
      clear hp
      induction ps with
      | nil => exact Nat.le_refl _
      | cons p ps ih => simp [ahd] at ih ⊢; omega
    have h2 : qs.length ≤ (bhd qs).length := by
      clear hq
      induction qs with
      | nil => exact Nat.le_refl _
      | cons p ps ih => simp [bhd] at ih ⊢; omega
    simp [cellW] at *
    omega
  obtain ⟨k, hk⟩ : ∃ k, (ahd ps ++ (cellW f g s ++ (bhd qs ++ [("or" : Str)]))).length + 1 = (k + qs.length + 1) + ps.length := ⟨(ahd ps ++ (cellW f g s ++ (bhd qs ++ [("or" : Str)]))).length - qs.length - ps.length, by omega⟩
  obtain ⟨pu, it, g1, l1, l2, e1⟩ := loop_ahead ps hp (k + qs.length + 1) (cellW f g s ++ (bhd qs ++ [("or" : Str)])) [] [] ⟨fun _ h => (nomatch h), fun _ h => (nomatch h)⟩
  obtain ⟨pu2, it2, e2⟩ := loop_or qs hq [("or" : Str)] (by show ("or" : Str) ≠ "by"; decide +kernel) (by show ("or" : Str) ≠ "*"; decide +kernel) k (cellW f g s) _ (fun rest _ => cell_part hf hg hs rest) pu it
  have eT : rTail [] (ahd ps ++ (cellW f g s ++ (bhd qs ++ [("or" : Str)]))) = .ok (.tup [.tup [], .tup pu2, .tup it2], [("or" : Str)]) := by
    unfold rTail
    rw [hk, e1, e2]
    rfl
  have eS : rShape (ahd ps ++ (cellW f g s ++ (bhd qs ++ [("or" : Str)]))) = .ok (.tup [.tup [], .tup pu2, .tup it2], [("or" : Str)]) := by
    rw [shape_plain (ahd_head hp (by exact x_some)), eT]
  unfold pAss rAss
  rw [eS, bindE_ok]
  have e3 : ∀ d : D, rAw ([("or" : Str)].length + 1) [("or" : Str)] [d] = .error [] := by
    intro d
    have : rShape [] = .error [] := by
      rw [shape_plain (by show ("" : Str) ≠ "some"; decide +kernel)]
      rfl
    show rAw 2 [("or" : Str)] [d] = .error []
    unfold rAw
    rw [if_pos (show ([("or" : Str)]).headD "" = "or" from rfl), List.tail_cons, this]
    rfl
  simp only
  rw [e3]
  simp
  omega
end K04


set_option Elab.async false
set_option linter.all false
set_option maxRecDepth 100000
set_option maxHeartbeats 4000000
set_option pp.deepTerms true
set_option pp.maxSteps 3000
/-! the readings of law k04: the cell's bad words -/
namespace K04
open PySem PySem.Spec PyProof.Rows L2 Y YD TL
local macro_rules | `(tactic| walk_at "y_ne") => `(tactic| first | assumption | exact Ne.symm (by assumption) | ((refine ne_none (M := ?yM) (m := ?ymo) ?ym1 ?ym2); (case ym2 => assumption); (case ym1 => walk_at "y_look")) | ((refine Ne.symm (ne_none (M := ?yM) (m := ?ymo) ?ym1 ?ym2)); (case ym2 => assumption); (case ym1 => walk_at "y_look")) | ((refine ne_none (M := ?yM) (m := ?ymo) ?ym1 (put_none (M := ?yM) (a := ?yma) (m := ?ymo2) ?ym2).2); (case ym2 => assumption); (case ym1 => walk_at "y_look")) | ((refine Ne.symm (ne_none (M := ?yM) (m := ?ymo) ?ym1 (put_none (M := ?yM) (a := ?yma) (m := ?ymo2) ?ym2).2)); (case ym2 => assumption); (case ym1 => walk_at "y_look")))
local macro_rules | `(tactic| walk_at "y_look") => `(tactic| first | assumption | exact put_same | ((with_reducible refine Eq.trans (put_ne ?yn) ?_); (case yn => walk_at "y_ne"); (walk_at "y_look")) | ((with_reducible refine Eq.trans (drop_ne ?yn) ?_); (case yn => walk_at "y_ne"); (walk_at "y_look")))
local macro_rules | `(tactic| walk_at "y_pl") => `(tactic| first | assumption | exact PlL.nil | exact Pl.int _ | exact Pl.non | exact Pl.bl _ | exact Pl.str (by decide +kernel) | ((with_reducible refine PlL.cons ?yp1 ?yp2); (case yp1 => walk_at "y_pl"); (case yp2 => walk_at "y_pl")) | ((with_reducible refine PlL.append ?yp1 ?yp2); (case yp1 => walk_at "y_pl"); (case yp2 => walk_at "y_pl")) | ((with_reducible refine Pl.tup ?yp1); (case yp1 => walk_at "y_pl")) | ((with_reducible refine PlL.mono (j := ?yj) ?yp1 ?yp2); (case yp1 => assumption); (case yp2 => first | decide | omega)) | ((with_reducible refine Pl.mono (j := ?yj) ?yp1 ?yp2); (case yp1 => assumption); (case yp2 => first | decide | omega)))
local macro_rules | `(tactic| walk_at "y_len") => `(tactic| ((try simp only [List.length_append, List.length_cons, List.length_nil, List.length_map, sizeLine_eq] at *); omega))
local macro_rules | `(tactic| walk_at "y_rfl") => `(tactic| first | rfl | (simp only [atI_nn]; rfl))
local macro_rules | `(tactic| walk_at "y_at") => `(tactic| first | exact atI_nn _ 0 | rfl)
local macro_rules | `(tactic| walk_at "y_cond") => `(tactic| first
  | (show (0 : Int) < _; first | decide | assumption | omega)
  | (exact ⟨by first | decide | assumption | omega, by first | decide | assumption | omega⟩)
  | (exact Or.inl ⟨by first | decide | assumption | omega, by first | decide | assumption | omega⟩)
  | (exact Or.inr ⟨by first | decide | assumption | omega, by first | decide | assumption | omega⟩)
  | (exact ⟨by decide, by decide, by decide⟩))
local macro_rules | `(tactic| walk_at "y1") => `(tactic| first
  | (with_reducible first | refine i_seq ?_ | refine i_next ?_ | refine i_asg ?_ | refine i_ret ?_ | refine i_retN ?_ | refine i_drop ?_ | refine i_cont ?_ | refine i_break ?_ | refine i_ifs ?_ | refine i_if ?_ | refine i_and ?_ | refine i_or ?_ | refine i_not ?_ | refine i_test ?_ | refine i_tru ?_ | refine i_andV ?_ | refine i_orV ?_ | refine i_notV ?_ | refine i_bl ?_ | refine i_op ?_ | refine i_chain ?_ | refine i_c ?_ | refine i_cd ?_ | refine i_nil ?_ | refine i_cons ?_ | refine i_call ?_ | refine i_cb ?_ | refine i_tup ?_ | refine i_lst ?_ | refine i_lstM ?_ | refine i_dict ?_ | refine i_frz ?_ | refine i_name ?_ | refine i_gcons ?_ | refine i_gnil ?_ | refine i_gsub ?_ | refine i_par ?_ | refine i_par2 ?_ | refine i_un ?_ | refine i_int ?_ | refine i_slice ?_ | refine i_onone ?_ | refine i_osome ?_ | refine i_bm ?_ | refine i_bm0 ?_ | refine i_get1 ?_ | refine i_get2 ?_ | refine i_del ?_ | refine i_for ?_ | refine i_lc ?_ | refine i_dc ?_ | refine i_yes ?_ | refine i_it ?_ | refine i_rng1 ?_ | refine i_fld ?_ | refine i_sfld ?_ | refine i_meth ?_ | refine i_make ?_ | refine v_I0 ?_ | refine v_plusI ?_ | refine v_eqI ?_ | refine v_eqS ?_ | refine v_isN ?_ | refine v_int ?_ | refine v_abs ?_ | refine v_sliceT ?_ | refine v_sliceL ?_ | refine b_fx ?_ | refine b_tx ?_)
  | ((with_reducible refine i_var (d := ?yd) ?ye0 ?_); (case ye0 => rfl))
  | ((with_reducible refine i_gtup ?ye0 ?_); (case ye0 => rfl))
  | (with_reducible refine iteT ?_)
  | (with_reducible refine iteF ?_)
  | (with_reducible refine b_dec ?_ ?_ <;> intro hc)
  | (with_reducible refine b_ndec ?_ ?_ <;> intro hc)
  | ((with_reducible refine v_subT (d := ?yd) ?ye0 ?_); (case ye0 => rfl))
  | ((with_reducible refine v_subL (d := ?yd) ?ye0 ?_); (case ye0 => rfl))
  | ((with_reducible refine v_subM (ds := ?yds) (d := ?yd) ?ye0 ?ye1 ?_); (case ye0 => (walk_at "y_look")); (case ye1 => rfl))
  | ((with_reducible refine v_setL (ds := ?yds) (j := ?yj) ?ye0 ?ye1 ?_); (case ye0 => (walk_at "y_look")); (case ye1 => rfl))
  | ((with_reducible refine v_I ?ye0 ?_); (case ye0 => (walk_at "y_cond")))
  | ((with_reducible refine i_sz ?ye0 ?_); (case ye0 => (first | exact Nat.le_of_ble_eq_true rfl | (simp only [List.length_append, List.length_cons, List.length_nil, List.length_map, sizeLine_eq] at *; omega))))
  | (with_reducible refine i_new fun yp yhp => ?_)
  | ((with_reducible refine v_app (ds := ?yds) ?ye0 ?ye1 ?_); (case ye0 => (walk_at "y_look")); (case ye1 => (first | (simp only [List.length_append, List.length_cons, List.length_nil, List.length_map, sizeLine_eq] at *; omega))))
  | ((with_reducible refine i_tyL (ds := ?yds) ?ye0 ?_); (case ye0 => (walk_at "y_look")))
  | (with_reducible refine i_tyl ?_)
  | ((with_reducible refine v_subK (kvs := ?ykv) (k := ?yk) (d := ?yd) ?ye0 ?ye1 ?ye2 ?_); (case ye0 => (walk_at "y_look")); (case ye1 => rfl); (case ye2 => first | assumption | rfl))
  | ((with_reducible refine v_plusL (ds := ?yds) (es := ?yes) ?ye0 ?ye1 ?ye2 ?_); (case ye0 => first | rfl | (with_reducible refine lsD_ref (ds := ?yds2) ?yl0; walk_at "y_look")); (case ye1 => first | rfl | (with_reducible refine lsD_ref (ds := ?yds2) ?yl0; walk_at "y_look")); (case ye2 => (simp only [List.length_append, List.length_cons, List.length_nil, List.length_map, sizeLine_eq] at *; omega)))
  | ((with_reducible refine v_plusT ?ye0 ?_); (case ye0 => (simp only [List.length_append, List.length_cons, List.length_nil, List.length_map, sizeLine_eq] at *; omega)))
  | ((with_reducible refine i_rng1d ?ye0 ?_); (case ye0 => (constructor <;> omega)))
  | ((with_reducible refine v_len (n := ?yn) ?ye0 ?_); (case ye0 => first | ((with_reducible refine lenD_ref (ds := ?yds) ?yl0); (case yl0 => walk_at "y_look")) | rfl))
  | ((with_reducible refine v_list (es := ?yes) ?ye0 ?_); (case ye0 => first | (with_reducible refine itD_ref (ds := ?yds) ?yl0; walk_at "y_look") | rfl))
  | ((with_reducible refine v_tuple (es := ?yes) ?ye0 ?_); (case ye0 => first | (with_reducible refine itD_ref (ds := ?yds) ?yl0; walk_at "y_look") | rfl))
  | ((with_reducible refine v_eqP ?ye0 ?ye1 fun yb => ?_); (case ye0 => walk_at "y_pl"); (case ye1 => walk_at "y_pl"))
  | (with_reducible refine b_emp ?_ ?_ <;> intro hc)
  | (with_reducible refine i_trul ?_)
  | (with_reducible refine i_trut ?_)
  | (with_reducible refine i_trub ?_)
  | ((with_reducible refine v_inT ?ye0 ?_); (case ye0 => exact ⟨rfl, rfl⟩))
  | (with_reducible refine b_var ?_ ?_ <;> intro hc)
  | ((with_reducible refine i_its (ds := ?yds) ?ye0 ?_); (case ye0 => rfl)))
local macro_rules | `(tactic| walk_at "y0") => `(tactic| repeat' (walk_at "y1"))
local macro_rules | `(tactic| walk_at "ys") => `(tactic| walk_at "y0")
local macro_rules | `(tactic| walk_at "y_nn") => `(tactic| first | assumption | exact (put_none (by assumption)).2 | exact (put_none (put_none (by assumption)).2).2 | exact (put_none (put_none (put_none (by assumption)).2).2).2)
local macro_rules | `(tactic| walk_at "y_kl1") => `(tactic| first | (with_reducible exact KL.merge) | ((with_reducible refine KL.put (n := ?ykn) ?ykk); (case ykk => walk_at "y_kl1")))
local macro_rules | `(tactic| walk_at "y_kl") => `(tactic| ((refine KL.lt (n := ?yn) ?yk1 ?yk2); (case yk1 => walk_at "y_kl1"); (case yk2 => first | decide | (simp; done))))
local macro_rules | `(tactic| walk_at "y_fr") => `(tactic| first | exact Fr.refl _ _ | assumption | ((refine Fr.put ?yf1 ?yf2); (case yf2 => simp); (case yf1 => walk_at "y_fr")) | ((refine Fr.drop ?yf1 ?yf2); (case yf2 => simp); (case yf1 => walk_at "y_fr")))
local macro_rules | `(tactic| walk_at "y_fin") => `(tactic| first | assumption | rfl | walk_at "y_look" | walk_at "y_pl" | walk_at "y_fr" | omega | walk_at "y_len" | (intros; omega))
local macro_rules | `(tactic| walk_at "y_take") => `(tactic| ((with_reducible refine i_take (t := ?yt) ?yl ?yo ?yb fun yr yt' yr0 yr1 yok => ?_); (case yl => walk_at "y_look"); (case yo => assumption); (case yb => (constructor <;> first | omega | (simp; omega)))))
local macro_rules | `(tactic| walk_at "y_pick") => `(tactic| first | ((with_reducible refine i_pick2 (k := 0) (t := ?yt) ?yl ?yo ?yb ?yP fun yd yt' yP ym yok => ?_); (case yl => walk_at "y_look"); (case yo => assumption); (case yb => (constructor <;> walk_at "y_len")); (case yP => walk_at "y_pl")) | ((with_reducible refine i_pick2 (k := 5) (t := ?yt) ?yl ?yo ?yb ?yP fun yd yt' yP ym yok => ?_); (case yl => walk_at "y_look"); (case yo => assumption); (case yb => (constructor <;> walk_at "y_len")); (case yP => walk_at "y_pl")))
local macro_rules | `(tactic| walk_at "y2") => `(tactic| first | walk_at "y1" | walk_at "y_take" | walk_at "y_pick" | (with_reducible refine i_disp fun yp yhp => ?_) | (with_reducible refine i_pcons ?_) | (with_reducible refine i_pnil ?_) | (with_reducible refine i_mut ?_) | ((with_reducible refine v_inT' ?ye0 ?ye1 fun yb => ?_); (case ye0 => walk_at "y_pl"); (case ye1 => walk_at "y_pl")) | ((with_reducible refine v_setK (kvs := ?ykv) (k := ?yk) ?ye0 ?ye1 ?ye2 ?_); (case ye0 => walk_at "y_look"); (case ye1 => rfl); (case ye2 => walk_at "y_kl")) | ((with_reducible refine i_mutd (ds := ?yds) ?ye0 ?_); (case ye0 => walk_at "y_look")) | ((with_reducible refine i_glst' ?ye0 ?_); (case ye0 => rfl)))
local macro_rules | `(tactic| walk_at "ys") => `(tactic| repeat' (walk_at "y2"))
local macro_rules | `(tactic| walk_at "y1") => `(tactic| (with_reducible first | refine i_callX ?_ | refine i_methX ?_ | refine i_raise ?_ | refine i_tryAs ?_ | refine i_tryOnly ?_ | refine i_xf ?_ | refine i_isE ?_ | refine i_zip ?_ | refine i_enum ?_ | refine i_rev ?_))
local macro_rules | `(tactic| walk_at "y1") => `(tactic| ((with_reducible refine v_subLk (kvs := ?ykv) (k := ?yk) (d := ?yd) (od := ?yod) (xs := ?yxs) ?ye0 ?ye1 ?ye2 ?_); (case ye0 => (walk_at "y_look")); (case ye1 => rfl); (case ye2 => first | assumption | rfl)))
local macro_rules | `(tactic| walk_at "y1") => `(tactic| first
  | (with_reducible first | refine v_isT ?_ | refine v_isF ?_ | refine iteNT ?_ | refine iteNF ?_)
  | ((with_reducible refine v_isNF ?ye0 ?_); (case ye0 => rfl))
  | ((with_reducible refine v_isNT ?ye0 ?_); (case ye0 => rfl)))
local macro_rules | `(tactic| walk_at "y1") => `(tactic| (with_reducible refine i_tyS ?_))
local macro_rules | `(tactic| walk_at "y1") => `(tactic| ((with_reducible refine v_eqSame ?ye0 ?_); (case ye0 => walk_at "y_pl")))
local macro_rules | `(tactic| walk_at "y1") => `(tactic| ((with_reducible refine v_plusLL ?ye2 ?_); (case ye2 => ((simp only [cut_to, cut_from, cut_mid, List.length_append, List.length_cons, List.length_nil, List.length_map, List.length_take, List.length_drop, sizeLine_eq]); omega))))
/-- what is drawn for the law -/
structure LW (f g s : Str) (df dg : D) (n : Int) (ps qs : List (List Str)) : Prop where
  hf : fldW f df
  hg : fldW g dg
  hs : shrW s n
  wf : gW f
  wg : gW g
  ws : gW s
  hp : ∀ p ∈ ps, p ∈ PM
  hq : ∀ p ∈ qs, p ∈ PM
  lp : ps.length ≤ 6
  lq : qs.length ≤ 6
theorem i_toldB {s : Str} {n : Nat} {M : Mm} {Q : QD} {E : DX} (h : okIn s ∧ pText pShape s = .error ("form", n)) (q : Q (.tup [.str "form", .int (n : Nat)]) M) : spTold [.str s] M Q E := i_told h.1 h.2 q
section
variable {f g s : Str} {df dg : D} {n : Int} {ps qs : List (List Str)} (L : LW f g s df dg n ps qs)
include L
theorem tail0 {K : PySem.W.Frag} {CT : Addr} {N w : Str} {m : Int} (hN : N = strN m) (h13 : 13 ≤ m) (h20 : m ≤ 2000000) {p : Nat} {l : List Str} (hl : (turned N)[p]? = some l) (hw : w ∈ l) {E : DEnds} {M : Mm} {x0 x1 x3 x4 x5 x7 x9 x11 x13 x14 x15 x16 : Option D}
    (k : E.nx [x0, x1, some (.lst ((ahd ps).map D.str)), x3, x4, x5, some (.lst ((cellW f g s).map D.str)), x7, some (.int ((ahd ps).length : Nat)), x9, some (.int (p : Nat)), x11, some (.lst ((ahd ps ++ badW f g s w p qs).map D.str)), x13, x14, x15, x16] M) :
    r_law_c0 K spBegin spTake spPart spPick spTold CT (spPA CT) E [x0, x1, some (.lst ((ahd ps).map D.str)), x3, x4, x5, some (.lst ((cellW f g s).map D.str)), x7, some (.int ((ahd ps).length : Nat)), x9, some (.int (p : Nat)), x11, some (.lst ((ahd ps ++ badW f g s w p qs).map D.str)), x13, x14, x15, x16] M := by
  have hp9 : p < 9 := by have := (List.getElem?_eq_some_iff.mp hl).1; exact this
  obtain ⟨a1, a2⟩ := ahd_w L.hp
  obtain ⟨b1, b2⟩ := bhd_w L.hq
  have lp := L.lp
  have lq := L.lq
  have hB := bad_at L.hf L.hg L.wf L.wg L.ws hN h13 h20 L.hp L.hq (by omega) (by omega) hl hw
  have gl : gW w := by
    have : (turned N)[p]? = some l := hl
    match p, hl with
    | 0, hl => cases hl; exact (tn0 w hw).1
    | 1, hl => cases hl; exact (tn1 w hw).1
    | 2, hl => cases hl; exact (tn2 w hw).1
    | 3, hl => cases hl; exact (tn3 w hw).1
    | 4, hl => cases hl; exact (tn4 w hw).1
    | 5, hl => cases hl; exact (tn5 w hw).1
    | 6, hl => cases hl; exact (tn6 w hw).1
    | 7, hl => cases hl; exact (tn7 w hw).1
    | 8, hl => cases hl; exact (turn8 hN h13 h20 hw).1
    | k + 9, hl => cases hl
  have hcw := cell_w L.wf L.wg L.ws
  have s1 := sum_len a1
  have s2 : (((cellW f g s).take p).map (·.length)).sum ≤ 1000 := by
    have := sum_len (ws := (cellW f g s).take p) fun v hv => hcw v (List.mem_of_mem_take hv)
    have h9 : (cellW f g s).length = 9 := rfl
    rw [List.length_take, h9] at this
    omega
  have s3 : (((cellW f g s).drop (p + 1)).map (·.length)).sum ≤ 1000 := by
    have := sum_len (ws := (cellW f g s).drop (p + 1)) fun v hv => hcw v (List.mem_of_mem_drop hv)
    have h9 : (cellW f g s).length = 9 := rfl
    rw [List.length_drop, h9] at this
    omega
  have s4 := sum_len b1
  have h9 : (cellW f g s).length = 9 := rfl
  unfold r_law_c0
  walk_at "ys"
  refine v_joinW (ws := ahd ps ++ badW f g s w p qs) rfl ?_ ?_
  · have := gl.2
    simp only [badW, List.map_append, List.map_cons, List.map_nil, List.sum_append, List.sum_cons, List.sum_nil, List.length_append, List.length_cons, List.length_nil, List.length_take, List.length_drop, h9] at *
    omega
  walk_at "ys"
  refine i_toldB hB ?_
  rw [Int.natCast_add]
  walk_at "ys"
  · refine v_joinW (ws := ahd ps ++ (cellW f g s).take p) (by rw [cut_to]; simp) ?_ ?_
    · simp only [List.map_append, List.sum_append, List.length_append, List.length_take, h9] at *
      omega
    walk_at "ys"
    refine i_toldB (cut_at L.hf L.hg L.wf L.wg L.ws L.hp (by omega) (.inl ⟨by omega, by omega⟩)) ?_
    rw [Int.natCast_add]
    walk_at "ys"
    exact k
  · have p8 : p = 8 := by omega
    refine v_joinW (ws := ahd ps ++ (cellW f g s).take p) (by rw [cut_to]; simp) ?_ ?_
    · simp only [List.map_append, List.sum_append, List.length_append, List.length_take, h9] at *
      omega
    walk_at "ys"
    refine i_toldB (cut_at L.hf L.hg L.wf L.wg L.ws L.hp (by omega) (.inr p8)) ?_
    rw [Int.natCast_add]
    walk_at "ys"
    exact k
  all_goals first
    | exact k
    | (exfalso; omega)
/-- the whole text of the law -/
def lawW (f g s : Str) (ps qs : List (List Str)) : List Str := ahd ps ++ (cellW f g s ++ bhd qs)
theorem law_w : (∀ w ∈ lawW f g s ps qs, gW w) ∧ (lawW f g s ps qs).length ≤ 105 ∧ (ahd ps).length ≤ 48 ∧ (bhd qs).length ≤ 48 := by
  obtain ⟨a1, a2⟩ := ahd_w L.hp
  obtain ⟨b1, b2⟩ := bhd_w L.hq
  have lp := L.lp
  have lq := L.lq
  have hcw := cell_w L.wf L.wg L.ws
  refine ⟨fun w hw => ?_, ?_, by omega, by omega⟩
  · simp only [lawW, List.mem_append] at hw
    rcases hw with hw | hw | hw
    · exact a1 w hw
    · exact hcw w hw
    · exact b1 w hw
  · have h9 : (cellW f g s).length = 9 := rfl
    simp only [lawW, List.length_append, h9]
    omega
theorem law_told : okIn (Txt.join " " (lawW f g s ps qs)) ∧ ∃ d, pText pShape (Txt.join " " (lawW f g s ps qs)) = .ok d ∧ shapeT d := by
  obtain ⟨h1, h2, h3, h4⟩ := law_w L
  have hne : lawW f g s ps qs ≠ [] := by simp [lawW, cellW]
  refine ⟨join_in hne h1 (by omega), ?_⟩
  have lp := L.lp
  have lq := L.lq
  obtain ⟨d, hd, e⟩ := law_shape L.hf L.hg L.hs L.hp L.hq ⟨by omega, by omega⟩
  exact ⟨d, told_ok hne (fun w hw => (h1 w hw).1) (ahd_head L.hp x_some) e, hd⟩
theorem law_told_or : okIn (Txt.join " " (lawW f g s ps qs) ++ " or") ∧ pText pAss (Txt.join " " (lawW f g s ps qs) ++ " or") = .error ("form", (lawW f g s ps qs).length + 1) := by
  obtain ⟨h1, h2, h3, h4⟩ := law_w L
  have hne : lawW f g s ps qs ≠ [] := by simp [lawW, cellW]
  have e : Txt.join " " (lawW f g s ps qs) ++ " or" = Txt.join " " (lawW f g s ps qs ++ [("or" : Str)]) := by
    apply ext_tl
    have e1 : TL.tl (Txt.join " " (lawW f g s ps qs)) = joinL [32] ((lawW f g s ps qs).map TL.tl) := cps_join _
    have e2 : TL.tl (Txt.join " " (lawW f g s ps qs ++ [("or" : Str)])) = joinL [32] ((lawW f g s ps qs ++ [("or" : Str)]).map TL.tl) := cps_join _
    rw [tl_append, e1, e2, List.map_append, joinL_app _ _ (by simpa using hne) (by simp)]
    have : TL.tl (" or" : Str) = 32 :: TL.tl ("or" : Str) := by decide +kernel
    rw [this]
    rfl
  have hor : gW ("or" : Str) := by decide +kernel
  have hw : ∀ w ∈ lawW f g s ps qs ++ [("or" : Str)], gW w := fun w hw => by
    rcases List.mem_append.mp hw with hw | hw
    · exact h1 w hw
    · rw [List.mem_singleton.mp hw]; exact hor
  rw [e]
  refine ⟨join_in (by simp) hw (by rw [List.length_append]; simp only [List.length_cons, List.length_nil]; omega), ?_⟩
  unfold pText
  rw [words_join (by simp) fun w h => (hw w h).1]
  simp only
  have e3 : lawW f g s ps qs ++ [("or" : Str)] = ahd ps ++ (cellW f g s ++ (bhd qs ++ [("or" : Str)])) := by simp [lawW]
  rw [e3, law_or L.hf L.hg L.hs L.hp L.hq]
  rfl
theorem stg_eq : Txt.join "" [] = "" := rfl
theorem tail6 {K : PySem.W.Frag} {CH CI CT : Addr} (T : XT K CH CI CT) (TT : PySem.W.exmOne K (.ref CT) (.ref CT) = some true) {Q : QD} {M : Mm} {a : Addr} {t : Tk} (hM : M a = some (tkM t)) (ok : t.ok) {x0 x3 x5 : Option D} (k : ∀ M', Q (.bl true) M') :
    r_law_c6 K spBegin spTake spPart spPick spTold CT (spPA CT) (EL Q) [x0, some (.ref a), some (.lst ((ahd ps).map D.str)), x3, some (.lst ((bhd qs).map D.str)), x5, some (.lst ((cellW f g s).map D.str)), some (.lst ((lawW f g s ps qs).map D.str)), none, none, none, none, none, none, none, none, none] M := by
  obtain ⟨w1, w2, w3, w4⟩ := law_w L
  have hsum := sum_len w1
  obtain ⟨ti, td, te, tT⟩ := law_told L
  unfold r_law_c6
  walk_at "ys"
  refine v_joinW (ws := lawW f g s ps qs) rfl (by omega) ?_
  walk_at "ys"
  refine i_toldY ti te tT ?_
  walk_at "ys"
  rw [show (10 ^ Int.toNat 6 : Int) = 1000000 from rfl]
  refine i_take hM ok ⟨by decide, by decide⟩ fun r t1 r0 r1 ok1 => ?_
  walk_at "ys"
  refine v_strI (okx_int (Nat.lt_of_lt_of_le (m := 10 ^ 30) (by omega) (by decide +kernel))) ?_
  walk_at "ys"
  refine ⟨_, rfl, by rw [List.length_map]; show -2 ^ 62 ≤ ((9 : Nat) : Int); decide, by rw [List.length_map]; show ((9 : Nat) : Int) < 2 ^ 62; decide, ?_⟩
  rw [List.length_map, List.length_map, show ((cellW f g s).length : Int).toNat = 9 from rfl]
  let N : Str := Str.ofString (toString (13 + r))
  refine for_wordG (fun i δ M' => ∃ t' x10 x11 x12, t'.ok ∧ M' = put M a (tkM t') ∧ δ = [x0, some (.ref a), some (.lst ((ahd ps).map D.str)), x3, some (.lst ((bhd qs).map D.str)), x5, some (.lst ((cellW f g s).map D.str)), some (.lst ((lawW f g s ps qs).map D.str)), some (.int ((ahd ps).length : Nat)), some (.lst ((turned N).map fun l => .lst (l.map D.str))), x10, x11, x12, none, none, none, none]) ⟨t1, none, none, none, ok1, rfl, rfl⟩ ?_ ?_ (fun _ _ _ _ => trivial)
  · rintro i d δ M' hd ⟨t', x10, x11, x12, ok', rfl, rfl⟩
    have hi : i < 9 := by
      have := (List.getElem?_eq_some_iff.mp hd).1
      simpa [rngD] using this
    have hd2 : d = .int (i : Nat) := by
      unfold rngD at hd
      rw [List.getElem?_map, List.getElem?_range hi] at hd
      cases hd
      simp
    subst hd2
    obtain ⟨l, hl⟩ : ∃ l, (turned N)[i]? = some l := ⟨(turned N)[i]'(by show i < 9; exact hi), List.getElem?_eq_getElem _⟩
    have hne : l ≠ [] ∧ l.length < 1000 := by
      match i, hl with
      | 0, hl => cases hl; exact ⟨by simp, by simp⟩
      | 1, hl => cases hl; exact ⟨by simp, by simp⟩
      | 2, hl => cases hl; exact ⟨by simp, by simp⟩
      | 3, hl => cases hl; exact ⟨by simp, by simp⟩
      | 4, hl => cases hl; exact ⟨by simp, by simp⟩
      | 5, hl => cases hl; exact ⟨by simp, by simp⟩
      | 6, hl => cases hl; exact ⟨by simp, by simp⟩
      | 7, hl => cases hl; exact ⟨by simp, by simp⟩
      | 8, hl => cases hl; exact ⟨by simp, by simp⟩
      | k + 9, hl => cases hl
    have hpos : 0 < l.length := List.length_pos_iff.mpr hne.1
    walk_at "ys"
    refine v_subL (d := .lst (l.map D.str)) (by rw [atI_nn, List.getElem?_map, hl]; rfl) ?_
    walk_at "ys"
    refine i_pick (P := fun d => ∃ w ∈ l, d = .str w) (t := t') put_same ok' ⟨by rw [List.length_map]; exact hpos, by rw [List.length_map]; omega⟩ (fun d hd => ?_) fun d t2 hd ok2 => ?_
    · obtain ⟨w, hw, rfl⟩ := List.mem_map.mp hd
      exact ⟨w, hw, rfl⟩
    obtain ⟨w, hw, rfl⟩ := hd
    walk_at "ys"
    rw [show ((i : Nat) : Int) + 1 = ((i + 1 : Nat) : Int) from rfl]
    have h9 : (cellW f g s).length = 9 := rfl
    walk_at "ys"
    have eb : ((ahd ps).map D.str ++ cut ((cellW f g s).map D.str) none (some (i : Int)) ++ [D.str w]) ++ cut ((cellW f g s).map D.str) (some ((i + 1 : Nat) : Int)) none ++ (bhd qs).map D.str = (ahd ps ++ badW f g s w i qs).map D.str := by
      rw [cut_to, cut_from]
      simp [badW]
    rw [eb]
    refine tail0 L (K := K) (CT := CT) (N := N) (m := 13 + r) rfl (by omega) (by omega) hl hw ?_
    exact ⟨t2, _, _, _, ok2, put_put, rfl⟩
  · rintro δ M' ⟨t', x10, x11, x12, ok', rfl, rfl⟩
    walk_at "ys"
    rename_i r2 t2 r20 r21 ok2
    rw [List.length_map] at r21
    refine v_sliceS (by decide +kernel) ?_
    rw [show cutS ("=" : Str) none (some 0) = "" by decide +kernel]
    walk_at "ys"
    refine v_plusStr (by decide +kernel) ?_
    rw [show ("" : Str) ++ ("&" : Str) = "&" by decide +kernel]
    walk_at "ys"
    rename_i d t3 hP hd ok3
    obtain ⟨g2, hg2, rfl⟩ : ∃ g2 ∈ STG, d = .str g2 := by
      simp only [List.mem_cons, List.not_mem_nil, or_false] at hd
      rcases hd with rfl | rfl | rfl | rfl | rfl | rfl | rfl <;> exact ⟨_, by simp [STG], rfl⟩
    obtain ⟨p, rfl⟩ := Int.eq_ofNat_of_zero_le r20
    have hin := law_told_or L
    exact tail5 T TT put_same ok3 hg2 (at_ := (ahd ps).length) (pl := p) (by simp [lawW]) (by omega) w1 (by omega) k ⟨by omega, by omega, by have := ti.1; omega⟩ hin.1 hin.2
end
end K04


set_option Elab.async false
set_option linter.all false
set_option maxRecDepth 100000
set_option maxHeartbeats 4000000
set_option pp.deepTerms true
set_option pp.maxSteps 3000
/-! the readings of law k04: the law, its beginning -/
namespace K04
open PySem PySem.Spec PyProof.Rows L2 Y YD TL
local macro_rules | `(tactic| walk_at "y_ne") => `(tactic| first | assumption | exact Ne.symm (by assumption) | ((refine ne_none (M := ?yM) (m := ?ymo) ?ym1 ?ym2); (case ym2 => assumption); (case ym1 => walk_at "y_look")) | ((refine Ne.symm (ne_none (M := ?yM) (m := ?ymo) ?ym1 ?ym2)); (case ym2 => assumption); (case ym1 => walk_at "y_look")) | ((refine ne_none (M := ?yM) (m := ?ymo) ?ym1 (put_none (M := ?yM) (a := ?yma) (m := ?ymo2) ?ym2).2); (case ym2 => assumption); (case ym1 => walk_at "y_look")) | ((refine Ne.symm (ne_none (M := ?yM) (m := ?ymo) ?ym1 (put_none (M := ?yM) (a := ?yma) (m := ?ymo2) ?ym2).2)); (case ym2 => assumption); (case ym1 => walk_at "y_look")))
local macro_rules | `(tactic| walk_at "y_look") => `(tactic| first | assumption | exact put_same | ((with_reducible refine Eq.trans (put_ne ?yn) ?_); (case yn => walk_at "y_ne"); (walk_at "y_look")) | ((with_reducible refine Eq.trans (drop_ne ?yn) ?_); (case yn => walk_at "y_ne"); (walk_at "y_look")))
local macro_rules | `(tactic| walk_at "y_pl") => `(tactic| first | assumption | exact PlL.nil | exact Pl.int _ | exact Pl.non | exact Pl.bl _ | exact Pl.str (by decide +kernel) | ((with_reducible refine PlL.cons ?yp1 ?yp2); (case yp1 => walk_at "y_pl"); (case yp2 => walk_at "y_pl")) | ((with_reducible refine PlL.append ?yp1 ?yp2); (case yp1 => walk_at "y_pl"); (case yp2 => walk_at "y_pl")) | ((with_reducible refine Pl.tup ?yp1); (case yp1 => walk_at "y_pl")) | ((with_reducible refine PlL.mono (j := ?yj) ?yp1 ?yp2); (case yp1 => assumption); (case yp2 => first | decide | omega)) | ((with_reducible refine Pl.mono (j := ?yj) ?yp1 ?yp2); (case yp1 => assumption); (case yp2 => first | decide | omega)))
local macro_rules | `(tactic| walk_at "y_len") => `(tactic| ((try simp only [List.length_append, List.length_cons, List.length_nil, List.length_map, sizeLine_eq] at *); omega))
local macro_rules | `(tactic| walk_at "y_rfl") => `(tactic| first | rfl | (simp only [atI_nn]; rfl))
local macro_rules | `(tactic| walk_at "y_at") => `(tactic| first | exact atI_nn _ 0 | rfl)
local macro_rules | `(tactic| walk_at "y_cond") => `(tactic| first
  | (show (0 : Int) < _; first | decide | assumption | omega)
  | (exact ⟨by first | decide | assumption | omega, by first | decide | assumption | omega⟩)
  | (exact Or.inl ⟨by first | decide | assumption | omega, by first | decide | assumption | omega⟩)
  | (exact Or.inr ⟨by first | decide | assumption | omega, by first | decide | assumption | omega⟩)
  | (exact ⟨by decide, by decide, by decide⟩))
local macro_rules | `(tactic| walk_at "y1") => `(tactic| first
  | (with_reducible first | refine i_seq ?_ | refine i_next ?_ | refine i_asg ?_ | refine i_ret ?_ | refine i_retN ?_ | refine i_drop ?_ | refine i_cont ?_ | refine i_break ?_ | refine i_ifs ?_ | refine i_if ?_ | refine i_and ?_ | refine i_or ?_ | refine i_not ?_ | refine i_test ?_ | refine i_tru ?_ | refine i_andV ?_ | refine i_orV ?_ | refine i_notV ?_ | refine i_bl ?_ | refine i_op ?_ | refine i_chain ?_ | refine i_c ?_ | refine i_cd ?_ | refine i_nil ?_ | refine i_cons ?_ | refine i_call ?_ | refine i_cb ?_ | refine i_tup ?_ | refine i_lst ?_ | refine i_lstM ?_ | refine i_dict ?_ | refine i_frz ?_ | refine i_name ?_ | refine i_gcons ?_ | refine i_gnil ?_ | refine i_gsub ?_ | refine i_par ?_ | refine i_par2 ?_ | refine i_un ?_ | refine i_int ?_ | refine i_slice ?_ | refine i_onone ?_ | refine i_osome ?_ | refine i_bm ?_ | refine i_bm0 ?_ | refine i_get1 ?_ | refine i_get2 ?_ | refine i_del ?_ | refine i_for ?_ | refine i_lc ?_ | refine i_dc ?_ | refine i_yes ?_ | refine i_it ?_ | refine i_rng1 ?_ | refine i_fld ?_ | refine i_sfld ?_ | refine i_meth ?_ | refine i_make ?_ | refine v_I0 ?_ | refine v_plusI ?_ | refine v_eqI ?_ | refine v_eqS ?_ | refine v_isN ?_ | refine v_int ?_ | refine v_abs ?_ | refine v_sliceT ?_ | refine v_sliceL ?_ | refine b_fx ?_ | refine b_tx ?_)
  | ((with_reducible refine i_var (d := ?yd) ?ye0 ?_); (case ye0 => rfl))
  | ((with_reducible refine i_gtup ?ye0 ?_); (case ye0 => rfl))
  | (with_reducible refine iteT ?_)
  | (with_reducible refine iteF ?_)
  | (with_reducible refine b_dec ?_ ?_ <;> intro hc)
  | (with_reducible refine b_ndec ?_ ?_ <;> intro hc)
  | ((with_reducible refine v_subT (d := ?yd) ?ye0 ?_); (case ye0 => rfl))
  | ((with_reducible refine v_subL (d := ?yd) ?ye0 ?_); (case ye0 => rfl))
  | ((with_reducible refine v_subM (ds := ?yds) (d := ?yd) ?ye0 ?ye1 ?_); (case ye0 => (walk_at "y_look")); (case ye1 => rfl))
  | ((with_reducible refine v_setL (ds := ?yds) (j := ?yj) ?ye0 ?ye1 ?_); (case ye0 => (walk_at "y_look")); (case ye1 => rfl))
  | ((with_reducible refine v_I ?ye0 ?_); (case ye0 => (walk_at "y_cond")))
  | ((with_reducible refine i_sz ?ye0 ?_); (case ye0 => (first | exact Nat.le_of_ble_eq_true rfl | (simp only [List.length_append, List.length_cons, List.length_nil, List.length_map, sizeLine_eq] at *; omega))))
  | (with_reducible refine i_new fun yp yhp => ?_)
  | ((with_reducible refine v_app (ds := ?yds) ?ye0 ?ye1 ?_); (case ye0 => (walk_at "y_look")); (case ye1 => (first | (simp only [List.length_append, List.length_cons, List.length_nil, List.length_map, sizeLine_eq] at *; omega))))
  | ((with_reducible refine i_tyL (ds := ?yds) ?ye0 ?_); (case ye0 => (walk_at "y_look")))
  | (with_reducible refine i_tyl ?_)
  | ((with_reducible refine v_subK (kvs := ?ykv) (k := ?yk) (d := ?yd) ?ye0 ?ye1 ?ye2 ?_); (case ye0 => (walk_at "y_look")); (case ye1 => rfl); (case ye2 => first | assumption | rfl))
  | ((with_reducible refine v_plusL (ds := ?yds) (es := ?yes) ?ye0 ?ye1 ?ye2 ?_); (case ye0 => first | rfl | (with_reducible refine lsD_ref (ds := ?yds2) ?yl0; walk_at "y_look")); (case ye1 => first | rfl | (with_reducible refine lsD_ref (ds := ?yds2) ?yl0; walk_at "y_look")); (case ye2 => (simp only [List.length_append, List.length_cons, List.length_nil, List.length_map, sizeLine_eq] at *; omega)))
  | ((with_reducible refine v_plusT ?ye0 ?_); (case ye0 => (simp only [List.length_append, List.length_cons, List.length_nil, List.length_map, sizeLine_eq] at *; omega)))
  | ((with_reducible refine i_rng1d ?ye0 ?_); (case ye0 => (constructor <;> omega)))
  | ((with_reducible refine v_len (n := ?yn) ?ye0 ?_); (case ye0 => first | ((with_reducible refine lenD_ref (ds := ?yds) ?yl0); (case yl0 => walk_at "y_look")) | rfl))
  | ((with_reducible refine v_list (es := ?yes) ?ye0 ?_); (case ye0 => first | (with_reducible refine itD_ref (ds := ?yds) ?yl0; walk_at "y_look") | rfl))
  | ((with_reducible refine v_tuple (es := ?yes) ?ye0 ?_); (case ye0 => first | (with_reducible refine itD_ref (ds := ?yds) ?yl0; walk_at "y_look") | rfl))
  | ((with_reducible refine v_eqP ?ye0 ?ye1 fun yb => ?_); (case ye0 => walk_at "y_pl"); (case ye1 => walk_at "y_pl"))
  | (with_reducible refine b_emp ?_ ?_ <;> intro hc)
  | (with_reducible refine i_trul ?_)
  | (with_reducible refine i_trut ?_)
  | (with_reducible refine i_trub ?_)
  | ((with_reducible refine v_inT ?ye0 ?_); (case ye0 => exact ⟨rfl, rfl⟩))
  | (with_reducible refine b_var ?_ ?_ <;> intro hc)
  | ((with_reducible refine i_its (ds := ?yds) ?ye0 ?_); (case ye0 => rfl)))
local macro_rules | `(tactic| walk_at "y0") => `(tactic| repeat' (walk_at "y1"))
local macro_rules | `(tactic| walk_at "ys") => `(tactic| walk_at "y0")
local macro_rules | `(tactic| walk_at "y_nn") => `(tactic| first | assumption | exact (put_none (by assumption)).2 | exact (put_none (put_none (by assumption)).2).2 | exact (put_none (put_none (put_none (by assumption)).2).2).2)
local macro_rules | `(tactic| walk_at "y_kl1") => `(tactic| first | (with_reducible exact KL.merge) | ((with_reducible refine KL.put (n := ?ykn) ?ykk); (case ykk => walk_at "y_kl1")))
local macro_rules | `(tactic| walk_at "y_kl") => `(tactic| ((refine KL.lt (n := ?yn) ?yk1 ?yk2); (case yk1 => walk_at "y_kl1"); (case yk2 => first | decide | (simp; done))))
local macro_rules | `(tactic| walk_at "y_fr") => `(tactic| first | exact Fr.refl _ _ | assumption | ((refine Fr.put ?yf1 ?yf2); (case yf2 => simp); (case yf1 => walk_at "y_fr")) | ((refine Fr.drop ?yf1 ?yf2); (case yf2 => simp); (case yf1 => walk_at "y_fr")))
local macro_rules | `(tactic| walk_at "y_fin") => `(tactic| first | assumption | rfl | walk_at "y_look" | walk_at "y_pl" | walk_at "y_fr" | omega | walk_at "y_len" | (intros; omega))
local macro_rules | `(tactic| walk_at "y_take") => `(tactic| ((with_reducible refine i_take (t := ?yt) ?yl ?yo ?yb fun yr yt' yr0 yr1 yok => ?_); (case yl => walk_at "y_look"); (case yo => assumption); (case yb => (constructor <;> first | omega | (simp; omega)))))
local macro_rules | `(tactic| walk_at "y_pick") => `(tactic| first | ((with_reducible refine i_pick2 (k := 0) (t := ?yt) ?yl ?yo ?yb ?yP fun yd yt' yP ym yok => ?_); (case yl => walk_at "y_look"); (case yo => assumption); (case yb => (constructor <;> walk_at "y_len")); (case yP => walk_at "y_pl")) | ((with_reducible refine i_pick2 (k := 5) (t := ?yt) ?yl ?yo ?yb ?yP fun yd yt' yP ym yok => ?_); (case yl => walk_at "y_look"); (case yo => assumption); (case yb => (constructor <;> walk_at "y_len")); (case yP => walk_at "y_pl")))
local macro_rules | `(tactic| walk_at "y2") => `(tactic| first | walk_at "y1" | walk_at "y_take" | walk_at "y_pick" | (with_reducible refine i_disp fun yp yhp => ?_) | (with_reducible refine i_pcons ?_) | (with_reducible refine i_pnil ?_) | (with_reducible refine i_mut ?_) | ((with_reducible refine v_inT' ?ye0 ?ye1 fun yb => ?_); (case ye0 => walk_at "y_pl"); (case ye1 => walk_at "y_pl")) | ((with_reducible refine v_setK (kvs := ?ykv) (k := ?yk) ?ye0 ?ye1 ?ye2 ?_); (case ye0 => walk_at "y_look"); (case ye1 => rfl); (case ye2 => walk_at "y_kl")) | ((with_reducible refine i_mutd (ds := ?yds) ?ye0 ?_); (case ye0 => walk_at "y_look")) | ((with_reducible refine i_glst' ?ye0 ?_); (case ye0 => rfl)))
local macro_rules | `(tactic| walk_at "ys") => `(tactic| repeat' (walk_at "y2"))
local macro_rules | `(tactic| walk_at "y1") => `(tactic| (with_reducible first | refine i_callX ?_ | refine i_methX ?_ | refine i_raise ?_ | refine i_tryAs ?_ | refine i_tryOnly ?_ | refine i_xf ?_ | refine i_isE ?_ | refine i_zip ?_ | refine i_enum ?_ | refine i_rev ?_))
local macro_rules | `(tactic| walk_at "y1") => `(tactic| ((with_reducible refine v_subLk (kvs := ?ykv) (k := ?yk) (d := ?yd) (od := ?yod) (xs := ?yxs) ?ye0 ?ye1 ?ye2 ?_); (case ye0 => (walk_at "y_look")); (case ye1 => rfl); (case ye2 => first | assumption | rfl)))
local macro_rules | `(tactic| walk_at "y1") => `(tactic| first
  | (with_reducible first | refine v_isT ?_ | refine v_isF ?_ | refine iteNT ?_ | refine iteNF ?_)
  | ((with_reducible refine v_isNF ?ye0 ?_); (case ye0 => rfl))
  | ((with_reducible refine v_isNT ?ye0 ?_); (case ye0 => rfl)))
local macro_rules | `(tactic| walk_at "y1") => `(tactic| (with_reducible refine i_tyS ?_))
local macro_rules | `(tactic| walk_at "y1") => `(tactic| ((with_reducible refine v_plusLL ?ye2 ?_); (case ye2 => ((simp only [cut_to, cut_from, cut_mid, List.length_append, List.length_cons, List.length_nil, List.length_map, List.length_take, List.length_drop, sizeLine_eq]); omega))))
def fieldOf (f : Str) : Prop := (∃ d, fldW f d) ∧ gW f
theorem field_of {d : D} (h : d ∈ ([.str "y", .str "nil", .str "5"] : List D)) : ∃ f, d = .str f ∧ fieldOf f := by
  have k : ∀ f ∈ ([("y" : Str), "nil", "5"] : List Str), gW f := by decide +kernel
  simp only [List.mem_cons, List.not_mem_nil, or_false] at h
  rcases h with rfl | rfl | rfl
  · exact ⟨_, rfl, fld_ok (by simp), k _ (by simp)⟩
  · exact ⟨_, rfl, fld_ok (by simp), k _ (by simp)⟩
  · exact ⟨_, rfl, fld_ok (by simp), k _ (by simp)⟩
theorem tail7 {K : PySem.W.Frag} {CH CI CT : Addr} (T : XT K CH CI CT) (TT : PySem.W.exmOne K (.ref CT) (.ref CT) = some true) {Q : QD} {M : Mm} {a : Addr} {t : Tk} (hM : M a = some (tkM t)) (ok : t.ok) {ps qs : List (List Str)} (hp : ∀ p ∈ ps, p ∈ PM) (hq : ∀ p ∈ qs, p ∈ PM) (lp : ps.length ≤ 6) (lq : qs.length ≤ 6) {x0 x3 : Option D} (k : ∀ M', Q (.bl true) M') :
    r_law_c7 K spBegin spTake spPart spPick spTold CT (spPA CT) (EL Q) [x0, some (.ref a), some (.lst ((ahd ps).map D.str)), x3, some (.lst ((bhd qs).map D.str)), none, none, none, none, none, none, none, none, none, none, none, none] M := by
  obtain ⟨a1, a2⟩ := ahd_w hp
  obtain ⟨b1, b2⟩ := bhd_w hq
  unfold r_law_c7
  walk_at "ys"
  rename_i r t1 r0 r1 ok1 d1 t2 hP1 hd1 ok2 d2 t3 hP2 hd2 ok3
  obtain ⟨f, rfl, ⟨df, hf⟩, wf⟩ := field_of hd1
  obtain ⟨g, rfl, ⟨dg, hg⟩, wg⟩ := field_of hd2
  refine v_strI (okx_int (Nat.lt_of_lt_of_le (m := 10 ^ 30) (by omega) (by decide +kernel))) ?_
  walk_at "ys"
  have hs := strN_ok (i := 1 + r) (by omega) (by omega)
  have L : LW f g (strN (1 + r)) df dg (1 + r) ps qs := ⟨hf, hg, ⟨by omega, by omega, hs.2⟩, wf, wg, hs.1, hp, hq, lp, lq⟩
  have ew : ((ahd ps).map D.str ++ [D.str "x", D.str "->", D.str "(", D.str f, D.str ",", D.str g, D.str ")", D.str "by", D.str (strN (1 + r))]) ++ (bhd qs).map D.str = (lawW f g (strN (1 + r)) ps qs).map D.str := by
    simp [lawW, cellW]
  rw [ew]
  exact tail6 L T TT put_same ok3 k
def spLaw : DSp := fun ds M Q _ => ∃ ns : List Int, ds = [.lst (ns.map D.int)] ∧ ∀ M', Q (.bl true) M'
theorem rd_law {K : PySem.W.Frag} {CH CI CT : Addr} (T : XT K CH CI CT) (TT : PySem.W.exmOne K (.ref CT) (.ref CT) = some true) (ds : List D) (M : Mm) (Q : QD) (E : DX) (h : spLaw ds M Q E) : r_law K spBegin spTake spPart spPick spTold CT (spPA CT) { nx := fun _ M' => less Q .non M', rt := less Q } (startD 17 ds) M := by
  obtain ⟨ns, rfl, k⟩ := h
  show r_law _ _ _ _ _ _ _ _ _ [some (.lst (ns.map D.int)), none, none, none, none, none, none, none, none, none, none, none, none, none, none, none, none] M
  unfold r_law
  walk_at "ys"
  refine ⟨ns, rfl, fun a t hM ok => ?_⟩
  walk_at "ys"
  rename_i r t1 r0 r1 ok1
  refine for_wordG (fun i δ M' => ∃ t' ps x3, t'.ok ∧ (∀ p ∈ ps, p ∈ PM) ∧ ps.length = i ∧ M' = put M a (tkM t') ∧ δ = [some (.lst (ns.map D.int)), some (.ref a), some (.lst ((ahd ps).map D.str)), x3, none, none, none, none, none, none, none, none, none, none, none, none, none]) ⟨t1, [], none, ok1, (fun _ z => nomatch z), rfl, put_put, rfl⟩ ?_ ?_ (fun _ _ _ _ => trivial)
  · rintro i d δ M' hd ⟨t', ps, x3, ok', hp, lp, rfl, rfl⟩
    have hi : i < 6 := by
      have := (List.getElem?_eq_some_iff.mp hd).1
      simp [rngD] at this
      omega
    obtain ⟨a1, a2⟩ := ahd_w hp
    walk_at "ys"
    refine ⟨a, t', rfl, put_same, ok', fun p t2 hpm ok2 => ?_⟩
    have l7 := (pm_w p hpm).2.1
    walk_at "ys"
    refine ⟨t2, ps ++ [p], some d, ok2, ?_, by simp [lp], put_put, ?_⟩
    · intro q hq
      rcases List.mem_append.mp hq with hq | hq
      · exact hp q hq
      · rw [List.mem_singleton.mp hq]; exact hpm
    · have e : (ahd (ps ++ [p])).map D.str = (ahd ps).map D.str ++ p.map D.str ++ [D.str "*"] := by simp [ahd]
      rw [e]
      rfl
  · rintro δ M' ⟨t', ps, x3, ok', hp, lp, rfl, rfl⟩
    have lp6 : ps.length ≤ 6 := by
      simp [rngD] at lp
      omega
    walk_at "ys"
    rename_i r t1 r0 r1 ok1
    refine for_wordG (fun i δ M' => ∃ t' qs x3, t'.ok ∧ (∀ p ∈ qs, p ∈ PM) ∧ qs.length = i ∧ M' = put M a (tkM t') ∧ δ = [some (.lst (ns.map D.int)), some (.ref a), some (.lst ((ahd ps).map D.str)), x3, some (.lst ((bhd qs).map D.str)), none, none, none, none, none, none, none, none, none, none, none, none]) ⟨t1, [], x3, ok1, (fun _ z => nomatch z), rfl, put_put, rfl⟩ ?_ ?_ (fun _ _ _ _ => trivial)
    · rintro i d δ M' hd ⟨t', qs, x3, ok', hq, lq, rfl, rfl⟩
      have hi : i < 6 := by
        have := (List.getElem?_eq_some_iff.mp hd).1
        simp [rngD] at this
        omega
      obtain ⟨b1, b2⟩ := bhd_w hq
      walk_at "ys"
      refine ⟨a, t', rfl, put_same, ok', fun p t2 hpm ok2 => ?_⟩
      have l7 := (pm_w p hpm).2.1
      walk_at "ys"
      refine ⟨t2, qs ++ [p], some d, ok2, ?_, by simp [lq], put_put, ?_⟩
      · intro q hq2
        rcases List.mem_append.mp hq2 with hq2 | hq2
        · exact hq q hq2
        · rw [List.mem_singleton.mp hq2]; exact hpm
      · have e : (bhd (qs ++ [p])).map D.str = (bhd qs).map D.str ++ [D.str "*"] ++ p.map D.str := by simp [bhd]
        rw [e]
        rfl
    · rintro δ M' ⟨t', qs, x3, ok', hq, lq, rfl, rfl⟩
      have lq6 : qs.length ≤ 6 := by
        simp [rngD] at lq
        omega
      exact tail7 T TT put_same ok' hp hq lp6 lq6 k
end K04


set_option Elab.async false
set_option linter.all false
set_option maxRecDepth 100000
set_option maxHeartbeats 1000000
/-! YX8: tuples of the module, as data. -/
namespace Y
open PySem PySem.Spec PyProof.Rows L2
def litRel : List D → List Value → Prop
  | [], [] => True
  | .v x :: ds, u :: us => RelV x u ∧ litRel ds us
  | _, _ => False
theorem lit_cons {x : V} {u : Value} {ds : List D} {us : List Value} (h : RelV x u) (t : litRel ds us) : litRel (.v x :: ds) (u :: us) := ⟨h, t⟩
def TupLit (o : Obj) (g : D) : Prop := ∃ (its : Array Value) (n : Nat) (ds : List D), o.cls = .type "tuple" ∧ o.data = .seq its n ∧ its.size ≤ 1000 ∧ g = .tup ds ∧ litRel ds its.toList
theorem litRel.vals {K : PySem.W.Frag} {F : Hp} : ∀ {ds : List D} {us : List Value}, litRel ds us → ∃ xs, RepL K F xs ds ∧ Vals xs us
  | [], [], _ => ⟨[], .nil, .nil⟩
  | .v x :: ds, u :: us, h => by
    obtain ⟨xs, h1, h2⟩ := litRel.vals (K := K) (F := F) h.2
    exact ⟨x :: xs, .cons (.v _) h1, .cons h.1 h2⟩
  | [], _ :: _, h => h.elim
  | .v _ :: _, [], h => h.elim
  | .tup _ :: _, _, h => by cases h
  | .lst _ :: _, _, h => by cases h
theorem TupLit.rep {K : PySem.W.Frag} {a : Addr} {o : Obj} {g : D} (h : K.lookup a = some o) (t : TupLit o g) (F : Hp) : Rep K F (.ref a) g := by
  obtain ⟨its, n, ds, h1, h2, h3, rfl, h5⟩ := t
  obtain ⟨xs, r, v⟩ := litRel.vals (K := K) (F := F) h5
  exact .tup (.inr ⟨o, its, n, h, h1, h2, by rw [sizeLine_eq]; omega, v⟩) r
end Y
namespace Y
open PySem PySem.Spec PyProof.Rows L2
theorem kit_no {K : PySem.W.Frag} {C : Addr} {cls : Value} {b : Bool} (hdct : PySem.W.hasDictIn K C = true) (ht : PySem.W.typeIn K (.ref C) = some (.type "type")) (h4 : PySem.W.subIn K cls (.ref C) = some b) (hn : (cls == .ref C) = false) : PySem.W.kitOne K cls (.ref C) = some b := by
  obtain ⟨cd, hc, _⟩ := PySem.W.any_some hdct
  have e2 : ((PySem.W.clsIn K C).isSome && PySem.W.typeIn K (.ref C) == some (.type "type")) = true := by rw [hc, ht] <;> rfl
  unfold PySem.W.kitOne
  rw [hn, if_neg Bool.false_ne_true]
  show (if ((PySem.W.clsIn K C).isSome && PySem.W.typeIn K (.ref C) == some (.type "type")) = true then PySem.W.subIn K cls (.ref C) else none) = some b
  rw [if_pos e2]
  exact h4
end Y


set_option Elab.async false
set_option linter.all false
set_option maxRecDepth 100000
set_option maxHeartbeats 4000000
/-! the walks, printed by gen.py -/
namespace K04
open PySem PySem.Spec PyProof.Rows L2 Y
def topS (i : Nat) : Stmt := PySem.Challenge.pw_eachcellheld_k04_texts_that_are_none.main.body.getD i (.Pass ⟨0, 0, 0, 0⟩)
structure Txt (K : PySem.W.Frag) (mg : Str → Option Value) : Prop where
  n_abs : mg "abs" = none
  n_all : mg "all" = none
  n_bool : mg "bool" = none
  n_int : mg "int" = none
  n_isinstance : mg "isinstance" = none
  n_len : mg "len" = none
  n_list : mg "list" = none
  n_max : mg "max" = none
  n_range : mg "range" = none
  n_str : mg "str" = none
  n_tuple : mg "tuple" = none
section
variable {P : Program} {w : World} {K : PySem.W.Frag} {mg : Str → Option Value} {base : Heap}
abbrev st__law_begin : Stmt := topS 38
abbrev N__law_begin : List Str := ["script", "seed", "cell"]
theorem sc__law_begin : FnScope N__law_begin ["script"] (defScope st__law_begin) := ⟨rfl, rfl, rfl, by decide +kernel, rfl, by decide +kernel, by decide +kernel⟩
theorem t__law_begin (T : Txt K mg) {k : Nat} {cdv : Value} {A : Around} {outer : List PySem.Env} {s0 : Shared} {H : Hp} {E : XK} {f : Addr} (hr : Room k (A.deeper (envOfC "_law_begin" (defScope st__law_begin) s0.heap.objs.size f cdv)))  :
    PSs (cxOf CX0 P w K mg base N__law_begin "_law_begin" (defScope st__law_begin) f cdv A outer s0 H E).nox (defBody st__law_begin) (upS K B0 (r__law_begin )) := by
  have nd := sc__law_begin.nd
  exact qss_cons (qs_set (i := 1) nd rfl (by first | exact Or.inl rfl | exact Or.inr rfl) (q_int)) (qss_cons (qs_for PassesOwn.never rfl (qi_it (q_var 0)) (qg_name (i := 2) nd rfl (by first | exact Or.inl rfl | exact Or.inr rfl)) (qss_one (qs_set (i := 1) nd rfl (by first | exact Or.inl rfl | exact Or.inr rfl) (q_op op_mod l_I (q_op op_plus l_plus (q_op op_plus l_plus (q_op op_mul l_I (q_var 1) (q_int)) (q_op op_mod l_I (q_callTy call_int1 l_int (by rfl) T.n_int (by decide +kernel) (qa_cons (q_var 2) (qa_nil))) (q_int))) (q_int)) (q_int))))) (qss_one (qs_ret (q_lstM (qa_cons (q_callTy call_list_of l_list (by rfl) T.n_list (by decide +kernel) (qa_cons (q_var 0) (qa_nil))) (qa_cons (q_int) (qa_cons (q_int) (qa_cons (q_var 1) (qa_nil)))))))))
abbrev st__law_take : Stmt := topS 39
abbrev N__law_take : List Str := ["d", "many", "small", "digit"]
theorem sc__law_take : FnScope N__law_take ["d", "many"] (defScope st__law_take) := ⟨rfl, rfl, rfl, by decide +kernel, rfl, by decide +kernel, by decide +kernel⟩
theorem t__law_take (T : Txt K mg) {k : Nat} {cdv : Value} {A : Around} {outer : List PySem.Env} {s0 : Shared} {H : Hp} {E : XK} {f : Addr} (hr : Room k (A.deeper (envOfC "_law_take" (defScope st__law_take) s0.heap.objs.size f cdv)))  :
    PSs (cxOf CX0 P w K mg base N__law_take "_law_take" (defScope st__law_take) f cdv A outer s0 H E).nox (defBody st__law_take) (upS K B0 (r__law_take )) := by
  have nd := sc__law_take.nd
  exact qss_cons (qs_if (PW.pt (qw_and (qt_cmp (op_eqA hr.units) l_eq (q_ix (ix_all (hu_of hr)) l_sub (q_var 0) (q_int)) (q_int) (nomark _)) (qw_and1 (qt_cmp op_lt l_I0 (q_ix (ix_all (hu_of hr)) l_sub (q_var 0) (q_int)) (q_callB call_lenA l_len (by rfl) T.n_len PySem.boot_len (qa_cons (q_ix (ix_all (hu_of hr)) l_sub (q_var 0) (q_int)) (qa_nil))) (nomark _))))) (qss_cons (qs_asg (q_callB call_abs l_abs (by rfl) T.n_abs (by decide +kernel) (qa_cons (q_callTy call_int1 l_int (by rfl) T.n_int (by decide +kernel) (qa_cons (q_ix (ix_all (hu_of hr)) l_sub (q_ix (ix_all (hu_of hr)) l_sub (q_var 0) (q_int)) (q_ix (ix_all (hu_of hr)) l_sub (q_var 0) (q_int))) (qa_nil))) (qa_nil))) (qg_sub (hu_of hr) (q_var 0) (q_int))) (qss_cons (qs_asg (q_op op_plus l_plus (q_ix (ix_all (hu_of hr)) l_sub (q_var 0) (q_int)) (q_int)) (qg_sub (hu_of hr) (q_var 0) (q_int))) (qss_one (qs_if (qt_chain op_lt l_I0 op_lt l_I0 (q_int) (q_ix (ix_all (hu_of hr)) l_sub (q_var 0) (q_int)) (q_var 1)) (qss_cons (qs_set (i := 2) nd rfl (by first | exact Or.inl rfl | exact Or.inr rfl) (q_ix (ix_all (hu_of hr)) l_sub (q_var 0) (q_int))) (qss_cons (qs_asg (q_int) (qg_sub (hu_of hr) (q_var 0) (q_int))) (qss_one (qs_ret (q_var 2))))) (qss_nil))))) (qss_nil)) (qss_cons (qs_if (qt_cmp op_gt l_I0 (q_ix (ix_all (hu_of hr)) l_sub (q_var 0) (q_int)) (q_int) (nomark _)) (qss_cons (qs_set (i := 3) nd rfl (by first | exact Or.inl rfl | exact Or.inr rfl) (q_op op_mod l_I (q_callTy call_int1 l_int (by rfl) T.n_int (by decide +kernel) (qa_cons (q_ix (ix_all (hu_of hr)) l_sub (q_var 0) (q_int)) (qa_nil))) (q_var 1))) (qss_cons (qs_asg (q_op op_fdiv l_I (q_callTy call_int1 l_int (by rfl) T.n_int (by decide +kernel) (qa_cons (q_ix (ix_all (hu_of hr)) l_sub (q_var 0) (q_int)) (qa_nil))) (q_var 1)) (qg_sub (hu_of hr) (q_var 0) (q_int))) (qss_one (qs_ret (q_var 3))))) (qss_nil)) (qss_cons (qs_asg (q_op op_mod l_I (q_callTy call_int1 l_int (by rfl) T.n_int (by decide +kernel) (qa_cons (q_op op_plus l_plus (q_op op_mul l_I (q_ix (ix_all (hu_of hr)) l_sub (q_var 0) (q_int)) (q_int)) (q_int)) (qa_nil))) (q_int)) (qg_sub (hu_of hr) (q_var 0) (q_int))) (qss_one (qs_ret (q_op op_mod l_I (q_callTy call_int1 l_int (by rfl) T.n_int (by decide +kernel) (qa_cons (q_op op_fdiv l_I (q_ix (ix_all (hu_of hr)) l_sub (q_var 0) (q_int)) (q_int)) (qa_nil))) (q_var 1))))))
abbrev st__law_pick : Stmt := topS 40
abbrev N__law_pick : List Str := ["d", "menu"]
theorem sc__law_pick : FnScope N__law_pick ["d", "menu"] (defScope st__law_pick) := ⟨rfl, rfl, rfl, by decide +kernel, rfl, by decide +kernel, by decide +kernel⟩
theorem t__law_pick (T : Txt K mg) {k : Nat} {cdv : Value} {A : Around} {outer : List PySem.Env} {s0 : Shared} {H : Hp} {E : XK} {f : Addr} (hr : Room k (A.deeper (envOfC "_law_pick" (defScope st__law_pick) s0.heap.objs.size f cdv)))  {j__law_take : Nat} {s__law_take : DSp} (c__law_take : Cal P w K mg base CX0 j__law_take "_law_take" ["d", "many"] s__law_take) (h__law_take : j__law_take ≤ k) :
    PSs (cxOf CX0 P w K mg base N__law_pick "_law_pick" (defScope st__law_pick) f cdv A outer s0 H E).nox (defBody st__law_pick) (upS K B0 (r__law_pick s__law_take)) := by
  have nd := sc__law_pick.nd
  exact qss_one (qs_ret (q_ix (ix_all (hu_of hr)) l_sub (q_var 1) (q_c c__law_take hr h__law_take rfl (qa_cons (q_var 0) (qa_cons (q_callB call_lenA l_len (by rfl) T.n_len PySem.boot_len (qa_cons (q_var 1) (qa_nil))) (qa_nil))))))
abbrev st_is_whole : Stmt := topS 10
abbrev N_is_whole : List Str := ["value"]
theorem sc_is_whole : FnScope N_is_whole ["value"] (defScope st_is_whole) := ⟨rfl, rfl, rfl, by decide +kernel, rfl, by decide +kernel, by decide +kernel⟩
theorem t_is_whole (T : Txt K mg) {k : Nat} {cdv : Value} {A : Around} {outer : List PySem.Env} {s0 : Shared} {H : Hp} {E : XK} {f : Addr} (hr : Room k (A.deeper (envOfC "is_whole" (defScope st_is_whole) s0.heap.objs.size f cdv)))  :
    PSs (cxOf CX0 P w K mg base N_is_whole "is_whole" (defScope st_is_whole) f cdv A outer s0 H E).nox (defBody st_is_whole) (upS K B0 (r_is_whole )) := by
  have nd := sc_is_whole.nd
  exact qss_one (qs_ret (q_and (q_callB call_isi l_isi (by rfl) T.n_isinstance (by decide +kernel) (qa_cons (q_var 0) (qa_cons (q_bltn (v := .ty "int") (by rfl) T.n_int (by decide +kernel) rfl) (qa_nil)))) (q_one (q_not (q_callB call_isi l_isi (by rfl) T.n_isinstance (by decide +kernel) (qa_cons (q_var 0) (qa_cons (q_bltn (v := .ty "bool") (by rfl) T.n_bool (by decide +kernel) rfl) (qa_nil))))))))
abbrev st_is_number : Stmt := topS 11
abbrev N_is_number : List Str := ["value"]
theorem sc_is_number : FnScope N_is_number ["value"] (defScope st_is_number) := ⟨rfl, rfl, rfl, by decide +kernel, rfl, by decide +kernel, by decide +kernel⟩
theorem t_is_number (T : Txt K mg) {k : Nat} {cdv : Value} {A : Around} {outer : List PySem.Env} {s0 : Shared} {H : Hp} {E : XK} {f : Addr} (hr : Room k (A.deeper (envOfC "is_number" (defScope st_is_number) s0.heap.objs.size f cdv)))  {j_is_whole : Nat} {s_is_whole : DSp} (c_is_whole : Cal P w K mg base CX0 j_is_whole "is_whole" ["value"] s_is_whole) (h_is_whole : j_is_whole ≤ k) :
    PSs (cxOf CX0 P w K mg base N_is_number "is_number" (defScope st_is_number) f cdv A outer s0 H E).nox (defBody st_is_number) (upS K B0 (r_is_number s_is_whole)) := by
  have nd := sc_is_number.nd
  exact qss_one (qs_ret (q_and (q_c c_is_whole hr h_is_whole rfl (qa_cons (q_var 0) (qa_nil))) (q_one (q_chain op_lt l_I0 op_lt l_I0 (q_neg (q_op op_pow l_I (q_int) (q_int))) (q_var 0) (q_op op_pow l_I (q_int) (q_int))))))
abbrev st_is_made : Stmt := topS 12
abbrev N_is_made : List Str := ["word", "sign"]
theorem sc_is_made : FnScope N_is_made ["word"] (defScope st_is_made) := ⟨rfl, rfl, rfl, by decide +kernel, rfl, by decide +kernel, by decide +kernel⟩
theorem t_is_made (T : Txt K mg) {k : Nat} {cdv : Value} {A : Around} {outer : List PySem.Env} {s0 : Shared} {H : Hp} {E : XK} {f : Addr} (hr : Room k (A.deeper (envOfC "is_made" (defScope st_is_made) s0.heap.objs.size f cdv))) (tg_DIGITS : ∃ u v, mg "DIGITS" = some u ∧ RelV v u ∧ ∀ F, Rep K F v g_DIGITS)  :
    PSs (cxOf CX0 P w K mg base N_is_made "is_made" (defScope st_is_made) f cdv A outer s0 H E).nox (defBody st_is_made) (upS K B0 (r_is_made )) := by
  have nd := sc_is_made.nd
  exact qss_one (qs_ret (q_and (q_chain op_le l_I0 op_le l_I0 (q_int) (q_callB call_lenA l_len (by rfl) T.n_len PySem.boot_len (qa_cons (q_var 0) (qa_nil))) (q_int)) (q_and (q_cmp (op_eqA hr.units) l_eq (q_ix (ix_all (hu_of hr)) l_sub (q_var 0) (q_int)) (q_str) (nomark _)) (q_one (q_callB (cr_all rfl) l_all (by rfl) T.n_all (by decide +kernel) (qa_cons (q_frz (q_lc (own := [("sign", 1)]) rfl nd (qi_it (q_slice (q_var 0) (qo_some (q_int)) (qo_none))) (blkOk_by (own := [("sign", 1)]) (N := N_is_made) (sc := defScope st_is_made) (by decide +kernel)) (fun _ _ _ _ _ => pg_name (i := 1) nd rfl (Or.inl rfl)) (lg_name (by decide)) (fun _ _ _ _ _ => qts_nil) (fun _ _ _ _ _ => q_cmp (op_inA (hu_of hr)) l_in (q_var 1) (q_gl rfl tg_DIGITS.choose_spec.choose_spec.1 tg_DIGITS.choose_spec.choose_spec.2.1 tg_DIGITS.choose_spec.choose_spec.2.2) (by rfl)))) (qa_nil)))))))
abbrev st_is_plain_name : Stmt := topS 13
abbrev N_is_plain_name : List Str := ["word", "sign"]
theorem sc_is_plain_name : FnScope N_is_plain_name ["word"] (defScope st_is_plain_name) := ⟨rfl, rfl, rfl, by decide +kernel, rfl, by decide +kernel, by decide +kernel⟩
theorem t_is_plain_name (T : Txt K mg) {k : Nat} {cdv : Value} {A : Around} {outer : List PySem.Env} {s0 : Shared} {H : Hp} {E : XK} {f : Addr} (hr : Room k (A.deeper (envOfC "is_plain_name" (defScope st_is_plain_name) s0.heap.objs.size f cdv))) (tg_WORDS : ∃ u v, mg "WORDS" = some u ∧ RelV v u ∧ ∀ F, Rep K F v g_WORDS) (tg_LETTERS : ∃ u v, mg "LETTERS" = some u ∧ RelV v u ∧ ∀ F, Rep K F v g_LETTERS) (tg_DIGITS : ∃ u v, mg "DIGITS" = some u ∧ RelV v u ∧ ∀ F, Rep K F v g_DIGITS)  :
    PSs (cxOf CX0 P w K mg base N_is_plain_name "is_plain_name" (defScope st_is_plain_name) f cdv A outer s0 H E).nox (defBody st_is_plain_name) (upS K B0 (r_is_plain_name )) := by
  have nd := sc_is_plain_name.nd
  exact qss_cons (qs_if (PW.pt (qw_or (qt_not (qt_truth (q_callB call_isi l_isi (by rfl) T.n_isinstance (by decide +kernel) (qa_cons (q_var 0) (qa_cons (q_bltn (v := .ty "str") (by rfl) T.n_str (by decide +kernel) rfl) (qa_nil)))))) (qw_or (qt_not (qt_chain op_le l_I0 op_le l_I0 (q_int) (q_callB call_lenA l_len (by rfl) T.n_len PySem.boot_len (qa_cons (q_var 0) (qa_nil))) (q_int))) (qw_or (qt_cmp (op_inA (hu_of hr)) l_in (q_var 0) (q_gl rfl tg_WORDS.choose_spec.choose_spec.1 tg_WORDS.choose_spec.choose_spec.2.1 tg_WORDS.choose_spec.choose_spec.2.2) (by rfl)) (qw_or1 (qt_cmp (op_notInA (hu_of hr)) l_notIn (q_ix (ix_all (hu_of hr)) l_sub (q_var 0) (q_int)) (q_gl rfl tg_LETTERS.choose_spec.choose_spec.1 tg_LETTERS.choose_spec.choose_spec.2.1 tg_LETTERS.choose_spec.choose_spec.2.2) (by rfl))))))) (qss_one (qs_ret (q_bl))) (qss_nil)) (qss_one (qs_ret (q_callB (cr_all rfl) l_all (by rfl) T.n_all (by decide +kernel) (qa_cons (q_frz (q_lc (own := [("sign", 1)]) rfl nd (qi_it (q_var 0)) (blkOk_by (own := [("sign", 1)]) (N := N_is_plain_name) (sc := defScope st_is_plain_name) (by decide +kernel)) (fun _ _ _ _ _ => pg_name (i := 1) nd rfl (Or.inl rfl)) (lg_name (by decide)) (fun _ _ _ _ _ => qts_nil) (fun _ _ _ _ _ => q_or (q_cmp (op_inA (hu_of hr)) l_in (q_var 1) (q_gl rfl tg_LETTERS.choose_spec.choose_spec.1 tg_LETTERS.choose_spec.choose_spec.2.1 tg_LETTERS.choose_spec.choose_spec.2.2) (by rfl)) (q_or (q_cmp (op_inA (hu_of hr)) l_in (q_var 1) (q_gl rfl tg_DIGITS.choose_spec.choose_spec.1 tg_DIGITS.choose_spec.choose_spec.2.1 tg_DIGITS.choose_spec.choose_spec.2.2) (by rfl)) (q_one (q_cmp (op_eqA hr.units) l_eq (q_var 1) (q_str) (nomark _))))))) (qa_nil)))))
abbrev st_is_name : Stmt := topS 14
abbrev N_is_name : List Str := ["word"]
theorem sc_is_name : FnScope N_is_name ["word"] (defScope st_is_name) := ⟨rfl, rfl, rfl, by decide +kernel, rfl, by decide +kernel, by decide +kernel⟩
theorem t_is_name (T : Txt K mg) {k : Nat} {cdv : Value} {A : Around} {outer : List PySem.Env} {s0 : Shared} {H : Hp} {E : XK} {f : Addr} (hr : Room k (A.deeper (envOfC "is_name" (defScope st_is_name) s0.heap.objs.size f cdv)))  {j_is_made : Nat} {s_is_made : DSp} (c_is_made : Cal P w K mg base CX0 j_is_made "is_made" ["word"] s_is_made) (h_is_made : j_is_made ≤ k) {j_is_plain_name : Nat} {s_is_plain_name : DSp} (c_is_plain_name : Cal P w K mg base CX0 j_is_plain_name "is_plain_name" ["word"] s_is_plain_name) (h_is_plain_name : j_is_plain_name ≤ k) :
    PSs (cxOf CX0 P w K mg base N_is_name "is_name" (defScope st_is_name) f cdv A outer s0 H E).nox (defBody st_is_name) (upS K B0 (r_is_name s_is_made s_is_plain_name)) := by
  have nd := sc_is_name.nd
  exact qss_one (qs_ret (q_and (q_callB call_isi l_isi (by rfl) T.n_isinstance (by decide +kernel) (qa_cons (q_var 0) (qa_cons (q_bltn (v := .ty "str") (by rfl) T.n_str (by decide +kernel) rfl) (qa_nil)))) (q_one (q_or (q_c c_is_made hr h_is_made rfl (qa_cons (q_var 0) (qa_nil))) (q_one (q_c c_is_plain_name hr h_is_plain_name rfl (qa_cons (q_var 0) (qa_nil))))))))
abbrev st_is_term : Stmt := topS 15
abbrev N_is_term : List Str := ["value"]
theorem sc_is_term : FnScope N_is_term ["value"] (defScope st_is_term) := ⟨rfl, rfl, rfl, by decide +kernel, rfl, by decide +kernel, by decide +kernel⟩
theorem t_is_term (T : Txt K mg) {k : Nat} {cdv : Value} {A : Around} {outer : List PySem.Env} {s0 : Shared} {H : Hp} {E : XK} {f : Addr} (hr : Room k (A.deeper (envOfC "is_term" (defScope st_is_term) s0.heap.objs.size f cdv)))  {j_is_number : Nat} {s_is_number : DSp} (c_is_number : Cal P w K mg base CX0 j_is_number "is_number" ["value"] s_is_number) (h_is_number : j_is_number ≤ k) {j_is_name : Nat} {s_is_name : DSp} (c_is_name : Cal P w K mg base CX0 j_is_name "is_name" ["word"] s_is_name) (h_is_name : j_is_name ≤ k) :
    PSs (cxOf CX0 P w K mg base N_is_term "is_term" (defScope st_is_term) f cdv A outer s0 H E).nox (defBody st_is_term) (upS K B0 (r_is_term s_is_number s_is_name)) := by
  have nd := sc_is_term.nd
  exact qss_one (qs_ret (q_or (q_c c_is_number hr h_is_number rfl (qa_cons (q_var 0) (qa_nil))) (q_one (q_c c_is_name hr h_is_name rfl (qa_cons (q_var 0) (qa_nil))))))
abbrev st_is_fact : Stmt := topS 16
abbrev N_is_fact : List Str := ["fact"]
theorem sc_is_fact : FnScope N_is_fact ["fact"] (defScope st_is_fact) := ⟨rfl, rfl, rfl, by decide +kernel, rfl, by decide +kernel, by decide +kernel⟩
theorem t_is_fact (T : Txt K mg) {k : Nat} {cdv : Value} {A : Around} {outer : List PySem.Env} {s0 : Shared} {H : Hp} {E : XK} {f : Addr} (hr : Room k (A.deeper (envOfC "is_fact" (defScope st_is_fact) s0.heap.objs.size f cdv)))  {j_is_term : Nat} {s_is_term : DSp} (c_is_term : Cal P w K mg base CX0 j_is_term "is_term" ["value"] s_is_term) (h_is_term : j_is_term ≤ k) :
    PSs (cxOf CX0 P w K mg base N_is_fact "is_fact" (defScope st_is_fact) f cdv A outer s0 H E).nox (defBody st_is_fact) (upS K B0 (r_is_fact s_is_term)) := by
  have nd := sc_is_fact.nd
  exact qss_cons (qs_if (PW.pt (qw_or (qt_not (qt_truth (q_callB call_isi l_isi (by rfl) T.n_isinstance (by decide +kernel) (qa_cons (q_var 0) (qa_cons (q_bltn (v := .ty "tuple") (by rfl) T.n_tuple (by decide +kernel) rfl) (qa_nil)))))) (qw_or (qt_cmp (op_neA hr.units) l_ne (q_callB call_lenA l_len (by rfl) T.n_len PySem.boot_len (qa_cons (q_var 0) (qa_nil))) (q_int) (nomark _)) (qw_or1 (qt_cmp (op_notInA (hu_of hr)) l_notIn (q_ix (ix_all (hu_of hr)) l_sub (q_var 0) (q_int)) (q_tup (qa_cons (q_str) (qa_cons (q_str) (qa_nil)))) (by rfl)))))) (qss_one (qs_ret (q_bl))) (qss_nil)) (qss_one (qs_ret (q_and (q_c c_is_term hr h_is_term rfl (qa_cons (q_ix (ix_all (hu_of hr)) l_sub (q_var 0) (q_int)) (qa_nil))) (q_one (q_c c_is_term hr h_is_term rfl (qa_cons (q_ix (ix_all (hu_of hr)) l_sub (q_var 0) (q_int)) (qa_nil)))))))
abbrev st_is_item : Stmt := topS 17
abbrev N_is_item : List Str := ["item", "term"]
theorem sc_is_item : FnScope N_is_item ["item"] (defScope st_is_item) := ⟨rfl, rfl, rfl, by decide +kernel, rfl, by decide +kernel, by decide +kernel⟩
theorem t_is_item (T : Txt K mg) {k : Nat} {cdv : Value} {A : Around} {outer : List PySem.Env} {s0 : Shared} {H : Hp} {E : XK} {f : Addr} (hr : Room k (A.deeper (envOfC "is_item" (defScope st_is_item) s0.heap.objs.size f cdv))) (tg_WHOLE : ∃ u v, mg "WHOLE" = some u ∧ RelV v u ∧ ∀ F, Rep K F v g_WHOLE)  {j_is_whole : Nat} {s_is_whole : DSp} (c_is_whole : Cal P w K mg base CX0 j_is_whole "is_whole" ["value"] s_is_whole) (h_is_whole : j_is_whole ≤ k) {j_is_term : Nat} {s_is_term : DSp} (c_is_term : Cal P w K mg base CX0 j_is_term "is_term" ["value"] s_is_term) (h_is_term : j_is_term ≤ k) :
    PSs (cxOf CX0 P w K mg base N_is_item "is_item" (defScope st_is_item) f cdv A outer s0 H E).nox (defBody st_is_item) (upS K B0 (r_is_item s_is_whole s_is_term)) := by
  have nd := sc_is_item.nd
  exact qss_cons (qs_if (PW.pt (qw_or (qt_not (qt_truth (q_callB call_isi l_isi (by rfl) T.n_isinstance (by decide +kernel) (qa_cons (q_var 0) (qa_cons (q_bltn (v := .ty "tuple") (by rfl) T.n_tuple (by decide +kernel) rfl) (qa_nil)))))) (qw_or (qt_not (qt_truth (q_var 0))) (qw_or1 (qt_not (qt_truth (q_callB call_isi l_isi (by rfl) T.n_isinstance (by decide +kernel) (qa_cons (q_ix (ix_all (hu_of hr)) l_sub (q_var 0) (q_int)) (qa_cons (q_bltn (v := .ty "str") (by rfl) T.n_str (by decide +kernel) rfl) (qa_nil)))))))))) (qss_one (qs_ret (q_bl))) (qss_nil)) (qss_cons (qs_if (qt_cmp (op_eqA hr.units) l_eq (q_ix (ix_all (hu_of hr)) l_sub (q_var 0) (q_int)) (q_str) (nomark _)) (qss_cons (qs_if (PW.pt (qw_or (qt_cmp (op_neA hr.units) l_ne (q_callB call_lenA l_len (by rfl) T.n_len PySem.boot_len (qa_cons (q_var 0) (qa_nil))) (q_int) (nomark _)) (qw_or (qt_not (qt_truth (q_c c_is_whole hr h_is_whole rfl (qa_cons (q_ix (ix_all (hu_of hr)) l_sub (q_var 0) (q_int)) (qa_nil))))) (qw_or1 (qt_not (qt_chain op_le l_I0 op_le l_I0 (q_int) (q_ix (ix_all (hu_of hr)) l_sub (q_var 0) (q_int)) (q_gl rfl tg_WHOLE.choose_spec.choose_spec.1 tg_WHOLE.choose_spec.choose_spec.2.1 tg_WHOLE.choose_spec.choose_spec.2.2))))))) (qss_one (qs_ret (q_bl))) (qss_nil)) (qss_one (qs_ret (q_callB (cr_all rfl) l_all (by rfl) T.n_all (by decide +kernel) (qa_cons (q_frz (q_lc (own := [("term", 1)]) rfl nd (qi_it (q_slice (q_var 0) (qo_some (q_int)) (qo_none))) (blkOk_by (own := [("term", 1)]) (N := N_is_item) (sc := defScope st_is_item) (by decide +kernel)) (fun _ _ _ _ _ => pg_name (i := 1) nd rfl (Or.inl rfl)) (lg_name (by decide)) (fun _ _ _ _ _ => qts_nil) (fun _ _ _ _ _ => q_c c_is_term hr h_is_term rfl (qa_cons (q_var 1) (qa_nil))))) (qa_nil)))))) (qss_nil)) (qss_cons (qs_if (qt_cmp (op_eqA hr.units) l_eq (q_ix (ix_all (hu_of hr)) l_sub (q_var 0) (q_int)) (q_str) (nomark _)) (qss_one (qs_ret (q_and (q_cmp (op_eqA hr.units) l_eq (q_callB call_lenA l_len (by rfl) T.n_len PySem.boot_len (qa_cons (q_var 0) (qa_nil))) (q_int) (nomark _)) (q_and (q_c c_is_term hr h_is_term rfl (qa_cons (q_ix (ix_all (hu_of hr)) l_sub (q_var 0) (q_int)) (qa_nil))) (q_one (q_c c_is_term hr h_is_term rfl (qa_cons (q_ix (ix_all (hu_of hr)) l_sub (q_var 0) (q_int)) (qa_nil)))))))) (qss_nil)) (qss_one (qs_ret (q_and (q_cmp (op_eqA hr.units) l_eq (q_ix (ix_all (hu_of hr)) l_sub (q_var 0) (q_int)) (q_str) (nomark _)) (q_and (q_cmp (op_eqA hr.units) l_eq (q_callB call_lenA l_len (by rfl) T.n_len PySem.boot_len (qa_cons (q_var 0) (qa_nil))) (q_int) (nomark _)) (q_one (q_c c_is_term hr h_is_term rfl (qa_cons (q_ix (ix_all (hu_of hr)) l_sub (q_var 0) (q_int)) (qa_nil))))))))))
abbrev st_led_to : Stmt := topS 18
abbrev N_led_to : List Str := ["shape", "unknown", "_", "items", "found", "item", "term"]
theorem sc_led_to : FnScope N_led_to ["shape"] (defScope st_led_to) := ⟨rfl, rfl, rfl, by decide +kernel, rfl, by decide +kernel, by decide +kernel⟩
theorem t_led_to (T : Txt K mg) {k : Nat} {cdv : Value} {A : Around} {outer : List PySem.Env} {s0 : Shared} {H : Hp} {E : XK} {f : Addr} (hr : Room k (A.deeper (envOfC "led_to" (defScope st_led_to) s0.heap.objs.size f cdv)))  :
    PSs (cxOf CX0 P w K mg base N_led_to "led_to" (defScope st_led_to) f cdv A outer s0 H E).nox (defBody st_led_to) (upS K B0 (r_led_to )) := by
  have nd := sc_led_to.nd
  exact qss_cons (qs_asg (q_var 0) (qg_tup rfl (qgs_cons (qg_name (i := 1) nd rfl (by first | exact Or.inl rfl | exact Or.inr rfl)) (qgs_cons (qg_name (i := 2) nd rfl (by first | exact Or.inl rfl | exact Or.inr rfl)) (qgs_cons (qg_name (i := 3) nd rfl (by first | exact Or.inl rfl | exact Or.inr rfl)) (qgs_nil)))))) (qss_cons (qs_set (i := 4) nd rfl (by first | exact Or.inl rfl | exact Or.inr rfl) (q_dict)) (qss_cons (qs_for PassesOwn.never rfl (qi_it (q_var 3)) (qg_name (i := 2) nd rfl (by first | exact Or.inl rfl | exact Or.inr rfl)) (qss_one (qs_for PassesOwn.never rfl (qi_it (q_var 3)) (qg_name (i := 5) nd rfl (by first | exact Or.inl rfl | exact Or.inr rfl)) (qss_one (qs_if (PW.pt (qw_and (qt_cmp (op_eqA hr.units) l_eq (q_ix (ix_all (hu_of hr)) l_sub (q_var 5) (q_int)) (q_str) (nomark _)) (qw_and1 (PW.pt (qw_or (qt_cmp (op_notInA (hu_of hr)) l_notIn (q_ix (ix_all (hu_of hr)) l_sub (q_var 5) (q_int)) (q_var 1) (by rfl)) (qw_or1 (qt_cmp (op_inA (hu_of hr)) l_in (q_ix (ix_all (hu_of hr)) l_sub (q_var 5) (q_int)) (q_var 4) (by rfl)))))))) (qss_one (qs_for PassesOwn.never rfl (qi_it (q_slice (q_var 5) (qo_some (q_int)) (qo_none))) (qg_name (i := 6) nd rfl (by first | exact Or.inl rfl | exact Or.inr rfl)) (qss_one (qs_if (qt_cmp (op_inA (hu_of hr)) l_in (q_var 6) (q_var 1) (by rfl)) (qss_one (qs_asg (q_bl) (qg_sub (hu_of hr) (q_var 4) (q_var 6)))) (qss_nil))))) (qss_nil)))))) (qss_one (qs_ret (q_var 4)))))
abbrev st_check_shape : Stmt := topS 19
abbrev N_check_shape : List Str := ["shape", "unknown", "pure", "items", "found", "part", "name", "fact", "item"]
theorem sc_check_shape : FnScope N_check_shape ["shape"] (defScope st_check_shape) := ⟨rfl, rfl, rfl, by decide +kernel, rfl, by decide +kernel, by decide +kernel⟩
theorem t_check_shape (T : Txt K mg) {k : Nat} {cdv : Value} {A : Around} {outer : List PySem.Env} {s0 : Shared} {H : Hp} {E : XK} {f : Addr} (hr : Room k (A.deeper (envOfC "check_shape" (defScope st_check_shape) s0.heap.objs.size f cdv)))  {C_InputError : Addr} {j_InputError : Nat} (x_InputError : Xcal P w K mg base j_InputError "InputError" C_InputError ["code"]) (h_InputError : j_InputError + 1 ≤ k) {j_is_name : Nat} {s_is_name : DSp} (c_is_name : Cal P w K mg base CX0 j_is_name "is_name" ["word"] s_is_name) (h_is_name : j_is_name ≤ k) {j_is_fact : Nat} {s_is_fact : DSp} (c_is_fact : Cal P w K mg base CX0 j_is_fact "is_fact" ["fact"] s_is_fact) (h_is_fact : j_is_fact ≤ k) {j_is_item : Nat} {s_is_item : DSp} (c_is_item : Cal P w K mg base CX0 j_is_item "is_item" ["item"] s_is_item) (h_is_item : j_is_item ≤ k) {j_led_to : Nat} {s_led_to : DSp} (c_led_to : Cal P w K mg base CX0 j_led_to "led_to" ["shape"] s_led_to) (h_led_to : j_led_to ≤ k) {B : Hp} {W : DW} (tk : Takes (cxOf (L2.CX P w) P w K mg base N_check_shape "check_shape" (defScope st_check_shape) f cdv A outer s0 H E) (upX K B W)) :
    PSs (cxOf (L2.CX P w) P w K mg base N_check_shape "check_shape" (defScope st_check_shape) f cdv A outer s0 H E) (defBody st_check_shape) (upS K B (r_check_shape W C_InputError s_is_name s_is_fact s_is_item s_led_to)) := by
  have nd := sc_check_shape.nd
  exact qss_cons (qs_if (PW.pt (qw_or (qt_not (qt_truth (q_callB call_isi l_isi (by rfl) T.n_isinstance (by decide +kernel) (qa_cons (q_var 0) (qa_cons (q_bltn (v := .ty "tuple") (by rfl) T.n_tuple (by decide +kernel) rfl) (qa_nil)))))) (qw_or (qt_cmp (op_neA hr.units) l_ne (q_callB call_lenA l_len (by rfl) T.n_len PySem.boot_len (qa_cons (q_var 0) (qa_nil))) (q_int) (nomark _)) (qw_or1 (qt_not (qt_truth (q_callB (cr_all rfl) l_all (by rfl) T.n_all (by decide +kernel) (qa_cons (q_frz (q_lc (own := [("part", 5)]) rfl nd (qi_it (q_var 0)) (blkOk_by (own := [("part", 5)]) (N := N_check_shape) (sc := defScope st_check_shape) (by decide +kernel)) (fun _ _ _ _ _ => pg_name (i := 5) nd rfl (Or.inl rfl)) (lg_name (by decide)) (fun _ _ _ _ _ => qts_nil) (fun _ _ _ _ _ => q_callB call_isi l_isi (by rfl) T.n_isinstance (by decide +kernel) (qa_cons (q_var 5) (qa_cons (q_bltn (v := .ty "tuple") (by rfl) T.n_tuple (by decide +kernel) rfl) (qa_nil)))))) (qa_nil))))))))) (qss_one (qs_raise rfl x_InputError hr h_InputError rfl tk (by decide) (qa_cons (q_str) (qa_nil)))) (qss_nil)) (qss_cons (qs_asg (q_var 0) (qg_tup rfl (qgs_cons (qg_name (i := 1) nd rfl (by first | exact Or.inl rfl | exact Or.inr rfl)) (qgs_cons (qg_name (i := 2) nd rfl (by first | exact Or.inl rfl | exact Or.inr rfl)) (qgs_cons (qg_name (i := 3) nd rfl (by first | exact Or.inl rfl | exact Or.inr rfl)) (qgs_nil)))))) (qss_cons (qs_if (qt_not (qt_truth (q_callB (cr_all rfl) l_all (by rfl) T.n_all (by decide +kernel) (qa_cons (q_frz (q_lc (own := [("name", 6)]) rfl nd (qi_it (q_var 1)) (blkOk_by (own := [("name", 6)]) (N := N_check_shape) (sc := defScope st_check_shape) (by decide +kernel)) (fun _ _ _ _ _ => pg_name (i := 6) nd rfl (Or.inl rfl)) (lg_name (by decide)) (fun _ _ _ _ _ => qts_nil) (fun _ _ _ _ _ => q_c c_is_name hr h_is_name rfl (qa_cons (q_var 6) (qa_nil))))) (qa_nil))))) (qss_one (qs_raise rfl x_InputError hr h_InputError rfl tk (by decide) (qa_cons (q_str) (qa_nil)))) (qss_nil)) (qss_cons (qs_if (qt_cmp op_lt l_I0 (q_callB call_lenA l_len (by rfl) T.n_len PySem.boot_len (qa_cons (q_dc (own := [("name", 6)]) rfl nd (qi_it (q_var 1)) (blkOk_by (own := [("name", 6)]) (N := N_check_shape) (sc := defScope st_check_shape) (by decide +kernel)) (fun _ _ _ _ _ => pg_name (i := 6) nd rfl (Or.inl rfl)) (lg_name (by decide)) (fun _ _ _ _ _ => qts_nil) (fun _ _ _ _ _ => q_var 6) (fun _ _ _ _ _ => q_bl)) (qa_nil))) (q_callB call_lenA l_len (by rfl) T.n_len PySem.boot_len (qa_cons (q_var 1) (qa_nil))) (nomark _)) (qss_one (qs_raise rfl x_InputError hr h_InputError rfl tk (by decide) (qa_cons (q_str) (qa_nil)))) (qss_nil)) (qss_cons (qs_if (qt_not (qt_truth (q_callB (cr_all rfl) l_all (by rfl) T.n_all (by decide +kernel) (qa_cons (q_frz (q_lc (own := [("fact", 7)]) rfl nd (qi_it (q_var 2)) (blkOk_by (own := [("fact", 7)]) (N := N_check_shape) (sc := defScope st_check_shape) (by decide +kernel)) (fun _ _ _ _ _ => pg_name (i := 7) nd rfl (Or.inl rfl)) (lg_name (by decide)) (fun _ _ _ _ _ => qts_nil) (fun _ _ _ _ _ => q_c c_is_fact hr h_is_fact rfl (qa_cons (q_var 7) (qa_nil))))) (qa_nil))))) (qss_one (qs_raise rfl x_InputError hr h_InputError rfl tk (by decide) (qa_cons (q_str) (qa_nil)))) (qss_nil)) (qss_cons (qs_if (qt_not (qt_truth (q_callB (cr_all rfl) l_all (by rfl) T.n_all (by decide +kernel) (qa_cons (q_frz (q_lc (own := [("item", 8)]) rfl nd (qi_it (q_var 3)) (blkOk_by (own := [("item", 8)]) (N := N_check_shape) (sc := defScope st_check_shape) (by decide +kernel)) (fun _ _ _ _ _ => pg_name (i := 8) nd rfl (Or.inl rfl)) (lg_name (by decide)) (fun _ _ _ _ _ => qts_nil) (fun _ _ _ _ _ => q_c c_is_item hr h_is_item rfl (qa_cons (q_var 8) (qa_nil))))) (qa_nil))))) (qss_one (qs_raise rfl x_InputError hr h_InputError rfl tk (by decide) (qa_cons (q_str) (qa_nil)))) (qss_nil)) (qss_cons (qs_set (i := 4) nd rfl (by first | exact Or.inl rfl | exact Or.inr rfl) (q_c c_led_to hr h_led_to rfl (qa_cons (q_var 0) (qa_nil)))) (qss_one (qs_if (qt_not (qt_truth (q_callB (cr_all rfl) l_all (by rfl) T.n_all (by decide +kernel) (qa_cons (q_frz (q_lc (own := [("name", 6)]) rfl nd (qi_it (q_var 1)) (blkOk_by (own := [("name", 6)]) (N := N_check_shape) (sc := defScope st_check_shape) (by decide +kernel)) (fun _ _ _ _ _ => pg_name (i := 6) nd rfl (Or.inl rfl)) (lg_name (by decide)) (fun _ _ _ _ _ => qts_nil) (fun _ _ _ _ _ => q_cmp (op_inA (hu_of hr)) l_in (q_var 6) (q_var 4) (by rfl)))) (qa_nil))))) (qss_one (qs_raise rfl x_InputError hr h_InputError rfl tk (by decide) (qa_cons (q_str) (qa_nil)))) (qss_nil)))))))))
abbrev st_check_assertion : Stmt := topS 20
abbrev N_check_assertion : List Str := ["assertion", "shape"]
theorem sc_check_assertion : FnScope N_check_assertion ["assertion"] (defScope st_check_assertion) := ⟨rfl, rfl, rfl, by decide +kernel, rfl, by decide +kernel, by decide +kernel⟩
theorem t_check_assertion (T : Txt K mg) {k : Nat} {cdv : Value} {A : Around} {outer : List PySem.Env} {s0 : Shared} {H : Hp} {E : XK} {f : Addr} (hr : Room k (A.deeper (envOfC "check_assertion" (defScope st_check_assertion) s0.heap.objs.size f cdv)))  {C_InputError : Addr} {j_InputError : Nat} (x_InputError : Xcal P w K mg base j_InputError "InputError" C_InputError ["code"]) (h_InputError : j_InputError + 1 ≤ k) {j_check_shape : Nat} {s_check_shape : DSp} (c_check_shape : Cal P w K mg base (L2.CX P w) j_check_shape "check_shape" ["shape"] s_check_shape) (h_check_shape : j_check_shape ≤ k) {B : Hp} {W : DW} (tk : Takes (cxOf (L2.CX P w) P w K mg base N_check_assertion "check_assertion" (defScope st_check_assertion) f cdv A outer s0 H E) (upX K B W)) :
    PSs (cxOf (L2.CX P w) P w K mg base N_check_assertion "check_assertion" (defScope st_check_assertion) f cdv A outer s0 H E) (defBody st_check_assertion) (upS K B (r_check_assertion W C_InputError s_check_shape)) := by
  have nd := sc_check_assertion.nd
  exact qss_cons (qs_if (PW.pt (qw_or (qt_not (qt_truth (q_callB call_isi l_isi (by rfl) T.n_isinstance (by decide +kernel) (qa_cons (q_var 0) (qa_cons (q_bltn (v := .ty "tuple") (by rfl) T.n_tuple (by decide +kernel) rfl) (qa_nil)))))) (qw_or1 (qt_not (qt_chain op_le l_I0 op_le l_I0 (q_int) (q_callB call_lenA l_len (by rfl) T.n_len PySem.boot_len (qa_cons (q_var 0) (qa_nil))) (q_int)))))) (qss_one (qs_raise rfl x_InputError hr h_InputError rfl tk (by decide) (qa_cons (q_str) (qa_nil)))) (qss_nil)) (qss_one (qs_for (by exact PassesOwn.leaving) rfl (qi_it (q_var 0)) (qg_name (i := 1) nd rfl (by first | exact Or.inl rfl | exact Or.inr rfl)) (qss_one (qs_expr (q_cX c_check_shape hr h_check_shape rfl tk (qa_cons (q_var 1) (qa_nil)))))))
abbrev st_part_end : Stmt := topS 24
abbrev N_part_end : List Str := ["text", "at"]
theorem sc_part_end : FnScope N_part_end ["text", "at"] (defScope st_part_end) := ⟨rfl, rfl, rfl, by decide +kernel, rfl, by decide +kernel, by decide +kernel⟩
theorem t_part_end (T : Txt K mg) {k : Nat} {cdv : Value} {A : Around} {outer : List PySem.Env} {s0 : Shared} {H : Hp} {E : XK} {f : Addr} (hr : Room k (A.deeper (envOfC "part_end" (defScope st_part_end) s0.heap.objs.size f cdv))) (tg_LETTERS : ∃ u v, mg "LETTERS" = some u ∧ RelV v u ∧ ∀ F, Rep K F v g_LETTERS) (tg_DIGITS : ∃ u v, mg "DIGITS" = some u ∧ RelV v u ∧ ∀ F, Rep K F v g_DIGITS)  :
    PSs (cxOf CX0 P w K mg base N_part_end "part_end" (defScope st_part_end) f cdv A outer s0 H E).nox (defBody st_part_end) (upS K B0 (r_part_end )) := by
  have nd := sc_part_end.nd
  exact qss_cons (qs_while PassesOwn.never (PW.pt (qw_and (qt_cmp op_lt l_I0 (q_var 1) (q_callB call_lenA l_len (by rfl) T.n_len PySem.boot_len (qa_cons (q_var 0) (qa_nil))) (nomark _)) (qw_and1 (PW.pt (qw_or (qt_cmp (op_inA (hu_of hr)) l_in (q_ix (ix_all (hu_of hr)) l_sub (q_var 0) (q_var 1)) (q_gl rfl tg_LETTERS.choose_spec.choose_spec.1 tg_LETTERS.choose_spec.choose_spec.2.1 tg_LETTERS.choose_spec.choose_spec.2.2) (by rfl)) (qw_or (qt_cmp (op_inA (hu_of hr)) l_in (q_ix (ix_all (hu_of hr)) l_sub (q_var 0) (q_var 1)) (q_gl rfl tg_DIGITS.choose_spec.choose_spec.1 tg_DIGITS.choose_spec.choose_spec.2.1 tg_DIGITS.choose_spec.choose_spec.2.2) (by rfl)) (qw_or1 (qt_cmp (op_eqA hr.units) l_eq (q_ix (ix_all (hu_of hr)) l_sub (q_var 0) (q_var 1)) (q_str) (nomark _))))))))) (qss_one (qs_aug (i := 1) nd rfl (by first | exact Or.inl rfl | exact Or.inr rfl) (q_int) ip_add l_ip))) (qss_one (qs_ret (q_var 1)))
abbrev st_sign_at : Stmt := topS 25
abbrev N_sign_at : List Str := ["text", "at", "sign"]
theorem sc_sign_at : FnScope N_sign_at ["text", "at"] (defScope st_sign_at) := ⟨rfl, rfl, rfl, by decide +kernel, rfl, by decide +kernel, by decide +kernel⟩
theorem t_sign_at (T : Txt K mg) {k : Nat} {cdv : Value} {A : Around} {outer : List PySem.Env} {s0 : Shared} {H : Hp} {E : XK} {f : Addr} (hr : Room k (A.deeper (envOfC "sign_at" (defScope st_sign_at) s0.heap.objs.size f cdv))) (tg_SIGNS : ∃ u v, mg "SIGNS" = some u ∧ RelV v u ∧ ∀ F, Rep K F v g_SIGNS)  :
    PSs (cxOf CX0 P w K mg base N_sign_at "sign_at" (defScope st_sign_at) f cdv A outer s0 H E).nox (defBody st_sign_at) (upS K B0 (r_sign_at )) := by
  have nd := sc_sign_at.nd
  exact qss_cons (qs_for PassesOwn.never rfl (qi_it (q_gl rfl tg_SIGNS.choose_spec.choose_spec.1 tg_SIGNS.choose_spec.choose_spec.2.1 tg_SIGNS.choose_spec.choose_spec.2.2)) (qg_name (i := 2) nd rfl (by first | exact Or.inl rfl | exact Or.inr rfl)) (qss_one (qs_if (qt_truth (q_bm PySem.F.plainAttrs_str PySem.F.slot_str_startswith PySem.F.type_str_startswith mt_startswith3 l_start3 (q_var 0) (qa_cons (q_var 2) (qa_cons (q_var 1) (qa_nil))))) (qss_one (qs_ret (q_var 2))) (qss_nil)))) (qss_one (qs_ret (q_non)))
abbrev st_words_of : Stmt := topS 26
abbrev N_words_of : List Str := ["text", "found", "at", "end", "sign"]
theorem sc_words_of : FnScope N_words_of ["text"] (defScope st_words_of) := ⟨rfl, rfl, rfl, by decide +kernel, rfl, by decide +kernel, by decide +kernel⟩
theorem t_words_of (T : Txt K mg) {k : Nat} {cdv : Value} {A : Around} {outer : List PySem.Env} {s0 : Shared} {H : Hp} {E : XK} {f : Addr} (hr : Room k (A.deeper (envOfC "words_of" (defScope st_words_of) s0.heap.objs.size f cdv))) (tg_LETTERS : ∃ u v, mg "LETTERS" = some u ∧ RelV v u ∧ ∀ F, Rep K F v g_LETTERS) (tg_DIGITS : ∃ u v, mg "DIGITS" = some u ∧ RelV v u ∧ ∀ F, Rep K F v g_DIGITS)  {j_part_end : Nat} {s_part_end : DSp} (c_part_end : Cal P w K mg base CX0 j_part_end "part_end" ["text", "at"] s_part_end) (h_part_end : j_part_end ≤ k) {j_sign_at : Nat} {s_sign_at : DSp} (c_sign_at : Cal P w K mg base CX0 j_sign_at "sign_at" ["text", "at"] s_sign_at) (h_sign_at : j_sign_at ≤ k) {C_TextError : Addr} {j_TextError : Nat} (x_TextError : Xcal P w K mg base j_TextError "TextError" C_TextError ["code", "at"]) (h_TextError : j_TextError + 1 ≤ k) {B : Hp} {W : DW} (tk : Takes (cxOf (L2.CX P w) P w K mg base N_words_of "words_of" (defScope st_words_of) f cdv A outer s0 H E) (upX K B W)) :
    PSs (cxOf (L2.CX P w) P w K mg base N_words_of "words_of" (defScope st_words_of) f cdv A outer s0 H E) (defBody st_words_of) (upS K B (r_words_of W s_part_end s_sign_at C_TextError)) := by
  have nd := sc_words_of.nd
  exact qss_cons (qs_par rfl nd (i := 1) (j := 2) rfl rfl (by decide) rfl rfl (qa_cons (q_lstM (qa_nil)) (qa_cons (q_int) (qa_nil)))) (qss_cons (qs_while (by exact PassesOwn.leaving) (qt_cmp op_lt l_I0 (q_var 2) (q_callB call_lenA l_len (by rfl) T.n_len PySem.boot_len (qa_cons (q_var 0) (qa_nil))) (nomark _)) (qss_one (qs_if (qt_cmp (op_inA (hu_of hr)) l_in (q_ix (ix_all (hu_of hr)) l_sub (q_var 0) (q_var 2)) (q_tup (qa_cons (q_str) (qa_cons (q_str) (qa_nil)))) (by rfl)) (qss_one (qs_aug (i := 2) nd rfl (by first | exact Or.inl rfl | exact Or.inr rfl) (q_int) ip_add l_ip)) (qss_one (qs_if (qt_cmp (op_eqA hr.units) l_eq (q_ix (ix_all (hu_of hr)) l_sub (q_var 0) (q_var 2)) (q_str) (nomark _)) (qss_cons (qs_set (i := 3) nd rfl (by first | exact Or.inl rfl | exact Or.inr rfl) (q_bm PySem.F.plainAttrs_str PySem.F.slot_str_find PySem.F.type_str_find mt_find3 l_find3 (q_var 0) (qa_cons (q_str) (qa_cons (q_var 2) (qa_nil))))) (qss_one (qs_set (i := 2) nd rfl (by first | exact Or.inl rfl | exact Or.inr rfl) (q_ifExp (qt_cmp op_lt l_I0 (q_var 3) (q_int) (nomark _)) (q_callB call_lenA l_len (by rfl) T.n_len PySem.boot_len (qa_cons (q_var 0) (qa_nil))) (q_var 3))))) (qss_one (qs_if (PW.pt (qw_or (qt_cmp (op_inA (hu_of hr)) l_in (q_ix (ix_all (hu_of hr)) l_sub (q_var 0) (q_var 2)) (q_gl rfl tg_LETTERS.choose_spec.choose_spec.1 tg_LETTERS.choose_spec.choose_spec.2.1 tg_LETTERS.choose_spec.choose_spec.2.2) (by rfl)) (qw_or (qt_cmp (op_inA (hu_of hr)) l_in (q_ix (ix_all (hu_of hr)) l_sub (q_var 0) (q_var 2)) (q_gl rfl tg_DIGITS.choose_spec.choose_spec.1 tg_DIGITS.choose_spec.choose_spec.2.1 tg_DIGITS.choose_spec.choose_spec.2.2) (by rfl)) (qw_or1 (qt_cmp (op_eqA hr.units) l_eq (q_ix (ix_all (hu_of hr)) l_sub (q_var 0) (q_var 2)) (q_str) (nomark _)))))) (qss_cons (qs_set (i := 3) nd rfl (by first | exact Or.inl rfl | exact Or.inr rfl) (q_c c_part_end hr h_part_end rfl (qa_cons (q_var 0) (qa_cons (q_op op_plus l_plus (q_var 2) (q_int)) (qa_nil))))) (qss_cons (qs_expr (q_bm PySem.F.plainAttrs_list PySem.F.slot_list_append PySem.F.type_list_append mt_append l_append (q_var 1) (qa_cons (q_slice (q_var 0) (qo_some (q_var 2)) (qo_some (q_var 3))) (qa_nil)))) (qss_one (qs_set (i := 2) nd rfl (by first | exact Or.inl rfl | exact Or.inr rfl) (q_var 3))))) (qss_cons (qs_set (i := 4) nd rfl (by first | exact Or.inl rfl | exact Or.inr rfl) (q_c c_sign_at hr h_sign_at rfl (qa_cons (q_var 0) (qa_cons (q_var 2) (qa_nil))))) (qss_cons (qs_if (qt_cmp op_isN l_isN (q_var 4) (q_non) (nomark _)) (qss_one (qs_raise rfl x_TextError hr h_TextError rfl tk (by decide) (qa_cons (q_str) (qa_cons (q_callB call_lenA l_len (by rfl) T.n_len PySem.boot_len (qa_cons (q_var 1) (qa_nil))) (qa_nil))))) (qss_nil)) (qss_cons (qs_expr (q_bm PySem.F.plainAttrs_list PySem.F.slot_list_append PySem.F.type_list_append mt_append l_append (q_var 1) (qa_cons (q_var 4) (qa_nil)))) (qss_one (qs_aug (i := 2) nd rfl (by first | exact Or.inl rfl | exact Or.inr rfl) (q_callB call_lenA l_len (by rfl) T.n_len PySem.boot_len (qa_cons (q_var 4) (qa_nil))) ip_add l_ip)))))))))))) (qss_one (qs_ret (q_frz (q_var 1)))))
abbrev st_Reader___init__ : Stmt := inClass (topS 27) 0
abbrev N_Reader___init__ : List Str := ["self", "words"]
theorem sc_Reader___init__ : FnScope N_Reader___init__ ["self", "words"] (defScope st_Reader___init__) := ⟨rfl, rfl, rfl, by decide +kernel, rfl, by decide +kernel, by decide +kernel⟩
theorem t_Reader___init__ (T : Txt K mg) {k : Nat} {cdv : Value} {A : Around} {outer : List PySem.Env} {s0 : Shared} {H : Hp} {E : XK} {f : Addr} (hr : Room k (A.deeper (envOfC "Reader.__init__" (defScope st_Reader___init__) s0.heap.objs.size f cdv)))  :
    PSs (cxOf CX0 P w K mg base N_Reader___init__ "Reader.__init__" (defScope st_Reader___init__) f cdv A outer s0 H E).nox (defBody st_Reader___init__) (upS K B0 (r_Reader___init__ K)) := by
  have nd := sc_Reader___init__.nd
  exact qss_cons (qs_fld (q_var 0) (q_var 1)) (qss_one (qs_fld (q_var 0) (q_int)))
abbrev st_Reader_peek : Stmt := inClass (topS 27) 1
abbrev N_Reader_peek : List Str := ["self"]
theorem sc_Reader_peek : FnScope N_Reader_peek ["self"] (defScope st_Reader_peek) := ⟨rfl, rfl, rfl, by decide +kernel, rfl, by decide +kernel, by decide +kernel⟩
theorem t_Reader_peek (T : Txt K mg) {k : Nat} {cdv : Value} {A : Around} {outer : List PySem.Env} {s0 : Shared} {H : Hp} {E : XK} {f : Addr} (hr : Room k (A.deeper (envOfC "Reader.peek" (defScope st_Reader_peek) s0.heap.objs.size f cdv)))  :
    PSs (cxOf CX0 P w K mg base N_Reader_peek "Reader.peek" (defScope st_Reader_peek) f cdv A outer s0 H E).nox (defBody st_Reader_peek) (upS K B0 (r_Reader_peek K)) := by
  have nd := sc_Reader_peek.nd
  exact qss_one (qs_ret (q_ifExp (qt_cmp op_lt l_I0 (q_fld (q_var 0)) (q_callB call_lenA l_len (by rfl) T.n_len PySem.boot_len (qa_cons (q_fld (q_var 0)) (qa_nil))) (nomark _)) (q_ix (ix_all (hu_of hr)) l_sub (q_fld (q_var 0)) (q_fld (q_var 0))) (q_str)))
abbrev st_Reader_stop : Stmt := inClass (topS 27) 3
abbrev N_Reader_stop : List Str := ["self"]
theorem sc_Reader_stop : FnScope N_Reader_stop ["self"] (defScope st_Reader_stop) := ⟨rfl, rfl, rfl, by decide +kernel, rfl, by decide +kernel, by decide +kernel⟩
theorem t_Reader_stop (T : Txt K mg) {k : Nat} {cdv : Value} {A : Around} {outer : List PySem.Env} {s0 : Shared} {H : Hp} {E : XK} {f : Addr} (hr : Room k (A.deeper (envOfC "Reader.stop" (defScope st_Reader_stop) s0.heap.objs.size f cdv)))  {C_TextError : Addr} {j_TextError : Nat} (x_TextError : Xcal P w K mg base j_TextError "TextError" C_TextError ["code", "at"]) (h_TextError : j_TextError + 1 ≤ k) {B : Hp} {W : DW} (tk : Takes (cxOf (L2.CX P w) P w K mg base N_Reader_stop "Reader.stop" (defScope st_Reader_stop) f cdv A outer s0 H E) (upX K B W)) :
    PSs (cxOf (L2.CX P w) P w K mg base N_Reader_stop "Reader.stop" (defScope st_Reader_stop) f cdv A outer s0 H E) (defBody st_Reader_stop) (upS K B (r_Reader_stop K W C_TextError)) := by
  have nd := sc_Reader_stop.nd
  exact qss_one (qs_raise rfl x_TextError hr h_TextError rfl tk (by decide) (qa_cons (q_str) (qa_cons (q_fld (q_var 0)) (qa_nil))))
abbrev st_Reader_skip : Stmt := inClass (topS 27) 4
abbrev N_Reader_skip : List Str := ["self", "word"]
theorem sc_Reader_skip : FnScope N_Reader_skip ["self", "word"] (defScope st_Reader_skip) := ⟨rfl, rfl, rfl, by decide +kernel, rfl, by decide +kernel, by decide +kernel⟩
theorem t_Reader_skip (T : Txt K mg) {k : Nat} {cdv : Value} {A : Around} {outer : List PySem.Env} {s0 : Shared} {H : Hp} {E : XK} {f : Addr} (hr : Room k (A.deeper (envOfC "Reader.skip" (defScope st_Reader_skip) s0.heap.objs.size f cdv)))  {C_Reader : Addr} (cl_Reader : Cls K C_Reader) {j_Reader_peek : Nat} {s_Reader_peek : DSp} (m_Reader_peek : Mcal P w K mg base CX0 j_Reader_peek C_Reader "peek" ["self"] s_Reader_peek) (h_Reader_peek : j_Reader_peek ≤ k) :
    PSs (cxOf CX0 P w K mg base N_Reader_skip "Reader.skip" (defScope st_Reader_skip) f cdv A outer s0 H E).nox (defBody st_Reader_skip) (upS K B0 (r_Reader_skip K C_Reader s_Reader_peek)) := by
  have nd := sc_Reader_skip.nd
  exact qss_cons (qs_if (qt_cmp (op_neA hr.units) l_ne (q_mc0 (q_var 0) m_Reader_peek cl_Reader hr h_Reader_peek) (q_var 1) (nomark _)) (qss_one (qs_ret (q_bl))) (qss_nil)) (qss_cons (qs_fldaug (q_var 0) (q_int) in_add l_fadd) (qss_one (qs_ret (q_bl))))
abbrev st_Reader_need : Stmt := inClass (topS 27) 5
abbrev N_Reader_need : List Str := ["self", "word"]
theorem sc_Reader_need : FnScope N_Reader_need ["self", "word"] (defScope st_Reader_need) := ⟨rfl, rfl, rfl, by decide +kernel, rfl, by decide +kernel, by decide +kernel⟩
theorem t_Reader_need (T : Txt K mg) {k : Nat} {cdv : Value} {A : Around} {outer : List PySem.Env} {s0 : Shared} {H : Hp} {E : XK} {f : Addr} (hr : Room k (A.deeper (envOfC "Reader.need" (defScope st_Reader_need) s0.heap.objs.size f cdv)))  {C_Reader : Addr} (cl_Reader : Cls K C_Reader) {j_Reader_skip : Nat} {s_Reader_skip : DSp} (m_Reader_skip : Mcal P w K mg base CX0 j_Reader_skip C_Reader "skip" ["self", "word"] s_Reader_skip) (h_Reader_skip : j_Reader_skip ≤ k) {j_Reader_stop : Nat} {s_Reader_stop : DSp} (m_Reader_stop : Mcal P w K mg base (L2.CX P w) j_Reader_stop C_Reader "stop" ["self"] s_Reader_stop) (h_Reader_stop : j_Reader_stop ≤ k) {B : Hp} {W : DW} (tk : Takes (cxOf (L2.CX P w) P w K mg base N_Reader_need "Reader.need" (defScope st_Reader_need) f cdv A outer s0 H E) (upX K B W)) :
    PSs (cxOf (L2.CX P w) P w K mg base N_Reader_need "Reader.need" (defScope st_Reader_need) f cdv A outer s0 H E) (defBody st_Reader_need) (upS K B (r_Reader_need W C_Reader s_Reader_skip s_Reader_stop)) := by
  have nd := sc_Reader_need.nd
  exact qss_one (qs_if (qt_not (qt_truth (q_mc (q_var 0) m_Reader_skip cl_Reader hr h_Reader_skip (qa_cons (q_var 1) (qa_nil))))) (qss_one (qs_expr (q_mc0X (q_var 0) m_Reader_stop cl_Reader hr h_Reader_stop tk))) (qss_nil))
abbrev st_Reader_take : Stmt := inClass (topS 27) 6
abbrev N_Reader_take : List Str := ["self"]
theorem sc_Reader_take : FnScope N_Reader_take ["self"] (defScope st_Reader_take) := ⟨rfl, rfl, rfl, by decide +kernel, rfl, by decide +kernel, by decide +kernel⟩
theorem t_Reader_take (T : Txt K mg) {k : Nat} {cdv : Value} {A : Around} {outer : List PySem.Env} {s0 : Shared} {H : Hp} {E : XK} {f : Addr} (hr : Room k (A.deeper (envOfC "Reader.take" (defScope st_Reader_take) s0.heap.objs.size f cdv)))  {C_Reader : Addr} (cl_Reader : Cls K C_Reader) {j_Reader_stop : Nat} {s_Reader_stop : DSp} (m_Reader_stop : Mcal P w K mg base (L2.CX P w) j_Reader_stop C_Reader "stop" ["self"] s_Reader_stop) (h_Reader_stop : j_Reader_stop ≤ k) {B : Hp} {W : DW} (tk : Takes (cxOf (L2.CX P w) P w K mg base N_Reader_take "Reader.take" (defScope st_Reader_take) f cdv A outer s0 H E) (upX K B W)) :
    PSs (cxOf (L2.CX P w) P w K mg base N_Reader_take "Reader.take" (defScope st_Reader_take) f cdv A outer s0 H E) (defBody st_Reader_take) (upS K B (r_Reader_take K W C_Reader s_Reader_stop)) := by
  have nd := sc_Reader_take.nd
  exact qss_cons (qs_if (qt_cmp op_ge l_I0 (q_fld (q_var 0)) (q_callB call_lenA l_len (by rfl) T.n_len PySem.boot_len (qa_cons (q_fld (q_var 0)) (qa_nil))) (nomark _)) (qss_one (qs_expr (q_mc0X (q_var 0) m_Reader_stop cl_Reader hr h_Reader_stop tk))) (qss_nil)) (qss_cons (qs_fldaug (q_var 0) (q_int) in_add l_fadd) (qss_one (qs_ret (q_ix (ix_all (hu_of hr)) l_sub (q_fld (q_var 0)) (q_op op_sub l_I0 (q_fld (q_var 0)) (q_int))))))
abbrev st_Reader_number : Stmt := inClass (topS 27) 7
abbrev N_Reader_number : List Str := ["self", "word", "sign"]
theorem sc_Reader_number : FnScope N_Reader_number ["self"] (defScope st_Reader_number) := ⟨rfl, rfl, rfl, by decide +kernel, rfl, by decide +kernel, by decide +kernel⟩
theorem t_Reader_number (T : Txt K mg) {k : Nat} {cdv : Value} {A : Around} {outer : List PySem.Env} {s0 : Shared} {H : Hp} {E : XK} {f : Addr} (hr : Room k (A.deeper (envOfC "Reader.number" (defScope st_Reader_number) s0.heap.objs.size f cdv))) (tg_DIGITS : ∃ u v, mg "DIGITS" = some u ∧ RelV v u ∧ ∀ F, Rep K F v g_DIGITS) (tg_MOST_FIGURES : ∃ u v, mg "MOST_FIGURES" = some u ∧ RelV v u ∧ ∀ F, Rep K F v g_MOST_FIGURES)  {C_Reader : Addr} (cl_Reader : Cls K C_Reader) {j_Reader_peek : Nat} {s_Reader_peek : DSp} (m_Reader_peek : Mcal P w K mg base CX0 j_Reader_peek C_Reader "peek" ["self"] s_Reader_peek) (h_Reader_peek : j_Reader_peek ≤ k) {j_Reader_stop : Nat} {s_Reader_stop : DSp} (m_Reader_stop : Mcal P w K mg base (L2.CX P w) j_Reader_stop C_Reader "stop" ["self"] s_Reader_stop) (h_Reader_stop : j_Reader_stop ≤ k) {B : Hp} {W : DW} (tk : Takes (cxOf (L2.CX P w) P w K mg base N_Reader_number "Reader.number" (defScope st_Reader_number) f cdv A outer s0 H E) (upX K B W)) :
    PSs (cxOf (L2.CX P w) P w K mg base N_Reader_number "Reader.number" (defScope st_Reader_number) f cdv A outer s0 H E) (defBody st_Reader_number) (upS K B (r_Reader_number K W C_Reader s_Reader_peek s_Reader_stop)) := by
  have nd := sc_Reader_number.nd
  exact qss_cons (qs_set (i := 1) nd rfl (by first | exact Or.inl rfl | exact Or.inr rfl) (q_mc0 (q_var 0) m_Reader_peek cl_Reader hr h_Reader_peek)) (qss_cons (qs_if (PW.pt (qw_or (qt_cmp (op_eqA hr.units) l_eq (q_var 1) (q_str) (nomark _)) (qw_or (qt_not (qt_truth (q_callB (cr_all rfl) l_all (by rfl) T.n_all (by decide +kernel) (qa_cons (q_frz (q_lc (own := [("sign", 2)]) rfl nd (qi_it (q_var 1)) (blkOk_by (own := [("sign", 2)]) (N := N_Reader_number) (sc := defScope st_Reader_number) (by decide +kernel)) (fun _ _ _ _ _ => pg_name (i := 2) nd rfl (Or.inl rfl)) (lg_name (by decide)) (fun _ _ _ _ _ => qts_nil) (fun _ _ _ _ _ => q_cmp (op_inA (hu_of hr)) l_in (q_var 2) (q_gl rfl tg_DIGITS.choose_spec.choose_spec.1 tg_DIGITS.choose_spec.choose_spec.2.1 tg_DIGITS.choose_spec.choose_spec.2.2) (by rfl)))) (qa_nil))))) (qw_or1 (qt_cmp op_gt l_I0 (q_callB call_lenA l_len (by rfl) T.n_len PySem.boot_len (qa_cons (q_var 1) (qa_nil))) (q_gl rfl tg_MOST_FIGURES.choose_spec.choose_spec.1 tg_MOST_FIGURES.choose_spec.choose_spec.2.1 tg_MOST_FIGURES.choose_spec.choose_spec.2.2) (nomark _)))))) (qss_one (qs_expr (q_mc0X (q_var 0) m_Reader_stop cl_Reader hr h_Reader_stop tk))) (qss_nil)) (qss_cons (qs_fldaug (q_var 0) (q_int) in_add l_fadd) (qss_one (qs_ret (q_callTy call_int_str l_intT (by rfl) T.n_int (by decide +kernel) (qa_cons (q_var 1) (qa_nil)))))))
abbrev st_Reader_end : Stmt := inClass (topS 27) 8
abbrev N_Reader_end : List Str := ["self"]
theorem sc_Reader_end : FnScope N_Reader_end ["self"] (defScope st_Reader_end) := ⟨rfl, rfl, rfl, by decide +kernel, rfl, by decide +kernel, by decide +kernel⟩
theorem t_Reader_end (T : Txt K mg) {k : Nat} {cdv : Value} {A : Around} {outer : List PySem.Env} {s0 : Shared} {H : Hp} {E : XK} {f : Addr} (hr : Room k (A.deeper (envOfC "Reader.end" (defScope st_Reader_end) s0.heap.objs.size f cdv)))  {C_Reader : Addr} (cl_Reader : Cls K C_Reader) {j_Reader_stop : Nat} {s_Reader_stop : DSp} (m_Reader_stop : Mcal P w K mg base (L2.CX P w) j_Reader_stop C_Reader "stop" ["self"] s_Reader_stop) (h_Reader_stop : j_Reader_stop ≤ k) {B : Hp} {W : DW} (tk : Takes (cxOf (L2.CX P w) P w K mg base N_Reader_end "Reader.end" (defScope st_Reader_end) f cdv A outer s0 H E) (upX K B W)) :
    PSs (cxOf (L2.CX P w) P w K mg base N_Reader_end "Reader.end" (defScope st_Reader_end) f cdv A outer s0 H E) (defBody st_Reader_end) (upS K B (r_Reader_end K W C_Reader s_Reader_stop)) := by
  have nd := sc_Reader_end.nd
  exact qss_one (qs_if (qt_cmp op_lt l_I0 (q_fld (q_var 0)) (q_callB call_lenA l_len (by rfl) T.n_len PySem.boot_len (qa_cons (q_fld (q_var 0)) (qa_nil))) (nomark _)) (qss_one (qs_expr (q_mc0X (q_var 0) m_Reader_stop cl_Reader hr h_Reader_stop tk))) (qss_nil))
abbrev st_read_term : Stmt := topS 29
abbrev N_read_term : List Str := ["reader", "word"]
theorem sc_read_term : FnScope N_read_term ["reader"] (defScope st_read_term) := ⟨rfl, rfl, rfl, by decide +kernel, rfl, by decide +kernel, by decide +kernel⟩
theorem t_read_term (T : Txt K mg) {k : Nat} {cdv : Value} {A : Around} {outer : List PySem.Env} {s0 : Shared} {H : Hp} {E : XK} {f : Addr} (hr : Room k (A.deeper (envOfC "read_term" (defScope st_read_term) s0.heap.objs.size f cdv))) (tg_DIGITS : ∃ u v, mg "DIGITS" = some u ∧ RelV v u ∧ ∀ F, Rep K F v g_DIGITS)  {C_Reader : Addr} (cl_Reader : Cls K C_Reader) {j_Reader_skip : Nat} {s_Reader_skip : DSp} (m_Reader_skip : Mcal P w K mg base CX0 j_Reader_skip C_Reader "skip" ["self", "word"] s_Reader_skip) (h_Reader_skip : j_Reader_skip ≤ k) {j_Reader_number : Nat} {s_Reader_number : DSp} (m_Reader_number : Mcal P w K mg base (L2.CX P w) j_Reader_number C_Reader "number" ["self"] s_Reader_number) (h_Reader_number : j_Reader_number ≤ k) {j_Reader_peek : Nat} {s_Reader_peek : DSp} (m_Reader_peek : Mcal P w K mg base CX0 j_Reader_peek C_Reader "peek" ["self"] s_Reader_peek) (h_Reader_peek : j_Reader_peek ≤ k) {j_is_name : Nat} {s_is_name : DSp} (c_is_name : Cal P w K mg base CX0 j_is_name "is_name" ["word"] s_is_name) (h_is_name : j_is_name ≤ k) {j_Reader_stop : Nat} {s_Reader_stop : DSp} (m_Reader_stop : Mcal P w K mg base (L2.CX P w) j_Reader_stop C_Reader "stop" ["self"] s_Reader_stop) (h_Reader_stop : j_Reader_stop ≤ k) {j_Reader_take : Nat} {s_Reader_take : DSp} (m_Reader_take : Mcal P w K mg base (L2.CX P w) j_Reader_take C_Reader "take" ["self"] s_Reader_take) (h_Reader_take : j_Reader_take ≤ k) {B : Hp} {W : DW} (tk : Takes (cxOf (L2.CX P w) P w K mg base N_read_term "read_term" (defScope st_read_term) f cdv A outer s0 H E) (upX K B W)) :
    PSs (cxOf (L2.CX P w) P w K mg base N_read_term "read_term" (defScope st_read_term) f cdv A outer s0 H E) (defBody st_read_term) (upS K B (r_read_term W C_Reader s_Reader_skip s_Reader_number s_Reader_peek s_is_name s_Reader_stop s_Reader_take)) := by
  have nd := sc_read_term.nd
  exact qss_cons (qs_if (qt_truth (q_mc (q_var 0) m_Reader_skip cl_Reader hr h_Reader_skip (qa_cons (q_str) (qa_nil)))) (qss_one (qs_ret (q_int))) (qss_nil)) (qss_cons (qs_if (qt_truth (q_mc (q_var 0) m_Reader_skip cl_Reader hr h_Reader_skip (qa_cons (q_str) (qa_nil)))) (qss_one (qs_ret (q_neg (q_mc0X (q_var 0) m_Reader_number cl_Reader hr h_Reader_number tk)))) (qss_nil)) (qss_cons (qs_set (i := 1) nd rfl (by first | exact Or.inl rfl | exact Or.inr rfl) (q_mc0 (q_var 0) m_Reader_peek cl_Reader hr h_Reader_peek)) (qss_cons (qs_if (PW.pt (qw_and (qt_cmp (op_neA hr.units) l_ne (q_var 1) (q_str) (nomark _)) (qw_and1 (qt_cmp (op_inA (hu_of hr)) l_in (q_ix (ix_all (hu_of hr)) l_sub (q_var 1) (q_int)) (q_gl rfl tg_DIGITS.choose_spec.choose_spec.1 tg_DIGITS.choose_spec.choose_spec.2.1 tg_DIGITS.choose_spec.choose_spec.2.2) (by rfl))))) (qss_one (qs_ret (q_mc0X (q_var 0) m_Reader_number cl_Reader hr h_Reader_number tk))) (qss_nil)) (qss_cons (qs_if (qt_not (qt_truth (q_c c_is_name hr h_is_name rfl (qa_cons (q_var 1) (qa_nil))))) (qss_one (qs_expr (q_mc0X (q_var 0) m_Reader_stop cl_Reader hr h_Reader_stop tk))) (qss_nil)) (qss_one (qs_ret (q_mc0X (q_var 0) m_Reader_take cl_Reader hr h_Reader_take tk)))))))
abbrev st_read_names : Stmt := topS 30
abbrev N_read_names : List Str := ["reader", "found"]
theorem sc_read_names : FnScope N_read_names ["reader"] (defScope st_read_names) := ⟨rfl, rfl, rfl, by decide +kernel, rfl, by decide +kernel, by decide +kernel⟩
theorem t_read_names (T : Txt K mg) {k : Nat} {cdv : Value} {A : Around} {outer : List PySem.Env} {s0 : Shared} {H : Hp} {E : XK} {f : Addr} (hr : Room k (A.deeper (envOfC "read_names" (defScope st_read_names) s0.heap.objs.size f cdv)))  {C_Reader : Addr} (cl_Reader : Cls K C_Reader) {j_Reader_peek : Nat} {s_Reader_peek : DSp} (m_Reader_peek : Mcal P w K mg base CX0 j_Reader_peek C_Reader "peek" ["self"] s_Reader_peek) (h_Reader_peek : j_Reader_peek ≤ k) {j_is_name : Nat} {s_is_name : DSp} (c_is_name : Cal P w K mg base CX0 j_is_name "is_name" ["word"] s_is_name) (h_is_name : j_is_name ≤ k) {j_Reader_stop : Nat} {s_Reader_stop : DSp} (m_Reader_stop : Mcal P w K mg base (L2.CX P w) j_Reader_stop C_Reader "stop" ["self"] s_Reader_stop) (h_Reader_stop : j_Reader_stop ≤ k) {j_Reader_take : Nat} {s_Reader_take : DSp} (m_Reader_take : Mcal P w K mg base (L2.CX P w) j_Reader_take C_Reader "take" ["self"] s_Reader_take) (h_Reader_take : j_Reader_take ≤ k) {j_Reader_skip : Nat} {s_Reader_skip : DSp} (m_Reader_skip : Mcal P w K mg base CX0 j_Reader_skip C_Reader "skip" ["self", "word"] s_Reader_skip) (h_Reader_skip : j_Reader_skip ≤ k) {B : Hp} {W : DW} (tk : Takes (cxOf (L2.CX P w) P w K mg base N_read_names "read_names" (defScope st_read_names) f cdv A outer s0 H E) (upX K B W)) :
    PSs (cxOf (L2.CX P w) P w K mg base N_read_names "read_names" (defScope st_read_names) f cdv A outer s0 H E) (defBody st_read_names) (upS K B (r_read_names W C_Reader s_Reader_peek s_is_name s_Reader_stop s_Reader_take s_Reader_skip)) := by
  have nd := sc_read_names.nd
  exact qss_cons (qs_set (i := 1) nd rfl (by first | exact Or.inl rfl | exact Or.inr rfl) (q_lstM (qa_nil))) (qss_one (qs_while (by exact PassesOwn.leaving) (qt_truth (q_bl)) (qss_cons (qs_if (qt_not (qt_truth (q_c c_is_name hr h_is_name rfl (qa_cons (q_mc0 (q_var 0) m_Reader_peek cl_Reader hr h_Reader_peek) (qa_nil))))) (qss_one (qs_expr (q_mc0X (q_var 0) m_Reader_stop cl_Reader hr h_Reader_stop tk))) (qss_nil)) (qss_cons (qs_expr (q_bm PySem.F.plainAttrs_list PySem.F.slot_list_append PySem.F.type_list_append mt_append l_append (q_var 1) (qa_cons (q_mc0X (q_var 0) m_Reader_take cl_Reader hr h_Reader_take tk) (qa_nil)))) (qss_one (qs_if (qt_not (qt_truth (q_mc (q_var 0) m_Reader_skip cl_Reader hr h_Reader_skip (qa_cons (q_str) (qa_nil))))) (qss_one (qs_ret (q_callTy call_tuple_of l_tuple (by rfl) T.n_tuple (by decide +kernel) (qa_cons (q_var 1) (qa_nil))))) (qss_nil)))))))
abbrev st_read_cell : Stmt := topS 31
abbrev N_read_cell : List Str := ["reader", "at", "head", "tail", "share"]
theorem sc_read_cell : FnScope N_read_cell ["reader", "at"] (defScope st_read_cell) := ⟨rfl, rfl, rfl, by decide +kernel, rfl, by decide +kernel, by decide +kernel⟩
theorem t_read_cell (T : Txt K mg) {k : Nat} {cdv : Value} {A : Around} {outer : List PySem.Env} {s0 : Shared} {H : Hp} {E : XK} {f : Addr} (hr : Room k (A.deeper (envOfC "read_cell" (defScope st_read_cell) s0.heap.objs.size f cdv))) (tg_WHOLE : ∃ u v, mg "WHOLE" = some u ∧ RelV v u ∧ ∀ F, Rep K F v g_WHOLE)  {C_Reader : Addr} (cl_Reader : Cls K C_Reader) {j_Reader_need : Nat} {s_Reader_need : DSp} (m_Reader_need : Mcal P w K mg base (L2.CX P w) j_Reader_need C_Reader "need" ["self", "word"] s_Reader_need) (h_Reader_need : j_Reader_need ≤ k) {j_read_term : Nat} {s_read_term : DSp} (c_read_term : Cal P w K mg base (L2.CX P w) j_read_term "read_term" ["reader"] s_read_term) (h_read_term : j_read_term ≤ k) {j_Reader_skip : Nat} {s_Reader_skip : DSp} (m_Reader_skip : Mcal P w K mg base CX0 j_Reader_skip C_Reader "skip" ["self", "word"] s_Reader_skip) (h_Reader_skip : j_Reader_skip ≤ k) {j_Reader_number : Nat} {s_Reader_number : DSp} (m_Reader_number : Mcal P w K mg base (L2.CX P w) j_Reader_number C_Reader "number" ["self"] s_Reader_number) (h_Reader_number : j_Reader_number ≤ k) {j_Reader_stop : Nat} {s_Reader_stop : DSp} (m_Reader_stop : Mcal P w K mg base (L2.CX P w) j_Reader_stop C_Reader "stop" ["self"] s_Reader_stop) (h_Reader_stop : j_Reader_stop ≤ k) {B : Hp} {W : DW} (tk : Takes (cxOf (L2.CX P w) P w K mg base N_read_cell "read_cell" (defScope st_read_cell) f cdv A outer s0 H E) (upX K B W)) :
    PSs (cxOf (L2.CX P w) P w K mg base N_read_cell "read_cell" (defScope st_read_cell) f cdv A outer s0 H E) (defBody st_read_cell) (upS K B (r_read_cell K W C_Reader s_Reader_need s_read_term s_Reader_skip s_Reader_number s_Reader_stop)) := by
  have nd := sc_read_cell.nd
  exact qss_cons (qs_expr (q_mcX (q_var 0) m_Reader_need cl_Reader hr h_Reader_need tk (qa_cons (q_str) (qa_nil)))) (qss_cons (qs_set (i := 2) nd rfl (by first | exact Or.inl rfl | exact Or.inr rfl) (q_cX c_read_term hr h_read_term rfl tk (qa_cons (q_var 0) (qa_nil)))) (qss_cons (qs_expr (q_mcX (q_var 0) m_Reader_need cl_Reader hr h_Reader_need tk (qa_cons (q_str) (qa_nil)))) (qss_cons (qs_set (i := 3) nd rfl (by first | exact Or.inl rfl | exact Or.inr rfl) (q_cX c_read_term hr h_read_term rfl tk (qa_cons (q_var 0) (qa_nil)))) (qss_cons (qs_expr (q_mcX (q_var 0) m_Reader_need cl_Reader hr h_Reader_need tk (qa_cons (q_str) (qa_nil)))) (qss_cons (qs_set (i := 4) nd rfl (by first | exact Or.inl rfl | exact Or.inr rfl) (q_gl rfl tg_WHOLE.choose_spec.choose_spec.1 tg_WHOLE.choose_spec.choose_spec.2.1 tg_WHOLE.choose_spec.choose_spec.2.2)) (qss_cons (qs_if (qt_truth (q_mc (q_var 0) m_Reader_skip cl_Reader hr h_Reader_skip (qa_cons (q_str) (qa_nil)))) (qss_cons (qs_set (i := 4) nd rfl (by first | exact Or.inl rfl | exact Or.inr rfl) (q_mc0X (q_var 0) m_Reader_number cl_Reader hr h_Reader_number tk)) (qss_one (qs_if (qt_not (qt_chain op_le l_I0 op_le l_I0 (q_int) (q_var 4) (q_gl rfl tg_WHOLE.choose_spec.choose_spec.1 tg_WHOLE.choose_spec.choose_spec.2.1 tg_WHOLE.choose_spec.choose_spec.2.2))) (qss_cons (qs_fldaug (q_var 0) (q_int) in_sub l_fsub) (qss_one (qs_expr (q_mc0X (q_var 0) m_Reader_stop cl_Reader hr h_Reader_stop tk)))) (qss_nil)))) (qss_nil)) (qss_one (qs_ret (q_tup (qa_cons (q_str) (qa_cons (q_var 4) (qa_cons (q_var 1) (qa_cons (q_var 2) (qa_cons (q_var 3) (qa_nil)))))))))))))))
abbrev st_read_part : Stmt := topS 32
abbrev N_read_part : List Str := ["reader", "begin", "end", "root", "term"]
theorem sc_read_part : FnScope N_read_part ["reader"] (defScope st_read_part) := ⟨rfl, rfl, rfl, by decide +kernel, rfl, by decide +kernel, by decide +kernel⟩
theorem t_read_part (T : Txt K mg) {k : Nat} {cdv : Value} {A : Around} {outer : List PySem.Env} {s0 : Shared} {H : Hp} {E : XK} {f : Addr} (hr : Room k (A.deeper (envOfC "read_part" (defScope st_read_part) s0.heap.objs.size f cdv)))  {C_Reader : Addr} (cl_Reader : Cls K C_Reader) {j_Reader_skip : Nat} {s_Reader_skip : DSp} (m_Reader_skip : Mcal P w K mg base CX0 j_Reader_skip C_Reader "skip" ["self", "word"] s_Reader_skip) (h_Reader_skip : j_Reader_skip ≤ k) {j_Reader_need : Nat} {s_Reader_need : DSp} (m_Reader_need : Mcal P w K mg base (L2.CX P w) j_Reader_need C_Reader "need" ["self", "word"] s_Reader_need) (h_Reader_need : j_Reader_need ≤ k) {j_read_term : Nat} {s_read_term : DSp} (c_read_term : Cal P w K mg base (L2.CX P w) j_read_term "read_term" ["reader"] s_read_term) (h_read_term : j_read_term ≤ k) {j_read_cell : Nat} {s_read_cell : DSp} (c_read_cell : Cal P w K mg base (L2.CX P w) j_read_cell "read_cell" ["reader", "at"] s_read_cell) (h_read_cell : j_read_cell ≤ k) {B : Hp} {W : DW} (tk : Takes (cxOf (L2.CX P w) P w K mg base N_read_part "read_part" (defScope st_read_part) f cdv A outer s0 H E) (upX K B W)) :
    PSs (cxOf (L2.CX P w) P w K mg base N_read_part "read_part" (defScope st_read_part) f cdv A outer s0 H E) (defBody st_read_part) (upS K B (r_read_part W C_Reader s_Reader_skip s_Reader_need s_read_term s_read_cell)) := by
  have nd := sc_read_part.nd
  exact qss_cons (qs_if (qt_truth (q_mc (q_var 0) m_Reader_skip cl_Reader hr h_Reader_skip (qa_cons (q_str) (qa_nil)))) (qss_one (qs_ret (q_non))) (qss_nil)) (qss_cons (qs_if (qt_truth (q_mc (q_var 0) m_Reader_skip cl_Reader hr h_Reader_skip (qa_cons (q_str) (qa_nil)))) (qss_cons (qs_expr (q_mcX (q_var 0) m_Reader_need cl_Reader hr h_Reader_need tk (qa_cons (q_str) (qa_nil)))) (qss_cons (qs_set (i := 1) nd rfl (by first | exact Or.inl rfl | exact Or.inr rfl) (q_cX c_read_term hr h_read_term rfl tk (qa_cons (q_var 0) (qa_nil)))) (qss_cons (qs_expr (q_mcX (q_var 0) m_Reader_need cl_Reader hr h_Reader_need tk (qa_cons (q_str) (qa_nil)))) (qss_cons (qs_set (i := 2) nd rfl (by first | exact Or.inl rfl | exact Or.inr rfl) (q_cX c_read_term hr h_read_term rfl tk (qa_cons (q_var 0) (qa_nil)))) (qss_cons (qs_expr (q_mcX (q_var 0) m_Reader_need cl_Reader hr h_Reader_need tk (qa_cons (q_str) (qa_nil)))) (qss_one (qs_ret (q_tup (qa_cons (q_str) (qa_cons (q_var 1) (qa_cons (q_var 2) (qa_nil)))))))))))) (qss_nil)) (qss_cons (qs_if (qt_truth (q_mc (q_var 0) m_Reader_skip cl_Reader hr h_Reader_skip (qa_cons (q_str) (qa_nil)))) (qss_cons (qs_expr (q_mcX (q_var 0) m_Reader_need cl_Reader hr h_Reader_need tk (qa_cons (q_str) (qa_nil)))) (qss_cons (qs_set (i := 3) nd rfl (by first | exact Or.inl rfl | exact Or.inr rfl) (q_cX c_read_term hr h_read_term rfl tk (qa_cons (q_var 0) (qa_nil)))) (qss_cons (qs_expr (q_mcX (q_var 0) m_Reader_need cl_Reader hr h_Reader_need tk (qa_cons (q_str) (qa_nil)))) (qss_one (qs_ret (q_tup (qa_cons (q_str) (qa_cons (q_var 3) (qa_nil))))))))) (qss_nil)) (qss_cons (qs_set (i := 4) nd rfl (by first | exact Or.inl rfl | exact Or.inr rfl) (q_cX c_read_term hr h_read_term rfl tk (qa_cons (q_var 0) (qa_nil)))) (qss_cons (qs_if (qt_truth (q_mc (q_var 0) m_Reader_skip cl_Reader hr h_Reader_skip (qa_cons (q_str) (qa_nil)))) (qss_one (qs_ret (q_tup (qa_cons (q_str) (qa_cons (q_var 4) (qa_cons (q_cX c_read_term hr h_read_term rfl tk (qa_cons (q_var 0) (qa_nil))) (qa_nil))))))) (qss_nil)) (qss_cons (qs_if (qt_truth (q_mc (q_var 0) m_Reader_skip cl_Reader hr h_Reader_skip (qa_cons (q_str) (qa_nil)))) (qss_one (qs_ret (q_tup (qa_cons (q_str) (qa_cons (q_var 4) (qa_cons (q_cX c_read_term hr h_read_term rfl tk (qa_cons (q_var 0) (qa_nil))) (qa_nil))))))) (qss_nil)) (qss_cons (qs_expr (q_mcX (q_var 0) m_Reader_need cl_Reader hr h_Reader_need tk (qa_cons (q_str) (qa_nil)))) (qss_one (qs_ret (q_cX c_read_cell hr h_read_cell rfl tk (qa_cons (q_var 0) (qa_cons (q_var 4) (qa_nil))))))))))))
abbrev st_read_shape : Stmt := topS 33
abbrev N_read_shape : List Str := ["reader", "unknown", "pure", "items", "part"]
theorem sc_read_shape : FnScope N_read_shape ["reader"] (defScope st_read_shape) := ⟨rfl, rfl, rfl, by decide +kernel, rfl, by decide +kernel, by decide +kernel⟩
theorem t_read_shape (T : Txt K mg) {k : Nat} {cdv : Value} {A : Around} {outer : List PySem.Env} {s0 : Shared} {H : Hp} {E : XK} {f : Addr} (hr : Room k (A.deeper (envOfC "read_shape" (defScope st_read_shape) s0.heap.objs.size f cdv)))  {C_Reader : Addr} (cl_Reader : Cls K C_Reader) {j_Reader_skip : Nat} {s_Reader_skip : DSp} (m_Reader_skip : Mcal P w K mg base CX0 j_Reader_skip C_Reader "skip" ["self", "word"] s_Reader_skip) (h_Reader_skip : j_Reader_skip ≤ k) {j_read_names : Nat} {s_read_names : DSp} (c_read_names : Cal P w K mg base (L2.CX P w) j_read_names "read_names" ["reader"] s_read_names) (h_read_names : j_read_names ≤ k) {j_Reader_need : Nat} {s_Reader_need : DSp} (m_Reader_need : Mcal P w K mg base (L2.CX P w) j_Reader_need C_Reader "need" ["self", "word"] s_Reader_need) (h_Reader_need : j_Reader_need ≤ k) {j_read_part : Nat} {s_read_part : DSp} (c_read_part : Cal P w K mg base (L2.CX P w) j_read_part "read_part" ["reader"] s_read_part) (h_read_part : j_read_part ≤ k) {B : Hp} {W : DW} (tk : Takes (cxOf (L2.CX P w) P w K mg base N_read_shape "read_shape" (defScope st_read_shape) f cdv A outer s0 H E) (upX K B W)) :
    PSs (cxOf (L2.CX P w) P w K mg base N_read_shape "read_shape" (defScope st_read_shape) f cdv A outer s0 H E) (defBody st_read_shape) (upS K B (r_read_shape W C_Reader s_Reader_skip s_read_names s_Reader_need s_read_part)) := by
  have nd := sc_read_shape.nd
  exact qss_cons (qs_set (i := 1) nd rfl (by first | exact Or.inl rfl | exact Or.inr rfl) (q_tup (qa_nil))) (qss_cons (qs_if (qt_truth (q_mc (q_var 0) m_Reader_skip cl_Reader hr h_Reader_skip (qa_cons (q_str) (qa_nil)))) (qss_cons (qs_set (i := 1) nd rfl (by first | exact Or.inl rfl | exact Or.inr rfl) (q_cX c_read_names hr h_read_names rfl tk (qa_cons (q_var 0) (qa_nil)))) (qss_one (qs_expr (q_mcX (q_var 0) m_Reader_need cl_Reader hr h_Reader_need tk (qa_cons (q_str) (qa_nil)))))) (qss_nil)) (qss_cons (qs_par rfl nd (i := 2) (j := 3) rfl rfl (by decide) rfl rfl (qa_cons (q_lstM (qa_nil)) (qa_cons (q_lstM (qa_nil)) (qa_nil)))) (qss_one (qs_while (by exact PassesOwn.leaving) (qt_truth (q_bl)) (qss_cons (qs_set (i := 4) nd rfl (by first | exact Or.inl rfl | exact Or.inr rfl) (q_cX c_read_part hr h_read_part rfl tk (qa_cons (q_var 0) (qa_nil)))) (qss_cons (qs_if (PW.pt (qw_and (qt_cmp op_notN l_notN (q_var 4) (q_non) (nomark _)) (qw_and1 (qt_cmp (op_inA (hu_of hr)) l_in (q_ix (ix_all (hu_of hr)) l_sub (q_var 4) (q_int)) (q_tup (qa_cons (q_str) (qa_cons (q_str) (qa_nil)))) (by rfl))))) (qss_one (qs_expr (q_bm PySem.F.plainAttrs_list PySem.F.slot_list_append PySem.F.type_list_append mt_append l_append (q_var 2) (qa_cons (q_var 4) (qa_nil))))) (qss_one (qs_if (qt_cmp op_notN l_notN (q_var 4) (q_non) (nomark _)) (qss_one (qs_expr (q_bm PySem.F.plainAttrs_list PySem.F.slot_list_append PySem.F.type_list_append mt_append l_append (q_var 3) (qa_cons (q_var 4) (qa_nil))))) (qss_nil)))) (qss_one (qs_if (qt_not (qt_truth (q_mc (q_var 0) m_Reader_skip cl_Reader hr h_Reader_skip (qa_cons (q_str) (qa_nil))))) (qss_one (qs_ret (q_tup (qa_cons (q_var 1) (qa_cons (q_callTy call_tuple_of l_tuple (by rfl) T.n_tuple (by decide +kernel) (qa_cons (q_var 2) (qa_nil))) (qa_cons (q_callTy call_tuple_of l_tuple (by rfl) T.n_tuple (by decide +kernel) (qa_cons (q_var 3) (qa_nil))) (qa_nil))))))) (qss_nil)))))))))
abbrev st_read_assertion : Stmt := topS 34
abbrev N_read_assertion : List Str := ["reader", "found"]
theorem sc_read_assertion : FnScope N_read_assertion ["reader"] (defScope st_read_assertion) := ⟨rfl, rfl, rfl, by decide +kernel, rfl, by decide +kernel, by decide +kernel⟩
theorem t_read_assertion (T : Txt K mg) {k : Nat} {cdv : Value} {A : Around} {outer : List PySem.Env} {s0 : Shared} {H : Hp} {E : XK} {f : Addr} (hr : Room k (A.deeper (envOfC "read_assertion" (defScope st_read_assertion) s0.heap.objs.size f cdv)))  {j_read_shape : Nat} {s_read_shape : DSp} (c_read_shape : Cal P w K mg base (L2.CX P w) j_read_shape "read_shape" ["reader"] s_read_shape) (h_read_shape : j_read_shape ≤ k) {C_Reader : Addr} (cl_Reader : Cls K C_Reader) {j_Reader_skip : Nat} {s_Reader_skip : DSp} (m_Reader_skip : Mcal P w K mg base CX0 j_Reader_skip C_Reader "skip" ["self", "word"] s_Reader_skip) (h_Reader_skip : j_Reader_skip ≤ k) {B : Hp} {W : DW} (tk : Takes (cxOf (L2.CX P w) P w K mg base N_read_assertion "read_assertion" (defScope st_read_assertion) f cdv A outer s0 H E) (upX K B W)) :
    PSs (cxOf (L2.CX P w) P w K mg base N_read_assertion "read_assertion" (defScope st_read_assertion) f cdv A outer s0 H E) (defBody st_read_assertion) (upS K B (r_read_assertion W s_read_shape C_Reader s_Reader_skip)) := by
  have nd := sc_read_assertion.nd
  exact qss_cons (qs_set (i := 1) nd rfl (by first | exact Or.inl rfl | exact Or.inr rfl) (q_lstM (qa_cons (q_cX c_read_shape hr h_read_shape rfl tk (qa_cons (q_var 0) (qa_nil))) (qa_nil)))) (qss_cons (qs_while (by exact PassesOwn.leaving) (qt_truth (q_mc (q_var 0) m_Reader_skip cl_Reader hr h_Reader_skip (qa_cons (q_str) (qa_nil)))) (qss_one (qs_expr (q_bm PySem.F.plainAttrs_list PySem.F.slot_list_append PySem.F.type_list_append mt_append l_append (q_var 1) (qa_cons (q_cX c_read_shape hr h_read_shape rfl tk (qa_cons (q_var 0) (qa_nil))) (qa_nil)))))) (qss_one (qs_ret (q_callTy call_tuple_of l_tuple (by rfl) T.n_tuple (by decide +kernel) (qa_cons (q_var 1) (qa_nil))))))
abbrev st_parse_shape : Stmt := topS 35
abbrev N_parse_shape : List Str := ["text", "reader", "shape"]
theorem sc_parse_shape : FnScope N_parse_shape ["text"] (defScope st_parse_shape) := ⟨rfl, rfl, rfl, by decide +kernel, rfl, by decide +kernel, by decide +kernel⟩
theorem t_parse_shape (T : Txt K mg) {k : Nat} {cdv : Value} {A : Around} {outer : List PySem.Env} {s0 : Shared} {H : Hp} {E : XK} {f : Addr} (hr : Room k (A.deeper (envOfC "parse_shape" (defScope st_parse_shape) s0.heap.objs.size f cdv)))  {j_words_of : Nat} {s_words_of : DSp} (c_words_of : Cal P w K mg base (L2.CX P w) j_words_of "words_of" ["text"] s_words_of) (h_words_of : j_words_of ≤ k) {j_Reader : Nat} {C_Reader : Addr} {s_Reader___init__ : DSp} (k_Reader : Kcal P w K mg base CX0 j_Reader "Reader" C_Reader ["self", "words"] s_Reader___init__) (h_Reader : j_Reader + 1 ≤ k) {j_read_shape : Nat} {s_read_shape : DSp} (c_read_shape : Cal P w K mg base (L2.CX P w) j_read_shape "read_shape" ["reader"] s_read_shape) (h_read_shape : j_read_shape ≤ k) (cl_Reader : Cls K C_Reader) {j_Reader_end : Nat} {s_Reader_end : DSp} (m_Reader_end : Mcal P w K mg base (L2.CX P w) j_Reader_end C_Reader "end" ["self"] s_Reader_end) (h_Reader_end : j_Reader_end ≤ k) {j_check_shape : Nat} {s_check_shape : DSp} (c_check_shape : Cal P w K mg base (L2.CX P w) j_check_shape "check_shape" ["shape"] s_check_shape) (h_check_shape : j_check_shape ≤ k) {B : Hp} {W : DW} (tk : Takes (cxOf (L2.CX P w) P w K mg base N_parse_shape "parse_shape" (defScope st_parse_shape) f cdv A outer s0 H E) (upX K B W)) :
    PSs (cxOf (L2.CX P w) P w K mg base N_parse_shape "parse_shape" (defScope st_parse_shape) f cdv A outer s0 H E) (defBody st_parse_shape) (upS K B (r_parse_shape W s_words_of C_Reader s_Reader___init__ s_read_shape s_Reader_end s_check_shape)) := by
  have nd := sc_parse_shape.nd
  exact qss_cons (qs_set (i := 1) nd rfl (by first | exact Or.inl rfl | exact Or.inr rfl) (q_kc k_Reader hr h_Reader rfl (qa_cons (q_cX c_words_of hr h_words_of rfl tk (qa_cons (q_var 0) (qa_nil))) (qa_nil)))) (qss_cons (qs_set (i := 2) nd rfl (by first | exact Or.inl rfl | exact Or.inr rfl) (q_cX c_read_shape hr h_read_shape rfl tk (qa_cons (q_var 1) (qa_nil)))) (qss_cons (qs_expr (q_mc0X (q_var 1) m_Reader_end cl_Reader hr h_Reader_end tk)) (qss_cons (qs_expr (q_cX c_check_shape hr h_check_shape rfl tk (qa_cons (q_var 2) (qa_nil)))) (qss_one (qs_ret (q_var 2))))))
abbrev st_parse_assertion : Stmt := topS 36
abbrev N_parse_assertion : List Str := ["text", "reader", "assertion"]
theorem sc_parse_assertion : FnScope N_parse_assertion ["text"] (defScope st_parse_assertion) := ⟨rfl, rfl, rfl, by decide +kernel, rfl, by decide +kernel, by decide +kernel⟩
theorem t_parse_assertion (T : Txt K mg) {k : Nat} {cdv : Value} {A : Around} {outer : List PySem.Env} {s0 : Shared} {H : Hp} {E : XK} {f : Addr} (hr : Room k (A.deeper (envOfC "parse_assertion" (defScope st_parse_assertion) s0.heap.objs.size f cdv)))  {j_words_of : Nat} {s_words_of : DSp} (c_words_of : Cal P w K mg base (L2.CX P w) j_words_of "words_of" ["text"] s_words_of) (h_words_of : j_words_of ≤ k) {j_Reader : Nat} {C_Reader : Addr} {s_Reader___init__ : DSp} (k_Reader : Kcal P w K mg base CX0 j_Reader "Reader" C_Reader ["self", "words"] s_Reader___init__) (h_Reader : j_Reader + 1 ≤ k) {j_read_assertion : Nat} {s_read_assertion : DSp} (c_read_assertion : Cal P w K mg base (L2.CX P w) j_read_assertion "read_assertion" ["reader"] s_read_assertion) (h_read_assertion : j_read_assertion ≤ k) (cl_Reader : Cls K C_Reader) {j_Reader_end : Nat} {s_Reader_end : DSp} (m_Reader_end : Mcal P w K mg base (L2.CX P w) j_Reader_end C_Reader "end" ["self"] s_Reader_end) (h_Reader_end : j_Reader_end ≤ k) {j_check_assertion : Nat} {s_check_assertion : DSp} (c_check_assertion : Cal P w K mg base (L2.CX P w) j_check_assertion "check_assertion" ["assertion"] s_check_assertion) (h_check_assertion : j_check_assertion ≤ k) {B : Hp} {W : DW} (tk : Takes (cxOf (L2.CX P w) P w K mg base N_parse_assertion "parse_assertion" (defScope st_parse_assertion) f cdv A outer s0 H E) (upX K B W)) :
    PSs (cxOf (L2.CX P w) P w K mg base N_parse_assertion "parse_assertion" (defScope st_parse_assertion) f cdv A outer s0 H E) (defBody st_parse_assertion) (upS K B (r_parse_assertion W s_words_of C_Reader s_Reader___init__ s_read_assertion s_Reader_end s_check_assertion)) := by
  have nd := sc_parse_assertion.nd
  exact qss_cons (qs_set (i := 1) nd rfl (by first | exact Or.inl rfl | exact Or.inr rfl) (q_kc k_Reader hr h_Reader rfl (qa_cons (q_cX c_words_of hr h_words_of rfl tk (qa_cons (q_var 0) (qa_nil))) (qa_nil)))) (qss_cons (qs_set (i := 2) nd rfl (by first | exact Or.inl rfl | exact Or.inr rfl) (q_cX c_read_assertion hr h_read_assertion rfl tk (qa_cons (q_var 1) (qa_nil)))) (qss_cons (qs_expr (q_mc0X (q_var 1) m_Reader_end cl_Reader hr h_Reader_end tk)) (qss_cons (qs_expr (q_cX c_check_assertion hr h_check_assertion rfl tk (qa_cons (q_var 2) (qa_nil)))) (qss_one (qs_ret (q_var 2))))))
abbrev st__law_told : Stmt := topS 41
abbrev N__law_told : List Str := ["text", "e"]
theorem sc__law_told : FnScope N__law_told ["text"] (defScope st__law_told) := ⟨rfl, rfl, rfl, by decide +kernel, rfl, by decide +kernel, by decide +kernel⟩
theorem t__law_told (T : Txt K mg) {k : Nat} {cdv : Value} {A : Around} {outer : List PySem.Env} {s0 : Shared} {H : Hp} {E : XK} {f : Addr} (hr : Room k (A.deeper (envOfC "_law_told" (defScope st__law_told) s0.heap.objs.size f cdv)))  {C_HeldError : Addr} (gc_HeldError : mg "HeldError" = some (.ref C_HeldError)) {j_parse_shape : Nat} {s_parse_shape : DSp} (c_parse_shape : Cal P w K mg base (L2.CX P w) j_parse_shape "parse_shape" ["text"] s_parse_shape) (h_parse_shape : j_parse_shape ≤ k) {C_TextError : Addr} (gc_TextError : mg "TextError" = some (.ref C_TextError)) {C_InputError : Addr} (gc_InputError : mg "InputError" = some (.ref C_InputError)) :
    PSs (cxOf CX0 P w K mg base N__law_told "_law_told" (defScope st__law_told) f cdv A outer s0 H E).nox (defBody st__law_told) (upS K B0 (r__law_told K C_HeldError s_parse_shape C_TextError C_InputError)) := by
  have nd := sc__law_told.nd
  exact qss_cons (qs_try_as (i := 1) rfl rfl nd rfl rfl ⟨rfl, by decide, .inl gc_HeldError⟩ takesN (fun W1 B1 pn1 xe1 tk1 hp1 => qss_one (qs_expr (q_cX c_parse_shape hr h_parse_shape rfl tk1 (qa_cons (q_var 0) (qa_nil))))) (fun a1 oe1 cls1 dx1 qn1 D1 vs1 fs1 hz1 hf1 hB1 hr1 => qss_one (qs_ret (q_ifExp (PW.pt (qw_and (qt_truth (q_isE hz1 hf1 hB1 (q_var 1) gc_TextError rfl T.n_isinstance rfl)) (qw_and1 (qt_not (qt_truth (q_isE hz1 hf1 hB1 (q_var 1) gc_InputError rfl T.n_isinstance rfl)))))) (q_tup (qa_cons (q_xf hz1 hf1 hB1 hr1 (q_var 1)) (qa_cons (q_xf hz1 hf1 hB1 hr1 (q_var 1)) (qa_nil)))) (q_str))))) (qss_one (qs_ret (q_non)))
abbrev st__law_part : Stmt := topS 42
abbrev N__law_part : List Str := ["d"]
theorem sc__law_part : FnScope N__law_part ["d"] (defScope st__law_part) := ⟨rfl, rfl, rfl, by decide +kernel, rfl, by decide +kernel, by decide +kernel⟩
theorem t__law_part (T : Txt K mg) {k : Nat} {cdv : Value} {A : Around} {outer : List PySem.Env} {s0 : Shared} {H : Hp} {E : XK} {f : Addr} (hr : Room k (A.deeper (envOfC "_law_part" (defScope st__law_part) s0.heap.objs.size f cdv)))  {j__law_pick : Nat} {s__law_pick : DSp} (c__law_pick : Cal P w K mg base CX0 j__law_pick "_law_pick" ["d", "menu"] s__law_pick) (h__law_pick : j__law_pick ≤ k) :
    PSs (cxOf CX0 P w K mg base N__law_part "_law_part" (defScope st__law_part) f cdv A outer s0 H E).nox (defBody st__law_part) (upS K B0 (r__law_part s__law_pick)) := by
  have nd := sc__law_part.nd
  exact qss_one (qs_ret (q_c c__law_pick hr h__law_pick rfl (qa_cons (q_var 0) (qa_cons (q_lst (qa_cons (q_lst (qa_cons (q_str) (qa_cons (q_str) (qa_cons (q_str) (qa_cons (q_str) (qa_cons (q_str) (qa_cons (q_str) (qa_cons (q_str) (qa_nil))))))))) (qa_cons (q_lst (qa_cons (q_str) (qa_cons (q_str) (qa_cons (q_str) (qa_cons (q_str) (qa_cons (q_str) (qa_cons (q_str) (qa_nil)))))))) (qa_cons (q_lst (qa_cons (q_str) (qa_cons (q_str) (qa_cons (q_str) (qa_cons (q_str) (qa_nil)))))) (qa_cons (q_lst (qa_cons (q_str) (qa_cons (q_str) (qa_cons (q_str) (qa_cons (q_str) (qa_nil)))))) (qa_cons (q_lst (qa_cons (q_str) (qa_nil))) (qa_cons (q_lst (qa_cons (q_str) (qa_cons (q_str) (qa_cons (q_str) (qa_nil))))) (qa_nil)))))))) (qa_nil)))))
abbrev st_law : Stmt := topS 43
abbrev N_law : List Str := ["script", "d", "ahead", "k", "behind", "share", "cell", "words", "at", "turned", "place", "word", "bad", "strange", "figures", "long", "e"]
theorem sc_law : FnScope N_law ["script"] (defScope st_law) := ⟨rfl, rfl, rfl, by decide +kernel, rfl, by decide +kernel, by decide +kernel⟩
theorem t_law (T : Txt K mg) {k : Nat} {cdv : Value} {A : Around} {outer : List PySem.Env} {s0 : Shared} {H : Hp} {E : XK} {f : Addr} (hr : Room k (A.deeper (envOfC "law" (defScope st_law) s0.heap.objs.size f cdv)))  {j__law_begin : Nat} {s__law_begin : DSp} (c__law_begin : Cal P w K mg base CX0 j__law_begin "_law_begin" ["script"] s__law_begin) (h__law_begin : j__law_begin ≤ k) {j__law_take : Nat} {s__law_take : DSp} (c__law_take : Cal P w K mg base CX0 j__law_take "_law_take" ["d", "many"] s__law_take) (h__law_take : j__law_take ≤ k) {j__law_part : Nat} {s__law_part : DSp} (c__law_part : Cal P w K mg base CX0 j__law_part "_law_part" ["d"] s__law_part) (h__law_part : j__law_part ≤ k) {j__law_pick : Nat} {s__law_pick : DSp} (c__law_pick : Cal P w K mg base CX0 j__law_pick "_law_pick" ["d", "menu"] s__law_pick) (h__law_pick : j__law_pick ≤ k) {j__law_told : Nat} {s__law_told : DSp} (c__law_told : Cal P w K mg base CX0 j__law_told "_law_told" ["text"] s__law_told) (h__law_told : j__law_told ≤ k) {C_TextError : Addr} (gc_TextError : mg "TextError" = some (.ref C_TextError)) {j_parse_assertion : Nat} {s_parse_assertion : DSp} (c_parse_assertion : Cal P w K mg base (L2.CX P w) j_parse_assertion "parse_assertion" ["text"] s_parse_assertion) (h_parse_assertion : j_parse_assertion ≤ k) :
    PSs (cxOf CX0 P w K mg base N_law "law" (defScope st_law) f cdv A outer s0 H E).nox (defBody st_law) (upS K B0 (r_law K s__law_begin s__law_take s__law_part s__law_pick s__law_told C_TextError s_parse_assertion)) := by
  have nd := sc_law.nd
  exact qss_cons (qs_set (i := 1) nd rfl (by first | exact Or.inl rfl | exact Or.inr rfl) (q_c c__law_begin hr h__law_begin rfl (qa_cons (q_var 0) (qa_nil)))) (qss_cons (qs_set (i := 2) nd rfl (by first | exact Or.inl rfl | exact Or.inr rfl) (q_lst (qa_nil))) (qss_cons (qs_for PassesOwn.never rfl (qi_rng1 rfl T.n_range (qa_cons (q_c c__law_take hr h__law_take rfl (qa_cons (q_var 1) (qa_cons (q_int) (qa_nil)))) (qa_nil))) (qg_name (i := 3) nd rfl (by first | exact Or.inl rfl | exact Or.inr rfl)) (qss_one (qs_set (i := 2) nd rfl (by first | exact Or.inl rfl | exact Or.inr rfl) (q_op op_plus l_plus (q_op op_plus l_plus (q_var 2) (q_c c__law_part hr h__law_part rfl (qa_cons (q_var 1) (qa_nil)))) (q_lst (qa_cons (q_str) (qa_nil))))))) (qss_cons (qs_set (i := 4) nd rfl (by first | exact Or.inl rfl | exact Or.inr rfl) (q_lst (qa_nil))) (qss_cons (qs_for PassesOwn.never rfl (qi_rng1 rfl T.n_range (qa_cons (q_c c__law_take hr h__law_take rfl (qa_cons (q_var 1) (qa_cons (q_int) (qa_nil)))) (qa_nil))) (qg_name (i := 3) nd rfl (by first | exact Or.inl rfl | exact Or.inr rfl)) (qss_one (qs_set (i := 4) nd rfl (by first | exact Or.inl rfl | exact Or.inr rfl) (q_op op_plus l_plus (q_op op_plus l_plus (q_var 4) (q_lst (qa_cons (q_str) (qa_nil)))) (q_c c__law_part hr h__law_part rfl (qa_cons (q_var 1) (qa_nil))))))) (qss_cons (qs_set (i := 5) nd rfl (by first | exact Or.inl rfl | exact Or.inr rfl) (q_op op_plus l_plus (q_int) (q_c c__law_take hr h__law_take rfl (qa_cons (q_var 1) (qa_cons (q_int) (qa_nil)))))) (qss_cons (qs_set (i := 6) nd rfl (by first | exact Or.inl rfl | exact Or.inr rfl) (q_lst (qa_cons (q_str) (qa_cons (q_str) (qa_cons (q_str) (qa_cons (q_c c__law_pick hr h__law_pick rfl (qa_cons (q_var 1) (qa_cons (q_lst (qa_cons (q_str) (qa_cons (q_str) (qa_cons (q_str) (qa_nil))))) (qa_nil)))) (qa_cons (q_str) (qa_cons (q_c c__law_pick hr h__law_pick rfl (qa_cons (q_var 1) (qa_cons (q_lst (qa_cons (q_str) (qa_cons (q_str) (qa_cons (q_str) (qa_nil))))) (qa_nil)))) (qa_cons (q_str) (qa_cons (q_str) (qa_cons (q_callTy call_strA l_strA (by rfl) T.n_str (by decide +kernel) (qa_cons (q_var 5) (qa_nil))) (qa_nil)))))))))))) (qss_cons (qs_set (i := 7) nd rfl (by first | exact Or.inl rfl | exact Or.inr rfl) (q_op op_plus l_plus (q_op op_plus l_plus (q_var 2) (q_var 6)) (q_var 4))) (qss_cons (qs_set (i := 8) nd rfl (by first | exact Or.inl rfl | exact Or.inr rfl) (q_callB call_lenA l_len (by rfl) T.n_len PySem.boot_len (qa_cons (q_var 2) (qa_nil)))) (qss_cons (qs_if (qt_cmp op_notN l_notN (q_c c__law_told hr h__law_told rfl (qa_cons (q_bm PySem.F.plainAttrs_str PySem.F.slot_str_join PySem.F.type_str_join mt_join l_join (q_str) (qa_cons (q_var 7) (qa_nil))) (qa_nil))) (q_non) (nomark _)) (qss_one (qs_ret (q_bl))) (qss_nil)) (qss_cons (qs_set (i := 9) nd rfl (by first | exact Or.inl rfl | exact Or.inr rfl) (q_lst (qa_cons (q_lst (qa_cons (q_str) (qa_cons (q_str) (qa_cons (q_str) (qa_nil))))) (qa_cons (q_lst (qa_cons (q_str) (qa_cons (q_str) (qa_cons (q_str) (qa_nil))))) (qa_cons (q_lst (qa_cons (q_str) (qa_cons (q_str) (qa_cons (q_str) (qa_nil))))) (qa_cons (q_lst (qa_cons (q_str) (qa_cons (q_str) (qa_cons (q_str) (qa_nil))))) (qa_cons (q_lst (qa_cons (q_str) (qa_cons (q_str) (qa_cons (q_str) (qa_nil))))) (qa_cons (q_lst (qa_cons (q_str) (qa_cons (q_str) (qa_cons (q_str) (qa_nil))))) (qa_cons (q_lst (qa_cons (q_str) (qa_cons (q_str) (qa_cons (q_str) (qa_nil))))) (qa_cons (q_lst (qa_cons (q_str) (qa_cons (q_str) (qa_cons (q_str) (qa_nil))))) (qa_cons (q_lst (qa_cons (q_str) (qa_cons (q_str) (qa_cons (q_str) (qa_cons (q_str) (qa_cons (q_callTy call_strA l_strA (by rfl) T.n_str (by decide +kernel) (qa_cons (q_op op_plus l_plus (q_int) (q_c c__law_take hr h__law_take rfl (qa_cons (q_var 1) (qa_cons (q_op op_pow l_I (q_int) (q_int)) (qa_nil))))) (qa_nil))) (qa_nil))))))) (qa_nil)))))))))))) (qss_cons (qs_for PassesOwn.never rfl (qi_rng1 rfl T.n_range (qa_cons (q_callB call_lenA l_len (by rfl) T.n_len PySem.boot_len (qa_cons (q_var 6) (qa_nil))) (qa_nil))) (qg_name (i := 10) nd rfl (by first | exact Or.inl rfl | exact Or.inr rfl)) (qss_cons (qs_set (i := 11) nd rfl (by first | exact Or.inl rfl | exact Or.inr rfl) (q_c c__law_pick hr h__law_pick rfl (qa_cons (q_var 1) (qa_cons (q_ix (ix_all (hu_of hr)) l_sub (q_var 9) (q_var 10)) (qa_nil))))) (qss_cons (qs_set (i := 12) nd rfl (by first | exact Or.inl rfl | exact Or.inr rfl) (q_op op_plus l_plus (q_op op_plus l_plus (q_op op_plus l_plus (q_op op_plus l_plus (q_var 2) (q_slice (q_var 6) (qo_none) (qo_some (q_var 10)))) (q_lst (qa_cons (q_var 11) (qa_nil)))) (q_slice (q_var 6) (qo_some (q_op op_plus l_plus (q_var 10) (q_int))) (qo_none))) (q_var 4))) (qss_cons (qs_if (qt_cmp (op_neA hr.units) l_ne (q_c c__law_told hr h__law_told rfl (qa_cons (q_bm PySem.F.plainAttrs_str PySem.F.slot_str_join PySem.F.type_str_join mt_join l_join (q_str) (qa_cons (q_var 12) (qa_nil))) (qa_nil))) (q_tup (qa_cons (q_str) (qa_cons (q_op op_plus l_plus (q_var 8) (q_var 10)) (qa_nil)))) (nomark _)) (qss_one (qs_ret (q_bl))) (qss_nil)) (qss_one (qs_if (PW.pt (qw_or (qt_chain op_lt l_I0 op_lt l_I0 (q_int) (q_var 10) (q_int)) (qw_or1 (qt_cmp (op_eqA hr.units) l_eq (q_var 10) (q_int) (nomark _))))) (qss_one (qs_if (qt_cmp (op_neA hr.units) l_ne (q_c c__law_told hr h__law_told rfl (qa_cons (q_bm PySem.F.plainAttrs_str PySem.F.slot_str_join PySem.F.type_str_join mt_join l_join (q_str) (qa_cons (q_op op_plus l_plus (q_var 2) (q_slice (q_var 6) (qo_none) (qo_some (q_var 10)))) (qa_nil))) (qa_nil))) (q_tup (qa_cons (q_str) (qa_cons (q_op op_plus l_plus (q_var 8) (q_var 10)) (qa_nil)))) (nomark _)) (qss_one (qs_ret (q_bl))) (qss_nil))) (qss_nil))))))) (qss_cons (qs_set (i := 10) nd rfl (by first | exact Or.inl rfl | exact Or.inr rfl) (q_c c__law_take hr h__law_take rfl (qa_cons (q_var 1) (qa_cons (q_op op_plus l_plus (q_callB call_lenA l_len (by rfl) T.n_len PySem.boot_len (qa_cons (q_var 7) (qa_nil))) (q_int)) (qa_nil))))) (qss_cons (qs_set (i := 13) nd rfl (by first | exact Or.inl rfl | exact Or.inr rfl) (q_c c__law_pick hr h__law_pick rfl (qa_cons (q_var 1) (qa_cons (q_lst (qa_cons (q_str) (qa_cons (q_str) (qa_cons (q_str) (qa_cons (q_str) (qa_cons (q_str) (qa_cons (q_op op_plus l_plus (q_slice (q_str) (qo_none) (qo_some (q_int))) (q_str)) (qa_cons (q_str) (qa_nil))))))))) (qa_nil))))) (qss_cons (qs_if (qt_cmp (op_neA hr.units) l_ne (q_c c__law_told hr h__law_told rfl (qa_cons (q_bm PySem.F.plainAttrs_str PySem.F.slot_str_join PySem.F.type_str_join mt_join l_join (q_str) (qa_cons (q_op op_plus l_plus (q_op op_plus l_plus (q_slice (q_var 7) (qo_none) (qo_some (q_var 10))) (q_lst (qa_cons (q_var 13) (qa_nil)))) (q_slice (q_var 7) (qo_some (q_var 10)) (qo_none))) (qa_nil))) (qa_nil))) (q_tup (qa_cons (q_str) (qa_cons (q_var 10) (qa_nil)))) (nomark _)) (qss_one (qs_ret (q_bl))) (qss_nil)) (qss_cons (qs_if (qt_cmp (op_neA hr.units) l_ne (q_c c__law_told hr h__law_told rfl (qa_cons (q_bm PySem.F.plainAttrs_str PySem.F.slot_str_join PySem.F.type_str_join mt_join l_join (q_str) (qa_cons (q_op op_plus l_plus (q_op op_plus l_plus (q_op op_plus l_plus (q_slice (q_var 7) (qo_none) (qo_some (q_var 8))) (q_lst (qa_cons (q_str) (qa_nil)))) (q_slice (q_var 7) (qo_some (q_var 8)) (qo_some (q_var 10)))) (q_lst (qa_cons (q_var 13) (qa_nil)))) (qa_nil))) (qa_nil))) (q_tup (qa_cons (q_str) (qa_cons (q_callB (call_max2 rfl) l_max2 (by rfl) T.n_max (by decide +kernel) (qa_cons (q_op op_plus l_plus (q_var 8) (q_int)) (qa_cons (q_op op_plus l_plus (q_var 10) (q_int)) (qa_nil)))) (qa_nil)))) (nomark _)) (qss_one (qs_ret (q_bl))) (qss_nil)) (qss_cons (qs_set (i := 14) nd rfl (by first | exact Or.inl rfl | exact Or.inr rfl) (q_c c__law_pick hr h__law_pick rfl (qa_cons (q_var 1) (qa_cons (q_lst (qa_cons (q_str) (qa_cons (q_str) (qa_cons (q_str) (qa_nil))))) (qa_nil))))) (qss_cons (qs_set (i := 15) nd rfl (by first | exact Or.inl rfl | exact Or.inr rfl) (q_op op_plus l_plus (q_var 14) (q_op op_mulS l_mulS (q_str) (q_op op_sub l_I0 (q_int) (q_callB call_lenA l_len (by rfl) T.n_len PySem.boot_len (qa_cons (q_var 14) (qa_nil))))))) (qss_cons (qs_if (PW.pt (qw_or (qt_cmp op_notN l_notN (q_c c__law_told hr h__law_told rfl (qa_cons (q_op op_plus l_plus (q_str) (q_var 15)) (qa_nil))) (q_non) (nomark _)) (qw_or1 (qt_cmp op_notN l_notN (q_c c__law_told hr h__law_told rfl (qa_cons (q_op op_plus l_plus (q_str) (q_var 15)) (qa_nil))) (q_non) (nomark _))))) (qss_one (qs_ret (q_bl))) (qss_nil)) (qss_cons (qs_if (PW.pt (qw_or (qt_cmp (op_neA hr.units) l_ne (q_c c__law_told hr h__law_told rfl (qa_cons (q_op op_plus l_plus (q_op op_plus l_plus (q_str) (q_var 15)) (q_str)) (qa_nil))) (q_tup (qa_cons (q_str) (qa_cons (q_int) (qa_nil)))) (nomark _)) (qw_or1 (qt_cmp (op_neA hr.units) l_ne (q_c c__law_told hr h__law_told rfl (qa_cons (q_op op_plus l_plus (q_op op_plus l_plus (q_str) (q_var 15)) (q_str)) (qa_nil))) (q_tup (qa_cons (q_str) (qa_cons (q_int) (qa_nil)))) (nomark _))))) (qss_one (qs_ret (q_bl))) (qss_nil)) (qss_cons (qs_if (PW.pt (qw_or (qt_cmp (op_neA hr.units) l_ne (q_c c__law_told hr h__law_told rfl (qa_cons (q_str) (qa_nil))) (q_tup (qa_cons (q_str) (qa_cons (q_int) (qa_nil)))) (nomark _)) (qw_or (qt_cmp (op_neA hr.units) l_ne (q_c c__law_told hr h__law_told rfl (qa_cons (q_str) (qa_nil))) (q_tup (qa_cons (q_str) (qa_cons (q_int) (qa_nil)))) (nomark _)) (qw_or1 (qt_cmp (op_neA hr.units) l_ne (q_c c__law_told hr h__law_told rfl (qa_cons (q_str) (qa_nil))) (q_tup (qa_cons (q_str) (qa_cons (q_int) (qa_nil)))) (nomark _)))))) (qss_one (qs_ret (q_bl))) (qss_nil)) (qss_cons (qs_try_as (i := 16) rfl rfl nd rfl rfl ⟨rfl, by decide, .inl gc_TextError⟩ takesN (fun W1 B1 pn1 xe1 tk1 hp1 => qss_one (qs_expr (q_cX c_parse_assertion hr h_parse_assertion rfl tk1 (qa_cons (q_op op_plus l_plus (q_bm PySem.F.plainAttrs_str PySem.F.slot_str_join PySem.F.type_str_join mt_join l_join (q_str) (qa_cons (q_var 7) (qa_nil))) (q_str)) (qa_nil))))) (fun a1 oe1 cls1 dx1 qn1 D1 vs1 fs1 hz1 hf1 hB1 hr1 => qss_one (qs_ret (q_and (q_cmp (op_eqA hr.units) l_eq (q_xf hz1 hf1 hB1 hr1 (q_var 16)) (q_str) (nomark _)) (q_one (q_cmp (op_eqA hr.units) l_eq (q_xf hz1 hf1 hB1 hr1 (q_var 16)) (q_op op_plus l_plus (q_callB call_lenA l_len (by rfl) T.n_len PySem.boot_len (qa_cons (q_var 7) (qa_nil))) (q_int)) (nomark _))))))) (qss_one (qs_ret (q_bl))))))))))))))))))))))))
end
end K04


set_option Elab.async false
set_option linter.all false
set_option maxRecDepth 100000
set_option maxHeartbeats 4000000
/-! the join of the law, printed by joinlib.py -/
namespace K04
open PySem PySem.Spec PyProof.Rows L2 Y YD
theorem room11 : Room 12 callerA := ⟨rfl, by decide, by decide⟩
theorem supsc_InputError : SupScope [("self" : Str), "code"] (defScope (inClass (topS 3) 0)) := ⟨rfl, rfl, rfl, by decide +kernel, by decide +kernel, by decide +kernel, by decide +kernel, by decide +kernel, by decide +kernel⟩
theorem supsc_TextError : SupScope [("self" : Str), "code", "at"] (defScope (inClass (topS 4) 0)) := ⟨rfl, rfl, rfl, by decide +kernel, by decide +kernel, by decide +kernel, by decide +kernel, by decide +kernel, by decide +kernel⟩
theorem fn_false {P : Program} {w : World} {K : PySem.W.Frag} {mg : Str → Option Value} {base : Heap} {CX : CXT} {k : Nat} {f : Addr} {fd : FuncData} {ps : List Str} : FnOk P w K mg base CX k f fd ps (spOf K fun _ _ _ _ => False) :=
  ⟨fun _ _ _ _ ⟨_, _, _, _, _, _, _, h, _⟩ => h.elim, fun _ _ _ _ _ _ _ _ _ _ _ _ _ ⟨_, _, _, _, _, _, _, h, _⟩ => h.elim⟩
section
variable {P : Program} {w : World} {K : PySem.W.Frag} {mg : Str → Option Value} {base : Heap}
theorem ok_all (T : Txt K mg)
    {C_Reader : Addr} (cl_Reader : Cls K C_Reader) (gC_Reader : mg "Reader" = some (.ref C_Reader))
    (na_Reader__words : NoAttr K C_Reader "_words")
    (na_Reader_at : NoAttr K C_Reader "at")
    {C_HeldError : Addr} (gc_HeldError : mg "HeldError" = some (.ref C_HeldError))
    {C_InputError : Addr} (gc_InputError : mg "InputError" = some (.ref C_InputError))
    {C_TextError : Addr} (gc_TextError : mg "TextError" = some (.ref C_TextError))
    (x_InputError : Xcal P w K mg base 1 "InputError" C_InputError ["code"])
    (x_TextError : Xcal P w K mg base 1 "TextError" C_TextError ["code", "at"])
    (tg_LETTERS : ∃ u v, mg "LETTERS" = some u ∧ RelV v u ∧ ∀ F, Rep K F v g_LETTERS)
    (tg_DIGITS : ∃ u v, mg "DIGITS" = some u ∧ RelV v u ∧ ∀ F, Rep K F v g_DIGITS)
    (tg_MOST_FIGURES : ∃ u v, mg "MOST_FIGURES" = some u ∧ RelV v u ∧ ∀ F, Rep K F v g_MOST_FIGURES)
    (tg_WHOLE : ∃ u v, mg "WHOLE" = some u ∧ RelV v u ∧ ∀ F, Rep K F v g_WHOLE)
    (tg_SIGNS : ∃ u v, mg "SIGNS" = some u ∧ RelV v u ∧ ∀ F, Rep K F v g_SIGNS)
    (tg_WORDS : ∃ u v, mg "WORDS" = some u ∧ RelV v u ∧ ∀ F, Rep K F v g_WORDS)
    (xt : XT K C_HeldError C_InputError C_TextError) (tt : PySem.W.exmOne K (.ref C_TextError) (.ref C_TextError) = some true)
    {f__law_begin : Addr} {fd__law_begin : FuncData}
    (F__law_begin : Fun K "_law_begin" "_law_begin" st__law_begin f__law_begin fd__law_begin)
    (b__law_begin : L2.Binds K fd__law_begin ["script"] [])
    (g__law_begin : mg "_law_begin" = some (.ref f__law_begin)) (q__law_begin : PySem.W.keepIn K (.ref f__law_begin) = true)
    {f__law_take : Addr} {fd__law_take : FuncData}
    (F__law_take : Fun K "_law_take" "_law_take" st__law_take f__law_take fd__law_take)
    (b__law_take : L2.Binds K fd__law_take ["d", "many"] [])
    (g__law_take : mg "_law_take" = some (.ref f__law_take)) (q__law_take : PySem.W.keepIn K (.ref f__law_take) = true)
    {f__law_pick : Addr} {fd__law_pick : FuncData}
    (F__law_pick : Fun K "_law_pick" "_law_pick" st__law_pick f__law_pick fd__law_pick)
    (b__law_pick : L2.Binds K fd__law_pick ["d", "menu"] [])
    (g__law_pick : mg "_law_pick" = some (.ref f__law_pick)) (q__law_pick : PySem.W.keepIn K (.ref f__law_pick) = true)
    {f_is_whole : Addr} {fd_is_whole : FuncData}
    (F_is_whole : Fun K "is_whole" "is_whole" st_is_whole f_is_whole fd_is_whole)
    (b_is_whole : L2.Binds K fd_is_whole ["value"] [])
    (g_is_whole : mg "is_whole" = some (.ref f_is_whole)) (q_is_whole : PySem.W.keepIn K (.ref f_is_whole) = true)
    {f_is_number : Addr} {fd_is_number : FuncData}
    (F_is_number : Fun K "is_number" "is_number" st_is_number f_is_number fd_is_number)
    (b_is_number : L2.Binds K fd_is_number ["value"] [])
    (g_is_number : mg "is_number" = some (.ref f_is_number)) (q_is_number : PySem.W.keepIn K (.ref f_is_number) = true)
    {f_is_made : Addr} {fd_is_made : FuncData}
    (F_is_made : Fun K "is_made" "is_made" st_is_made f_is_made fd_is_made)
    (b_is_made : L2.Binds K fd_is_made ["word"] [])
    (g_is_made : mg "is_made" = some (.ref f_is_made)) (q_is_made : PySem.W.keepIn K (.ref f_is_made) = true)
    {f_is_plain_name : Addr} {fd_is_plain_name : FuncData}
    (F_is_plain_name : Fun K "is_plain_name" "is_plain_name" st_is_plain_name f_is_plain_name fd_is_plain_name)
    (b_is_plain_name : L2.Binds K fd_is_plain_name ["word"] [])
    (g_is_plain_name : mg "is_plain_name" = some (.ref f_is_plain_name)) (q_is_plain_name : PySem.W.keepIn K (.ref f_is_plain_name) = true)
    {f_is_name : Addr} {fd_is_name : FuncData}
    (F_is_name : Fun K "is_name" "is_name" st_is_name f_is_name fd_is_name)
    (b_is_name : L2.Binds K fd_is_name ["word"] [])
    (g_is_name : mg "is_name" = some (.ref f_is_name)) (q_is_name : PySem.W.keepIn K (.ref f_is_name) = true)
    {f_is_term : Addr} {fd_is_term : FuncData}
    (F_is_term : Fun K "is_term" "is_term" st_is_term f_is_term fd_is_term)
    (b_is_term : L2.Binds K fd_is_term ["value"] [])
    (g_is_term : mg "is_term" = some (.ref f_is_term)) (q_is_term : PySem.W.keepIn K (.ref f_is_term) = true)
    {f_is_fact : Addr} {fd_is_fact : FuncData}
    (F_is_fact : Fun K "is_fact" "is_fact" st_is_fact f_is_fact fd_is_fact)
    (b_is_fact : L2.Binds K fd_is_fact ["fact"] [])
    (g_is_fact : mg "is_fact" = some (.ref f_is_fact)) (q_is_fact : PySem.W.keepIn K (.ref f_is_fact) = true)
    {f_is_item : Addr} {fd_is_item : FuncData}
    (F_is_item : Fun K "is_item" "is_item" st_is_item f_is_item fd_is_item)
    (b_is_item : L2.Binds K fd_is_item ["item"] [])
    (g_is_item : mg "is_item" = some (.ref f_is_item)) (q_is_item : PySem.W.keepIn K (.ref f_is_item) = true)
    {f_led_to : Addr} {fd_led_to : FuncData}
    (F_led_to : Fun K "led_to" "led_to" st_led_to f_led_to fd_led_to)
    (b_led_to : L2.Binds K fd_led_to ["shape"] [])
    (g_led_to : mg "led_to" = some (.ref f_led_to)) (q_led_to : PySem.W.keepIn K (.ref f_led_to) = true)
    {f_check_shape : Addr} {fd_check_shape : FuncData}
    (F_check_shape : Fun K "check_shape" "check_shape" st_check_shape f_check_shape fd_check_shape)
    (b_check_shape : L2.Binds K fd_check_shape ["shape"] [])
    (g_check_shape : mg "check_shape" = some (.ref f_check_shape)) (q_check_shape : PySem.W.keepIn K (.ref f_check_shape) = true)
    {f_part_end : Addr} {fd_part_end : FuncData}
    (F_part_end : Fun K "part_end" "part_end" st_part_end f_part_end fd_part_end)
    (b_part_end : L2.Binds K fd_part_end ["text", "at"] [])
    (g_part_end : mg "part_end" = some (.ref f_part_end)) (q_part_end : PySem.W.keepIn K (.ref f_part_end) = true)
    {f_sign_at : Addr} {fd_sign_at : FuncData}
    (F_sign_at : Fun K "sign_at" "sign_at" st_sign_at f_sign_at fd_sign_at)
    (b_sign_at : L2.Binds K fd_sign_at ["text", "at"] [])
    (g_sign_at : mg "sign_at" = some (.ref f_sign_at)) (q_sign_at : PySem.W.keepIn K (.ref f_sign_at) = true)
    {f_words_of : Addr} {fd_words_of : FuncData}
    (F_words_of : Fun K "words_of" "words_of" st_words_of f_words_of fd_words_of)
    (b_words_of : L2.Binds K fd_words_of ["text"] [])
    (g_words_of : mg "words_of" = some (.ref f_words_of)) (q_words_of : PySem.W.keepIn K (.ref f_words_of) = true)
    {f_Reader___init__ : Addr} {fd_Reader___init__ : FuncData}
    (F_Reader___init__ : Fun K "__init__" "Reader.__init__" st_Reader___init__ f_Reader___init__ fd_Reader___init__)
    (b_Reader___init__ : L2.Binds K fd_Reader___init__ ["self", "words"] [])
    (mk_Reader : Mk K C_Reader f_Reader___init__)
    {f_Reader_peek : Addr} {fd_Reader_peek : FuncData}
    (F_Reader_peek : Fun K "peek" "Reader.peek" st_Reader_peek f_Reader_peek fd_Reader_peek)
    (b_Reader_peek : L2.Binds K fd_Reader_peek ["self"] [])
    (m_Reader_peek : Meth K C_Reader "peek" f_Reader_peek)
    {f_Reader_stop : Addr} {fd_Reader_stop : FuncData}
    (F_Reader_stop : Fun K "stop" "Reader.stop" st_Reader_stop f_Reader_stop fd_Reader_stop)
    (b_Reader_stop : L2.Binds K fd_Reader_stop ["self"] [])
    (m_Reader_stop : Meth K C_Reader "stop" f_Reader_stop)
    {f_Reader_skip : Addr} {fd_Reader_skip : FuncData}
    (F_Reader_skip : Fun K "skip" "Reader.skip" st_Reader_skip f_Reader_skip fd_Reader_skip)
    (b_Reader_skip : L2.Binds K fd_Reader_skip ["self", "word"] [])
    (m_Reader_skip : Meth K C_Reader "skip" f_Reader_skip)
    {f_Reader_need : Addr} {fd_Reader_need : FuncData}
    (F_Reader_need : Fun K "need" "Reader.need" st_Reader_need f_Reader_need fd_Reader_need)
    (b_Reader_need : L2.Binds K fd_Reader_need ["self", "word"] [])
    (m_Reader_need : Meth K C_Reader "need" f_Reader_need)
    {f_Reader_take : Addr} {fd_Reader_take : FuncData}
    (F_Reader_take : Fun K "take" "Reader.take" st_Reader_take f_Reader_take fd_Reader_take)
    (b_Reader_take : L2.Binds K fd_Reader_take ["self"] [])
    (m_Reader_take : Meth K C_Reader "take" f_Reader_take)
    {f_Reader_number : Addr} {fd_Reader_number : FuncData}
    (F_Reader_number : Fun K "number" "Reader.number" st_Reader_number f_Reader_number fd_Reader_number)
    (b_Reader_number : L2.Binds K fd_Reader_number ["self"] [])
    (m_Reader_number : Meth K C_Reader "number" f_Reader_number)
    {f_Reader_end : Addr} {fd_Reader_end : FuncData}
    (F_Reader_end : Fun K "end" "Reader.end" st_Reader_end f_Reader_end fd_Reader_end)
    (b_Reader_end : L2.Binds K fd_Reader_end ["self"] [])
    (m_Reader_end : Meth K C_Reader "end" f_Reader_end)
    {f_read_term : Addr} {fd_read_term : FuncData}
    (F_read_term : Fun K "read_term" "read_term" st_read_term f_read_term fd_read_term)
    (b_read_term : L2.Binds K fd_read_term ["reader"] [])
    (g_read_term : mg "read_term" = some (.ref f_read_term)) (q_read_term : PySem.W.keepIn K (.ref f_read_term) = true)
    {f_read_names : Addr} {fd_read_names : FuncData}
    (F_read_names : Fun K "read_names" "read_names" st_read_names f_read_names fd_read_names)
    (b_read_names : L2.Binds K fd_read_names ["reader"] [])
    (g_read_names : mg "read_names" = some (.ref f_read_names)) (q_read_names : PySem.W.keepIn K (.ref f_read_names) = true)
    {f_read_cell : Addr} {fd_read_cell : FuncData}
    (F_read_cell : Fun K "read_cell" "read_cell" st_read_cell f_read_cell fd_read_cell)
    (b_read_cell : L2.Binds K fd_read_cell ["reader", "at"] [])
    (g_read_cell : mg "read_cell" = some (.ref f_read_cell)) (q_read_cell : PySem.W.keepIn K (.ref f_read_cell) = true)
    {f_read_part : Addr} {fd_read_part : FuncData}
    (F_read_part : Fun K "read_part" "read_part" st_read_part f_read_part fd_read_part)
    (b_read_part : L2.Binds K fd_read_part ["reader"] [])
    (g_read_part : mg "read_part" = some (.ref f_read_part)) (q_read_part : PySem.W.keepIn K (.ref f_read_part) = true)
    {f_read_shape : Addr} {fd_read_shape : FuncData}
    (F_read_shape : Fun K "read_shape" "read_shape" st_read_shape f_read_shape fd_read_shape)
    (b_read_shape : L2.Binds K fd_read_shape ["reader"] [])
    (g_read_shape : mg "read_shape" = some (.ref f_read_shape)) (q_read_shape : PySem.W.keepIn K (.ref f_read_shape) = true)
    {f_read_assertion : Addr} {fd_read_assertion : FuncData}
    (F_read_assertion : Fun K "read_assertion" "read_assertion" st_read_assertion f_read_assertion fd_read_assertion)
    (b_read_assertion : L2.Binds K fd_read_assertion ["reader"] [])
    (g_read_assertion : mg "read_assertion" = some (.ref f_read_assertion)) (q_read_assertion : PySem.W.keepIn K (.ref f_read_assertion) = true)
    {f_parse_shape : Addr} {fd_parse_shape : FuncData}
    (F_parse_shape : Fun K "parse_shape" "parse_shape" st_parse_shape f_parse_shape fd_parse_shape)
    (b_parse_shape : L2.Binds K fd_parse_shape ["text"] [])
    (g_parse_shape : mg "parse_shape" = some (.ref f_parse_shape)) (q_parse_shape : PySem.W.keepIn K (.ref f_parse_shape) = true)
    {f_check_assertion : Addr} {fd_check_assertion : FuncData}
    (F_check_assertion : Fun K "check_assertion" "check_assertion" st_check_assertion f_check_assertion fd_check_assertion)
    (b_check_assertion : L2.Binds K fd_check_assertion ["assertion"] [])
    (g_check_assertion : mg "check_assertion" = some (.ref f_check_assertion)) (q_check_assertion : PySem.W.keepIn K (.ref f_check_assertion) = true)
    {f_parse_assertion : Addr} {fd_parse_assertion : FuncData}
    (F_parse_assertion : Fun K "parse_assertion" "parse_assertion" st_parse_assertion f_parse_assertion fd_parse_assertion)
    (b_parse_assertion : L2.Binds K fd_parse_assertion ["text"] [])
    (g_parse_assertion : mg "parse_assertion" = some (.ref f_parse_assertion)) (q_parse_assertion : PySem.W.keepIn K (.ref f_parse_assertion) = true)
    {f__law_told : Addr} {fd__law_told : FuncData}
    (F__law_told : Fun K "_law_told" "_law_told" st__law_told f__law_told fd__law_told)
    (b__law_told : L2.Binds K fd__law_told ["text"] [])
    (g__law_told : mg "_law_told" = some (.ref f__law_told)) (q__law_told : PySem.W.keepIn K (.ref f__law_told) = true)
    {f__law_part : Addr} {fd__law_part : FuncData}
    (F__law_part : Fun K "_law_part" "_law_part" st__law_part f__law_part fd__law_part)
    (b__law_part : L2.Binds K fd__law_part ["d"] [])
    (g__law_part : mg "_law_part" = some (.ref f__law_part)) (q__law_part : PySem.W.keepIn K (.ref f__law_part) = true)
    {f_law : Addr} {fd_law : FuncData}
    (F_law : Fun K "law" "law" st_law f_law fd_law)
    (b_law : L2.Binds K fd_law ["script"] [])
    (g_law : mg "law" = some (.ref f_law)) (q_law : PySem.W.keepIn K (.ref f_law) = true)
    : FnOk P w K mg base CX0 12 f_law fd_law ["script"] (spOf K spLaw) := by
  have o_begin : FnOk P w K mg base CX0 1 f__law_begin fd__law_begin ["script"] (spOf K spBegin) := okD (k := 0) F__law_begin sc__law_begin (fun ds M Q E h => by obtain ⟨_, rfl, _⟩ := h; rfl) fun cdv A outer s0 H E hr => ⟨_, t__law_begin T hr , fun ds M Q E h => rd_begin ds M Q E h⟩
  have c_begin : Cal P w K mg base CX0 1 "_law_begin" ["script"] spBegin := ⟨⟨f__law_begin, fd__law_begin, g__law_begin, q__law_begin, b__law_begin, o_begin⟩⟩
  have o_take : FnOk P w K mg base CX0 1 f__law_take fd__law_take ["d", "many"] (spOf K spTake) := okD (k := 0) F__law_take sc__law_take (fun ds M Q E h => by obtain ⟨_, _, _, rfl, _⟩ := h; rfl) fun cdv A outer s0 H E hr => ⟨_, t__law_take T hr , fun ds M Q E h => rd_take ds M Q E h⟩
  have c_take : Cal P w K mg base CX0 1 "_law_take" ["d", "many"] spTake := ⟨⟨f__law_take, fd__law_take, g__law_take, q__law_take, b__law_take, o_take⟩⟩
  have o_pick : FnOk P w K mg base CX0 2 f__law_pick fd__law_pick ["d", "menu"] (spOf K spPick) := okD (k := 1) F__law_pick sc__law_pick (fun ds M Q E h => by obtain ⟨_, _, _, rfl, _⟩ := h; rfl) fun cdv A outer s0 H E hr => ⟨_, t__law_pick T hr c_take (by decide), fun ds M Q E h => rd_pick ds M Q E h⟩
  have c_pick : Cal P w K mg base CX0 2 "_law_pick" ["d", "menu"] spPick := ⟨⟨f__law_pick, fd__law_pick, g__law_pick, q__law_pick, b__law_pick, o_pick⟩⟩
  have o_whole : FnOk P w K mg base CX0 1 f_is_whole fd_is_whole ["value"] (spOf K spWhole) := okD (k := 0) F_is_whole sc_is_whole (fun ds M Q E h => by obtain ⟨_, rfl, _⟩ := h; rfl) fun cdv A outer s0 H E hr => ⟨_, t_is_whole T hr , fun ds M Q E h => rd_whole ds M Q E h⟩
  have c_whole : Cal P w K mg base CX0 1 "is_whole" ["value"] spWhole := ⟨⟨f_is_whole, fd_is_whole, g_is_whole, q_is_whole, b_is_whole, o_whole⟩⟩
  have o_number : FnOk P w K mg base CX0 2 f_is_number fd_is_number ["value"] (spOf K spNumber) := okD (k := 1) F_is_number sc_is_number (fun ds M Q E h => by obtain ⟨_, rfl, _⟩ := h; rfl) fun cdv A outer s0 H E hr => ⟨_, t_is_number T hr c_whole (by decide), fun ds M Q E h => rd_number ds M Q E h⟩
  have c_number : Cal P w K mg base CX0 2 "is_number" ["value"] spNumber := ⟨⟨f_is_number, fd_is_number, g_is_number, q_is_number, b_is_number, o_number⟩⟩
  have o_made : FnOk P w K mg base CX0 1 f_is_made fd_is_made ["word"] (spOf K spMade) := okD (k := 0) F_is_made sc_is_made (fun ds M Q E h => by obtain ⟨_, rfl, _⟩ := h; rfl) fun cdv A outer s0 H E hr => ⟨_, t_is_made T hr tg_DIGITS, fun ds M Q E h => rd_made ds M Q E h⟩
  have c_made : Cal P w K mg base CX0 1 "is_made" ["word"] spMade := ⟨⟨f_is_made, fd_is_made, g_is_made, q_is_made, b_is_made, o_made⟩⟩
  have o_plain : FnOk P w K mg base CX0 1 f_is_plain_name fd_is_plain_name ["word"] (spOf K spPlain) := okD (k := 0) F_is_plain_name sc_is_plain_name (fun ds M Q E h => by obtain ⟨_, rfl, _⟩ := h; rfl) fun cdv A outer s0 H E hr => ⟨_, t_is_plain_name T hr tg_WORDS tg_LETTERS tg_DIGITS, fun ds M Q E h => rd_plain ds M Q E h⟩
  have c_plain : Cal P w K mg base CX0 1 "is_plain_name" ["word"] spPlain := ⟨⟨f_is_plain_name, fd_is_plain_name, g_is_plain_name, q_is_plain_name, b_is_plain_name, o_plain⟩⟩
  have o_name : FnOk P w K mg base CX0 2 f_is_name fd_is_name ["word"] (spOf K spName) := okD (k := 1) F_is_name sc_is_name (fun ds M Q E h => by obtain ⟨_, rfl, _⟩ := h; rfl) fun cdv A outer s0 H E hr => ⟨_, t_is_name T hr c_made (by decide) c_plain (by decide), fun ds M Q E h => rd_name ds M Q E h⟩
  have c_name : Cal P w K mg base CX0 2 "is_name" ["word"] spName := ⟨⟨f_is_name, fd_is_name, g_is_name, q_is_name, b_is_name, o_name⟩⟩
  have o_term : FnOk P w K mg base CX0 3 f_is_term fd_is_term ["value"] (spOf K spTerm) := okD (k := 2) F_is_term sc_is_term (fun ds M Q E h => by obtain ⟨_, rfl, _⟩ := h; rfl) fun cdv A outer s0 H E hr => ⟨_, t_is_term T hr c_number (by decide) c_name (by decide), fun ds M Q E h => rd_term ds M Q E h⟩
  have c_term : Cal P w K mg base CX0 3 "is_term" ["value"] spTerm := ⟨⟨f_is_term, fd_is_term, g_is_term, q_is_term, b_is_term, o_term⟩⟩
  have o_fact : FnOk P w K mg base CX0 4 f_is_fact fd_is_fact ["fact"] (spOf K spFact) := okD (k := 3) F_is_fact sc_is_fact (fun ds M Q E h => by obtain ⟨_, rfl, _⟩ := h; rfl) fun cdv A outer s0 H E hr => ⟨_, t_is_fact T hr c_term (by decide), fun ds M Q E h => rd_fact ds M Q E h⟩
  have c_fact : Cal P w K mg base CX0 4 "is_fact" ["fact"] spFact := ⟨⟨f_is_fact, fd_is_fact, g_is_fact, q_is_fact, b_is_fact, o_fact⟩⟩
  have o_item : FnOk P w K mg base CX0 4 f_is_item fd_is_item ["item"] (spOf K spItem) := okD (k := 3) F_is_item sc_is_item (fun ds M Q E h => by obtain ⟨_, rfl, _⟩ := h; rfl) fun cdv A outer s0 H E hr => ⟨_, t_is_item T hr tg_WHOLE c_whole (by decide) c_term (by decide), fun ds M Q E h => rd_item ds M Q E h⟩
  have c_item : Cal P w K mg base CX0 4 "is_item" ["item"] spItem := ⟨⟨f_is_item, fd_is_item, g_is_item, q_is_item, b_is_item, o_item⟩⟩
  have o_led : FnOk P w K mg base CX0 1 f_led_to fd_led_to ["shape"] (spOf K spLed) := okD (k := 0) F_led_to sc_led_to (fun ds M Q E h => by obtain ⟨_, _, rfl, _⟩ := h; rfl) fun cdv A outer s0 H E hr => ⟨_, t_led_to T hr , fun ds M Q E h => rd_led ds M Q E h⟩
  have c_led : Cal P w K mg base CX0 1 "led_to" ["shape"] spLed := ⟨⟨f_led_to, fd_led_to, g_led_to, q_led_to, b_led_to, o_led⟩⟩
  have o_check : FnOk P w K mg base (L2.CX P w) 5 f_check_shape fd_check_shape ["shape"] (spOf K spCheck) := okDX (k := 4) F_check_shape sc_check_shape (fun ds M Q E h => by obtain ⟨_, rfl, _⟩ := h; rfl) fun cdv A outer s0 H E hr => ⟨_, fun B W tk => t_check_shape T hr x_InputError (by decide) c_name (by decide) c_fact (by decide) c_item (by decide) c_led (by decide) tk, fun ds M Q E h => rd_check C_InputError ds M Q E h⟩
  have c_check : Cal P w K mg base (L2.CX P w) 5 "check_shape" ["shape"] spCheck := ⟨⟨f_check_shape, fd_check_shape, g_check_shape, q_check_shape, b_check_shape, o_check⟩⟩
  have o_pend : FnOk P w K mg base CX0 1 f_part_end fd_part_end ["text", "at"] (spOf K spEnd) := okD (k := 0) F_part_end sc_part_end (fun ds M Q E h => by obtain ⟨_, _, rfl, _⟩ := h; rfl) fun cdv A outer s0 H E hr => ⟨_, t_part_end T hr tg_LETTERS tg_DIGITS, fun ds M Q E h => rd_part_end ds M Q E h⟩
  have c_pend : Cal P w K mg base CX0 1 "part_end" ["text", "at"] spEnd := ⟨⟨f_part_end, fd_part_end, g_part_end, q_part_end, b_part_end, o_pend⟩⟩
  have o_sign : FnOk P w K mg base CX0 1 f_sign_at fd_sign_at ["text", "at"] (spOf K spSign) := okD (k := 0) F_sign_at sc_sign_at (fun ds M Q E h => by obtain ⟨_, _, rfl, _⟩ := h; rfl) fun cdv A outer s0 H E hr => ⟨_, t_sign_at T hr tg_SIGNS, fun ds M Q E h => rd_sign_at ds M Q E h⟩
  have c_sign : Cal P w K mg base CX0 1 "sign_at" ["text", "at"] spSign := ⟨⟨f_sign_at, fd_sign_at, g_sign_at, q_sign_at, b_sign_at, o_sign⟩⟩
  have o_words : FnOk P w K mg base (L2.CX P w) 3 f_words_of fd_words_of ["text"] (spOf K (spWords C_TextError)) := okDX (k := 2) F_words_of sc_words_of (fun ds M Q E h => by obtain ⟨_, rfl, _⟩ := h; rfl) fun cdv A outer s0 H E hr => ⟨_, fun B W tk => t_words_of T hr tg_LETTERS tg_DIGITS c_pend (by decide) c_sign (by decide) x_TextError (by decide) tk, fun ds M Q E h => rd_words C_TextError ds M Q E h⟩
  have c_words : Cal P w K mg base (L2.CX P w) 3 "words_of" ["text"] (spWords C_TextError) := ⟨⟨f_words_of, fd_words_of, g_words_of, q_words_of, b_words_of, o_words⟩⟩
  have o_init : FnOk P w K mg base CX0 1 f_Reader___init__ fd_Reader___init__ ["self", "words"] (spOf K (spInit C_Reader)) := okD (k := 0) F_Reader___init__ sc_Reader___init__ (fun ds M Q E h => by obtain ⟨_, _, _, rfl, _⟩ := h; rfl) fun cdv A outer s0 H E hr => ⟨_, t_Reader___init__ T hr , fun ds M Q E h => rd_init cl_Reader na_Reader__words na_Reader_at ds M Q E h⟩
  have c_init : Kcal P w K mg base CX0 1 "Reader" C_Reader ["self", "words"] (spInit C_Reader) := ⟨⟨f_Reader___init__, fd_Reader___init__, mk_Reader, gC_Reader, b_Reader___init__, o_init⟩⟩
  have o_peek : FnOk P w K mg base CX0 1 f_Reader_peek fd_Reader_peek ["self"] (spOf K (spPeek C_Reader)) := okD (k := 0) F_Reader_peek sc_Reader_peek (fun ds M Q E h => by obtain ⟨_, _, _, _, rfl, _⟩ := h; rfl) fun cdv A outer s0 H E hr => ⟨_, t_Reader_peek T hr , fun ds M Q E h => rd_peek cl_Reader na_Reader__words na_Reader_at ds M Q E h⟩
  have c_peek : Mcal P w K mg base CX0 1 C_Reader "peek" ["self"] (spPeek C_Reader) := ⟨⟨f_Reader_peek, fd_Reader_peek, m_Reader_peek, b_Reader_peek, o_peek⟩⟩
  have o_stop : FnOk P w K mg base (L2.CX P w) 3 f_Reader_stop fd_Reader_stop ["self"] (spOf K (spStop C_Reader C_TextError)) := okDX (k := 2) F_Reader_stop sc_Reader_stop (fun ds M Q E h => by obtain ⟨_, _, _, _, rfl, _⟩ := h; rfl) fun cdv A outer s0 H E hr => ⟨_, fun B W tk => t_Reader_stop T hr x_TextError (by decide) tk, fun ds M Q E h => rd_stop cl_Reader na_Reader__words na_Reader_at C_TextError ds M Q E h⟩
  have c_stop : Mcal P w K mg base (L2.CX P w) 3 C_Reader "stop" ["self"] (spStop C_Reader C_TextError) := ⟨⟨f_Reader_stop, fd_Reader_stop, m_Reader_stop, b_Reader_stop, o_stop⟩⟩
  have o_skip : FnOk P w K mg base CX0 2 f_Reader_skip fd_Reader_skip ["self", "word"] (spOf K (spSkip C_Reader)) := okD (k := 1) F_Reader_skip sc_Reader_skip (fun ds M Q E h => by obtain ⟨_, _, _, _, _, rfl, _⟩ := h; rfl) fun cdv A outer s0 H E hr => ⟨_, t_Reader_skip T hr cl_Reader c_peek (by decide), fun ds M Q E h => rd_skip cl_Reader na_Reader__words na_Reader_at ds M Q E h⟩
  have c_skip : Mcal P w K mg base CX0 2 C_Reader "skip" ["self", "word"] (spSkip C_Reader) := ⟨⟨f_Reader_skip, fd_Reader_skip, m_Reader_skip, b_Reader_skip, o_skip⟩⟩
  have o_need : FnOk P w K mg base (L2.CX P w) 4 f_Reader_need fd_Reader_need ["self", "word"] (spOf K (spNeed C_Reader C_TextError)) := okDX (k := 3) F_Reader_need sc_Reader_need (fun ds M Q E h => by obtain ⟨_, _, _, _, _, rfl, _⟩ := h; rfl) fun cdv A outer s0 H E hr => ⟨_, fun B W tk => t_Reader_need T hr cl_Reader c_skip (by decide) c_stop (by decide) tk, fun ds M Q E h => rd_need cl_Reader na_Reader__words na_Reader_at C_TextError ds M Q E h⟩
  have c_need : Mcal P w K mg base (L2.CX P w) 4 C_Reader "need" ["self", "word"] (spNeed C_Reader C_TextError) := ⟨⟨f_Reader_need, fd_Reader_need, m_Reader_need, b_Reader_need, o_need⟩⟩
  have o_takew : FnOk P w K mg base (L2.CX P w) 4 f_Reader_take fd_Reader_take ["self"] (spOf K (spTakeW C_Reader C_TextError)) := okDX (k := 3) F_Reader_take sc_Reader_take (fun ds M Q E h => by obtain ⟨_, _, _, _, rfl, _⟩ := h; rfl) fun cdv A outer s0 H E hr => ⟨_, fun B W tk => t_Reader_take T hr cl_Reader c_stop (by decide) tk, fun ds M Q E h => rd_takeW cl_Reader na_Reader__words na_Reader_at C_TextError ds M Q E h⟩
  have c_takew : Mcal P w K mg base (L2.CX P w) 4 C_Reader "take" ["self"] (spTakeW C_Reader C_TextError) := ⟨⟨f_Reader_take, fd_Reader_take, m_Reader_take, b_Reader_take, o_takew⟩⟩
  have o_num : FnOk P w K mg base (L2.CX P w) 4 f_Reader_number fd_Reader_number ["self"] (spOf K (spNum C_Reader C_TextError)) := okDX (k := 3) F_Reader_number sc_Reader_number (fun ds M Q E h => by obtain ⟨_, _, _, _, rfl, _⟩ := h; rfl) fun cdv A outer s0 H E hr => ⟨_, fun B W tk => t_Reader_number T hr tg_DIGITS tg_MOST_FIGURES cl_Reader c_peek (by decide) c_stop (by decide) tk, fun ds M Q E h => rd_num cl_Reader na_Reader__words na_Reader_at C_TextError ds M Q E h⟩
  have c_num : Mcal P w K mg base (L2.CX P w) 4 C_Reader "number" ["self"] (spNum C_Reader C_TextError) := ⟨⟨f_Reader_number, fd_Reader_number, m_Reader_number, b_Reader_number, o_num⟩⟩
  have o_end : FnOk P w K mg base (L2.CX P w) 4 f_Reader_end fd_Reader_end ["self"] (spOf K (spEndR C_Reader C_TextError)) := okDX (k := 3) F_Reader_end sc_Reader_end (fun ds M Q E h => by obtain ⟨_, _, _, _, rfl, _⟩ := h; rfl) fun cdv A outer s0 H E hr => ⟨_, fun B W tk => t_Reader_end T hr cl_Reader c_stop (by decide) tk, fun ds M Q E h => rd_endR cl_Reader na_Reader__words na_Reader_at C_TextError ds M Q E h⟩
  have c_end : Mcal P w K mg base (L2.CX P w) 4 C_Reader "end" ["self"] (spEndR C_Reader C_TextError) := ⟨⟨f_Reader_end, fd_Reader_end, m_Reader_end, b_Reader_end, o_end⟩⟩
  have o_rterm : FnOk P w K mg base (L2.CX P w) 5 f_read_term fd_read_term ["reader"] (spOf K (spRd C_Reader C_TextError rTerm)) := okDX (k := 4) F_read_term sc_read_term (fun ds M Q E h => by obtain ⟨_, _, _, _, rfl, _⟩ := h; rfl) fun cdv A outer s0 H E hr => ⟨_, fun B W tk => t_read_term T hr tg_DIGITS cl_Reader c_skip (by decide) c_num (by decide) c_peek (by decide) c_name (by decide) c_stop (by decide) c_takew (by decide) tk, fun ds M Q E h => rd_read_term cl_Reader na_Reader__words na_Reader_at C_TextError ds M Q E h⟩
  have c_rterm : Cal P w K mg base (L2.CX P w) 5 "read_term" ["reader"] (spRd C_Reader C_TextError rTerm) := ⟨⟨f_read_term, fd_read_term, g_read_term, q_read_term, b_read_term, o_rterm⟩⟩
  have o_names : FnOk P w K mg base (L2.CX P w) 5 f_read_names fd_read_names ["reader"] (spOf K (spNames C_Reader C_TextError)) := okDX (k := 4) F_read_names sc_read_names (fun ds M Q E h => by obtain ⟨_, _, _, _, rfl, _⟩ := h; rfl) fun cdv A outer s0 H E hr => ⟨_, fun B W tk => t_read_names T hr cl_Reader c_peek (by decide) c_name (by decide) c_stop (by decide) c_takew (by decide) c_skip (by decide) tk, fun ds M Q E h => rd_names cl_Reader na_Reader__words na_Reader_at C_TextError ds M Q E h⟩
  have c_names : Cal P w K mg base (L2.CX P w) 5 "read_names" ["reader"] (spNames C_Reader C_TextError) := ⟨⟨f_read_names, fd_read_names, g_read_names, q_read_names, b_read_names, o_names⟩⟩
  have o_rcell : FnOk P w K mg base (L2.CX P w) 6 f_read_cell fd_read_cell ["reader", "at"] (spOf K (spCellR C_Reader C_TextError)) := okDX (k := 5) F_read_cell sc_read_cell (fun ds M Q E h => by obtain ⟨_, _, _, _, _, rfl, _⟩ := h; rfl) fun cdv A outer s0 H E hr => ⟨_, fun B W tk => t_read_cell T hr tg_WHOLE cl_Reader c_need (by decide) c_rterm (by decide) c_skip (by decide) c_num (by decide) c_stop (by decide) tk, fun ds M Q E h => rd_read_cell cl_Reader na_Reader__words na_Reader_at C_TextError ds M Q E h⟩
  have c_rcell : Cal P w K mg base (L2.CX P w) 6 "read_cell" ["reader", "at"] (spCellR C_Reader C_TextError) := ⟨⟨f_read_cell, fd_read_cell, g_read_cell, q_read_cell, b_read_cell, o_rcell⟩⟩
  have o_rpart : FnOk P w K mg base (L2.CX P w) 7 f_read_part fd_read_part ["reader"] (spOf K (spRd C_Reader C_TextError rPart)) := okDX (k := 6) F_read_part sc_read_part (fun ds M Q E h => by obtain ⟨_, _, _, _, rfl, _⟩ := h; rfl) fun cdv A outer s0 H E hr => ⟨_, fun B W tk => t_read_part T hr cl_Reader c_skip (by decide) c_need (by decide) c_rterm (by decide) c_rcell (by decide) tk, fun ds M Q E h => rd_read_part cl_Reader na_Reader__words na_Reader_at C_TextError ds M Q E h⟩
  have c_rpart : Cal P w K mg base (L2.CX P w) 7 "read_part" ["reader"] (spRd C_Reader C_TextError rPart) := ⟨⟨f_read_part, fd_read_part, g_read_part, q_read_part, b_read_part, o_rpart⟩⟩
  have o_rshape : FnOk P w K mg base (L2.CX P w) 8 f_read_shape fd_read_shape ["reader"] (spOf K (spRd C_Reader C_TextError rShape)) := okDX (k := 7) F_read_shape sc_read_shape (fun ds M Q E h => by obtain ⟨_, _, _, _, rfl, _⟩ := h; rfl) fun cdv A outer s0 H E hr => ⟨_, fun B W tk => t_read_shape T hr cl_Reader c_skip (by decide) c_names (by decide) c_need (by decide) c_rpart (by decide) tk, fun ds M Q E h => rd_read_shape cl_Reader na_Reader__words na_Reader_at C_TextError ds M Q E h⟩
  have c_rshape : Cal P w K mg base (L2.CX P w) 8 "read_shape" ["reader"] (spRd C_Reader C_TextError rShape) := ⟨⟨f_read_shape, fd_read_shape, g_read_shape, q_read_shape, b_read_shape, o_rshape⟩⟩
  have o_rass : FnOk P w K mg base (L2.CX P w) 9 f_read_assertion fd_read_assertion ["reader"] (spOf K (spAss C_Reader C_TextError)) := okDX (k := 8) F_read_assertion sc_read_assertion (fun ds M Q E h => by obtain ⟨_, _, _, _, rfl, _⟩ := h; rfl) fun cdv A outer s0 H E hr => ⟨_, fun B W tk => t_read_assertion T hr c_rshape (by decide) cl_Reader c_skip (by decide) tk, fun ds M Q E h => rd_ass cl_Reader na_Reader__words na_Reader_at C_TextError ds M Q E h⟩
  have c_rass : Cal P w K mg base (L2.CX P w) 9 "read_assertion" ["reader"] (spAss C_Reader C_TextError) := ⟨⟨f_read_assertion, fd_read_assertion, g_read_assertion, q_read_assertion, b_read_assertion, o_rass⟩⟩
  have o_parse : FnOk P w K mg base (L2.CX P w) 10 f_parse_shape fd_parse_shape ["text"] (spOf K (spParse C_TextError)) := okDX (k := 9) F_parse_shape sc_parse_shape (fun ds M Q E h => by obtain ⟨_, rfl, _⟩ := h; rfl) fun cdv A outer s0 H E hr => ⟨_, fun B W tk => t_parse_shape T hr c_words (by decide) c_init (by decide) c_rshape (by decide) cl_Reader c_end (by decide) c_check (by decide) tk, fun ds M Q E h => rd_parse cl_Reader na_Reader__words na_Reader_at C_TextError ds M Q E h⟩
  have c_parse : Cal P w K mg base (L2.CX P w) 10 "parse_shape" ["text"] (spParse C_TextError) := ⟨⟨f_parse_shape, fd_parse_shape, g_parse_shape, q_parse_shape, b_parse_shape, o_parse⟩⟩
  have o_pa : FnOk P w K mg base (L2.CX P w) 10 f_parse_assertion fd_parse_assertion ["text"] (spOf K (spPA C_TextError)) := okDX (k := 9) F_parse_assertion sc_parse_assertion (fun ds M Q E h => by obtain ⟨_, _, _, rfl, _⟩ := h; rfl) fun cdv A outer s0 H E hr => ⟨_, fun B W tk => t_parse_assertion T hr c_words (by decide) c_init (by decide) c_rass (by decide) cl_Reader c_end (by decide) ((⟨⟨f_check_assertion, fd_check_assertion, g_check_assertion, q_check_assertion, b_check_assertion, fn_false⟩⟩ : Cal P w K mg base (L2.CX P w) 0 "check_assertion" ["assertion"] _)) (Nat.zero_le _) tk, fun ds M Q E h => rd_pa C_TextError ds M Q E h⟩
  have c_pa : Cal P w K mg base (L2.CX P w) 10 "parse_assertion" ["text"] (spPA C_TextError) := ⟨⟨f_parse_assertion, fd_parse_assertion, g_parse_assertion, q_parse_assertion, b_parse_assertion, o_pa⟩⟩
  have o_told : FnOk P w K mg base CX0 11 f__law_told fd__law_told ["text"] (spOf K spTold) := okD (k := 10) F__law_told sc__law_told (fun ds M Q E h => by obtain ⟨_, rfl, _⟩ := h; rfl) fun cdv A outer s0 H E hr => ⟨_, t__law_told T hr gc_HeldError c_parse (by decide) gc_TextError gc_InputError, fun ds M Q E h => rd_told xt ds M Q E h⟩
  have c_told : Cal P w K mg base CX0 11 "_law_told" ["text"] spTold := ⟨⟨f__law_told, fd__law_told, g__law_told, q__law_told, b__law_told, o_told⟩⟩
  have o_part : FnOk P w K mg base CX0 3 f__law_part fd__law_part ["d"] (spOf K spPart) := okD (k := 2) F__law_part sc__law_part (fun ds M Q E h => by obtain ⟨_, _, rfl, _⟩ := h; rfl) fun cdv A outer s0 H E hr => ⟨_, t__law_part T hr c_pick (by decide), fun ds M Q E h => rd_part ds M Q E h⟩
  have c_part : Cal P w K mg base CX0 3 "_law_part" ["d"] spPart := ⟨⟨f__law_part, fd__law_part, g__law_part, q__law_part, b__law_part, o_part⟩⟩
  have o_law : FnOk P w K mg base CX0 12 f_law fd_law ["script"] (spOf K spLaw) := okD (k := 11) F_law sc_law (fun ds M Q E h => by obtain ⟨_, rfl, _⟩ := h; rfl) fun cdv A outer s0 H E hr => ⟨_, t_law T hr c_begin (by decide) c_take (by decide) c_part (by decide) c_pick (by decide) c_told (by decide) gc_TextError c_pa (by decide), fun ds M Q E h => rd_law xt tt ds M Q E h⟩
  exact o_law
end
theorem all_mk {l : PySem.W.OpenLaw} {w : World} {K : PySem.W.Frag} {h : Heap} {mg : Str → Option Value} {fa : Addr} (X : K.In h) (G : h.Ns mainGlobals mg) (hfa : mg "law" = some (.ref fa))
    {f__law_begin f__law_take f__law_pick f_is_whole f_is_number f_is_made f_is_plain_name f_is_name f_is_term f_is_fact f_is_item f_led_to f_check_shape f_part_end f_sign_at f_words_of f_Reader___init__ f_Reader_peek f_Reader_stop f_Reader_skip f_Reader_need f_Reader_take f_Reader_number f_Reader_end f_read_term f_read_names f_read_cell f_read_part f_read_shape f_read_assertion f_parse_shape f_check_assertion f_parse_assertion f__law_told f__law_part f_law : Addr} {od__law_begin an__law_begin od__law_take an__law_take od__law_pick an__law_pick od_is_whole an_is_whole od_is_number an_is_number od_is_made an_is_made od_is_plain_name an_is_plain_name od_is_name an_is_name od_is_term an_is_term od_is_fact an_is_fact od_is_item an_is_item od_led_to an_led_to od_check_shape an_check_shape od_part_end an_part_end od_sign_at an_sign_at od_words_of an_words_of od_Reader___init__ an_Reader___init__ od_Reader_peek an_Reader_peek od_Reader_stop an_Reader_stop od_Reader_skip an_Reader_skip od_Reader_need an_Reader_need od_Reader_take an_Reader_take od_Reader_number an_Reader_number od_Reader_end an_Reader_end od_read_term an_read_term od_read_names an_read_names od_read_cell an_read_cell od_read_part an_read_part od_read_shape an_read_shape od_read_assertion an_read_assertion od_parse_shape an_parse_shape od_check_assertion an_check_assertion od_parse_assertion an_parse_assertion od__law_told an__law_told od__law_part an__law_part od_law an_law : Option Addr} {sl__law_begin sl__law_take sl__law_pick sl_is_whole sl_is_number sl_is_made sl_is_plain_name sl_is_name sl_is_term sl_is_fact sl_is_item sl_led_to sl_check_shape sl_part_end sl_sign_at sl_words_of sl_Reader___init__ sl_Reader_peek sl_Reader_stop sl_Reader_skip sl_Reader_need sl_Reader_take sl_Reader_number sl_Reader_end sl_read_term sl_read_names sl_read_cell sl_read_part sl_read_shape sl_read_assertion sl_parse_shape sl_check_assertion sl_parse_assertion sl__law_told sl__law_part sl_law : Array (Option Value)} {oc__law_begin kV__law_begin dc__law_begin pm__law_begin cd__law_begin ct__law_begin oc__law_take kV__law_take dc__law_take pm__law_take cd__law_take ct__law_take oc__law_pick kV__law_pick dc__law_pick pm__law_pick cd__law_pick ct__law_pick oc_is_whole kV_is_whole dc_is_whole pm_is_whole cd_is_whole ct_is_whole oc_is_number kV_is_number dc_is_number pm_is_number cd_is_number ct_is_number oc_is_made kV_is_made dc_is_made pm_is_made cd_is_made ct_is_made oc_is_plain_name kV_is_plain_name dc_is_plain_name pm_is_plain_name cd_is_plain_name ct_is_plain_name oc_is_name kV_is_name dc_is_name pm_is_name cd_is_name ct_is_name oc_is_term kV_is_term dc_is_term pm_is_term cd_is_term ct_is_term oc_is_fact kV_is_fact dc_is_fact pm_is_fact cd_is_fact ct_is_fact oc_is_item kV_is_item dc_is_item pm_is_item cd_is_item ct_is_item oc_led_to kV_led_to dc_led_to pm_led_to cd_led_to ct_led_to oc_check_shape kV_check_shape dc_check_shape pm_check_shape cd_check_shape ct_check_shape oc_part_end kV_part_end dc_part_end pm_part_end cd_part_end ct_part_end oc_sign_at kV_sign_at dc_sign_at pm_sign_at cd_sign_at ct_sign_at oc_words_of kV_words_of dc_words_of pm_words_of cd_words_of ct_words_of oc_Reader___init__ kV_Reader___init__ dc_Reader___init__ pm_Reader___init__ cd_Reader___init__ ct_Reader___init__ oc_Reader_peek kV_Reader_peek dc_Reader_peek pm_Reader_peek cd_Reader_peek ct_Reader_peek oc_Reader_stop kV_Reader_stop dc_Reader_stop pm_Reader_stop cd_Reader_stop ct_Reader_stop oc_Reader_skip kV_Reader_skip dc_Reader_skip pm_Reader_skip cd_Reader_skip ct_Reader_skip oc_Reader_need kV_Reader_need dc_Reader_need pm_Reader_need cd_Reader_need ct_Reader_need oc_Reader_take kV_Reader_take dc_Reader_take pm_Reader_take cd_Reader_take ct_Reader_take oc_Reader_number kV_Reader_number dc_Reader_number pm_Reader_number cd_Reader_number ct_Reader_number oc_Reader_end kV_Reader_end dc_Reader_end pm_Reader_end cd_Reader_end ct_Reader_end oc_read_term kV_read_term dc_read_term pm_read_term cd_read_term ct_read_term oc_read_names kV_read_names dc_read_names pm_read_names cd_read_names ct_read_names oc_read_cell kV_read_cell dc_read_cell pm_read_cell cd_read_cell ct_read_cell oc_read_part kV_read_part dc_read_part pm_read_part cd_read_part ct_read_part oc_read_shape kV_read_shape dc_read_shape pm_read_shape cd_read_shape ct_read_shape oc_read_assertion kV_read_assertion dc_read_assertion pm_read_assertion cd_read_assertion ct_read_assertion oc_parse_shape kV_parse_shape dc_parse_shape pm_parse_shape cd_parse_shape ct_parse_shape oc_check_assertion kV_check_assertion dc_check_assertion pm_check_assertion cd_check_assertion ct_check_assertion oc_parse_assertion kV_parse_assertion dc_parse_assertion pm_parse_assertion cd_parse_assertion ct_parse_assertion oc__law_told kV__law_told dc__law_told pm__law_told cd__law_told ct__law_told oc__law_part kV__law_part dc__law_part pm__law_part cd__law_part ct__law_part oc_law kV_law dc_law pm_law cd_law ct_law : Value}
    {C_Reader : Addr}
    {C_HeldError : Addr}
    {C_InputError : Addr}
    {C_TextError : Addr}
    {fI_InputError cc_InputError cda_InputError N_InputError : Addr} {bm_InputError sn2_InputError : List Value} {nm_InputError qn_InputError : Str} {sb_InputError : List Value} {snn_InputError : List Str} {ab_InputError : Bool} {col_InputError : Option Bool} {dd_InputError : Option Addr} {k0_InputError k1_InputError k2_InputError k3_InputError k5_InputError : Option Value}
    {clv_InputError ccl_InputError : Value} {cld_InputError cdd_InputError : Option Addr} {csl_InputError ccs_InputError : Array (Option Value)} {vsx_InputError : Array Value} {file_InputError : Str} {tf_InputError : Tok} {oci_InputError kVi_InputError dci_InputError pmi_InputError cti_InputError : Value} {odi_InputError ani_InputError : Option Addr} {sli_InputError : Array (Option Value)}
    {fI_TextError cc_TextError cda_TextError N_TextError : Addr} {bm_TextError sn2_TextError : List Value} {nm_TextError qn_TextError : Str} {sb_TextError : List Value} {snn_TextError : List Str} {ab_TextError : Bool} {col_TextError : Option Bool} {dd_TextError : Option Addr} {k0_TextError k1_TextError k2_TextError k3_TextError k5_TextError : Option Value}
    {clv_TextError ccl_TextError : Value} {cld_TextError cdd_TextError : Option Addr} {csl_TextError ccs_TextError : Array (Option Value)} {vsx_TextError : Array Value} {file_TextError : Str} {tf_TextError : Tok} {oci_TextError kVi_TextError dci_TextError pmi_TextError cti_TextError : Value} {odi_TextError ani_TextError : Option Addr} {sli_TextError : Array (Option Value)}
    {tk_LETTERS : Tok}
    {tk_DIGITS : Tok}
    {tk_MOST_FIGURES : Tok}
    {tk_WHOLE : Tok}
    {at_SIGNS : Addr} {oo_SIGNS : Obj}
    {at_WORDS : Addr} {oo_WORDS : Obj}
    (aC_Reader : PySem.W.nsIn K mainGlobals "Reader" = some (some (.ref C_Reader)))
    (pg_Reader : PySem.W.plainGet K C_Reader Str.empty = true)
    (hd_Reader : PySem.W.hasDictIn K C_Reader = true)
    (po_Reader : PySem.W.plainOver K C_Reader = true)
    (sa_Reader : PySem.W.findIn K (.ref C_Reader) "__setattr__" = some (some (.builtin "object.__setattr__")))
    (mi_Reader : PySem.W.makesIn K C_Reader = true)
    (kc_Reader : PySem.W.keepIn K (.ref C_Reader) = true)
    (na_Reader__words : PySem.W.findIn K (.ref C_Reader) "_words" = some none)
    (na_Reader_at : PySem.W.findIn K (.ref C_Reader) "at" = some none)
    (aC_HeldError : PySem.W.nsIn K mainGlobals "HeldError" = some (some (.ref C_HeldError)))
    (hs_HeldError : PySem.W.subIn K (.ref C_HeldError) (.type "BaseException") = some true)
    (hd_HeldError : PySem.W.hasDictIn K C_HeldError = true)
    (ty_HeldError : PySem.W.typeIn K (.ref C_HeldError) = some (.type "type"))
    (aC_InputError : PySem.W.nsIn K mainGlobals "InputError" = some (some (.ref C_InputError)))
    (hs_InputError : PySem.W.subIn K (.ref C_InputError) (.type "BaseException") = some true)
    (hd_InputError : PySem.W.hasDictIn K C_InputError = true)
    (ty_InputError : PySem.W.typeIn K (.ref C_InputError) = some (.type "type"))
    (aC_TextError : PySem.W.nsIn K mainGlobals "TextError" = some (some (.ref C_TextError)))
    (hs_TextError : PySem.W.subIn K (.ref C_TextError) (.type "BaseException") = some true)
    (hd_TextError : PySem.W.hasDictIn K C_TextError = true)
    (ty_TextError : PySem.W.typeIn K (.ref C_TextError) = some (.type "type"))
    (sub_TextError_HeldError : PySem.W.subIn K (.ref C_TextError) (.ref C_HeldError) = some true)
    (sub_TextError_TextError : PySem.W.subIn K (.ref C_TextError) (.ref C_TextError) = some true)
    (sub_TextError_InputError : PySem.W.subIn K (.ref C_TextError) (.ref C_InputError) = some false)
    (ne_ : ((.ref C_TextError : Value) == .ref C_InputError) = false)
    (hn_ : PySem.W.specialIn K (.builtin "object.__class__") "__get__" = some (some (.builtin "getset_descriptor.__get__")))
    (ht_ : PySem.W.takesIn K (.builtin "object.__class__") = some true)
    (super_ : PySem.W.nsIn K mainGlobals "super" = some none)
    (stat_ : PySem.W.nsIn K cStatics "thirdparty.any" = some none)
    (top_ : (l.prog.main.scope.names.lookup ("super" : Str)).isSome = false)
    (xL_InputError : K.lookup C_InputError = some (excClassObj nm_InputError qn_InputError C_InputError N_InputError sb_InputError bm_InputError true snn_InputError sn2_InputError ab_InputError col_InputError dd_InputError k0_InputError k1_InputError k2_InputError k3_InputError k5_InputError "ValueError.__new__"))
    (ve_InputError : PySem.HandSPX.refsVE bm_InputError = true)
    (sa_InputError : PySem.W.findIn K (.ref C_InputError) "__setattr__" = some (some (.builtin "object.__setattr__")))
    (kC_InputError : PySem.W.keepIn K (.ref C_InputError) = true)
    (iC_InputError : PySem.W.findIn K (.ref C_InputError) "__init__" = some (some (.ref fI_InputError)))
    (tI_InputError : PySem.W.typeIn K (.ref fI_InputError) = some (.type "function"))
    (lI_InputError : K.lookup fI_InputError = some ⟨oci_InputError, odi_InputError, .func (PySem.W.ksFn "__init__" "InputError.__init__" (defArgs (inClass (topS 3) 0)) (defBody (inClass (topS 3) 0)) (defScope (inClass (topS 3) 0)) .none kVi_InputError dci_InputError pmi_InputError ani_InputError (.ref cda_InputError) cti_InputError cc_InputError), sli_InputError⟩)
    (cI_InputError : PySem.W.codeIn K (.ref cda_InputError) "InputError.__init__" = true)
    (cell_InputError : K.lookup cc_InputError = some ⟨clv_InputError, cld_InputError, .cell (some (.ref C_InputError)), csl_InputError⟩)
    (code_InputError : K.lookup cda_InputError = some ⟨ccl_InputError, cdd_InputError, .fields vsx_InputError, ccs_InputError⟩)
    (vs_InputError : vsx_InputError[2]? = some (.str file_InputError tf_InputError))
    (fl_InputError : ((l.prog.main.file : Str) == file_InputError) = true)
    (icl_InputError : PySem.W.isClsIn K C_InputError = true)
    (ms_InputError : PySem.W.mroIn K C_InputError (.ref C_InputError) = some true)
    (ks_InputError : PySem.W.ks_superIn K C_InputError C_InputError "__init__" = some (some (.builtin "ValueError.__init__")))
    (sv_InputError : PySem.W.subIn K (.ref C_InputError) (.type "ValueError") = some true)
    (hg_InputError : PySem.W.findIn K (.ref C_InputError) "__getattribute__" = some (some (.builtin "BaseException.__getattribute__")))
    (hk_InputError : PySem.W.findIn K (.ref C_InputError) "__getattr__" = some none)
    (ha_InputError : PySem.W.findIn K (.ref C_InputError) "__class__" = some (some (.builtin "object.__class__")))
    (hm_InputError : PySem.W.mroIn K C_InputError (.type "object") = some true)
    (nf_InputError_code : PySem.W.findIn K (.ref C_InputError) "code" = some none)
    (xL_TextError : K.lookup C_TextError = some (excClassObj nm_TextError qn_TextError C_TextError N_TextError sb_TextError bm_TextError true snn_TextError sn2_TextError ab_TextError col_TextError dd_TextError k0_TextError k1_TextError k2_TextError k3_TextError k5_TextError "ValueError.__new__"))
    (ve_TextError : PySem.HandSPX.refsVE bm_TextError = true)
    (sa_TextError : PySem.W.findIn K (.ref C_TextError) "__setattr__" = some (some (.builtin "object.__setattr__")))
    (kC_TextError : PySem.W.keepIn K (.ref C_TextError) = true)
    (iC_TextError : PySem.W.findIn K (.ref C_TextError) "__init__" = some (some (.ref fI_TextError)))
    (tI_TextError : PySem.W.typeIn K (.ref fI_TextError) = some (.type "function"))
    (lI_TextError : K.lookup fI_TextError = some ⟨oci_TextError, odi_TextError, .func (PySem.W.ksFn "__init__" "TextError.__init__" (defArgs (inClass (topS 4) 0)) (defBody (inClass (topS 4) 0)) (defScope (inClass (topS 4) 0)) .none kVi_TextError dci_TextError pmi_TextError ani_TextError (.ref cda_TextError) cti_TextError cc_TextError), sli_TextError⟩)
    (cI_TextError : PySem.W.codeIn K (.ref cda_TextError) "TextError.__init__" = true)
    (cell_TextError : K.lookup cc_TextError = some ⟨clv_TextError, cld_TextError, .cell (some (.ref C_TextError)), csl_TextError⟩)
    (code_TextError : K.lookup cda_TextError = some ⟨ccl_TextError, cdd_TextError, .fields vsx_TextError, ccs_TextError⟩)
    (vs_TextError : vsx_TextError[2]? = some (.str file_TextError tf_TextError))
    (fl_TextError : ((l.prog.main.file : Str) == file_TextError) = true)
    (icl_TextError : PySem.W.isClsIn K C_TextError = true)
    (ms_TextError : PySem.W.mroIn K C_TextError (.ref C_TextError) = some true)
    (ks_TextError : PySem.W.ks_superIn K C_TextError C_TextError "__init__" = some (some (.builtin "ValueError.__init__")))
    (sv_TextError : PySem.W.subIn K (.ref C_TextError) (.type "ValueError") = some true)
    (hg_TextError : PySem.W.findIn K (.ref C_TextError) "__getattribute__" = some (some (.builtin "BaseException.__getattribute__")))
    (hk_TextError : PySem.W.findIn K (.ref C_TextError) "__getattr__" = some none)
    (ha_TextError : PySem.W.findIn K (.ref C_TextError) "__class__" = some (some (.builtin "object.__class__")))
    (hm_TextError : PySem.W.mroIn K C_TextError (.type "object") = some true)
    (nf_TextError_code : PySem.W.findIn K (.ref C_TextError) "code" = some none)
    (nf_TextError_at : PySem.W.findIn K (.ref C_TextError) "at" = some none)
    (tc_LETTERS : PySem.W.nsIn K mainGlobals "LETTERS" = some (some (.str "abcdefghijklmnopqrstuvwxyzABCDEFGHIJKLMNOPQRSTUVWXYZ" tk_LETTERS)))
    (tc_DIGITS : PySem.W.nsIn K mainGlobals "DIGITS" = some (some (.str "0123456789" tk_DIGITS)))
    (tc_MOST_FIGURES : PySem.W.nsIn K mainGlobals "MOST_FIGURES" = some (some (.int 30 tk_MOST_FIGURES)))
    (tc_WHOLE : PySem.W.nsIn K mainGlobals "WHOLE" = some (some (.int 12 tk_WHOLE)))
    (tc_SIGNS : PySem.W.nsIn K mainGlobals "SIGNS" = some (some (.ref at_SIGNS)))
    (tl_SIGNS : K.lookup at_SIGNS = some oo_SIGNS)
    (tr_SIGNS : TupLit oo_SIGNS g_SIGNS)
    (tc_WORDS : PySem.W.nsIn K mainGlobals "WORDS" = some (some (.ref at_WORDS)))
    (tl_WORDS : K.lookup at_WORDS = some oo_WORDS)
    (tr_WORDS : TupLit oo_WORDS g_WORDS)
    (a__law_begin : PySem.W.nsIn K mainGlobals "_law_begin" = some (some (.ref f__law_begin)))
    (l__law_begin : K.lookup f__law_begin = some ⟨oc__law_begin, od__law_begin, .func (PySem.W.fnOf "_law_begin" "_law_begin" (defArgs st__law_begin) (defBody st__law_begin) (defScope st__law_begin) .none kV__law_begin dc__law_begin pm__law_begin an__law_begin cd__law_begin ct__law_begin), sl__law_begin⟩)
    (c__law_begin : PySem.W.codeIn K cd__law_begin "_law_begin" = true)
    (k__law_begin : PySem.W.keepIn K (.ref f__law_begin) = true)
    (a__law_take : PySem.W.nsIn K mainGlobals "_law_take" = some (some (.ref f__law_take)))
    (l__law_take : K.lookup f__law_take = some ⟨oc__law_take, od__law_take, .func (PySem.W.fnOf "_law_take" "_law_take" (defArgs st__law_take) (defBody st__law_take) (defScope st__law_take) .none kV__law_take dc__law_take pm__law_take an__law_take cd__law_take ct__law_take), sl__law_take⟩)
    (c__law_take : PySem.W.codeIn K cd__law_take "_law_take" = true)
    (k__law_take : PySem.W.keepIn K (.ref f__law_take) = true)
    (a__law_pick : PySem.W.nsIn K mainGlobals "_law_pick" = some (some (.ref f__law_pick)))
    (l__law_pick : K.lookup f__law_pick = some ⟨oc__law_pick, od__law_pick, .func (PySem.W.fnOf "_law_pick" "_law_pick" (defArgs st__law_pick) (defBody st__law_pick) (defScope st__law_pick) .none kV__law_pick dc__law_pick pm__law_pick an__law_pick cd__law_pick ct__law_pick), sl__law_pick⟩)
    (c__law_pick : PySem.W.codeIn K cd__law_pick "_law_pick" = true)
    (k__law_pick : PySem.W.keepIn K (.ref f__law_pick) = true)
    (a_is_whole : PySem.W.nsIn K mainGlobals "is_whole" = some (some (.ref f_is_whole)))
    (l_is_whole : K.lookup f_is_whole = some ⟨oc_is_whole, od_is_whole, .func (PySem.W.fnOf "is_whole" "is_whole" (defArgs st_is_whole) (defBody st_is_whole) (defScope st_is_whole) .none kV_is_whole dc_is_whole pm_is_whole an_is_whole cd_is_whole ct_is_whole), sl_is_whole⟩)
    (c_is_whole : PySem.W.codeIn K cd_is_whole "is_whole" = true)
    (k_is_whole : PySem.W.keepIn K (.ref f_is_whole) = true)
    (a_is_number : PySem.W.nsIn K mainGlobals "is_number" = some (some (.ref f_is_number)))
    (l_is_number : K.lookup f_is_number = some ⟨oc_is_number, od_is_number, .func (PySem.W.fnOf "is_number" "is_number" (defArgs st_is_number) (defBody st_is_number) (defScope st_is_number) .none kV_is_number dc_is_number pm_is_number an_is_number cd_is_number ct_is_number), sl_is_number⟩)
    (c_is_number : PySem.W.codeIn K cd_is_number "is_number" = true)
    (k_is_number : PySem.W.keepIn K (.ref f_is_number) = true)
    (a_is_made : PySem.W.nsIn K mainGlobals "is_made" = some (some (.ref f_is_made)))
    (l_is_made : K.lookup f_is_made = some ⟨oc_is_made, od_is_made, .func (PySem.W.fnOf "is_made" "is_made" (defArgs st_is_made) (defBody st_is_made) (defScope st_is_made) .none kV_is_made dc_is_made pm_is_made an_is_made cd_is_made ct_is_made), sl_is_made⟩)
    (c_is_made : PySem.W.codeIn K cd_is_made "is_made" = true)
    (k_is_made : PySem.W.keepIn K (.ref f_is_made) = true)
    (a_is_plain_name : PySem.W.nsIn K mainGlobals "is_plain_name" = some (some (.ref f_is_plain_name)))
    (l_is_plain_name : K.lookup f_is_plain_name = some ⟨oc_is_plain_name, od_is_plain_name, .func (PySem.W.fnOf "is_plain_name" "is_plain_name" (defArgs st_is_plain_name) (defBody st_is_plain_name) (defScope st_is_plain_name) .none kV_is_plain_name dc_is_plain_name pm_is_plain_name an_is_plain_name cd_is_plain_name ct_is_plain_name), sl_is_plain_name⟩)
    (c_is_plain_name : PySem.W.codeIn K cd_is_plain_name "is_plain_name" = true)
    (k_is_plain_name : PySem.W.keepIn K (.ref f_is_plain_name) = true)
    (a_is_name : PySem.W.nsIn K mainGlobals "is_name" = some (some (.ref f_is_name)))
    (l_is_name : K.lookup f_is_name = some ⟨oc_is_name, od_is_name, .func (PySem.W.fnOf "is_name" "is_name" (defArgs st_is_name) (defBody st_is_name) (defScope st_is_name) .none kV_is_name dc_is_name pm_is_name an_is_name cd_is_name ct_is_name), sl_is_name⟩)
    (c_is_name : PySem.W.codeIn K cd_is_name "is_name" = true)
    (k_is_name : PySem.W.keepIn K (.ref f_is_name) = true)
    (a_is_term : PySem.W.nsIn K mainGlobals "is_term" = some (some (.ref f_is_term)))
    (l_is_term : K.lookup f_is_term = some ⟨oc_is_term, od_is_term, .func (PySem.W.fnOf "is_term" "is_term" (defArgs st_is_term) (defBody st_is_term) (defScope st_is_term) .none kV_is_term dc_is_term pm_is_term an_is_term cd_is_term ct_is_term), sl_is_term⟩)
    (c_is_term : PySem.W.codeIn K cd_is_term "is_term" = true)
    (k_is_term : PySem.W.keepIn K (.ref f_is_term) = true)
    (a_is_fact : PySem.W.nsIn K mainGlobals "is_fact" = some (some (.ref f_is_fact)))
    (l_is_fact : K.lookup f_is_fact = some ⟨oc_is_fact, od_is_fact, .func (PySem.W.fnOf "is_fact" "is_fact" (defArgs st_is_fact) (defBody st_is_fact) (defScope st_is_fact) .none kV_is_fact dc_is_fact pm_is_fact an_is_fact cd_is_fact ct_is_fact), sl_is_fact⟩)
    (c_is_fact : PySem.W.codeIn K cd_is_fact "is_fact" = true)
    (k_is_fact : PySem.W.keepIn K (.ref f_is_fact) = true)
    (a_is_item : PySem.W.nsIn K mainGlobals "is_item" = some (some (.ref f_is_item)))
    (l_is_item : K.lookup f_is_item = some ⟨oc_is_item, od_is_item, .func (PySem.W.fnOf "is_item" "is_item" (defArgs st_is_item) (defBody st_is_item) (defScope st_is_item) .none kV_is_item dc_is_item pm_is_item an_is_item cd_is_item ct_is_item), sl_is_item⟩)
    (c_is_item : PySem.W.codeIn K cd_is_item "is_item" = true)
    (k_is_item : PySem.W.keepIn K (.ref f_is_item) = true)
    (a_led_to : PySem.W.nsIn K mainGlobals "led_to" = some (some (.ref f_led_to)))
    (l_led_to : K.lookup f_led_to = some ⟨oc_led_to, od_led_to, .func (PySem.W.fnOf "led_to" "led_to" (defArgs st_led_to) (defBody st_led_to) (defScope st_led_to) .none kV_led_to dc_led_to pm_led_to an_led_to cd_led_to ct_led_to), sl_led_to⟩)
    (c_led_to : PySem.W.codeIn K cd_led_to "led_to" = true)
    (k_led_to : PySem.W.keepIn K (.ref f_led_to) = true)
    (a_check_shape : PySem.W.nsIn K mainGlobals "check_shape" = some (some (.ref f_check_shape)))
    (l_check_shape : K.lookup f_check_shape = some ⟨oc_check_shape, od_check_shape, .func (PySem.W.fnOf "check_shape" "check_shape" (defArgs st_check_shape) (defBody st_check_shape) (defScope st_check_shape) .none kV_check_shape dc_check_shape pm_check_shape an_check_shape cd_check_shape ct_check_shape), sl_check_shape⟩)
    (c_check_shape : PySem.W.codeIn K cd_check_shape "check_shape" = true)
    (k_check_shape : PySem.W.keepIn K (.ref f_check_shape) = true)
    (a_part_end : PySem.W.nsIn K mainGlobals "part_end" = some (some (.ref f_part_end)))
    (l_part_end : K.lookup f_part_end = some ⟨oc_part_end, od_part_end, .func (PySem.W.fnOf "part_end" "part_end" (defArgs st_part_end) (defBody st_part_end) (defScope st_part_end) .none kV_part_end dc_part_end pm_part_end an_part_end cd_part_end ct_part_end), sl_part_end⟩)
    (c_part_end : PySem.W.codeIn K cd_part_end "part_end" = true)
    (k_part_end : PySem.W.keepIn K (.ref f_part_end) = true)
    (a_sign_at : PySem.W.nsIn K mainGlobals "sign_at" = some (some (.ref f_sign_at)))
    (l_sign_at : K.lookup f_sign_at = some ⟨oc_sign_at, od_sign_at, .func (PySem.W.fnOf "sign_at" "sign_at" (defArgs st_sign_at) (defBody st_sign_at) (defScope st_sign_at) .none kV_sign_at dc_sign_at pm_sign_at an_sign_at cd_sign_at ct_sign_at), sl_sign_at⟩)
    (c_sign_at : PySem.W.codeIn K cd_sign_at "sign_at" = true)
    (k_sign_at : PySem.W.keepIn K (.ref f_sign_at) = true)
    (a_words_of : PySem.W.nsIn K mainGlobals "words_of" = some (some (.ref f_words_of)))
    (l_words_of : K.lookup f_words_of = some ⟨oc_words_of, od_words_of, .func (PySem.W.fnOf "words_of" "words_of" (defArgs st_words_of) (defBody st_words_of) (defScope st_words_of) .none kV_words_of dc_words_of pm_words_of an_words_of cd_words_of ct_words_of), sl_words_of⟩)
    (c_words_of : PySem.W.codeIn K cd_words_of "words_of" = true)
    (k_words_of : PySem.W.keepIn K (.ref f_words_of) = true)
    (a_Reader___init__ : PySem.W.findIn K (.ref C_Reader) "__init__" = some (some (.ref f_Reader___init__)))
    (i_Reader___init__ : PySem.W.isFn K (.ref f_Reader___init__) = true)
    (l_Reader___init__ : K.lookup f_Reader___init__ = some ⟨oc_Reader___init__, od_Reader___init__, .func (PySem.W.fnOf "__init__" "Reader.__init__" (defArgs st_Reader___init__) (defBody st_Reader___init__) (defScope st_Reader___init__) .none kV_Reader___init__ dc_Reader___init__ pm_Reader___init__ an_Reader___init__ cd_Reader___init__ ct_Reader___init__), sl_Reader___init__⟩)
    (c_Reader___init__ : PySem.W.codeIn K cd_Reader___init__ "Reader.__init__" = true)
    (k_Reader___init__ : PySem.W.keepIn K (.ref f_Reader___init__) = true)
    (a_Reader_peek : PySem.W.findIn K (.ref C_Reader) "peek" = some (some (.ref f_Reader_peek)))
    (i_Reader_peek : PySem.W.isFn K (.ref f_Reader_peek) = true)
    (l_Reader_peek : K.lookup f_Reader_peek = some ⟨oc_Reader_peek, od_Reader_peek, .func (PySem.W.fnOf "peek" "Reader.peek" (defArgs st_Reader_peek) (defBody st_Reader_peek) (defScope st_Reader_peek) .none kV_Reader_peek dc_Reader_peek pm_Reader_peek an_Reader_peek cd_Reader_peek ct_Reader_peek), sl_Reader_peek⟩)
    (c_Reader_peek : PySem.W.codeIn K cd_Reader_peek "Reader.peek" = true)
    (k_Reader_peek : PySem.W.keepIn K (.ref f_Reader_peek) = true)
    (a_Reader_stop : PySem.W.findIn K (.ref C_Reader) "stop" = some (some (.ref f_Reader_stop)))
    (i_Reader_stop : PySem.W.isFn K (.ref f_Reader_stop) = true)
    (l_Reader_stop : K.lookup f_Reader_stop = some ⟨oc_Reader_stop, od_Reader_stop, .func (PySem.W.fnOf "stop" "Reader.stop" (defArgs st_Reader_stop) (defBody st_Reader_stop) (defScope st_Reader_stop) .none kV_Reader_stop dc_Reader_stop pm_Reader_stop an_Reader_stop cd_Reader_stop ct_Reader_stop), sl_Reader_stop⟩)
    (c_Reader_stop : PySem.W.codeIn K cd_Reader_stop "Reader.stop" = true)
    (k_Reader_stop : PySem.W.keepIn K (.ref f_Reader_stop) = true)
    (a_Reader_skip : PySem.W.findIn K (.ref C_Reader) "skip" = some (some (.ref f_Reader_skip)))
    (i_Reader_skip : PySem.W.isFn K (.ref f_Reader_skip) = true)
    (l_Reader_skip : K.lookup f_Reader_skip = some ⟨oc_Reader_skip, od_Reader_skip, .func (PySem.W.fnOf "skip" "Reader.skip" (defArgs st_Reader_skip) (defBody st_Reader_skip) (defScope st_Reader_skip) .none kV_Reader_skip dc_Reader_skip pm_Reader_skip an_Reader_skip cd_Reader_skip ct_Reader_skip), sl_Reader_skip⟩)
    (c_Reader_skip : PySem.W.codeIn K cd_Reader_skip "Reader.skip" = true)
    (k_Reader_skip : PySem.W.keepIn K (.ref f_Reader_skip) = true)
    (a_Reader_need : PySem.W.findIn K (.ref C_Reader) "need" = some (some (.ref f_Reader_need)))
    (i_Reader_need : PySem.W.isFn K (.ref f_Reader_need) = true)
    (l_Reader_need : K.lookup f_Reader_need = some ⟨oc_Reader_need, od_Reader_need, .func (PySem.W.fnOf "need" "Reader.need" (defArgs st_Reader_need) (defBody st_Reader_need) (defScope st_Reader_need) .none kV_Reader_need dc_Reader_need pm_Reader_need an_Reader_need cd_Reader_need ct_Reader_need), sl_Reader_need⟩)
    (c_Reader_need : PySem.W.codeIn K cd_Reader_need "Reader.need" = true)
    (k_Reader_need : PySem.W.keepIn K (.ref f_Reader_need) = true)
    (a_Reader_take : PySem.W.findIn K (.ref C_Reader) "take" = some (some (.ref f_Reader_take)))
    (i_Reader_take : PySem.W.isFn K (.ref f_Reader_take) = true)
    (l_Reader_take : K.lookup f_Reader_take = some ⟨oc_Reader_take, od_Reader_take, .func (PySem.W.fnOf "take" "Reader.take" (defArgs st_Reader_take) (defBody st_Reader_take) (defScope st_Reader_take) .none kV_Reader_take dc_Reader_take pm_Reader_take an_Reader_take cd_Reader_take ct_Reader_take), sl_Reader_take⟩)
    (c_Reader_take : PySem.W.codeIn K cd_Reader_take "Reader.take" = true)
    (k_Reader_take : PySem.W.keepIn K (.ref f_Reader_take) = true)
    (a_Reader_number : PySem.W.findIn K (.ref C_Reader) "number" = some (some (.ref f_Reader_number)))
    (i_Reader_number : PySem.W.isFn K (.ref f_Reader_number) = true)
    (l_Reader_number : K.lookup f_Reader_number = some ⟨oc_Reader_number, od_Reader_number, .func (PySem.W.fnOf "number" "Reader.number" (defArgs st_Reader_number) (defBody st_Reader_number) (defScope st_Reader_number) .none kV_Reader_number dc_Reader_number pm_Reader_number an_Reader_number cd_Reader_number ct_Reader_number), sl_Reader_number⟩)
    (c_Reader_number : PySem.W.codeIn K cd_Reader_number "Reader.number" = true)
    (k_Reader_number : PySem.W.keepIn K (.ref f_Reader_number) = true)
    (a_Reader_end : PySem.W.findIn K (.ref C_Reader) "end" = some (some (.ref f_Reader_end)))
    (i_Reader_end : PySem.W.isFn K (.ref f_Reader_end) = true)
    (l_Reader_end : K.lookup f_Reader_end = some ⟨oc_Reader_end, od_Reader_end, .func (PySem.W.fnOf "end" "Reader.end" (defArgs st_Reader_end) (defBody st_Reader_end) (defScope st_Reader_end) .none kV_Reader_end dc_Reader_end pm_Reader_end an_Reader_end cd_Reader_end ct_Reader_end), sl_Reader_end⟩)
    (c_Reader_end : PySem.W.codeIn K cd_Reader_end "Reader.end" = true)
    (k_Reader_end : PySem.W.keepIn K (.ref f_Reader_end) = true)
    (a_read_term : PySem.W.nsIn K mainGlobals "read_term" = some (some (.ref f_read_term)))
    (l_read_term : K.lookup f_read_term = some ⟨oc_read_term, od_read_term, .func (PySem.W.fnOf "read_term" "read_term" (defArgs st_read_term) (defBody st_read_term) (defScope st_read_term) .none kV_read_term dc_read_term pm_read_term an_read_term cd_read_term ct_read_term), sl_read_term⟩)
    (c_read_term : PySem.W.codeIn K cd_read_term "read_term" = true)
    (k_read_term : PySem.W.keepIn K (.ref f_read_term) = true)
    (a_read_names : PySem.W.nsIn K mainGlobals "read_names" = some (some (.ref f_read_names)))
    (l_read_names : K.lookup f_read_names = some ⟨oc_read_names, od_read_names, .func (PySem.W.fnOf "read_names" "read_names" (defArgs st_read_names) (defBody st_read_names) (defScope st_read_names) .none kV_read_names dc_read_names pm_read_names an_read_names cd_read_names ct_read_names), sl_read_names⟩)
    (c_read_names : PySem.W.codeIn K cd_read_names "read_names" = true)
    (k_read_names : PySem.W.keepIn K (.ref f_read_names) = true)
    (a_read_cell : PySem.W.nsIn K mainGlobals "read_cell" = some (some (.ref f_read_cell)))
    (l_read_cell : K.lookup f_read_cell = some ⟨oc_read_cell, od_read_cell, .func (PySem.W.fnOf "read_cell" "read_cell" (defArgs st_read_cell) (defBody st_read_cell) (defScope st_read_cell) .none kV_read_cell dc_read_cell pm_read_cell an_read_cell cd_read_cell ct_read_cell), sl_read_cell⟩)
    (c_read_cell : PySem.W.codeIn K cd_read_cell "read_cell" = true)
    (k_read_cell : PySem.W.keepIn K (.ref f_read_cell) = true)
    (a_read_part : PySem.W.nsIn K mainGlobals "read_part" = some (some (.ref f_read_part)))
    (l_read_part : K.lookup f_read_part = some ⟨oc_read_part, od_read_part, .func (PySem.W.fnOf "read_part" "read_part" (defArgs st_read_part) (defBody st_read_part) (defScope st_read_part) .none kV_read_part dc_read_part pm_read_part an_read_part cd_read_part ct_read_part), sl_read_part⟩)
    (c_read_part : PySem.W.codeIn K cd_read_part "read_part" = true)
    (k_read_part : PySem.W.keepIn K (.ref f_read_part) = true)
    (a_read_shape : PySem.W.nsIn K mainGlobals "read_shape" = some (some (.ref f_read_shape)))
    (l_read_shape : K.lookup f_read_shape = some ⟨oc_read_shape, od_read_shape, .func (PySem.W.fnOf "read_shape" "read_shape" (defArgs st_read_shape) (defBody st_read_shape) (defScope st_read_shape) .none kV_read_shape dc_read_shape pm_read_shape an_read_shape cd_read_shape ct_read_shape), sl_read_shape⟩)
    (c_read_shape : PySem.W.codeIn K cd_read_shape "read_shape" = true)
    (k_read_shape : PySem.W.keepIn K (.ref f_read_shape) = true)
    (a_read_assertion : PySem.W.nsIn K mainGlobals "read_assertion" = some (some (.ref f_read_assertion)))
    (l_read_assertion : K.lookup f_read_assertion = some ⟨oc_read_assertion, od_read_assertion, .func (PySem.W.fnOf "read_assertion" "read_assertion" (defArgs st_read_assertion) (defBody st_read_assertion) (defScope st_read_assertion) .none kV_read_assertion dc_read_assertion pm_read_assertion an_read_assertion cd_read_assertion ct_read_assertion), sl_read_assertion⟩)
    (c_read_assertion : PySem.W.codeIn K cd_read_assertion "read_assertion" = true)
    (k_read_assertion : PySem.W.keepIn K (.ref f_read_assertion) = true)
    (a_parse_shape : PySem.W.nsIn K mainGlobals "parse_shape" = some (some (.ref f_parse_shape)))
    (l_parse_shape : K.lookup f_parse_shape = some ⟨oc_parse_shape, od_parse_shape, .func (PySem.W.fnOf "parse_shape" "parse_shape" (defArgs st_parse_shape) (defBody st_parse_shape) (defScope st_parse_shape) .none kV_parse_shape dc_parse_shape pm_parse_shape an_parse_shape cd_parse_shape ct_parse_shape), sl_parse_shape⟩)
    (c_parse_shape : PySem.W.codeIn K cd_parse_shape "parse_shape" = true)
    (k_parse_shape : PySem.W.keepIn K (.ref f_parse_shape) = true)
    (a_check_assertion : PySem.W.nsIn K mainGlobals "check_assertion" = some (some (.ref f_check_assertion)))
    (l_check_assertion : K.lookup f_check_assertion = some ⟨oc_check_assertion, od_check_assertion, .func (PySem.W.fnOf "check_assertion" "check_assertion" (defArgs st_check_assertion) (defBody st_check_assertion) (defScope st_check_assertion) .none kV_check_assertion dc_check_assertion pm_check_assertion an_check_assertion cd_check_assertion ct_check_assertion), sl_check_assertion⟩)
    (c_check_assertion : PySem.W.codeIn K cd_check_assertion "check_assertion" = true)
    (k_check_assertion : PySem.W.keepIn K (.ref f_check_assertion) = true)
    (a_parse_assertion : PySem.W.nsIn K mainGlobals "parse_assertion" = some (some (.ref f_parse_assertion)))
    (l_parse_assertion : K.lookup f_parse_assertion = some ⟨oc_parse_assertion, od_parse_assertion, .func (PySem.W.fnOf "parse_assertion" "parse_assertion" (defArgs st_parse_assertion) (defBody st_parse_assertion) (defScope st_parse_assertion) .none kV_parse_assertion dc_parse_assertion pm_parse_assertion an_parse_assertion cd_parse_assertion ct_parse_assertion), sl_parse_assertion⟩)
    (c_parse_assertion : PySem.W.codeIn K cd_parse_assertion "parse_assertion" = true)
    (k_parse_assertion : PySem.W.keepIn K (.ref f_parse_assertion) = true)
    (a__law_told : PySem.W.nsIn K mainGlobals "_law_told" = some (some (.ref f__law_told)))
    (l__law_told : K.lookup f__law_told = some ⟨oc__law_told, od__law_told, .func (PySem.W.fnOf "_law_told" "_law_told" (defArgs st__law_told) (defBody st__law_told) (defScope st__law_told) .none kV__law_told dc__law_told pm__law_told an__law_told cd__law_told ct__law_told), sl__law_told⟩)
    (c__law_told : PySem.W.codeIn K cd__law_told "_law_told" = true)
    (k__law_told : PySem.W.keepIn K (.ref f__law_told) = true)
    (a__law_part : PySem.W.nsIn K mainGlobals "_law_part" = some (some (.ref f__law_part)))
    (l__law_part : K.lookup f__law_part = some ⟨oc__law_part, od__law_part, .func (PySem.W.fnOf "_law_part" "_law_part" (defArgs st__law_part) (defBody st__law_part) (defScope st__law_part) .none kV__law_part dc__law_part pm__law_part an__law_part cd__law_part ct__law_part), sl__law_part⟩)
    (c__law_part : PySem.W.codeIn K cd__law_part "_law_part" = true)
    (k__law_part : PySem.W.keepIn K (.ref f__law_part) = true)
    (a_law : PySem.W.nsIn K mainGlobals "law" = some (some (.ref f_law)))
    (l_law : K.lookup f_law = some ⟨oc_law, od_law, .func (PySem.W.fnOf "law" "law" (defArgs st_law) (defBody st_law) (defScope st_law) .none kV_law dc_law pm_law an_law cd_law ct_law), sl_law⟩)
    (c_law : PySem.W.codeIn K cd_law "law" = true)
    (k_law : PySem.W.keepIn K (.ref f_law) = true)
    (z_abs : PySem.W.nsIn K mainGlobals "abs" = some none)
    (z_all : PySem.W.nsIn K mainGlobals "all" = some none)
    (z_bool : PySem.W.nsIn K mainGlobals "bool" = some none)
    (z_int : PySem.W.nsIn K mainGlobals "int" = some none)
    (z_isinstance : PySem.W.nsIn K mainGlobals "isinstance" = some none)
    (z_len : PySem.W.nsIn K mainGlobals "len" = some none)
    (z_list : PySem.W.nsIn K mainGlobals "list" = some none)
    (z_max : PySem.W.nsIn K mainGlobals "max" = some none)
    (z_range : PySem.W.nsIn K mainGlobals "range" = some none)
    (z_str : PySem.W.nsIn K mainGlobals "str" = some none)
    (z_tuple : PySem.W.nsIn K mainGlobals "tuple" = some none)
    : ∃ fd : FuncData, (∀ (s : Shared) (v : Value), BindsTo s fd ⟨[v], []⟩ [("script", v)]) ∧ ∀ base : Heap, K.In base → base.Ns mainGlobals mg → FnOk l.prog w K mg base CX0 12 fa fd ["script"] (spOf K spLaw) := by
  have e := hfa.symm.trans (PySem.W.mg_of X G a_law)
  cases e
  have T : Txt K mg := ⟨PySem.W.mg_none_of X G z_abs, PySem.W.mg_none_of X G z_all, PySem.W.mg_none_of X G z_bool, PySem.W.mg_none_of X G z_int, PySem.W.mg_none_of X G z_isinstance, PySem.W.mg_none_of X G z_len, PySem.W.mg_none_of X G z_list, PySem.W.mg_none_of X G z_max, PySem.W.mg_none_of X G z_range, PySem.W.mg_none_of X G z_str, PySem.W.mg_none_of X G z_tuple⟩
  have F__law_begin := fun_mk (st := st__law_begin) l__law_begin c__law_begin k__law_begin
  have b__law_begin := F__law_begin.binds (ps := ["script"]) fun _ _ _ _ _ _ us hl => match us, hl with | [_], _ => rfl
  have F__law_take := fun_mk (st := st__law_take) l__law_take c__law_take k__law_take
  have b__law_take := F__law_take.binds (ps := ["d", "many"]) fun _ _ _ _ _ _ us hl => match us, hl with | [_, _], _ => rfl
  have F__law_pick := fun_mk (st := st__law_pick) l__law_pick c__law_pick k__law_pick
  have b__law_pick := F__law_pick.binds (ps := ["d", "menu"]) fun _ _ _ _ _ _ us hl => match us, hl with | [_, _], _ => rfl
  have F_is_whole := fun_mk (st := st_is_whole) l_is_whole c_is_whole k_is_whole
  have b_is_whole := F_is_whole.binds (ps := ["value"]) fun _ _ _ _ _ _ us hl => match us, hl with | [_], _ => rfl
  have F_is_number := fun_mk (st := st_is_number) l_is_number c_is_number k_is_number
  have b_is_number := F_is_number.binds (ps := ["value"]) fun _ _ _ _ _ _ us hl => match us, hl with | [_], _ => rfl
  have F_is_made := fun_mk (st := st_is_made) l_is_made c_is_made k_is_made
  have b_is_made := F_is_made.binds (ps := ["word"]) fun _ _ _ _ _ _ us hl => match us, hl with | [_], _ => rfl
  have F_is_plain_name := fun_mk (st := st_is_plain_name) l_is_plain_name c_is_plain_name k_is_plain_name
  have b_is_plain_name := F_is_plain_name.binds (ps := ["word"]) fun _ _ _ _ _ _ us hl => match us, hl with | [_], _ => rfl
  have F_is_name := fun_mk (st := st_is_name) l_is_name c_is_name k_is_name
  have b_is_name := F_is_name.binds (ps := ["word"]) fun _ _ _ _ _ _ us hl => match us, hl with | [_], _ => rfl
  have F_is_term := fun_mk (st := st_is_term) l_is_term c_is_term k_is_term
  have b_is_term := F_is_term.binds (ps := ["value"]) fun _ _ _ _ _ _ us hl => match us, hl with | [_], _ => rfl
  have F_is_fact := fun_mk (st := st_is_fact) l_is_fact c_is_fact k_is_fact
  have b_is_fact := F_is_fact.binds (ps := ["fact"]) fun _ _ _ _ _ _ us hl => match us, hl with | [_], _ => rfl
  have F_is_item := fun_mk (st := st_is_item) l_is_item c_is_item k_is_item
  have b_is_item := F_is_item.binds (ps := ["item"]) fun _ _ _ _ _ _ us hl => match us, hl with | [_], _ => rfl
  have F_led_to := fun_mk (st := st_led_to) l_led_to c_led_to k_led_to
  have b_led_to := F_led_to.binds (ps := ["shape"]) fun _ _ _ _ _ _ us hl => match us, hl with | [_], _ => rfl
  have F_check_shape := fun_mk (st := st_check_shape) l_check_shape c_check_shape k_check_shape
  have b_check_shape := F_check_shape.binds (ps := ["shape"]) fun _ _ _ _ _ _ us hl => match us, hl with | [_], _ => rfl
  have F_part_end := fun_mk (st := st_part_end) l_part_end c_part_end k_part_end
  have b_part_end := F_part_end.binds (ps := ["text", "at"]) fun _ _ _ _ _ _ us hl => match us, hl with | [_, _], _ => rfl
  have F_sign_at := fun_mk (st := st_sign_at) l_sign_at c_sign_at k_sign_at
  have b_sign_at := F_sign_at.binds (ps := ["text", "at"]) fun _ _ _ _ _ _ us hl => match us, hl with | [_, _], _ => rfl
  have F_words_of := fun_mk (st := st_words_of) l_words_of c_words_of k_words_of
  have b_words_of := F_words_of.binds (ps := ["text"]) fun _ _ _ _ _ _ us hl => match us, hl with | [_], _ => rfl
  have F_Reader___init__ := fun_mk (st := st_Reader___init__) l_Reader___init__ c_Reader___init__ k_Reader___init__
  have b_Reader___init__ := F_Reader___init__.binds (ps := ["self", "words"]) fun _ _ _ _ _ _ us hl => match us, hl with | [_, _], _ => rfl
  have F_Reader_peek := fun_mk (st := st_Reader_peek) l_Reader_peek c_Reader_peek k_Reader_peek
  have b_Reader_peek := F_Reader_peek.binds (ps := ["self"]) fun _ _ _ _ _ _ us hl => match us, hl with | [_], _ => rfl
  have F_Reader_stop := fun_mk (st := st_Reader_stop) l_Reader_stop c_Reader_stop k_Reader_stop
  have b_Reader_stop := F_Reader_stop.binds (ps := ["self"]) fun _ _ _ _ _ _ us hl => match us, hl with | [_], _ => rfl
  have F_Reader_skip := fun_mk (st := st_Reader_skip) l_Reader_skip c_Reader_skip k_Reader_skip
  have b_Reader_skip := F_Reader_skip.binds (ps := ["self", "word"]) fun _ _ _ _ _ _ us hl => match us, hl with | [_, _], _ => rfl
  have F_Reader_need := fun_mk (st := st_Reader_need) l_Reader_need c_Reader_need k_Reader_need
  have b_Reader_need := F_Reader_need.binds (ps := ["self", "word"]) fun _ _ _ _ _ _ us hl => match us, hl with | [_, _], _ => rfl
  have F_Reader_take := fun_mk (st := st_Reader_take) l_Reader_take c_Reader_take k_Reader_take
  have b_Reader_take := F_Reader_take.binds (ps := ["self"]) fun _ _ _ _ _ _ us hl => match us, hl with | [_], _ => rfl
  have F_Reader_number := fun_mk (st := st_Reader_number) l_Reader_number c_Reader_number k_Reader_number
  have b_Reader_number := F_Reader_number.binds (ps := ["self"]) fun _ _ _ _ _ _ us hl => match us, hl with | [_], _ => rfl
  have F_Reader_end := fun_mk (st := st_Reader_end) l_Reader_end c_Reader_end k_Reader_end
  have b_Reader_end := F_Reader_end.binds (ps := ["self"]) fun _ _ _ _ _ _ us hl => match us, hl with | [_], _ => rfl
  have F_read_term := fun_mk (st := st_read_term) l_read_term c_read_term k_read_term
  have b_read_term := F_read_term.binds (ps := ["reader"]) fun _ _ _ _ _ _ us hl => match us, hl with | [_], _ => rfl
  have F_read_names := fun_mk (st := st_read_names) l_read_names c_read_names k_read_names
  have b_read_names := F_read_names.binds (ps := ["reader"]) fun _ _ _ _ _ _ us hl => match us, hl with | [_], _ => rfl
  have F_read_cell := fun_mk (st := st_read_cell) l_read_cell c_read_cell k_read_cell
  have b_read_cell := F_read_cell.binds (ps := ["reader", "at"]) fun _ _ _ _ _ _ us hl => match us, hl with | [_, _], _ => rfl
  have F_read_part := fun_mk (st := st_read_part) l_read_part c_read_part k_read_part
  have b_read_part := F_read_part.binds (ps := ["reader"]) fun _ _ _ _ _ _ us hl => match us, hl with | [_], _ => rfl
  have F_read_shape := fun_mk (st := st_read_shape) l_read_shape c_read_shape k_read_shape
  have b_read_shape := F_read_shape.binds (ps := ["reader"]) fun _ _ _ _ _ _ us hl => match us, hl with | [_], _ => rfl
  have F_read_assertion := fun_mk (st := st_read_assertion) l_read_assertion c_read_assertion k_read_assertion
  have b_read_assertion := F_read_assertion.binds (ps := ["reader"]) fun _ _ _ _ _ _ us hl => match us, hl with | [_], _ => rfl
  have F_parse_shape := fun_mk (st := st_parse_shape) l_parse_shape c_parse_shape k_parse_shape
  have b_parse_shape := F_parse_shape.binds (ps := ["text"]) fun _ _ _ _ _ _ us hl => match us, hl with | [_], _ => rfl
  have F_check_assertion := fun_mk (st := st_check_assertion) l_check_assertion c_check_assertion k_check_assertion
  have b_check_assertion := F_check_assertion.binds (ps := ["assertion"]) fun _ _ _ _ _ _ us hl => match us, hl with | [_], _ => rfl
  have F_parse_assertion := fun_mk (st := st_parse_assertion) l_parse_assertion c_parse_assertion k_parse_assertion
  have b_parse_assertion := F_parse_assertion.binds (ps := ["text"]) fun _ _ _ _ _ _ us hl => match us, hl with | [_], _ => rfl
  have F__law_told := fun_mk (st := st__law_told) l__law_told c__law_told k__law_told
  have b__law_told := F__law_told.binds (ps := ["text"]) fun _ _ _ _ _ _ us hl => match us, hl with | [_], _ => rfl
  have F__law_part := fun_mk (st := st__law_part) l__law_part c__law_part k__law_part
  have b__law_part := F__law_part.binds (ps := ["d"]) fun _ _ _ _ _ _ us hl => match us, hl with | [_], _ => rfl
  have F_law := fun_mk (st := st_law) l_law c_law k_law
  have b_law := F_law.binds (ps := ["script"]) fun _ _ _ _ _ _ us hl => match us, hl with | [_], _ => rfl
  have oex_InputError : OexC K C_InputError := ⟨⟨_, _, _, _, bm_InputError, _, _, _, _, _, _, _, _, _, _, xL_InputError, ve_InputError⟩, sa_InputError, hs_InputError, ty_InputError, kC_InputError⟩
  have sup_InputError : SupC l.prog K mg C_InputError fI_InputError cc_InputError cda_InputError := ⟨oex_InputError, ⟨_, _, _, cell_InputError⟩, ⟨_, _, _, _, _, _, code_InputError, vs_InputError, fl_InputError⟩, icl_InputError, ms_InputError, PySem.W.mg_none_of X G super_, top_, stat_, ks_InputError, sv_InputError⟩
  have x_InputError : ∀ base : Heap, Xcal l.prog w K mg base 1 "InputError" C_InputError ["code"] := fun base => ⟨⟨fI_InputError, _, _, oex_InputError, iC_InputError, tI_InputError, PySem.W.mg_of X G aC_InputError, Binds.all fun us hl => match us, hl with | [_, _], _ => rfl, sup1_ok (k := 0) sup_InputError lI_InputError cI_InputError (by exact supsc_InputError) ⟨_, rfl, rfl⟩ (by rfl) (by rfl) nf_InputError_code (by decide) (fun env => ⟨_, rfl⟩)⟩⟩
  have oex_TextError : OexC K C_TextError := ⟨⟨_, _, _, _, bm_TextError, _, _, _, _, _, _, _, _, _, _, xL_TextError, ve_TextError⟩, sa_TextError, hs_TextError, ty_TextError, kC_TextError⟩
  have sup_TextError : SupC l.prog K mg C_TextError fI_TextError cc_TextError cda_TextError := ⟨oex_TextError, ⟨_, _, _, cell_TextError⟩, ⟨_, _, _, _, _, _, code_TextError, vs_TextError, fl_TextError⟩, icl_TextError, ms_TextError, PySem.W.mg_none_of X G super_, top_, stat_, ks_TextError, sv_TextError⟩
  have x_TextError : ∀ base : Heap, Xcal l.prog w K mg base 1 "TextError" C_TextError ["code", "at"] := fun base => ⟨⟨fI_TextError, _, _, oex_TextError, iC_TextError, tI_TextError, PySem.W.mg_of X G aC_TextError, Binds.all fun us hl => match us, hl with | [_, _, _], _ => rfl, sup2_ok (k := 0) sup_TextError lI_TextError cI_TextError (by exact supsc_TextError) ⟨_, rfl, rfl⟩ (by rfl) (by rfl) nf_TextError_code (by decide) (by rfl) (by rfl) nf_TextError_at (by decide) (fun env => ⟨_, rfl⟩)⟩⟩
  exact ⟨PySem.W.fnOf "law" "law" (defArgs st_law) (defBody st_law) (defScope st_law) .none kV_law dc_law pm_law an_law cd_law ct_law, fun s v => .of_eq rfl, fun base _ _ => ok_all T ⟨pg_Reader, hd_Reader, po_Reader, sa_Reader⟩ (PySem.W.mg_of X G aC_Reader) na_Reader__words na_Reader_at (PySem.W.mg_of X G aC_HeldError) (PySem.W.mg_of X G aC_InputError) (PySem.W.mg_of X G aC_TextError) (x_InputError base) (x_TextError base) ⟨_, .str "abcdefghijklmnopqrstuvwxyzABCDEFGHIJKLMNOPQRSTUVWXYZ", PySem.W.mg_of X G tc_LETTERS, ⟨_, rfl⟩, fun F => .v _⟩ ⟨_, .str "0123456789", PySem.W.mg_of X G tc_DIGITS, ⟨_, rfl⟩, fun F => .v _⟩ ⟨_, .int 30, PySem.W.mg_of X G tc_MOST_FIGURES, ⟨_, rfl⟩, fun F => .v _⟩ ⟨_, .int 12, PySem.W.mg_of X G tc_WHOLE, ⟨_, rfl⟩, fun F => .v _⟩ ⟨_, .ref at_SIGNS, PySem.W.mg_of X G tc_SIGNS, rfl, fun F => TupLit.rep tl_SIGNS tr_SIGNS F⟩ ⟨_, .ref at_WORDS, PySem.W.mg_of X G tc_WORDS, rfl, fun F => TupLit.rep tl_WORDS tr_WORDS F⟩ ⟨PySem.W.exm_ref hs_HeldError hd_HeldError ty_HeldError sub_TextError_HeldError, (by unfold PySem.W.kitOne; rw [if_pos (beq_self_eq_true _)]), (Y.kit_no hd_InputError ty_InputError sub_TextError_InputError ne_), ⟨hg_TextError, hk_TextError, hs_TextError, hd_TextError, ha_TextError, hn_, ht_, hm_TextError⟩, ⟨hg_TextError, hk_TextError, hs_TextError, hd_TextError⟩, nf_TextError_code, nf_TextError_at⟩ (PySem.W.exm_ref hs_TextError hd_TextError ty_TextError sub_TextError_TextError) F__law_begin b__law_begin (PySem.W.mg_of X G a__law_begin) k__law_begin F__law_take b__law_take (PySem.W.mg_of X G a__law_take) k__law_take F__law_pick b__law_pick (PySem.W.mg_of X G a__law_pick) k__law_pick F_is_whole b_is_whole (PySem.W.mg_of X G a_is_whole) k_is_whole F_is_number b_is_number (PySem.W.mg_of X G a_is_number) k_is_number F_is_made b_is_made (PySem.W.mg_of X G a_is_made) k_is_made F_is_plain_name b_is_plain_name (PySem.W.mg_of X G a_is_plain_name) k_is_plain_name F_is_name b_is_name (PySem.W.mg_of X G a_is_name) k_is_name F_is_term b_is_term (PySem.W.mg_of X G a_is_term) k_is_term F_is_fact b_is_fact (PySem.W.mg_of X G a_is_fact) k_is_fact F_is_item b_is_item (PySem.W.mg_of X G a_is_item) k_is_item F_led_to b_led_to (PySem.W.mg_of X G a_led_to) k_led_to F_check_shape b_check_shape (PySem.W.mg_of X G a_check_shape) k_check_shape F_part_end b_part_end (PySem.W.mg_of X G a_part_end) k_part_end F_sign_at b_sign_at (PySem.W.mg_of X G a_sign_at) k_sign_at F_words_of b_words_of (PySem.W.mg_of X G a_words_of) k_words_of F_Reader___init__ b_Reader___init__ ⟨mi_Reader, a_Reader___init__, i_Reader___init__, kc_Reader⟩ F_Reader_peek b_Reader_peek ⟨a_Reader_peek, i_Reader_peek, k_Reader_peek⟩ F_Reader_stop b_Reader_stop ⟨a_Reader_stop, i_Reader_stop, k_Reader_stop⟩ F_Reader_skip b_Reader_skip ⟨a_Reader_skip, i_Reader_skip, k_Reader_skip⟩ F_Reader_need b_Reader_need ⟨a_Reader_need, i_Reader_need, k_Reader_need⟩ F_Reader_take b_Reader_take ⟨a_Reader_take, i_Reader_take, k_Reader_take⟩ F_Reader_number b_Reader_number ⟨a_Reader_number, i_Reader_number, k_Reader_number⟩ F_Reader_end b_Reader_end ⟨a_Reader_end, i_Reader_end, k_Reader_end⟩ F_read_term b_read_term (PySem.W.mg_of X G a_read_term) k_read_term F_read_names b_read_names (PySem.W.mg_of X G a_read_names) k_read_names F_read_cell b_read_cell (PySem.W.mg_of X G a_read_cell) k_read_cell F_read_part b_read_part (PySem.W.mg_of X G a_read_part) k_read_part F_read_shape b_read_shape (PySem.W.mg_of X G a_read_shape) k_read_shape F_read_assertion b_read_assertion (PySem.W.mg_of X G a_read_assertion) k_read_assertion F_parse_shape b_parse_shape (PySem.W.mg_of X G a_parse_shape) k_parse_shape F_check_assertion b_check_assertion (PySem.W.mg_of X G a_check_assertion) k_check_assertion F_parse_assertion b_parse_assertion (PySem.W.mg_of X G a_parse_assertion) k_parse_assertion F__law_told b__law_told (PySem.W.mg_of X G a__law_told) k__law_told F__law_part b__law_part (PySem.W.mg_of X G a__law_part) k__law_part F_law b_law (PySem.W.mg_of X G a_law) k_law⟩
theorem lst_rep {K : PySem.W.Frag} {F : Hp} : ∀ ns : List Int, RepL K F (ns.map V.int) (ns.map D.int)
  | [] => .nil
  | n :: ns => .cons (.v _) (lst_rep ns)
theorem hsp {K : PySem.W.Frag} (H : Hp) (a : Addr) (ns : List Int) (hS : SqL K H a (ns.map V.int)) : spOf K spLaw [.ref a] H (fun v _ => v = .bl true) fun _ _ _ => False := by
  refine ⟨H, fun _ => none, [.lst (ns.map D.int)], fun d _ => d = .bl true, noX, ⟨Le.refl H, ?_⟩, .cons (.lst hS (lst_rep ns)) .nil, ⟨ns, rfl, fun _ => rfl⟩, ?_, ?_⟩
  · intro a m h; cases h
  · rintro v H' ⟨_, _, _, _, _, r, e⟩
    subst e
    cases r
    rfl
  · exact noX_ok
theorem walk {l : PySem.W.OpenLaw} {q : Program} {loose : List Str} {XP : (Str → Option Value) → Heap → Prop} {YP : World → Heap → Prop} {d : DefRec} {K : Params → PySem.W.Frag} (hn : l.most = some 63) (hdf : d.params.defaults = [])
    (hY : ∀ (w : World) (h : Heap), YP w h → (K w.params).In h)
    (F : ∀ (w : World) (mg : Str → Option Value) (fa : Addr) (h : Heap), (K w.params).In h → h.Ns mainGlobals mg → mg d.name = some (.ref fa) →
      ∃ fd : FuncData, (∀ (s : Shared) (u : Value), BindsTo s fd ⟨[u], []⟩ [("script", u)]) ∧ ∀ base : Heap, (K w.params).In base → base.Ns mainGlobals mg → FnOk l.prog w (K w.params) mg base CX0 12 fa fd ["script"] (spOf (K w.params) spLaw)) :
    PySem.W.WalkO q loose XP YP l.row.toRowW d [] (fun f vs => PySem.call f vs) :=
  L2.walk_of (n := 63) (k := 12) (x := "script") (CX := fun _ => CX0) (sp := fun w => spOf (K w.params) spLaw) hn (by decide) hdf room11 hY F
    (fun w H a ns hl _ hS => hsp H a ns hS) fun _ _ _ _ _ z => z
end K04


set_option Elab.async false
set_option maxRecDepth 100000
open PySem PySem.W PyProof.Rows in
set_option maxRecDepth 100000 in
set_option maxHeartbeats 0 in
theorem PySem.Challenge.cw_eachcellheld_k04_texts_that_are_none_holds : PySem.Challenge.rw_eachcellheld_k04_texts_that_are_none.Holds := by
  w_on; o_law; k_head; (case hw => w_witness2)
  k_fill
  refine K04.walk (l := PySem.Challenge.rw_eachcellheld_k04_texts_that_are_none) rfl rfl (fun w h Y => PySem.W.kIn_of Y) ?F
  case F =>
    intro w mg fa h KX G hmg
    refine' K04.all_mk KX G hmg ?aC_Reader ?pg_Reader ?hd_Reader ?po_Reader ?sa_Reader ?mi_Reader ?kc_Reader ?na_Reader__words ?na_Reader_at ?aC_HeldError ?hs_HeldError ?hd_HeldError ?ty_HeldError ?aC_InputError ?hs_InputError ?hd_InputError ?ty_InputError ?aC_TextError ?hs_TextError ?hd_TextError ?ty_TextError ?sub_TextError_HeldError ?sub_TextError_TextError ?sub_TextError_InputError ?ne_ ?hn_ ?ht_ ?super_ ?stat_ ?top_ ?xL_InputError ?ve_InputError ?sa_InputError ?kC_InputError ?iC_InputError ?tI_InputError ?lI_InputError ?cI_InputError ?cell_InputError ?code_InputError ?vs_InputError ?fl_InputError ?icl_InputError ?ms_InputError ?ks_InputError ?sv_InputError ?hg_InputError ?hk_InputError ?ha_InputError ?hm_InputError ?nf_InputError_code ?xL_TextError ?ve_TextError ?sa_TextError ?kC_TextError ?iC_TextError ?tI_TextError ?lI_TextError ?cI_TextError ?cell_TextError ?code_TextError ?vs_TextError ?fl_TextError ?icl_TextError ?ms_TextError ?ks_TextError ?sv_TextError ?hg_TextError ?hk_TextError ?ha_TextError ?hm_TextError ?nf_TextError_code ?nf_TextError_at ?tc_LETTERS ?tc_DIGITS ?tc_MOST_FIGURES ?tc_WHOLE ?tc_SIGNS ?tl_SIGNS ?tr_SIGNS ?tc_WORDS ?tl_WORDS ?tr_WORDS ?a__law_begin ?l__law_begin ?c__law_begin ?k__law_begin ?a__law_take ?l__law_take ?c__law_take ?k__law_take ?a__law_pick ?l__law_pick ?c__law_pick ?k__law_pick ?a_is_whole ?l_is_whole ?c_is_whole ?k_is_whole ?a_is_number ?l_is_number ?c_is_number ?k_is_number ?a_is_made ?l_is_made ?c_is_made ?k_is_made ?a_is_plain_name ?l_is_plain_name ?c_is_plain_name ?k_is_plain_name ?a_is_name ?l_is_name ?c_is_name ?k_is_name ?a_is_term ?l_is_term ?c_is_term ?k_is_term ?a_is_fact ?l_is_fact ?c_is_fact ?k_is_fact ?a_is_item ?l_is_item ?c_is_item ?k_is_item ?a_led_to ?l_led_to ?c_led_to ?k_led_to ?a_check_shape ?l_check_shape ?c_check_shape ?k_check_shape ?a_part_end ?l_part_end ?c_part_end ?k_part_end ?a_sign_at ?l_sign_at ?c_sign_at ?k_sign_at ?a_words_of ?l_words_of ?c_words_of ?k_words_of ?a_Reader___init__ ?i_Reader___init__ ?l_Reader___init__ ?c_Reader___init__ ?k_Reader___init__ ?a_Reader_peek ?i_Reader_peek ?l_Reader_peek ?c_Reader_peek ?k_Reader_peek ?a_Reader_stop ?i_Reader_stop ?l_Reader_stop ?c_Reader_stop ?k_Reader_stop ?a_Reader_skip ?i_Reader_skip ?l_Reader_skip ?c_Reader_skip ?k_Reader_skip ?a_Reader_need ?i_Reader_need ?l_Reader_need ?c_Reader_need ?k_Reader_need ?a_Reader_take ?i_Reader_take ?l_Reader_take ?c_Reader_take ?k_Reader_take ?a_Reader_number ?i_Reader_number ?l_Reader_number ?c_Reader_number ?k_Reader_number ?a_Reader_end ?i_Reader_end ?l_Reader_end ?c_Reader_end ?k_Reader_end ?a_read_term ?l_read_term ?c_read_term ?k_read_term ?a_read_names ?l_read_names ?c_read_names ?k_read_names ?a_read_cell ?l_read_cell ?c_read_cell ?k_read_cell ?a_read_part ?l_read_part ?c_read_part ?k_read_part ?a_read_shape ?l_read_shape ?c_read_shape ?k_read_shape ?a_read_assertion ?l_read_assertion ?c_read_assertion ?k_read_assertion ?a_parse_shape ?l_parse_shape ?c_parse_shape ?k_parse_shape ?a_check_assertion ?l_check_assertion ?c_check_assertion ?k_check_assertion ?a_parse_assertion ?l_parse_assertion ?c_parse_assertion ?k_parse_assertion ?a__law_told ?l__law_told ?c__law_told ?k__law_told ?a__law_part ?l__law_part ?c__law_part ?k__law_part ?a_law ?l_law ?c_law ?k_law ?z_abs ?z_all ?z_bool ?z_int ?z_isinstance ?z_len ?z_list ?z_max ?z_range ?z_str ?z_tuple
    (case aC_Reader => k_is)
    (case pg_Reader => k_is)
    (case hd_Reader => k_is)
    (case po_Reader => k_is)
    (case sa_Reader => k_is)
    (case mi_Reader => k_is)
    (case kc_Reader => k_is)
    (case na_Reader__words => k_is)
    (case na_Reader_at => k_is)
    (case aC_HeldError => k_is)
    (case hs_HeldError => k_is)
    (case hd_HeldError => k_is)
    (case ty_HeldError => k_is)
    (case aC_InputError => k_is)
    (case hs_InputError => k_is)
    (case hd_InputError => k_is)
    (case ty_InputError => k_is)
    (case aC_TextError => k_is)
    (case hs_TextError => k_is)
    (case hd_TextError => k_is)
    (case ty_TextError => k_is)
    (case sub_TextError_HeldError => k_is)
    (case sub_TextError_TextError => k_is)
    (case sub_TextError_InputError => k_is)
    (case ne_ => first | rfl | decide +kernel)
    (case hn_ => k_is)
    (case ht_ => k_is)
    (case super_ => k_is)
    (case stat_ => k_is)
    (case top_ => first | rfl | decide +kernel)
    (case xL_InputError => k_is)
    (case ve_InputError => decide +kernel)
    (case sa_InputError => k_is)
    (case kC_InputError => k_is)
    (case iC_InputError => k_is)
    (case tI_InputError => k_is)
    (case lI_InputError => k_is)
    (case cI_InputError => k_is)
    (case cell_InputError => k_is)
    (case code_InputError => k_is)
    (case vs_InputError => rfl)
    (case fl_InputError => first | rfl | decide +kernel)
    (case icl_InputError => k_is)
    (case ms_InputError => k_is)
    (case ks_InputError => ks_is)
    (case sv_InputError => k_is)
    (case hg_InputError => k_is)
    (case hk_InputError => k_is)
    (case ha_InputError => k_is)
    (case hm_InputError => k_is)
    (case nf_InputError_code => k_is)
    (case xL_TextError => k_is)
    (case ve_TextError => decide +kernel)
    (case sa_TextError => k_is)
    (case kC_TextError => k_is)
    (case iC_TextError => k_is)
    (case tI_TextError => k_is)
    (case lI_TextError => k_is)
    (case cI_TextError => k_is)
    (case cell_TextError => k_is)
    (case code_TextError => k_is)
    (case vs_TextError => rfl)
    (case fl_TextError => first | rfl | decide +kernel)
    (case icl_TextError => k_is)
    (case ms_TextError => k_is)
    (case ks_TextError => ks_is)
    (case sv_TextError => k_is)
    (case hg_TextError => k_is)
    (case hk_TextError => k_is)
    (case ha_TextError => k_is)
    (case hm_TextError => k_is)
    (case nf_TextError_code => k_is)
    (case nf_TextError_at => k_is)
    (case tc_LETTERS => k_is)
    (case tc_DIGITS => k_is)
    (case tc_MOST_FIGURES => k_is)
    (case tc_WHOLE => k_is)
    (case tc_SIGNS => k_is)
    (case tl_SIGNS => k_is)
    (case tr_SIGNS => (refine ⟨_, _, _, rfl, rfl, by decide +kernel, rfl, ?_⟩; repeat (first | exact trivial | refine Y.lit_cons ⟨_, rfl⟩ ?_)))
    (case tc_WORDS => k_is)
    (case tl_WORDS => k_is)
    (case tr_WORDS => (refine ⟨_, _, _, rfl, rfl, by decide +kernel, rfl, ?_⟩; repeat (first | exact trivial | refine Y.lit_cons ⟨_, rfl⟩ ?_)))
    (case a__law_begin => k_is)
    (case l__law_begin => k_is)
    (case c__law_begin => k_is)
    (case k__law_begin => k_is)
    (case a__law_take => k_is)
    (case l__law_take => k_is)
    (case c__law_take => k_is)
    (case k__law_take => k_is)
    (case a__law_pick => k_is)
    (case l__law_pick => k_is)
    (case c__law_pick => k_is)
    (case k__law_pick => k_is)
    (case a_is_whole => k_is)
    (case l_is_whole => k_is)
    (case c_is_whole => k_is)
    (case k_is_whole => k_is)
    (case a_is_number => k_is)
    (case l_is_number => k_is)
    (case c_is_number => k_is)
    (case k_is_number => k_is)
    (case a_is_made => k_is)
    (case l_is_made => k_is)
    (case c_is_made => k_is)
    (case k_is_made => k_is)
    (case a_is_plain_name => k_is)
    (case l_is_plain_name => k_is)
    (case c_is_plain_name => k_is)
    (case k_is_plain_name => k_is)
    (case a_is_name => k_is)
    (case l_is_name => k_is)
    (case c_is_name => k_is)
    (case k_is_name => k_is)
    (case a_is_term => k_is)
    (case l_is_term => k_is)
    (case c_is_term => k_is)
    (case k_is_term => k_is)
    (case a_is_fact => k_is)
    (case l_is_fact => k_is)
    (case c_is_fact => k_is)
    (case k_is_fact => k_is)
    (case a_is_item => k_is)
    (case l_is_item => k_is)
    (case c_is_item => k_is)
    (case k_is_item => k_is)
    (case a_led_to => k_is)
    (case l_led_to => k_is)
    (case c_led_to => k_is)
    (case k_led_to => k_is)
    (case a_check_shape => k_is)
    (case l_check_shape => k_is)
    (case c_check_shape => k_is)
    (case k_check_shape => k_is)
    (case a_part_end => k_is)
    (case l_part_end => k_is)
    (case c_part_end => k_is)
    (case k_part_end => k_is)
    (case a_sign_at => k_is)
    (case l_sign_at => k_is)
    (case c_sign_at => k_is)
    (case k_sign_at => k_is)
    (case a_words_of => k_is)
    (case l_words_of => k_is)
    (case c_words_of => k_is)
    (case k_words_of => k_is)
    (case a_Reader___init__ => k_is)
    (case i_Reader___init__ => k_is)
    (case l_Reader___init__ => k_is)
    (case c_Reader___init__ => k_is)
    (case k_Reader___init__ => k_is)
    (case a_Reader_peek => k_is)
    (case i_Reader_peek => k_is)
    (case l_Reader_peek => k_is)
    (case c_Reader_peek => k_is)
    (case k_Reader_peek => k_is)
    (case a_Reader_stop => k_is)
    (case i_Reader_stop => k_is)
    (case l_Reader_stop => k_is)
    (case c_Reader_stop => k_is)
    (case k_Reader_stop => k_is)
    (case a_Reader_skip => k_is)
    (case i_Reader_skip => k_is)
    (case l_Reader_skip => k_is)
    (case c_Reader_skip => k_is)
    (case k_Reader_skip => k_is)
    (case a_Reader_need => k_is)
    (case i_Reader_need => k_is)
    (case l_Reader_need => k_is)
    (case c_Reader_need => k_is)
    (case k_Reader_need => k_is)
    (case a_Reader_take => k_is)
    (case i_Reader_take => k_is)
    (case l_Reader_take => k_is)
    (case c_Reader_take => k_is)
    (case k_Reader_take => k_is)
    (case a_Reader_number => k_is)
    (case i_Reader_number => k_is)
    (case l_Reader_number => k_is)
    (case c_Reader_number => k_is)
    (case k_Reader_number => k_is)
    (case a_Reader_end => k_is)
    (case i_Reader_end => k_is)
    (case l_Reader_end => k_is)
    (case c_Reader_end => k_is)
    (case k_Reader_end => k_is)
    (case a_read_term => k_is)
    (case l_read_term => k_is)
    (case c_read_term => k_is)
    (case k_read_term => k_is)
    (case a_read_names => k_is)
    (case l_read_names => k_is)
    (case c_read_names => k_is)
    (case k_read_names => k_is)
    (case a_read_cell => k_is)
    (case l_read_cell => k_is)
    (case c_read_cell => k_is)
    (case k_read_cell => k_is)
    (case a_read_part => k_is)
    (case l_read_part => k_is)
    (case c_read_part => k_is)
    (case k_read_part => k_is)
    (case a_read_shape => k_is)
    (case l_read_shape => k_is)
    (case c_read_shape => k_is)
    (case k_read_shape => k_is)
    (case a_read_assertion => k_is)
    (case l_read_assertion => k_is)
    (case c_read_assertion => k_is)
    (case k_read_assertion => k_is)
    (case a_parse_shape => k_is)
    (case l_parse_shape => k_is)
    (case c_parse_shape => k_is)
    (case k_parse_shape => k_is)
    (case a_check_assertion => k_is)
    (case l_check_assertion => k_is)
    (case c_check_assertion => k_is)
    (case k_check_assertion => k_is)
    (case a_parse_assertion => k_is)
    (case l_parse_assertion => k_is)
    (case c_parse_assertion => k_is)
    (case k_parse_assertion => k_is)
    (case a__law_told => k_is)
    (case l__law_told => k_is)
    (case c__law_told => k_is)
    (case k__law_told => k_is)
    (case a__law_part => k_is)
    (case l__law_part => k_is)
    (case c__law_part => k_is)
    (case k__law_part => k_is)
    (case a_law => k_is)
    (case l_law => k_is)
    (case c_law => k_is)
    (case k_law => k_is)
    (case z_abs => k_is)
    (case z_all => k_is)
    (case z_bool => k_is)
    (case z_int => k_is)
    (case z_isinstance => k_is)
    (case z_len => k_is)
    (case z_list => k_is)
    (case z_max => k_is)
    (case z_range => k_is)
    (case z_str => k_is)
    (case z_tuple => k_is)


