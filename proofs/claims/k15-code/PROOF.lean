import PyProof.Rows.All
import Wide.All
import OpenK.AllK
import Wide.FinOn
import HandS.ForMost
import HandS.Walk
import HandS.TupAny
import HandS.Deep
import HandS.Conv
import HandS.IsInst
import HandS.DictComp
import HandS.More
import HandS.TryOnly
import HandS.Small
import HandS.Iter
import HandS.TupMul
import HandS.Ends
import PySem.Challenge.RW_eachcellheld_k15_code
set_option Elab.async false
set_option linter.all false
set_option maxRecDepth 100000
set_option maxHeartbeats 1000000
/-! Y1: values as data (tuples, lists that stand still), a store of what may change; the readings of the hand layer lifted to it. -/
namespace Y
open PySem PySem.Spec PyProof.Rows L2
abbrev Sg := L2.St

/-- a value as data: v x the value itself (an int, a text, the address of something that may change); a tuple, a list that stands still -/
inductive D where
  | v (x : V) | tup (ds : List D) | lst (ds : List D)
instance : Inhabited D := ⟨.v .non⟩
abbrev D.int (i : Int) : D := .v (.int i)
abbrev D.str (x : Str) : D := .v (.str x)
abbrev D.bl (b : Bool) : D := .v (.bl b)
abbrev D.non : D := .v .non
abbrev D.ref (a : Addr) : D := .v (.ref a)

mutual
inductive Rep (K : PySem.W.Frag) (F : Hp) : V → D → Prop
  | v (x : V) : Rep K F x (.v x)
  | tup {a : Addr} {xs : List V} {ds : List D} : SqT K F a xs → RepL K F xs ds → Rep K F (.ref a) (.tup ds)
  | lst {a : Addr} {xs : List V} {ds : List D} : SqL K F a xs → RepL K F xs ds → Rep K F (.ref a) (.lst ds)
inductive RepL (K : PySem.W.Frag) (F : Hp) : List V → List D → Prop
  | nil : RepL K F [] []
  | cons {x : V} {xs : List V} {d : D} {ds : List D} : Rep K F x d → RepL K F xs ds → RepL K F (x :: xs) (d :: ds)
end

/-- F stands within H -/
def Le (F H : Hp) : Prop := ∀ a o, F a = some o → H a = some o
theorem Le.refl (F : Hp) : Le F F := fun _ _ h => h
theorem Le.trans {F G H : Hp} (a : Le F G) (b : Le G H) : Le F H := fun x o h => b x o (a x o h)
theorem Rd.le {F H : Hp} {a : Addr} {u : HO} (e : Le F H) (h : Rd F a u) : Rd H a u := by
  rcases h with h | ⟨o, h⟩
  · exact .inl (e _ _ h)
  · exact .inr ⟨o, e _ _ h⟩
theorem SqL.le {K : PySem.W.Frag} {F H : Hp} {a : Addr} {xs : List V} (e : Le F H) (h : SqL K F a xs) : SqL K H a xs := by
  rcases h with h | h
  · exact .inl (Rd.le e h)
  · exact .inr h
theorem SqT.le {K : PySem.W.Frag} {F H : Hp} {a : Addr} {xs : List V} (e : Le F H) (h : SqT K F a xs) : SqT K H a xs := by
  rcases h with h | h
  · exact .inl (Rd.le e h)
  · exact .inr h
mutual
theorem Rep.le {K : PySem.W.Frag} {F H : Hp} (e : Le F H) : ∀ {x : V} {d : D}, Rep K F x d → Rep K H x d
  | _, _, .v x => .v x
  | _, _, .tup h r => .tup (SqT.le e h) (RepL.le e r)
  | _, _, .lst h r => .lst (SqL.le e h) (RepL.le e r)
theorem RepL.le {K : PySem.W.Frag} {F H : Hp} (e : Le F H) : ∀ {xs : List V} {ds : List D}, RepL K F xs ds → RepL K H xs ds
  | _, _, .nil => .nil
  | _, _, .cons a b => .cons (Rep.le e a) (RepL.le e b)
end
section
variable {K : PySem.W.Frag} {F : Hp}
theorem RepL.length : ∀ {xs : List V} {ds : List D}, RepL K F xs ds → xs.length = ds.length
  | _, _, .nil => rfl
  | _, _, .cons _ r => by simp [RepL.length r]
theorem RepL.get : ∀ {xs : List V} {ds : List D} {i : Nat} {d : D}, RepL K F xs ds → ds[i]? = some d → ∃ x, xs[i]? = some x ∧ Rep K F x d
  | _, _, _, _, .nil, h => by simp at h
  | _, _, 0, _, .cons a b, h => by simp at h; subst h; exact ⟨_, rfl, a⟩
  | _, _, i + 1, _, .cons a b, h => by
    obtain ⟨x, h1, h2⟩ := RepL.get (i := i) b (by simpa using h)
    exact ⟨x, by simpa using h1, h2⟩
theorem RepL.get' : ∀ {xs : List V} {ds : List D} {i : Nat} {x : V}, RepL K F xs ds → xs[i]? = some x → ∃ d, ds[i]? = some d ∧ Rep K F x d
  | _, _, _, _, .nil, h => by simp at h
  | _, _, 0, _, .cons a b, h => by simp at h; subst h; exact ⟨_, rfl, a⟩
  | _, _, i + 1, _, .cons a b, h => by
    obtain ⟨x, h1, h2⟩ := RepL.get' (i := i) b (by simpa using h)
    exact ⟨x, by simpa using h1, h2⟩
theorem RepL.append : ∀ {xs ys : List V} {ds es : List D}, RepL K F xs ds → RepL K F ys es → RepL K F (xs ++ ys) (ds ++ es)
  | _, _, _, _, .nil, r => r
  | _, _, _, _, .cons a b, r => .cons a (RepL.append b r)
theorem RepL.set {x : V} {d : D} (r : Rep K F x d) : ∀ {xs : List V} {ds : List D} (i : Nat), RepL K F xs ds → RepL K F (xs.set i x) (ds.set i d)
  | _, _, _, .nil => .nil
  | _, _, 0, .cons _ b => .cons r b
  | _, _, i + 1, .cons a b => .cons a (RepL.set r i b)
theorem RepL.take : ∀ {xs : List V} {ds : List D} (n : Nat), RepL K F xs ds → RepL K F (xs.take n) (ds.take n)
  | _, _, 0, _ => .nil
  | _, _, _ + 1, .nil => .nil
  | _, _, n + 1, .cons a b => .cons a (RepL.take n b)
theorem RepL.drop : ∀ {xs : List V} {ds : List D} (n : Nat), RepL K F xs ds → RepL K F (xs.drop n) (ds.drop n)
  | _, _, 0, r => r
  | _, _, _ + 1, .nil => .nil
  | _, _, n + 1, .cons _ b => RepL.drop n b
theorem RepL.rev : ∀ {xs : List V} {ds : List D}, RepL K F xs ds → RepL K F xs.reverse ds.reverse
  | _, _, .nil => .nil
  | _, _, .cons a b => by simp only [List.reverse_cons]; exact (RepL.rev b).append (.cons a .nil)
theorem RepL.ints (ns : List Int) : RepL K F (ns.map V.int) (ns.map D.int) := by
  induction ns with
  | nil => exact .nil
  | cons n ns ih => exact .cons (.v _) ih
theorem RepL.strs (ns : List Str) : RepL K F (ns.map V.str) (ns.map D.str) := by
  induction ns with
  | nil => exact .nil
  | cons n ns ih => exact .cons (.v _) ih
theorem RepL.vals (ns : List V) : RepL K F ns (ns.map D.v) := by
  induction ns with
  | nil => exact .nil
  | cons n ns ih => exact .cons (.v _) ih
theorem Rep.int_inv {x : V} {i : Int} (h : Rep K F x (.int i)) : x = .int i := by cases h; rfl
theorem Rep.v_inv {x y : V} (h : Rep K F x (.v y)) : x = y := by cases h; rfl
end

/-- what may change, by its address -/
inductive MO where
  | lst (ds : List D) | dct (kvs : List (Key × D)) | ins (C dx : Addr) (fs : List (Str × D)) | lk (o : Obj) (xs : List (Key × V)) (kvs : List (Key × D)) | raw (o : HO)
abbrev Mm := Addr → Option MO
def put (M : Mm) (a : Addr) (m : MO) : Mm := fun b => if b = a then some m else M b
def drop (M : Mm) (a : Addr) : Mm := fun b => if b = a then none else M b
theorem put_same {M : Mm} {a : Addr} {m : MO} : put M a m a = some m := by unfold put; rw [if_pos rfl]
theorem put_ne {M : Mm} {a b : Addr} {m : MO} (h : b ≠ a) : put M a m b = M b := by unfold put; rw [if_neg h]
theorem put_put {M : Mm} {a : Addr} {m n : MO} : put (put M a m) a n = put M a n := by
  funext b; unfold put; split <;> rfl
theorem drop_same {M : Mm} {a : Addr} : drop M a a = none := by unfold drop; rw [if_pos rfl]
theorem drop_ne {M : Mm} {a b : Addr} (h : b ≠ a) : drop M a b = M b := by unfold drop; rw [if_neg h]
theorem drop_put {M : Mm} {a : Addr} {m : MO} (h : M a = none) : drop (put M a m) a = M := by
  funext b; unfold put drop
  by_cases e : b = a
  · rw [if_pos e, e, h]
  · simp only [if_neg e]
theorem put_comm {M : Mm} {a b : Addr} {m n : MO} (h : a ≠ b) : put (put M a m) b n = put (put M b n) a m := by
  funext c; unfold put; split <;> split <;> simp_all
theorem put_get {M : Mm} {a : Addr} {m : MO} (h : M a = some m) : put M a m = M := by
  funext b; unfold put; split
  · rename_i e; rw [e, h]
  · rfl

def RepKV (K : PySem.W.Frag) (F : Hp) {κ : Type} : List (κ × V) → List (κ × D) → Prop := Paired fun p q => p.1 = q.1 ∧ Rep K F p.2 q.2
theorem RepKV.le {K : PySem.W.Frag} {F G : Hp} {κ : Type} {xs : List (κ × V)} {ds : List (κ × D)} (e : Le F G) (h : RepKV K F xs ds) : RepKV K G xs ds := Paired.mapP h fun _ _ q => ⟨q.1, Rep.le e q.2⟩
theorem RepKV.length {K : PySem.W.Frag} {F : Hp} {κ : Type} {xs : List (κ × V)} {ds : List (κ × D)} (h : RepKV K F xs ds) : xs.length = ds.length := Paired.length h

inductive MRep (K : PySem.W.Frag) (F : Hp) : HO → MO → Prop
  | lst {xs : List V} {ds : List D} : RepL K F xs ds → MRep K F (.lst xs) (.lst ds)
  | dct {xs : List (Key × V)} {ds : List (Key × D)} : RepKV K F xs ds → MRep K F (.dK xs) (.dct ds)
  | ins {C dx : Addr} {xs : List (Str × V)} {ds : List (Str × D)} : RepKV K F xs ds → MRep K F (.ins C dx xs) (.ins C dx ds)
  | lk {o : Obj} {xs : List (Key × V)} {ds : List (Key × D)} : RepKV K F xs ds → MRep K F (.frz o (.dK xs)) (.lk o xs ds)
  | raw (o : HO) : MRep K F o (.raw o)
theorem MRep.le {K : PySem.W.Frag} {F G : Hp} (e : Le F G) {o : HO} {m : MO} (h : MRep K F o m) : MRep K G o m := by
  cases h with
  | lst r => exact .lst (RepL.le e r)
  | dct r => exact .dct (RepKV.le e r)
  | ins r => exact .ins (RepKV.le e r)
  | lk r => exact .lk (RepKV.le e r)
  | raw => exact .raw _

/-- the heap H holds what stands still (F) and what may change (M) -/
structure Stt (K : PySem.W.Frag) (H F : Hp) (M : Mm) : Prop where
  fz : Le F H
  mu : ∀ a m, M a = some m → F a = none ∧ ∃ o, H a = some o ∧ MRep K F o m
section
variable {K : PySem.W.Frag} {H F : Hp} {M : Mm}
theorem Stt.free (S : Stt K H F M) {p : Addr} (h : H p = none) : F p = none ∧ M p = none := by
  constructor
  · cases e : F p with
    | none => rfl
    | some o => rw [S.fz _ _ e] at h; cases h
  · cases e : M p with
    | none => rfl
    | some m =>
      obtain ⟨_, o, h2, _⟩ := S.mu _ _ e
      rw [h2] at h; cases h
theorem le_upd {F : Hp} {p : Addr} {o : HO} (h : F p = none) : Le F (upd F p o) := fun a u e => by
  rw [upd_ne (ne_of_none e h)]; exact e
/-- something new that stands still -/
theorem Stt.still (S : Stt K H F M) {p : Addr} {o : HO} (h : H p = none) : Stt K (upd H p o) (upd F p o) M := by
  obtain ⟨f0, m0⟩ := S.free h
  refine ⟨fun a u e => ?_, fun a m e => ?_⟩
  · by_cases q : a = p
    · subst q; rw [upd_same] at e ⊢; exact e
    · rw [upd_ne q] at e ⊢; exact S.fz _ _ e
  · obtain ⟨h1, u, h2, h3⟩ := S.mu _ _ e
    have q : a ≠ p := fun z => by rw [z, m0] at e; cases e
    exact ⟨by rw [upd_ne q]; exact h1, u, by rw [upd_ne q]; exact h2, h3.le (le_upd f0)⟩
/-- something new that may change -/
theorem Stt.newM (S : Stt K H F M) {p : Addr} {o : HO} {m : MO} (h : H p = none) (r : MRep K F o m) : Stt K (upd H p o) F (put M p m) := by
  obtain ⟨f0, m0⟩ := S.free h
  refine ⟨fun a u e => ?_, fun a n e => ?_⟩
  · rw [upd_ne (ne_of_none e f0)]; exact S.fz _ _ e
  · by_cases q : a = p
    · subst q; rw [put_same] at e; cases e; exact ⟨f0, o, upd_same, r⟩
    · rw [put_ne q] at e
      obtain ⟨h1, u, h2, h3⟩ := S.mu _ _ e
      exact ⟨h1, u, by rw [upd_ne q]; exact h2, h3⟩
/-- what may change is changed -/
theorem Stt.change (S : Stt K H F M) {p : Addr} {o : HO} {m m0 : MO} (h : M p = some m0) (r : MRep K F o m) : Stt K (upd H p o) F (put M p m) := by
  obtain ⟨f0, _⟩ := S.mu _ _ h
  refine ⟨fun a u e => ?_, fun a n e => ?_⟩
  · rw [upd_ne (ne_of_none e f0)]; exact S.fz _ _ e
  · by_cases q : a = p
    · subst q; rw [put_same] at e; cases e; exact ⟨f0, o, upd_same, r⟩
    · rw [put_ne q] at e
      obtain ⟨h1, u, h2, h3⟩ := S.mu _ _ e
      exact ⟨h1, u, by rw [upd_ne q]; exact h2, h3⟩
/-- what may change stands still from here on -/
theorem Stt.freeze (S : Stt K H F M) {p : Addr} {m : MO} (h : M p = some m) : ∃ o, H p = some o ∧ MRep K F o m ∧ Le F (upd F p o) ∧ Stt K H (upd F p o) (drop M p) := by
  obtain ⟨f0, o, h2, h3⟩ := S.mu _ _ h
  refine ⟨o, h2, h3, le_upd f0, fun a u e => ?_, fun a n e => ?_⟩
  · by_cases q : a = p
    · subst q; rw [upd_same] at e; cases e; exact h2
    · rw [upd_ne q] at e; exact S.fz _ _ e
  · by_cases q : a = p
    · subst q; rw [drop_same] at e; cases e
    · rw [drop_ne q] at e
      obtain ⟨k1, u, k2, k3⟩ := S.mu _ _ e
      exact ⟨by rw [upd_ne q]; exact k1, u, k2, k3.le (le_upd f0)⟩
/-- less is told -/
theorem Stt.less (S : Stt K H F M) {M' : Mm} (h : ∀ a m, M' a = some m → M a = some m) : Stt K H F M' := ⟨S.fz, fun a m e => S.mu a m (h a m e)⟩
end

/-- the names' values -/
abbrev Env := List (Option D)
inductive RepS (K : PySem.W.Frag) (F : Hp) : Sg → Env → Prop
  | nil : RepS K F [] []
  | some {x : V} {d : D} {σ : Sg} {δ : Env} : Rep K F x d → RepS K F σ δ → RepS K F (Option.some x :: σ) (Option.some d :: δ)
  | none {σ : Sg} {δ : Env} : RepS K F σ δ → RepS K F (Option.none :: σ) (Option.none :: δ)
section
variable {K : PySem.W.Frag} {F G : Hp}
theorem RepS.le (e : Le F G) : ∀ {σ : Sg} {δ : Env}, RepS K F σ δ → RepS K G σ δ
  | _, _, .nil => .nil
  | _, _, .some r t => .some (r.le e) (RepS.le e t)
  | _, _, .none t => .none (RepS.le e t)
theorem RepS.get : ∀ {σ : Sg} {δ : Env} {i : Nat} {d : D}, RepS K F σ δ → δ[i]? = Option.some (Option.some d) → ∃ x, σ[i]? = Option.some (Option.some x) ∧ Rep K F x d
  | _, _, _, _, .nil, h => by simp at h
  | _, _, 0, _, .some r _, h => by simp at h; subst h; exact ⟨_, rfl, r⟩
  | _, _, 0, _, .none _, h => by simp at h
  | _, _, i + 1, _, .some _ t, h => by
    obtain ⟨x, h1, h2⟩ := RepS.get (i := i) t (by simpa using h)
    exact ⟨x, by simpa using h1, h2⟩
  | _, _, i + 1, _, .none t, h => by
    obtain ⟨x, h1, h2⟩ := RepS.get (i := i) t (by simpa using h)
    exact ⟨x, by simpa using h1, h2⟩
theorem RepS.set {x : V} {d : D} (r : Rep K F x d) : ∀ {σ : Sg} {δ : Env} (i : Nat), RepS K F σ δ → RepS K F (σ.set i (Option.some x)) (δ.set i (Option.some d))
  | _, _, _, .nil => .nil
  | _, _, 0, .some _ t => .some r t
  | _, _, 0, .none t => .some r t
  | _, _, i + 1, .some q t => .some q (RepS.set r i t)
  | _, _, i + 1, .none t => .none (RepS.set r i t)
theorem RepS.unset : ∀ {σ : Sg} {δ : Env} (i : Nat), RepS K F σ δ → RepS K F (σ.set i Option.none) (δ.set i Option.none)
  | _, _, _, .nil => .nil
  | _, _, 0, .some _ t => .none t
  | _, _, 0, .none t => .none t
  | _, _, i + 1, .some q t => .some q (RepS.unset i t)
  | _, _, i + 1, .none t => .none (RepS.unset i t)
theorem RepS.append : ∀ {σ τ : Sg} {δ ε : Env}, RepS K F σ δ → RepS K F τ ε → RepS K F (σ ++ τ) (δ ++ ε)
  | _, _, _, _, .nil, t => t
  | _, _, _, _, .some r t, u => .some r (RepS.append t u)
  | _, _, _, _, .none t, u => .none (RepS.append t u)
theorem RepS.ofL : ∀ {xs : List V} {ds : List D}, RepL K F xs ds → RepS K F (xs.map Option.some) (ds.map Option.some)
  | _, _, .nil => .nil
  | _, _, .cons r t => .some r (RepS.ofL t)
theorem RepS.rep (n : Nat) : RepS K F (List.replicate n Option.none) (List.replicate n Option.none) := by
  induction n with
  | zero => exact .nil
  | succ n ih => exact .none ih
theorem RepS.length : ∀ {σ : Sg} {δ : Env}, RepS K F σ δ → σ.length = δ.length
  | _, _, .nil => rfl
  | _, _, .some _ t => by simp [RepS.length t]
  | _, _, .none t => by simp [RepS.length t]
end

/-! ### the readings -/
abbrev QD := D → Mm → Prop
abbrev DE := Env → Mm → QD → Prop
abbrev DT := Env → Mm → (Bool → Mm → Prop) → Prop
abbrev DA := Env → Mm → (List D → Mm → Prop) → Prop
structure DEnds where
  nx : Env → Mm → Prop
  rt : QD
  bk : Env → Mm → Prop := fun _ _ => False
  ct : Env → Mm → Prop := fun _ _ => False
abbrev DS := DEnds → Env → Mm → Prop

def LQ (K : PySem.W.Frag) (F : Hp) (Q : QD) : VK := fun v H' => ∃ F' M' d, Le F F' ∧ Stt K H' F' M' ∧ Rep K F' v d ∧ Q d M'
def LB (K : PySem.W.Frag) (F : Hp) (Q : Bool → Mm → Prop) : Bool → Hp → Prop := fun b H' => ∃ F' M', Le F F' ∧ Stt K H' F' M' ∧ Q b M'
def LL (K : PySem.W.Frag) (F : Hp) (Q : List D → Mm → Prop) : List V → Hp → Prop := fun vs H' => ∃ F' M' ds, Le F F' ∧ Stt K H' F' M' ∧ RepL K F' vs ds ∧ Q ds M'
def LS (K : PySem.W.Frag) (F : Hp) (R : Env → Mm → Prop) : Sg → Hp → Prop := fun σ' H' => ∃ F' M' δ', Le F F' ∧ Stt K H' F' M' ∧ RepS K F' σ' δ' ∧ R δ' M'
theorem LQ.le {K : PySem.W.Frag} {F G : Hp} {Q : QD} {v : V} {H : Hp} (e : Le F G) (h : LQ K G Q v H) : LQ K F Q v H := let ⟨F', M', d, a, b⟩ := h; ⟨F', M', d, e.trans a, b⟩
theorem LB.le {K : PySem.W.Frag} {F G : Hp} {Q : Bool → Mm → Prop} {v : Bool} {H : Hp} (e : Le F G) (h : LB K G Q v H) : LB K F Q v H := let ⟨F', M', a, b⟩ := h; ⟨F', M', e.trans a, b⟩
theorem LL.le {K : PySem.W.Frag} {F G : Hp} {Q : List D → Mm → Prop} {v : List V} {H : Hp} (e : Le F G) (h : LL K G Q v H) : LL K F Q v H := let ⟨F', M', d, a, b⟩ := h; ⟨F', M', d, e.trans a, b⟩
theorem LS.le {K : PySem.W.Frag} {F G : Hp} {Q : Env → Mm → Prop} {v : Sg} {H : Hp} (e : Le F G) (h : LS K G Q v H) : LS K F Q v H := let ⟨F', M', d, a, b⟩ := h; ⟨F', M', d, e.trans a, b⟩

def up (K : PySem.W.Frag) (B : Hp) (t : DE) : TE := fun σ H Q => ∃ F M δ Q', Le B F ∧ Stt K H F M ∧ RepS K F σ δ ∧ t δ M Q' ∧ ∀ v H', LQ K F Q' v H' → Q v H'
def upT (K : PySem.W.Frag) (B : Hp) (t : DT) : TT := fun σ H Q => ∃ F M δ Q', Le B F ∧ Stt K H F M ∧ RepS K F σ δ ∧ t δ M Q' ∧ ∀ v H', LB K F Q' v H' → Q v H'
def upA (K : PySem.W.Frag) (B : Hp) (t : DA) : TA := fun σ H Q => ∃ F M δ Q', Le B F ∧ Stt K H F M ∧ RepS K F σ δ ∧ t δ M Q' ∧ ∀ v H', LL K F Q' v H' → Q v H'
def upS (K : PySem.W.Frag) (B : Hp) (t : DS) : TS := fun E σ H => ∃ F M δ E', Le B F ∧ Stt K H F M ∧ RepS K F σ δ ∧ t E' δ M ∧ (∀ σ' H', LS K F E'.nx σ' H' → E.nx σ' H') ∧ (∀ v H', LQ K F E'.rt v H' → E.rt v H') ∧
  (∀ σ' H', LS K F E'.bk σ' H' → E.bk σ' H') ∧ (∀ σ' H', LS K F E'.ct σ' H' → E.ct σ' H')

theorem PE.wk {X : Cx} {e : Expr} {t t' : TE} (h : PE X e t) (w : ∀ σ H Q, t' σ H Q → t σ H Q) : PE X e t' := ⟨fun pins s σ H Q I q => h.run pins s σ H Q I (w σ H Q q)⟩
theorem PT.wk {X : Cx} {e : Expr} {t t' : TT} (h : PT X e t) (w : ∀ σ H Q, t' σ H Q → t σ H Q) : PT X e t' := ⟨fun pins s σ H Q I q => h.run pins s σ H Q I (w σ H Q q)⟩
theorem PW.wk {X : Cx} {e : Expr} {t t' : TT} (h : PW X e t) (w : ∀ σ H Q, t' σ H Q → t σ H Q) : PW X e t' := ⟨fun wh pins s σ H Q I q => h.run wh pins s σ H Q I (w σ H Q q)⟩
theorem PA.wk {X : Cx} {es : List Expr} {t t' : TA} (h : PA X es t) (w : ∀ σ H Q, t' σ H Q → t σ H Q) : PA X es t' := ⟨fun pos pins s σ H Q I q => h.run pos pins s σ H Q I (w σ H Q q)⟩
theorem PS.wk {X : Cx} {st : Stmt} {t t' : TS} (h : PS X st t) (w : ∀ E σ H, t' E σ H → t E σ H) : PS X st t' := ⟨fun pins s σ H E I q => h.run pins s σ H E I (w E σ H q)⟩
theorem PSs.wk {X : Cx} {st : List Stmt} {t t' : TS} (h : PSs X st t) (w : ∀ E σ H, t' E σ H → t E σ H) : PSs X st t' := ⟨fun pins s σ H E I q => h.run pins s σ H E I (w E σ H q)⟩

section
variable {X : Cx} {B : Hp}
/-! ### names and constants -/
def dVar (i : Nat) : DE := fun δ M Q => ∃ d, δ[i]? = some (some d) ∧ Q d M
def dC (v : V) : DE := fun _ M Q => Q (.v v) M
theorem q_var (i : Nat) {x : Str} {pos : Pos} (hN : X.N[i]? = some x := by rfl) (hv : Vis X.env.scope x := by first | exact Or.inl rfl | exact Or.inr (Or.inl rfl) | exact Or.inr (Or.inr rfl)) (hd : (x == ("__debug__" : Str)) = false := by decide)
    (hcd : (x == ("__classdict__" : Str)) = false := by decide) : PE X (.Name x pos) (up X.K B (dVar i)) :=
  PE.wk (pe_var hN hv hd hcd) fun σ H Q ⟨F, M, δ, Q', lb, S, r, ⟨d, e, q⟩, k⟩ => by
    obtain ⟨x, h1, h2⟩ := r.get e
    exact ⟨x, h1, k _ _ ⟨F, M, d, Le.refl F, S, h2, q⟩⟩
theorem q_const {e : Expr} {v : V} (h : PE X e (tC v)) : PE X e (up X.K B (dC v)) :=
  PE.wk h fun σ H Q ⟨F, M, δ, Q', lb, S, r, q, k⟩ => k _ _ ⟨F, M, _, Le.refl F, S, .v v, q⟩
theorem q_int {i j pos} : PE X (.Constant (.int i) j pos) (up X.K B (dC (.int i))) := q_const pe_int
theorem q_bl {b j pos} : PE X (.Constant (.bool b) j pos) (up X.K B (dC (.bl b))) := q_const pe_bl
theorem q_non {j pos} : PE X (.Constant .none j pos) (up X.K B (dC .non)) := q_const pe_non
theorem q_str {x j pos} : PE X (.Constant (.str x) j pos) (up X.K B (dC (.str x))) := q_const pe_str

/-! ### operators by values -/
abbrev D2 := D → D → Mm → QD → Prop
/-- a rule of the layer, told of data -/
def Lift2 (K : PySem.W.Frag) (r : R2) (r' : D2) : Prop := ∀ H F M x y d e Q' Q, Stt K H F M → Rep K F x d → Rep K F y e → r' d e M Q' → (∀ v H', LQ K F Q' v H' → Q v H') → r x y H Q
def dOp (r : D2) (ta tb : DE) : DE := fun δ M Q => ta δ M fun x M1 => tb δ M1 fun y M2 => r x y M2 Q
theorem up_bin {K : PySem.W.Frag} {B : Hp} {r : R2} {r' : D2} (L : Lift2 K r r') {ta tb : DE} {σ : Sg} {H : Hp} {Q : VK} (h : up K B (dOp r' ta tb) σ H Q) : tOp r (up K B ta) (up K B tb) σ H Q := by
  obtain ⟨F, M, δ, Q', lb, S, rs, h, k⟩ := h
  refine ⟨F, M, δ, _, lb, S, rs, h, fun x H1 ⟨F1, M1, d, l1, S1, r1, h1⟩ => ?_⟩
  refine ⟨F1, M1, δ, _, lb.trans l1, S1, rs.le l1, h1, fun y H2 ⟨F2, M2, e, l2, S2, r2, h2⟩ => ?_⟩
  exact L H2 F2 M2 x y d e Q' Q S2 (r1.le l2) r2 h2 fun v H' q => k v H' (q.le (l1.trans l2))
variable {a b c : Expr} {ta tb tc : DE} {pos : Pos}
theorem q_op {op : Operator} {r : R2} {r' : D2} (ho : OpR X (binaryOp op) r) (L : Lift2 X.K r r') (ha : PE X a (up X.K B ta)) (hb : PE X b (up X.K B tb)) : PE X (.BinOp a op b pos) (up X.K B (dOp r' ta tb)) :=
  PE.wk (pe_op ho ha hb) fun _ _ _ h => up_bin L h
theorem q_cmp {op : CmpOp} {r : R2} {r' : D2} (ho : OpR X (compareOp op) r) (L : Lift2 X.K r r') (ha : PE X a (up X.K B ta)) (hb : PE X b (up X.K B tb)) (hm : behindInMarks op b = false) : PE X (.Compare a [op] [b] pos) (up X.K B (dOp r' ta tb)) :=
  PE.wk (pe_cmpR ho ha hb hm) fun _ _ _ h => up_bin L h
theorem q_ix {r : R2} {r' : D2} (hr : IxR X r) (L : Lift2 X.K r r') (ha : PE X a (up X.K B ta)) (hb : PE X b (up X.K B tb)) (hs : PlainIx b := by intro _ _; rfl) : PE X (.Subscript a b pos) (up X.K B (dOp r' ta tb)) :=
  PE.wk (pe_ix hr ha hb hs) fun _ _ _ h => up_bin L h
/-- a value as a test -/
def dTest (t : DE) : DT := fun δ M Q => t δ M fun d M1 => ∃ k, d = .bl k ∧ Q k M1
theorem up_test {K : PySem.W.Frag} {B : Hp} {t : DE} {σ : Sg} {H : Hp} {Q : Bool → Hp → Prop} (h : upT K B (dTest t) σ H Q) : tTest (up K B t) σ H Q := by
  obtain ⟨F, M, δ, Q', lb, S, rs, h, k⟩ := h
  refine ⟨F, M, δ, _, lb, S, rs, h, fun v H' ⟨F1, M1, d, l1, S1, r1, b, e, h1⟩ => ?_⟩
  subst e
  cases r1
  exact ⟨b, rfl, k _ _ ⟨F1, M1, l1, S1, h1⟩⟩
theorem qt_cmp {op : CmpOp} {r : R2} {r' : D2} (ho : OpR X (compareOp op) r) (L : Lift2 X.K r r') (ha : PE X a (up X.K B ta)) (hb : PE X b (up X.K B tb)) (hm : behindInMarks op b = false) : PT X (.Compare a [op] [b] pos) (upT X.K B (dTest (dOp r' ta tb))) :=
  PT.wk (pt_cmpR ho ha hb hm) fun _ _ _ h => by
    obtain ⟨F, M, δ, Q', lb, S, rs, h, k⟩ := h
    refine up_bin L (Q := fun x H' => ∃ k, x = .bl k ∧ _) ⟨F, M, δ, _, lb, S, rs, h, fun v H' ⟨F1, M1, d, l1, S1, r1, b, e, h1⟩ => ?_⟩
    subst e
    cases r1
    exact ⟨b, rfl, k _ _ ⟨F1, M1, l1, S1, h1⟩⟩
theorem qt_val {e : Expr} {t : DE} (h : PE X e (up X.K B t)) (he : ∀ whole, isTrue e X.env whole = (do let v ← whole; standAt e.pos; holding [v] (truthy v)) := by intro _; rfl) : PT X e (upT X.K B (dTest t)) :=
  PT.wk (pt_val h he) fun _ _ _ h => up_test h
/-- a chain of two comparisons -/
def dChain (r r' : D2) (ta tb tc : DE) : DE := fun δ M Q => ta δ M fun x M1 => tb δ M1 fun y M2 => r x y M2 fun z M3 => ∃ k, z = .bl k ∧ (if k = true then tc δ M3 fun w' M4 => r' y w' M4 Q else Q (.bl false) M3)
theorem up_chain {K : PySem.W.Frag} {B : Hp} {r s : R2} {r' s' : D2} (L : Lift2 K r r') (L' : Lift2 K s s') {ta tb tc : DE} {σ : Sg} {H : Hp} {Q : VK} (h : up K B (dChain r' s' ta tb tc) σ H Q) : tChain r s (up K B ta) (up K B tb) (up K B tc) σ H Q := by
  obtain ⟨F, M, δ, Q', lb, S, rs, h, k⟩ := h
  refine ⟨F, M, δ, _, lb, S, rs, h, fun x H1 ⟨F1, M1, d, l1, S1, r1, h1⟩ => ?_⟩
  refine ⟨F1, M1, δ, _, lb.trans l1, S1, rs.le l1, h1, fun y H2 ⟨F2, M2, e, l2, S2, r2, h2⟩ => ?_⟩
  refine L H2 F2 M2 x y d e _ _ S2 (r1.le l2) r2 h2 fun z H3 ⟨F3, M3, f, l3, S3, r3, b, eb, h3⟩ => ?_
  subst eb
  cases r3
  refine ⟨b, rfl, ?_⟩
  cases b with
  | false => exact iteF (k _ _ ⟨F3, M3, _, (l1.trans l2).trans l3, S3, .v _, by simpa using h3⟩)
  | true =>
    rw [if_pos rfl] at h3
    refine iteT ⟨F3, M3, δ, _, lb.trans ((l1.trans l2).trans l3), S3, rs.le ((l1.trans l2).trans l3), h3, fun w H4 ⟨F4, M4, g, l4, S4, r4, h4⟩ => ?_⟩
    exact L' H4 F4 M4 y w e g Q' Q S4 (r2.le (l3.trans l4)) r4 h4 fun v H' q => k v H' (q.le (((l1.trans l2).trans l3).trans l4))
theorem q_chain {op op' : CmpOp} {r s : R2} {r' s' : D2} (ho : OpR X (compareOp op) r) (L : Lift2 X.K r r') (ho' : OpR X (compareOp op') s) (L' : Lift2 X.K s s') (ha : PE X a (up X.K B ta)) (hb : PE X b (up X.K B tb)) (hc : PE X c (up X.K B tc))
    (hm : lastMarks [op, op'] [b, c] = false := by with_unfolding_all rfl) : PE X (.Compare a [op, op'] [b, c] pos) (up X.K B (dChain r' s' ta tb tc)) :=
  PE.wk (pe_chain ho ho' ha hb hc hm) fun _ _ _ h => up_chain L L' h
theorem qt_chain {op op' : CmpOp} {r s : R2} {r' s' : D2} (ho : OpR X (compareOp op) r) (L : Lift2 X.K r r') (ho' : OpR X (compareOp op') s) (L' : Lift2 X.K s s') (ha : PE X a (up X.K B ta)) (hb : PE X b (up X.K B tb)) (hc : PE X c (up X.K B tc))
    (hm : lastMarks [op, op'] [b, c] = false := by with_unfolding_all rfl) : PT X (.Compare a [op, op'] [b, c] pos) (upT X.K B (dTest (dChain r' s' ta tb tc))) :=
  PT.wk (pt_chain ho ho' ha hb hc hm) fun _ _ _ h => by
    obtain ⟨F, M, δ, Q', lb, S, rs, h, k⟩ := h
    refine up_chain L L' (Q := fun x H' => ∃ k, x = .bl k ∧ _) ⟨F, M, δ, _, lb, S, rs, h, fun v H' ⟨F1, M1, d, l1, S1, r1, b, e, h1⟩ => ?_⟩
    subst e
    cases r1
    exact ⟨b, rfl, k _ _ ⟨F1, M1, l1, S1, h1⟩⟩

/-! ### and, or, not as tests; a conditional expression -/
variable {tA tB' : DT} {rest : List Expr}
def dAnd (t u : DT) : DT := fun δ M Q => t δ M fun c M1 => if c = true then u δ M1 Q else Q false M1
def dOr (t u : DT) : DT := fun δ M Q => t δ M fun c M1 => if c = true then Q true M1 else u δ M1 Q
def dNot (t : DT) : DT := fun δ M Q => t δ M fun c M1 => Q (!c) M1
theorem qw_and1 (ha : PT X a (upT X.K B tA)) : PW X (.BoolOp .And [a] pos) (upT X.K B tA) := pw_and1 ha
theorem qw_or1 (ha : PT X a (upT X.K B tA)) : PW X (.BoolOp .Or [a] pos) (upT X.K B tA) := pw_or1 ha
theorem qw_and (ha : PT X a (upT X.K B tA)) (hb : PW X (.BoolOp .And (b :: rest) pos) (upT X.K B tB')) : PW X (.BoolOp .And (a :: b :: rest) pos) (upT X.K B (dAnd tA tB')) :=
  PW.wk (pw_and ha hb) fun σ H Q ⟨F, M, δ, Q', lb, S, rs, h, k⟩ => ⟨F, M, δ, _, lb, S, rs, h, fun c H1 ⟨F1, M1, l1, S1, h1⟩ => by
    cases c with
    | true => exact iteT ⟨F1, M1, δ, _, lb.trans l1, S1, rs.le l1, by simpa using h1, fun v H' q => k v H' (q.le l1)⟩
    | false => exact iteF (k _ _ ⟨F1, M1, l1, S1, by simpa using h1⟩)⟩
theorem qw_or (ha : PT X a (upT X.K B tA)) (hb : PW X (.BoolOp .Or (b :: rest) pos) (upT X.K B tB')) : PW X (.BoolOp .Or (a :: b :: rest) pos) (upT X.K B (dOr tA tB')) :=
  PW.wk (pw_or ha hb) fun σ H Q ⟨F, M, δ, Q', lb, S, rs, h, k⟩ => ⟨F, M, δ, _, lb, S, rs, h, fun c H1 ⟨F1, M1, l1, S1, h1⟩ => by
    cases c with
    | false => exact iteF ⟨F1, M1, δ, _, lb.trans l1, S1, rs.le l1, by simpa using h1, fun v H' q => k v H' (q.le l1)⟩
    | true => exact iteT (k _ _ ⟨F1, M1, l1, S1, by simpa using h1⟩)⟩
theorem qt_not (ha : PT X a (upT X.K B tA)) : PT X (.UnaryOp .Not a pos) (upT X.K B (dNot tA)) :=
  PT.wk (pt_not ha) fun σ H Q ⟨F, M, δ, Q', lb, S, rs, h, k⟩ => ⟨F, M, δ, _, lb, S, rs, h, fun c H1 ⟨F1, M1, l1, S1, h1⟩ => k _ _ ⟨F1, M1, l1, S1, h1⟩⟩
def dIf (t : DT) (ta tb : DE) : DE := fun δ M Q => t δ M fun c M1 => if c = true then ta δ M1 Q else tb δ M1 Q
theorem q_ifExp (hc : PT X c (upT X.K B tA)) (ha : PE X a (up X.K B ta)) (hb : PE X b (up X.K B tb)) : PE X (.IfExp c a b pos) (up X.K B (dIf tA ta tb)) :=
  PE.wk (pe_ifExp hc ha hb) fun σ H Q ⟨F, M, δ, Q', lb, S, rs, h, k⟩ => ⟨F, M, δ, _, lb, S, rs, h, fun c H1 ⟨F1, M1, l1, S1, h1⟩ => by
    cases c with
    | true => exact iteT ⟨F1, M1, δ, _, lb.trans l1, S1, rs.le l1, by simpa using h1, fun v H' q => k v H' (q.le l1)⟩
    | false => exact iteF ⟨F1, M1, δ, _, lb.trans l1, S1, rs.le l1, by simpa using h1, fun v H' q => k v H' (q.le l1)⟩⟩
/-! ### and, or, not as values that are True or False -/
def dAndV (ta tb : DE) : DE := fun δ M Q => ta δ M fun x M1 => ∃ c, x = .bl c ∧ if c = true then tb δ M1 Q else Q (.bl false) M1
def dOrV (ta tb : DE) : DE := fun δ M Q => ta δ M fun x M1 => ∃ c, x = .bl c ∧ if c = true then Q (.bl true) M1 else tb δ M1 Q
def dNotV (ta : DE) : DE := fun δ M Q => ta δ M fun x M1 => ∃ c, x = .bl c ∧ Q (.bl (!c)) M1
theorem q_one {op} (h : PE X a (up X.K B ta)) : PE X (.BoolOp op [a] pos) (up X.K B ta) := pe_one h
theorem q_and (ha : PE X a (up X.K B ta)) (hb : PE X (.BoolOp .And (b :: rest) pos) (up X.K B tb)) : PE X (.BoolOp .And (a :: b :: rest) pos) (up X.K B (dAndV ta tb)) :=
  PE.wk (pe_and ha hb) fun σ H Q ⟨F, M, δ, Q', lb, S, rs, h, k⟩ => ⟨F, M, δ, _, lb, S, rs, h, fun v H1 ⟨F1, M1, d, l1, S1, r1, c, e, h1⟩ => by
    subst e
    cases r1
    refine ⟨c, rfl, ?_⟩
    cases c with
    | true => exact iteT ⟨F1, M1, δ, _, lb.trans l1, S1, rs.le l1, by simpa using h1, fun v H' q => k v H' (q.le l1)⟩
    | false => exact iteF (k _ _ ⟨F1, M1, _, l1, S1, .v _, by simpa using h1⟩)⟩
theorem q_or (ha : PE X a (up X.K B ta)) (hb : PE X (.BoolOp .Or (b :: rest) pos) (up X.K B tb)) : PE X (.BoolOp .Or (a :: b :: rest) pos) (up X.K B (dOrV ta tb)) :=
  PE.wk (pe_or ha hb) fun σ H Q ⟨F, M, δ, Q', lb, S, rs, h, k⟩ => ⟨F, M, δ, _, lb, S, rs, h, fun v H1 ⟨F1, M1, d, l1, S1, r1, c, e, h1⟩ => by
    subst e
    cases r1
    refine ⟨c, rfl, ?_⟩
    cases c with
    | false => exact iteF ⟨F1, M1, δ, _, lb.trans l1, S1, rs.le l1, by simpa using h1, fun v H' q => k v H' (q.le l1)⟩
    | true => exact iteT (k _ _ ⟨F1, M1, _, l1, S1, .v _, by simpa using h1⟩)⟩
theorem q_not (ha : PE X a (up X.K B ta)) : PE X (.UnaryOp .Not a pos) (up X.K B (dNotV ta)) :=
  PE.wk (pe_not ha) fun σ H Q ⟨F, M, δ, Q', lb, S, rs, h, k⟩ => ⟨F, M, δ, _, lb, S, rs, h, fun v H1 ⟨F1, M1, d, l1, S1, r1, c, e, h1⟩ => by
    subst e
    cases r1
    exact ⟨c, rfl, k _ _ ⟨F1, M1, _, l1, S1, .v _, h1⟩⟩⟩
end
end Y


set_option Elab.async false
set_option linter.all false
set_option maxRecDepth 100000
set_option maxHeartbeats 1000000
/-! Y2: arguments, displays, calls of defs, statements, loops, comprehensions. -/
namespace Y
open PySem PySem.Spec PyProof.Rows L2
section
variable {X : Cx} {B : Hp} {e : Expr} {es : List Expr} {pos : Pos}
/-! ### arguments, displays -/
def dNil : DA := fun _ M Q => Q [] M
def dCons (t : DE) (u : DA) : DA := fun δ M Q => t δ M fun d M1 => u δ M1 fun ds M2 => Q (d :: ds) M2
theorem qa_nil : PA X [] (upA X.K B dNil) := PA.wk pa_nil fun σ H Q ⟨F, M, δ, Q', lb, S, rs, h, k⟩ => k _ _ ⟨F, M, _, Le.refl F, S, .nil, h⟩
theorem qa_cons {t : DE} {u : DA} (ha : PE X e (up X.K B t)) (hr : PA X es (upA X.K B u)) (hs : starEach (e :: es) X.env = (false, eval e X.env) :: starEach es X.env := by rfl) : PA X (e :: es) (upA X.K B (dCons t u)) :=
  PA.wk (pa_cons ha hr hs) fun σ H Q ⟨F, M, δ, Q', lb, S, rs, h, k⟩ => ⟨F, M, δ, _, lb, S, rs, h, fun x H1 ⟨F1, M1, d, l1, S1, r1, h1⟩ =>
    ⟨F1, M1, δ, _, lb.trans l1, S1, rs.le l1, h1, fun xs H2 ⟨F2, M2, ds, l2, S2, r2, h2⟩ => k _ _ ⟨F2, M2, _, l1.trans l2, S2, .cons (r1.le l2) r2, h2⟩⟩⟩
def dTup (t : DA) : DE := fun δ M Q => t δ M fun ds M1 => ds.length ≤ sizeLine ∧ Q (.tup ds) M1
/-- a list that is to stand still -/
def dLst (t : DA) : DE := fun δ M Q => t δ M fun ds M1 => ds.length ≤ sizeLine ∧ Q (.lst ds) M1
/-- a list that is to change -/
def dLstM (t : DA) : DE := fun δ M Q => t δ M fun ds M1 => ds.length ≤ sizeLine ∧ ∀ p, M1 p = none → Q (.ref p) (Y.put M1 p (.lst ds))
theorem q_tup {x1} {t : DA} (h : PA X es (upA X.K B t)) : PE X (.Tuple es x1 pos) (up X.K B (dTup t)) :=
  PE.wk (pe_tup h) fun σ H Q ⟨F, M, δ, Q', lb, S, rs, h, k⟩ => ⟨F, M, δ, _, lb, S, rs, h, fun xs H1 ⟨F1, M1, ds, l1, S1, r1, hl, h1⟩ => ⟨by rw [r1.length]; exact hl, fun p hp => by
    have f0 := (S1.free hp).1
    exact k _ _ ⟨upd F1 p (.tup xs), M1, _, l1.trans (le_upd f0), S1.still hp, .tup (SqT.of upd_same) (r1.le (le_upd f0)), h1⟩⟩⟩
theorem q_lst {t : DA} (h : PA X es (upA X.K B t)) : PE X (.List es pos) (up X.K B (dLst t)) :=
  PE.wk (pe_lst h) fun σ H Q ⟨F, M, δ, Q', lb, S, rs, h, k⟩ => ⟨F, M, δ, _, lb, S, rs, h, fun xs H1 ⟨F1, M1, ds, l1, S1, r1, hl, h1⟩ => ⟨by rw [r1.length]; exact hl, fun p hp => by
    have f0 := (S1.free hp).1
    exact k _ _ ⟨upd F1 p (.lst xs), M1, _, l1.trans (le_upd f0), S1.still hp, .lst (SqL.of upd_same) (r1.le (le_upd f0)), h1⟩⟩⟩
theorem q_lstM {t : DA} (h : PA X es (upA X.K B t)) : PE X (.List es pos) (up X.K B (dLstM t)) :=
  PE.wk (pe_lst h) fun σ H Q ⟨F, M, δ, Q', lb, S, rs, h, k⟩ => ⟨F, M, δ, _, lb, S, rs, h, fun xs H1 ⟨F1, M1, ds, l1, S1, r1, hl, h1⟩ => ⟨by rw [r1.length]; exact hl, fun p hp => by
    exact k _ _ ⟨F1, Y.put M1 p (.lst ds), _, l1, S1.newM hp (.lst r1), .v _, h1 p (S1.free hp).2⟩⟩⟩
def dDict : DE := fun δ M Q => ∀ p, M p = none → Q (.ref p) (Y.put M p (.dct []))
theorem q_dict : PE X (.Dict [] [] pos) (up X.K B dDict) :=
  PE.wk pe_dnewK fun σ H Q ⟨F, M, δ, Q', lb, S, rs, h, k⟩ p hp => k _ _ ⟨F, Y.put M p (.dct []), _, Le.refl F, S.newM hp (.dct .nil), .v _, h p (S.free hp).2⟩
/-- a list that has been made stands still from here on -/
def dFrz (t : DE) : DE := fun δ M Q => t δ M fun d M1 => ∃ p ds, d = .ref p ∧ M1 p = some (.lst ds) ∧ Q (.lst ds) (Y.drop M1 p)
theorem frz_le {K : PySem.W.Frag} {F : Hp} {Q : QD} {H1 : Hp} {x : V} {d : D} {F1 : Hp} {M1 : Mm} {p : Addr} {ds : List D} (l1 : Le F F1) (S1 : Stt K H1 F1 M1) (r1 : Rep K F1 x d) (e : d = .ref p) (em : M1 p = some (.lst ds)) (h : Q (.lst ds) (Y.drop M1 p)) : LQ K F Q x H1 := by
  subst e
  cases r1
  obtain ⟨o, h1, h2, l2, S2⟩ := S1.freeze em
  cases h2 with
  | lst r => exact ⟨_, _, _, l1.trans l2, S2, .lst (SqL.of upd_same) (r.le l2), h⟩
theorem q_frz {t : DE} (h : PE X e (up X.K B t)) : PE X e (up X.K B (dFrz t)) :=
  PE.wk h fun σ H Q ⟨F, M, δ, Q', lb, S, rs, h, k⟩ => ⟨F, M, δ, _, lb, S, rs, h, fun x H1 ⟨F1, M1, d, l1, S1, r1, p, ds, e, em, h1⟩ => k _ _ (frz_le l1 S1 r1 e em h1)⟩

/-! ### what a def promises, over data -/
/-- of an exception: its class, its fields -/
abbrev DX := Value → List (Str × D) → Mm → Prop
abbrev DSp := List D → Mm → QD → DX → Prop
def LX (K : PySem.W.Frag) (F : Hp) (E : DX) : XK := fun c od H' => ∃ F' M' fs, Le F F' ∧ Stt K H' F' M' ∧ (∃ dx vs, od = some dx ∧ H' dx = some (.xd vs) ∧ RepKV K F' vs fs) ∧ E c fs M'
theorem LX.le {K : PySem.W.Frag} {F G : Hp} {E : DX} {c : Value} {od : Option Addr} {H : Hp} (e : Le F G) (h : LX K G E c od H) : LX K F E c od H := let ⟨F', M', d, a, b⟩ := h; ⟨F', M', d, e.trans a, b⟩
def spOf (K : PySem.W.Frag) (s : DSp) : Sp := fun vs H Q E => ∃ F M ds Q' E', Stt K H F M ∧ RepL K F vs ds ∧ s ds M Q' E' ∧ (∀ v H', LQ K F Q' v H' → Q v H') ∧ ∀ c od H', LX K F E' c od H' → E c od H'
abbrev noX : DX := fun _ _ _ => False
def dCall (s : DSp) (t : DA) : DE := fun δ M Q => t δ M fun ds M1 => s ds M1 Q noX
theorem noX_ok {K : PySem.W.Frag} {F : Hp} {E : XK} : ∀ c od H', LX K F noX c od H' → E c od H' := fun _ _ _ ⟨_, _, _, _, _, _, q⟩ => q.elim
theorem up_call {K : PySem.W.Frag} {s : DSp} {t : DA} {σ : Sg} {H : Hp} {Q : VK} {E : XK} (h : up K B (dCall s t) σ H Q) : tCall (spOf K s) [] E (upA K B t) σ H Q := by
  obtain ⟨F, M, δ, Q', lb, S, rs, h, k⟩ := h
  refine ⟨F, M, δ, _, lb, S, rs, h, fun vs H1 ⟨F1, M1, ds, l1, S1, r1, h1⟩ => ?_⟩
  show spOf K s (vs ++ []) H1 Q E
  rw [List.append_nil]
  exact ⟨F1, M1, ds, _, _, S1, r1, h1, fun v H' q => k v H' (q.le l1), noX_ok⟩
section
variable {CX : CXT} {k : Nat} {f C : Addr} {fd : FuncData} {ps : List Str} {s : DSp} {x m : Str} {p apos : Pos} {o : Expr} {t : DA}
/-- f(e, ..), nothing raised -/
theorem q_call (F : FnOk X.prog X.w X.K X.mg X.base CX k f fd ps (spOf X.K s)) (hr : Room k X.A) (hg : Gl X x) (hm : X.mg x = some (.ref f)) (hk : PySem.W.keepIn X.K (.ref f) = true) (hb : Binds X.K fd ps []) (hx : Passes CX X E0) (ha : PA X (e :: es) (upA X.K B t))
    (hd : (x == ("__debug__" : Str)) = false := by decide) (he : starEach (e :: es) X.env = (false, eval e X.env) :: starEach es X.env := by rfl) (hpl : (backTo pos (starEach es X.env)).any (·.1) = false := by rfl) : PE X (.Call (.Name x p) (e :: es) [] pos) (up X.K B (dCall s t)) :=
  PE.wk (pe_call F hr hg hm hk hb .nil hx ha (hdb := hd) (he := he) (hpl := hpl)) fun _ _ _ h => up_call h
end

/-! ### targets -/
abbrev DG := D → Env → Mm → (Env → Mm → Prop) → Prop
abbrev DGs := List D → Env → Mm → (Env → Mm → Prop) → Prop
def upG (K : PySem.W.Frag) (B : Hp) (t : DG) : TG := fun v σ H Q => ∃ F M δ d Q', Le B F ∧ Stt K H F M ∧ RepS K F σ δ ∧ Rep K F v d ∧ t d δ M Q' ∧ ∀ σ' H', LS K F Q' σ' H' → Q σ' H'
def upGs (K : PySem.W.Frag) (B : Hp) (t : DGs) : TGs := fun vs σ H Q => ∃ F M δ ds Q', Le B F ∧ Stt K H F M ∧ RepS K F σ δ ∧ RepL K F vs ds ∧ t ds δ M Q' ∧ ∀ σ' H', LS K F Q' σ' H' → Q σ' H'
theorem PG.wk {g : Expr} {t t' : TG} (h : PG X g t) (w : ∀ v σ H Q, t' v σ H Q → t v σ H Q) : PG X g t' := ⟨fun pins s σ H v u Q I r q => h.run pins s σ H v u Q I r (w v σ H Q q)⟩
theorem PGs.wk {g : List Expr} {t t' : TGs} (h : PGs X g t) (w : ∀ v σ H Q, t' v σ H Q → t v σ H Q) : PGs X g t' := ⟨fun pins s σ H v u Q I r q => h.run pins s σ H v u Q I r (w v σ H Q q)⟩
def dgName (i : Nat) : DG := fun d δ M Q => Q (δ.set i (some d)) M
theorem qg_name {i : Nat} {x : Str} (hN : X.N.Nodup) (hi : X.N[i]? = some x) (hx : Loc X.env.scope x) (hf : X.fn x = true ∨ X.env.scope.names.lookup x = some .local := by first | exact .inl rfl | exact .inr rfl | assumption) : PG X (.Name x pos) (upG X.K B (dgName i)) :=
  PG.wk (pg_name hN hi hx hf) fun v σ H Q ⟨F, M, δ, d, Q', lb, S, rs, r, h, k⟩ => k _ _ ⟨F, M, _, Le.refl F, S, rs.set r i, h⟩
def dgNil : DGs := fun ds δ M Q => ds = [] ∧ Q δ M
def dgCons (t : DG) (u : DGs) : DGs := fun ds δ M Q => ∃ d r, ds = d :: r ∧ t d δ M fun δ' M' => u r δ' M' Q
theorem qgs_nil : PGs X [] (upGs X.K B dgNil) := PGs.wk pgs_nil fun v σ H Q ⟨F, M, δ, d, Q', lb, S, rs, r, ⟨e, h⟩, k⟩ => by
  subst e
  cases r
  exact ⟨rfl, k _ _ ⟨F, M, _, Le.refl F, S, rs, h⟩⟩
theorem qgs_cons {t : DG} {u : DGs} (h1 : PG X e (upG X.K B t)) (h2 : PGs X es (upGs X.K B u)) (hs : (assignEach (e :: es) X.env).map (·.2) = assign e X.env :: (assignEach es X.env).map (·.2) := by rfl) : PGs X (e :: es) (upGs X.K B (dgCons t u)) :=
  PGs.wk (pgs_cons h1 h2 hs) fun v σ H Q ⟨F, M, δ, ds, Q', lb, S, rs, r, ⟨d, r', e, h⟩, k⟩ => by
    subst e
    cases r with
    | cons r1 r2 => exact ⟨_, _, rfl, F, M, δ, d, _, lb, S, rs, r1, h, fun σ' H' ⟨F1, M1, δ1, l1, S1, rs1, h1⟩ => ⟨F1, M1, δ1, _, _, lb.trans l1, S1, rs1, r2.le l1, h1, fun σ2 H2 q => k _ _ (q.le l1)⟩⟩
def dgTup (n : Nat) (t : DGs) : DG := fun d δ M Q => ∃ ds, d = .tup ds ∧ ds.length = n ∧ t ds δ M Q
theorem qg_tup {k : Nat} {t : DGs} {n : Nat} (hc : X.calm = true) (h : PGs X es (upGs X.K B t)) (hn : (assignEach es X.env).length = n := by rfl) (hst : (assignEach es X.env).findIdx? (·.1) = none := by rfl) : PG X (.Tuple es k pos) (upG X.K B (dgTup n t)) :=
  PG.wk (pg_tup hc h hn hst) fun v σ H Q ⟨F, M, δ, d, Q', lb, S, rs, r, ⟨ds, e, hl, h⟩, k⟩ => by
    subst e
    cases r with
    | tup hs rl => exact ⟨_, _, rfl, SqT.le S.fz hs, by rw [rl.length]; exact hl, F, M, δ, ds, _, lb, S, rs, rl, h, k⟩

/-! ### statements -/
def dNext : DS := fun E δ M => E.nx δ M
def dSeq (t u : DS) : DS := fun E δ M => t { E with nx := u E } δ M
theorem up_seq {K : PySem.W.Frag} {t u : DS} : ∀ E σ H, upS K B (dSeq t u) E σ H → tSeq (upS K B t) (upS K B u) E σ H := fun E σ H ⟨F, M, δ, E', lb, S, rs, h, k1, k2, k3, k4⟩ =>
  ⟨F, M, δ, { E' with nx := u E' }, lb, S, rs, h, fun σ' H' ⟨F1, M1, δ1, l1, S1, rs1, h1⟩ => ⟨F1, M1, δ1, E', lb.trans l1, S1, rs1, h1, fun _ _ q => k1 _ _ (q.le l1), fun _ _ q => k2 _ _ (q.le l1), fun _ _ q => k3 _ _ (q.le l1), fun _ _ q => k4 _ _ (q.le l1)⟩, k2, k3, k4⟩
variable {st : Stmt} {rest : List Stmt} {t u : DS}
/-- two statements, cut between them by what is known there -/
def dCut (t u : DS) : DS := fun E δ M => ∃ N : Env → Mm → Prop, (∀ δ' M', N δ' M' → u E δ' M') ∧ t { E with nx := N } δ M
theorem up_cut {K : PySem.W.Frag} {t u : DS} : ∀ E σ H, upS K B (dCut t u) E σ H → tSeq (upS K B t) (upS K B u) E σ H := fun E σ H ⟨F, M, δ, E', lb, S, rs, ⟨N, hN, h⟩, k1, k2, k3, k4⟩ =>
  ⟨F, M, δ, { E' with nx := N }, lb, S, rs, h, fun σ' H' ⟨F1, M1, δ1, l1, S1, rs1, h1⟩ => ⟨F1, M1, δ1, E', lb.trans l1, S1, rs1, hN _ _ h1, fun _ _ q => k1 _ _ (q.le l1), fun _ _ q => k2 _ _ (q.le l1), fun _ _ q => k3 _ _ (q.le l1), fun _ _ q => k4 _ _ (q.le l1)⟩, k2, k3, k4⟩
theorem qss_cut (h1 : PS X st (upS X.K B t)) (h2 : PSs X rest (upS X.K B u)) : PSs X (st :: rest) (upS X.K B (dCut t u)) := PSs.wk (pss_cons h1 h2) up_cut
theorem qss_nil : PSs X [] (upS X.K B dNext) := PSs.wk pss_nil fun E σ H ⟨F, M, δ, E', lb, S, rs, h, k1, k2, k3, k4⟩ => k1 _ _ ⟨F, M, δ, Le.refl F, S, rs, h⟩
theorem qss_cons (h1 : PS X st (upS X.K B t)) (h2 : PSs X rest (upS X.K B u)) : PSs X (st :: rest) (upS X.K B (dSeq t u)) := PSs.wk (pss_cons h1 h2) up_seq
theorem qss_one (h1 : PS X st (upS X.K B t)) : PSs X [st] (upS X.K B t) := pss_one h1
theorem qs_pass : PS X (.Pass pos) (upS X.K B dNext) := PS.wk ps_pass fun E σ H ⟨F, M, δ, E', lb, S, rs, h, k1, k2, k3, k4⟩ => k1 _ _ ⟨F, M, δ, Le.refl F, S, rs, h⟩
def dBreak : DS := fun E δ M => E.bk δ M
def dCont : DS := fun E δ M => E.ct δ M
theorem qs_break : PS X (.Break pos) (upS X.K B dBreak) := PS.wk ps_break fun E σ H ⟨F, M, δ, E', lb, S, rs, h, k1, k2, k3, k4⟩ => k3 _ _ ⟨F, M, δ, Le.refl F, S, rs, h⟩
theorem qs_continue : PS X (.Continue pos) (upS X.K B dCont) := PS.wk ps_continue fun E σ H ⟨F, M, δ, E', lb, S, rs, h, k1, k2, k3, k4⟩ => k4 _ _ ⟨F, M, δ, Le.refl F, S, rs, h⟩
def dNever : DS := fun _ _ _ => False
theorem qs_never : PS X st (upS X.K B dNever) := PS.wk ps_never fun E σ H ⟨F, M, δ, E', lb, S, rs, h, _⟩ => h
def dDrop (t : DE) : DS := fun E δ M => t δ M fun _ M1 => E.nx δ M1
theorem qs_expr {t : DE} (he : PE X e (up X.K B t)) (hs : swapsWith e none pos.line X.env = pure false := by rfl) : PS X (.Expr e pos) (upS X.K B (dDrop t)) :=
  PS.wk (ps_expr he hs) fun E σ H ⟨F, M, δ, E', lb, S, rs, h, k1, k2, k3, k4⟩ => ⟨F, M, δ, _, lb, S, rs, h, fun x H1 ⟨F1, M1, d, l1, S1, r1, h1⟩ => k1 _ _ ⟨F1, M1, δ, l1, S1, rs.le l1, h1⟩⟩
def dRet (t : DE) : DS := fun E δ M => t δ M E.rt
theorem qs_ret {t : DE} (he : PE X e (up X.K B t)) : PS X (.Return (some e) pos) (upS X.K B (dRet t)) :=
  PS.wk (ps_ret he) fun E σ H ⟨F, M, δ, E', lb, S, rs, h, k1, k2, k3, k4⟩ => ⟨F, M, δ, _, lb, S, rs, h, k2⟩
def dRetN : DS := fun E _ M => E.rt .non M
theorem qs_retN : PS X (.Return none pos) (upS X.K B dRetN) :=
  PS.wk ps_retN fun E σ H ⟨F, M, δ, E', lb, S, rs, h, k1, k2, k3, k4⟩ => k2 _ _ ⟨F, M, _, Le.refl F, S, .v _, h⟩
def dIfS (c : DT) (t u : DS) : DS := fun E δ M => c δ M fun b M1 => if b = true then t E δ M1 else u E δ M1
theorem qs_if {c : Expr} {a b : List Stmt} {tc : DT} (hc : PT X c (upT X.K B tc)) (ha : PSs X a (upS X.K B t)) (hb : PSs X b (upS X.K B u)) : PS X (.If c a b pos) (upS X.K B (dIfS tc t u)) :=
  PS.wk (ps_if hc ha hb) fun E σ H ⟨F, M, δ, E', lb, S, rs, h, k1, k2, k3, k4⟩ => ⟨F, M, δ, _, lb, S, rs, h, fun c H1 ⟨F1, M1, l1, S1, h1⟩ => by
    cases c with
    | true => exact iteT ⟨F1, M1, δ, E', lb.trans l1, S1, rs.le l1, by simpa using h1, fun _ _ q => k1 _ _ (q.le l1), fun _ _ q => k2 _ _ (q.le l1), fun _ _ q => k3 _ _ (q.le l1), fun _ _ q => k4 _ _ (q.le l1)⟩
    | false => exact iteF ⟨F1, M1, δ, E', lb.trans l1, S1, rs.le l1, by simpa using h1, fun _ _ q => k1 _ _ (q.le l1), fun _ _ q => k2 _ _ (q.le l1), fun _ _ q => k3 _ _ (q.le l1), fun _ _ q => k4 _ _ (q.le l1)⟩⟩
def dAsg (t : DE) (g : DG) : DS := fun E δ M => t δ M fun d M1 => g d δ M1 E.nx
theorem up_asg {K : PySem.W.Frag} {t : DE} {g : DG} : ∀ E σ H, upS K B (dAsg t g) E σ H → tAsg (up K B t) (upG K B g) E σ H := fun E σ H ⟨F, M, δ, E', lb, S, rs, h, k1, k2, k3, k4⟩ =>
  ⟨F, M, δ, _, lb, S, rs, h, fun x H1 ⟨F1, M1, d, l1, S1, r1, h1⟩ => ⟨F1, M1, δ, d, _, lb.trans l1, S1, rs.le l1, r1, h1, fun σ' H' q => k1 _ _ (q.le l1)⟩⟩
theorem qs_asg {tg : Expr} {t : DE} {g : DG} (he : PE X e (up X.K B t)) (hg : PG X tg (upG X.K B g)) (hs : swapsWithSole [tg] e pos.line X.env = pure false := by rfl) (hw : swappedStores [tg] e X.env = pure none := by rfl)
    (h1 : (assignEach [tg] X.env).map (·.2) = [assign tg X.env] := by rfl) : PS X (.Assign [tg] e pos) (upS X.K B (dAsg t g)) := PS.wk (ps_asg he hg hs hw h1) up_asg
theorem qs_set {i : Nat} {x : Str} {t : DE} {pos' : Pos} (hN : X.N.Nodup) (hi : X.N[i]? = some x) (hx : Loc X.env.scope x) (he : PE X e (up X.K B t)) (hs : swapsWith e (some (.Name x pos')) pos.line X.env = pure false := by rfl)
    (hf : X.fn x = true ∨ X.env.scope.names.lookup x = some .local := by first | exact .inl rfl | exact .inr rfl | assumption) : PS X (.Assign [.Name x pos'] e pos) (upS X.K B (dAsg t (dgName i))) :=
  PS.wk (ps_set hN hi hx he hs hf) fun E σ H ⟨F, M, δ, E', lb, S, rs, h, k1, k2, k3, k4⟩ => ⟨F, M, δ, _, lb, S, rs, h, fun x H1 ⟨F1, M1, d, l1, S1, r1, h1⟩ => k1 _ _ ⟨F1, M1, _, l1, S1, (rs.le l1).set r1 i, h1⟩⟩
def dPar (i j : Nat) (ta : DA) : DS := fun E δ M => ta δ M fun ds M1 => ∃ v w, ds = [v, w] ∧ E.nx ((δ.set i (some v)).set j (some w)) M1
theorem qs_par {i j : Nat} {x y : Str} {a b : Expr} {ta : DA} {px py pt : Pos} {kt k2 pt2} (hc : X.calm = true) (hN : X.N.Nodup) (hi : X.N[i]? = some x) (hj : X.N[j]? = some y) (hij : i ≠ j)
    (hx : X.env.scope.names.lookup x = some .local) (hy : X.env.scope.names.lookup y = some .local) (ha : PA X [a, b] (upA X.K B ta)) (hw : swappedStores [.Tuple [.Name x px, .Name y py] kt pt] (.Tuple [a, b] k2 pt2) X.env = pure (some [x, y]) := by rfl) (hs : swapsWithSole [.Tuple [.Name x px, .Name y py] kt pt] (.Tuple [a, b] k2 pt2) pos.line X.env = pure false := by rfl) :
    PS X (.Assign [.Tuple [.Name x px, .Name y py] kt pt] (.Tuple [a, b] k2 pt2) pos) (upS X.K B (dPar i j ta)) :=
  PS.wk (ps_par hc hN hi hj hij hx hy ha hw hs) fun E σ H ⟨F, M, δ, E', lb, S, rs, h, k1, k2, k3, k4⟩ => ⟨F, M, δ, _, lb, S, rs, h, fun vs H1 ⟨F1, M1, ds, l1, S1, r1, v, w, e, h1⟩ => by
    subst e
    cases r1 with
    | cons ra rb =>
      cases rb with
      | cons rb rc =>
        cases rc
        exact ⟨_, _, rfl, k1 _ _ ⟨F1, M1, _, l1, S1, ((rs.le l1).set ra i).set rb j, h1⟩⟩⟩
/-- x op= e, a local -/
def dAug (i : Nat) (t : DE) (r : D2) : DS := fun E δ M => ∃ x, δ[i]? = some (some x) ∧ t δ M fun y M1 => r x y M1 fun z M2 => E.nx (δ.set i (some z)) M2
theorem qs_aug {i : Nat} {x : Str} {t : DE} {op : Operator} {r : TIp} {r' : D2} {pos' : Pos} (hN : X.N.Nodup) (hi : X.N[i]? = some x) (hx : Loc X.env.scope x) (he : PE X e (up X.K B t)) (ho : PIp X op r) (L : Lift2 X.K r r')
    (hf : X.fn x = true ∨ X.env.scope.names.lookup x = some .local := by first | exact .inl rfl | exact .inr rfl | assumption) : PS X (.AugAssign (.Name x pos') op e pos) (upS X.K B (dAug i t r')) :=
  PS.wk (ps_aug hN hi hx he ho hf) fun E σ H ⟨F, M, δ, E', lb, S, rs, ⟨d, ed, h⟩, k1, k2, k3, k4⟩ => by
    obtain ⟨v, h1, h2⟩ := rs.get ed
    refine ⟨v, h1, F, M, δ, _, lb, S, rs, h, fun y H1 ⟨F1, M1, e, l1, S1, r1, h3⟩ => ?_⟩
    exact L H1 F1 M1 v y d e _ _ S1 (h2.le l1) r1 h3 fun z H2 ⟨F2, M2, f, l2, S2, r2, h4⟩ => k1 _ _ ⟨F2, M2, _, l1.trans l2, S2, (rs.le (l1.trans l2)).set r2 i, h4⟩

/-! ### while -/
def whileD (c : DT) (tb : DS) (E : DEnds) : Nat → Env → Mm → Prop
  | 0, _, _ => False
  | n + 1, δ, M => ∃ N : Env → Mm → Prop, (∀ δ' M', N δ' M' → whileD c tb E n δ' M') ∧ c δ M fun b M1 => if b = true then tb { E with nx := N, ct := N, bk := E.nx } δ M1 else E.nx δ M1
def dWhile (c : DT) (tb : DS) : DS := fun E δ M => ∃ n, whileD c tb E n δ M
theorem qs_while {c : Expr} {body : List Stmt} {tc : DT} {tb : DS} (hp : PassesOwn (model X.prog X.w) X.A X.env X.xe) (hc : PT X c (upT X.K B tc)) (hb : PSs X body (upS X.K B tb)) : PS X (.While c body [] pos) (upS X.K B (dWhile tc tb)) :=
  PS.wk (ps_while hp hc hb) fun E σ H ⟨F, M, δ, E', lb, S, rs, ⟨n, h⟩, k1, k2, k3, k4⟩ => by
    refine ⟨fun m σ H => ∃ F1 M1 δ1, Le F F1 ∧ Stt X.K H F1 M1 ∧ RepS X.K F1 σ δ1 ∧ whileD tc tb E' m δ1 M1, ⟨n, F, M, δ, Le.refl F, S, rs, h⟩, ?_⟩
    rintro m σ1 H1 ⟨F1, M1, δ1, l1, S1, rs1, h1⟩
    cases m with
    | zero => exact h1.elim
    | succ m =>
      obtain ⟨N, hN, h1⟩ := h1
      refine ⟨F1, M1, δ1, _, lb.trans l1, S1, rs1, h1, fun b H2 ⟨F2, M2, l2, S2, h2⟩ => ?_⟩
      cases b with
      | false => exact iteF (k1 _ _ ⟨F2, M2, δ1, l1.trans l2, S2, rs1.le l2, by simpa using h2⟩)
      | true =>
        rw [if_pos rfl] at h2
        refine iteT ⟨fun σ' H' => ∃ F1 M1 δ1, Le F F1 ∧ Stt X.K H' F1 M1 ∧ RepS X.K F1 σ' δ1 ∧ whileD tc tb E' m δ1 M1, fun σ' H' q => ⟨m, Nat.lt_succ_self m, q⟩, ?_⟩
        refine ⟨F2, M2, δ1, _, lb.trans (l1.trans l2), S2, rs1.le l2, h2, fun σ' H' ⟨F3, M3, δ3, l3, S3, r3, h3⟩ => ⟨F3, M3, δ3, (l1.trans l2).trans l3, S3, r3, hN _ _ h3⟩, fun v H' q => k2 _ _ (q.le (l1.trans l2)),
          fun σ' H' q => k1 _ _ (q.le (l1.trans l2)), fun σ' H' ⟨F3, M3, δ3, l3, S3, r3, h3⟩ => ⟨F3, M3, δ3, (l1.trans l2).trans l3, S3, r3, hN _ _ h3⟩⟩

/-! ### for -/
/-- what is walked: its items, what must stay meanwhile -/
abbrev DI := Env → Mm → (List D → (Mm → Prop) → Mm → Prop) → Prop
structure Yl (K : PySem.W.Frag) (J : It) (F0 : Hp) (ds : List D) (G : Mm → Prop) : Prop where
  go : ∀ i H F M, Le F0 F → Stt K H F M → G M → i < ds.length → J.go i H
  stop : ∀ H F M, Le F0 F → Stt K H F M → G M → J.stop ds.length H
  yld : ∀ i H F M x H', Le F0 F → Stt K H F M → G M → i < ds.length → J.yld i H x H' → ∃ F' d, Le F F' ∧ Stt K H' F' M ∧ ds[i]? = some d ∧ Rep K F' x d
def upI (K : PySem.W.Frag) (B : Hp) (t : DI) : TI := fun σ H R => ∃ F M δ R', Le B F ∧ Stt K H F M ∧ RepS K F σ δ ∧ t δ M R' ∧ ∀ J H', (∃ F' M' ds G, Le F F' ∧ Stt K H' F' M' ∧ Yl K J F' ds G ∧ R' ds G M') → R J H'
theorem PI.wk {tg it : Expr} {t t' : TI} (h : PI X tg it t) (w : ∀ σ H R, t' σ H R → t σ H R) : PI X tg it t' := ⟨fun pins s σ H R I q => h.run pins s σ H R I (w σ H R q)⟩
def forD (G : Mm → Prop) (g : DG) (tb : DS) (E : DEnds) : List D → Env → Mm → Prop
  | [], δ, M => G M ∧ E.nx δ M
  | d :: ds, δ, M => G M ∧ ∃ N : Env → Mm → Prop, (∀ δ' M', N δ' M' → forD G g tb E ds δ' M') ∧ g d δ M fun δ' M' => tb { E with nx := N, ct := N, bk := E.nx } δ' M'
def dFor (wi : DI) (g : DG) (tb : DS) : DS := fun E δ M => wi δ M fun ds G M1 => forD G g tb E ds δ M1
theorem forD_G {G : Mm → Prop} {g : DG} {tb : DS} {E : DEnds} {ds : List D} {δ : Env} {M : Mm} (h : forD G g tb E ds δ M) : G M := by
  cases ds with
  | nil => exact h.1
  | cons d ds => exact h.1
theorem qs_for {iter tg : Expr} {body : List Stmt} {wi : DI} {g : DG} {tb : DS} (hp : PassesOwn (model X.prog X.w) X.A X.env X.xe) (hc : X.calm = true) (hi : PI X tg iter (upI X.K B wi)) (hg : PG X tg (upG X.K B g)) (hb : PSs X body (upS X.K B tb))
    (hs : ∀ x, foldedSetIterable iter X.env x = pure x := by intro _; rfl) : PS X (.For tg iter body [] pos) (upS X.K B (dFor wi g tb)) :=
  PS.wk (ps_for hp hc hi hg hb hs) fun E σ H ⟨F, M, δ, E', lb, S, rs, h, k1, k2, k3, k4⟩ => by
    refine ⟨F, M, δ, _, lb, S, rs, h, fun J H1 ⟨F1, M1, ds, G, l1, S1, Yw, h1⟩ => ?_⟩
    let P : Nat → Sg → Hp → Prop := fun i σ H => ∃ F2 M2 δ2, Le F1 F2 ∧ Stt X.K H F2 M2 ∧ RepS X.K F2 σ δ2 ∧ forD G g tb E' (ds.drop i) δ2 M2
    refine ⟨fun i m σ H => m = ds.length - i ∧ i ≤ ds.length ∧ P i σ H, ⟨ds.length, by simp, Nat.zero_le _, F1, M1, δ, Le.refl F1, S1, rs.le l1, by simpa using h1⟩, ?_⟩
    rintro i m σ2 H2 ⟨rfl, hi, F2, M2, δ2, l2, S2, rs2, h2⟩
    have gm := forD_G h2
    by_cases hlt : i < ds.length
    · refine .inr ⟨Yw.go i H2 F2 M2 l2 S2 gm hlt, P (i + 1), fun σ' H' q => ⟨ds.length - (i + 1), by omega, rfl, hlt, q⟩, fun x H3 y => ?_⟩
      obtain ⟨F3, d, l3, S3, e3, r3⟩ := Yw.yld i H2 F2 M2 x H3 l2 S2 gm hlt y
      rw [List.drop_eq_getElem_cons hlt] at h2
      have ed : ds[i] = d := by
        rw [List.getElem?_eq_getElem hlt] at e3
        exact Option.some.inj e3
      rw [ed] at h2
      obtain ⟨_, N, hN, h2⟩ := h2
      refine ⟨F3, M2, δ2, d, _, lb.trans ((l1.trans l2).trans l3), S3, rs2.le l3, r3, h2, fun σ4 H4 ⟨F4, M4, δ4, l4, S4, rs4, h4⟩ => ?_⟩
      have l14 : Le F1 F4 := (l2.trans l3).trans l4
      have l04 : Le F F4 := l1.trans l14
      exact ⟨F4, M4, δ4, _, lb.trans l04, S4, rs4, h4, fun σ' H' ⟨F5, M5, δ5, l5, S5, r5, h5⟩ => ⟨F5, M5, δ5, l14.trans l5, S5, r5, hN _ _ h5⟩, fun v H' q => k2 _ _ (q.le l04), fun σ' H' q => k1 _ _ (q.le l04), fun σ' H' ⟨F5, M5, δ5, l5, S5, r5, h5⟩ => ⟨F5, M5, δ5, l14.trans l5, S5, r5, hN _ _ h5⟩⟩
    · have e : i = ds.length := by omega
      subst e
      rw [List.drop_eq_nil_of_le (Nat.le_refl _)] at h2
      exact .inl ⟨Yw.stop H2 F2 M2 l2 S2 gm, k1 _ _ ⟨F2, M2, δ2, l1.trans l2, S2, rs2, h2.2⟩⟩
abbrev GT : Mm → Prop := fun _ => True
/-- over a list or tuple that stands still -/
def diSeq (t : DE) : DI := fun δ M R => t δ M fun d M1 => ∃ ds, (d = .tup ds ∨ d = .lst ds) ∧ R ds GT M1
def diLst (t : DE) : DI := fun δ M R => t δ M fun d M1 => ∃ ds, d = .lst ds ∧ R ds GT M1
def diTup (t : DE) : DI := fun δ M R => t δ M fun d M1 => ∃ ds, d = .tup ds ∧ R ds GT M1
theorem qi_lst {tg l : Expr} {t : DE} (h : PE X l (up X.K B t)) : PI X tg l (upI X.K B (diLst t)) :=
  PI.wk (pi_list h) fun σ H R ⟨F, M, δ, R', lb, S, rs, h, k⟩ => ⟨F, M, δ, _, lb, S, rs, h, fun v H1 ⟨F1, M1, d, l1, S1, r1, ds, e, h1⟩ => by
    subst e
    cases r1 with
    | @lst a xs _ hs rl =>
      refine ⟨a, rfl, ⟨xs, SqL.le S1.fz hs⟩, k _ _ ⟨F1, M1, ds, GT, l1, S1, ⟨fun i H F M l S _ hi => ?_, fun H F M l S _ => ?_, fun i H F M x H' l S _ hi y => ?_⟩, h1⟩⟩
      · exact walk_list.goes i H (by rw [rl.length]; exact hi) (SqL.le S.fz (SqL.le l hs))
      · rw [← rl.length]; exact walk_list.stops H (SqL.le S.fz (SqL.le l hs))
      · obtain ⟨e1, e2⟩ := walk_list.yields i H x H' (by rw [rl.length]; exact hi) (SqL.le S.fz (SqL.le l hs)) y
        subst e1
        obtain ⟨d, h3, h4⟩ := rl.get' e2
        exact ⟨F, d, Le.refl F, S, h3, h4.le l⟩⟩
theorem qi_tup {tg l : Expr} {t : DE} (h : PE X l (up X.K B t)) : PI X tg l (upI X.K B (diTup t)) :=
  PI.wk (pi_tup h) fun σ H R ⟨F, M, δ, R', lb, S, rs, h, k⟩ => ⟨F, M, δ, _, lb, S, rs, h, fun v H1 ⟨F1, M1, d, l1, S1, r1, ds, e, h1⟩ => by
    subst e
    cases r1 with
    | @tup a xs _ hs rl =>
      refine ⟨a, rfl, ⟨xs, SqT.le S1.fz hs⟩, k _ _ ⟨F1, M1, ds, GT, l1, S1, ⟨fun i H F M l S _ hi => ?_, fun H F M l S _ => ?_, fun i H F M x H' l S _ hi y => ?_⟩, h1⟩⟩
      · exact walk_tup.goes i H (by rw [rl.length]; exact hi) (SqT.le S.fz (SqT.le l hs))
      · rw [← rl.length]; exact walk_tup.stops H (SqT.le S.fz (SqT.le l hs))
      · obtain ⟨e1, e2⟩ := walk_tup.yields i H x H' (by rw [rl.length]; exact hi) (SqT.le S.fz (SqT.le l hs)) y
        subst e1
        obtain ⟨d, h3, h4⟩ := rl.get' e2
        exact ⟨F, d, Le.refl F, S, h3, h4.le l⟩⟩
/-- range(n), range(a, b) -/
def rngD (lo : Int) (n : Nat) : List D := (List.range n).map fun i => .int (lo + (i : Nat))
def diRng1 (ta : DA) : DI := fun δ M R => ta δ M fun ds M1 => ∃ j : Int, ds = [.int j] ∧ -(2 ^ 62) ≤ j ∧ j < 2 ^ 62 ∧ R (rngD 0 j.toNat) GT M1
def diRng2 (ta : DA) : DI := fun δ M R => ta δ M fun ds M1 => ∃ i j : Int, ds = [.int i, .int j] ∧ (-(2 ^ 62) ≤ i ∧ i < 2 ^ 62 ∧ -(2 ^ 62) ≤ j ∧ j < 2 ^ 62) ∧ R (rngD i (j - i).toNat) GT M1
theorem yl_rng {K : PySem.W.Frag} {F0 : Hp} (lo : Int) (n : Nat) : Yl K (Itr lo n) F0 (rngD lo n) GT := by
  have hl : (rngD lo n).length = n := by simp [rngD]
  refine ⟨fun i H F M _ _ _ hi => (walk_range (lo := lo) (n := n)).goes i H (by rw [← hl]; exact hi) trivial, fun H F M _ _ _ => by rw [hl]; exact (walk_range (lo := lo) (n := n)).stops H trivial, fun i H F M x H' l S _ hi y => ?_⟩
  obtain ⟨e1, e2⟩ := (walk_range (lo := lo) (n := n)).yields i H x H' (by rw [← hl]; exact hi) trivial y
  subst e1 e2
  rw [hl] at hi
  exact ⟨F, .int (lo + (i : Nat)), Le.refl F, S, by simp [rngD, hi], .v _⟩
theorem qi_rng1 {tg a : Expr} {ta : DA} {p : Pos} (hg : Gl X "range") (hm : X.mg "range" = none) (ha : PA X [a] (upA X.K B ta)) (hs : starEach [a] X.env = [(false, eval a X.env)] := by rfl) : PI X tg (.Call (.Name "range" p) [a] [] pos) (upI X.K B (diRng1 ta)) :=
  PI.wk (pi_range1 hg hm ha hs) fun σ H R ⟨F, M, δ, R', lb, S, rs, h, k⟩ => ⟨F, M, δ, _, lb, S, rs, h, fun vs H1 ⟨F1, M1, ds, l1, S1, r1, j, e, h2, h3, h4⟩ => by
    subst e
    cases r1 with
    | cons ra rb => cases rb; cases ra; exact ⟨j, rfl, h2, h3, k _ _ ⟨F1, M1, _, GT, l1, S1, yl_rng 0 j.toNat, h4⟩⟩⟩
theorem qi_rng2 {tg a b : Expr} {ta : DA} {p : Pos} (hg : Gl X "range") (hm : X.mg "range" = none) (ha : PA X [a, b] (upA X.K B ta)) (hs : starEach [a, b] X.env = [(false, eval a X.env), (false, eval b X.env)] := by rfl) (hs2 : starEach [b] X.env = [(false, eval b X.env)] := by rfl) :
    PI X tg (.Call (.Name "range" p) [a, b] [] pos) (upI X.K B (diRng2 ta)) :=
  PI.wk (pi_range2 hg hm ha hs hs2) fun σ H R ⟨F, M, δ, R', lb, S, rs, h, k⟩ => ⟨F, M, δ, _, lb, S, rs, h, fun vs H1 ⟨F1, M1, ds, l1, S1, r1, i, j, e, h2, h4⟩ => by
    subst e
    cases r1 with
    | cons ra rb =>
      cases rb with
      | cons rb rc => cases rc; cases rb; cases ra; exact ⟨i, j, rfl, h2, k _ _ ⟨F1, M1, _, GT, l1, S1, yl_rng i (j - i).toNat, h4⟩⟩⟩
end
end Y


set_option Elab.async false
set_option linter.all false
set_option maxRecDepth 100000
set_option maxHeartbeats 1000000
/-! Y3: operators by values, subscripts, slices, comparisons, truth, len. -/
namespace Y
open PySem PySem.Spec PyProof.Rows L2

/-! ### what is a list, a tuple, by data -/
def lsD (d : D) (M : Mm) : Option (List D) := match d with
  | .lst ds => some ds
  | .v (.ref a) => (match M a with | some (.lst ds) => some ds | _ => none)
  | _ => none
theorem lsD_lst {ds : List D} {M : Mm} : lsD (.lst ds) M = some ds := rfl
theorem lsD_ref {a : Addr} {ds : List D} {M : Mm} (h : M a = some (.lst ds)) : lsD (.ref a) M = some ds := by simp [lsD, h]
section
variable {K : PySem.W.Frag} {H F : Hp} {M : Mm} {x y : V} {d e : D} {ds : List D}
theorem lsD_at (S : Stt K H F M) (r : Rep K F x d) (h : lsD d M = some ds) : ∃ a xs, x = .ref a ∧ SqL K H a xs ∧ RepL K F xs ds := by
  cases r with
  | v =>
    cases x with
    | ref a =>
      unfold lsD at h
      simp only at h
      cases e : M a with
      | none => rw [e] at h; cases h
      | some m =>
        rw [e] at h
        cases m with
        | lst es =>
          simp only [Option.some.injEq] at h
          subst h
          obtain ⟨_, o, h2, h3⟩ := S.mu _ _ e
          cases h3 with
          | lst r => exact ⟨a, _, rfl, SqL.of h2, r⟩
        | _ => simp at h
    | _ => simp [lsD] at h
  | tup => simp [lsD] at h
  | lst hs rl =>
    simp only [lsD, Option.some.injEq] at h
    subst h
    exact ⟨_, _, rfl, SqL.le S.fz hs, rl⟩
/-- a list that may change, at its address -/
theorem muL (S : Stt K H F M) {a : Addr} (h : M a = some (.lst ds)) : ∃ xs, H a = some (.lst xs) ∧ RepL K F xs ds := by
  obtain ⟨_, o, h2, h3⟩ := S.mu _ _ h
  cases h3 with
  | lst r => exact ⟨_, h2, r⟩
theorem muD (S : Stt K H F M) {a : Addr} {kvs : List (Key × D)} (h : M a = some (.dct kvs)) : ∃ xs, H a = some (.dK xs) ∧ RepKV K F xs kvs := by
  obtain ⟨_, o, h2, h3⟩ := S.mu _ _ h
  cases h3 with
  | dct r => exact ⟨_, h2, r⟩
theorem muI (S : Stt K H F M) {a : Addr} {C dx : Addr} {fs : List (Str × D)} (h : M a = some (.ins C dx fs)) : ∃ xs, H a = some (.ins C dx xs) ∧ RepKV K F xs fs := by
  obtain ⟨_, o, h2, h3⟩ := S.mu _ _ h
  cases h3 with
  | ins r => exact ⟨_, h2, r⟩
/-- a dict's pairs: one that may change, or one that is walked -/
def dkD (d : D) (M : Mm) : Option (List (Key × D)) := match d with
  | .v (.ref a) => (match M a with | some (.dct kvs) => some kvs | some (.lk _ _ kvs) => some kvs | _ => none)
  | _ => none
theorem dkD_at (S : Stt K H F M) (r : Rep K F x d) {kvs : List (Key × D)} (h : dkD d M = some kvs) : ∃ a xs, x = .ref a ∧ Rd H a (.dK xs) ∧ RepKV K F xs kvs := by
  cases r with
  | v =>
    cases x with
    | ref a =>
      unfold dkD at h
      simp only at h
      cases e : M a with
      | none => rw [e] at h; cases h
      | some m =>
        rw [e] at h
        cases m with
        | dct es =>
          simp only [Option.some.injEq] at h
          subst h
          obtain ⟨_, o, h2, h3⟩ := S.mu _ _ e
          cases h3 with
          | dct r => exact ⟨a, _, rfl, .inl h2, r⟩
        | lk ob ys es =>
          simp only [Option.some.injEq] at h
          subst h
          obtain ⟨_, o, h2, h3⟩ := S.mu _ _ e
          cases h3 with
          | lk r => exact ⟨a, _, rfl, .inr ⟨_, h2⟩, r⟩
        | _ => simp at h
    | _ => simp [dkD] at h
  | tup => simp [dkD] at h
  | lst => simp [dkD] at h
end

/-! ### a dict's pairs -/
section
variable {κ : Type} [DecidableEq κ]
def valD (kvs : List (κ × D)) (k : κ) : Option D := (kvs.find? fun kv => decide (kv.1 = k)).map (·.2)
def putKD (kvs : List (κ × D)) (k : κ) (v : D) : List (κ × D) :=
  if (kvs.any fun kv => decide (kv.1 = k)) = true then kvs.map (fun kv => if kv.1 = k then (kv.1, v) else kv) else kvs ++ [(k, v)]
def dropKD (kvs : List (κ × D)) (k : κ) : List (κ × D) := kvs.filter fun kv => decide (kv.1 ≠ k)
variable {K : PySem.W.Frag} {F : Hp} {xs : List (κ × V)} {ds : List (κ × D)} {k : κ}
theorem valD_rep (r : RepKV K F xs ds) : (valV xs k = none ∧ valD ds k = none) ∨ ∃ v d, valV xs k = some v ∧ valD ds k = some d ∧ Rep K F v d := by
  unfold RepKV at r
  induction r with
  | nil => exact .inl ⟨rfl, rfl⟩
  | @cons p q ps qs h _ ih =>
    obtain ⟨h1, h2⟩ := h
    by_cases e : p.1 = k
    · exact .inr ⟨p.2, q.2, valV_pos e, by simp [valD, List.find?_cons, ← h1, e], h2⟩
    · rw [valV_neg e, show valD (q :: qs) k = valD qs k by simp [valD, List.find?_cons, ← h1, e]]
      exact ih
theorem putKD_rep {v : V} {d : D} (r : RepKV K F xs ds) (rv : Rep K F v d) : RepKV K F (putK xs k v) (putKD ds k d) := by
  have ea : (xs.any fun kv => decide (kv.1 = k)) = (ds.any fun kv => decide (kv.1 = k)) := by
    unfold RepKV at r
    induction r with
    | nil => rfl
    | cons h _ ih => simp only [List.any_cons, ih, h.1]
  unfold putK putKD
  rw [ea]
  unfold RepKV at r ⊢
  split
  · clear ea
    rename_i hz
    clear hz
    induction r with
    | nil => exact .nil
    | @cons p q ps qs h _ ih =>
      refine .cons ?_ ih
      obtain ⟨h1, h2⟩ := h
      by_cases e : p.1 = k
      · show (if p.1 = k then (p.1, v) else p).1 = (if q.1 = k then (q.1, d) else q).1 ∧ Rep K F (if p.1 = k then (p.1, v) else p).2 (if q.1 = k then (q.1, d) else q).2
        rw [if_pos e, if_pos (h1 ▸ e)]; exact ⟨h1, rv⟩
      · show (if p.1 = k then (p.1, v) else p).1 = (if q.1 = k then (q.1, d) else q).1 ∧ Rep K F (if p.1 = k then (p.1, v) else p).2 (if q.1 = k then (q.1, d) else q).2
        rw [if_neg e, if_neg (h1 ▸ e)]; exact ⟨h1, h2⟩
  · clear ea
    rename_i hz
    clear hz
    induction r with
    | nil => exact .cons ⟨rfl, rv⟩ .nil
    | cons h _ ih => exact .cons h ih
theorem dropKD_rep (r : RepKV K F xs ds) : RepKV K F (dropK xs k) (dropKD ds k) := by
  unfold RepKV at r
  induction r with
  | nil => exact .nil
  | @cons p q ps qs h t ih =>
    obtain ⟨h1, h2⟩ := h
    by_cases e : p.1 = k
    · rw [show dropK (p :: ps) k = dropK ps k by simp [dropK, e], show dropKD (q :: qs) k = dropKD qs k by simp [dropKD, ← h1, e]]; exact ih
    · rw [show dropK (p :: ps) k = p :: dropK ps k by simp [dropK, e], show dropKD (q :: qs) k = q :: dropKD qs k by simp [dropKD, ← h1, e]]; exact .cons ⟨h1, h2⟩ ih
end

/-! ### arithmetic -/
section
variable {X : Cx} {B : Hp} {K : PySem.W.Frag}
def dI (C : Int → Int → Prop) (g : Int → Int → V) : D2 := fun x y M Q => ∃ i j, x = .int i ∧ y = .int j ∧ C i j ∧ Q (.v (g i j)) M
def dI0 (g : Int → Int → V) : D2 := fun x y M Q => ∃ i j, x = .int i ∧ y = .int j ∧ Q (.v (g i j)) M
theorem l_I {C : Int → Int → Prop} {g : Int → Int → V} : Lift2 K (rI C g) (dI C g) := fun H F M x y d e Q' Q S rx ry ⟨i, j, e1, e2, c, q⟩ k => by
  subst e1 e2; cases rx; cases ry
  exact ⟨i, j, rfl, rfl, c, k _ _ ⟨F, M, _, Le.refl F, S, .v _, q⟩⟩
theorem l_I0 {g : Int → Int → V} : Lift2 K (rI0 g) (dI0 g) := fun H F M x y d e Q' Q S rx ry ⟨i, j, e1, e2, q⟩ k => by
  subst e1 e2; cases rx; cases ry
  exact ⟨i, j, rfl, rfl, k _ _ ⟨F, M, _, Le.refl F, S, .v _, q⟩⟩
theorem Lift2.or {r s : R2} {r' s' : D2} (L : Lift2 K r r') (L' : Lift2 K s s') : Lift2 K (fun x y H Q => r x y H Q ∨ s x y H Q) (fun x y M Q => r' x y M Q ∨ s' x y M Q) := fun H F M x y d e Q' Q S rx ry h k =>
  h.elim (fun h => .inl (L H F M x y d e Q' Q S rx ry h k)) fun h => .inr (L' H F M x y d e Q' Q S rx ry h k)
/-- a rule told of data, by less -/
theorem Lift2.wk {r : R2} {r' s' : D2} (L : Lift2 K r r') (w : ∀ x y M Q, s' x y M Q → r' x y M Q) : Lift2 K r s' := fun H F M x y d e Q' Q S rx ry h k => L H F M x y d e Q' Q S rx ry (w _ _ _ _ h) k
/-- a + b of ints, texts, tuples, lists (the sum stands still) -/
def addD (x y : D) (M : Mm) (Q : QD) : Prop := match x, y with
  | .v (.int i), .v (.int j) => Q (.int (i + j)) M
  | .v (.str a), .v (.str b) => a.length + b.length ≤ sizeLine ∧ Q (.str (a ++ b)) M
  | .tup a, .tup b => a.length + b.length ≤ sizeLine ∧ Q (.tup (a ++ b)) M
  | _, _ => False
def dStr2 (C : Str → Str → Prop) (g : Str → Str → V) : D2 := fun x y M Q => ∃ i j, x = .str i ∧ y = .str j ∧ C i j ∧ Q (.v (g i j)) M
theorem l_str2 {C : Str → Str → Prop} {g : Str → Str → V} : Lift2 K (fun x y H Q => ∃ i j, x = .str i ∧ y = .str j ∧ C i j ∧ Q (g i j) H) (dStr2 C g) := fun H F M x y d e Q' Q S rx ry ⟨i, j, e1, e2, c, q⟩ k => by
  subst e1 e2; cases rx; cases ry
  exact ⟨i, j, rfl, rfl, c, k _ _ ⟨F, M, _, Le.refl F, S, .v _, q⟩⟩
def dCatT : D2 := fun x y M Q => ∃ a b, x = .tup a ∧ y = .tup b ∧ a.length + b.length ≤ sizeLine ∧ Q (.tup (a ++ b)) M
theorem l_catT : Lift2 K (rCatA K) dCatT := fun H F M x y d e Q' Q S rx ry ⟨a, b, e1, e2, c, q⟩ k => by
  subst e1 e2
  cases rx with
  | @tup p xs _ hp ra =>
  cases ry with
  | @tup p' ys _ hp' rb =>
  refine ⟨p, p', xs, ys, rfl, rfl, SqT.le S.fz hp, SqT.le S.fz hp', by rw [ra.length, rb.length]; exact c, fun z => ?_, fun _ z => ?_, fun _ _ t ht => ?_⟩
  · subst z
    cases ra
    exact k _ _ ⟨F, M, _, Le.refl F, S, .tup hp' rb, q⟩
  · subst z
    cases rb
    rw [List.append_nil] at q
    exact k _ _ ⟨F, M, _, Le.refl F, S, .tup hp ra, q⟩
  · have f0 := (S.free ht).1
    exact k _ _ ⟨_, M, _, le_upd f0, S.still ht, .tup (SqT.of upd_same) ((ra.append rb).le (le_upd f0)), q⟩
def addR (K : PySem.W.Frag) : R2 := fun x y H Q => rI0 (fun i j => .int (i + j)) x y H Q ∨ ((∃ i j, x = .str i ∧ y = .str j ∧ i.length + j.length ≤ sizeLine ∧ Q (.str (i ++ j)) H) ∨ rCatA K x y H Q)
theorem op_addA : OpR X (binaryOp .Add) (addR X.K) := OpR.or op_add (OpR.or op_add_str op_catA)
theorem l_add : Lift2 K (addR K) addD := (l_I0.or (l_str2.or l_catT)).wk fun x y M Q h => by
  unfold addD at h
  split at h
  · exact .inl ⟨_, _, rfl, rfl, h⟩
  · exact .inr (.inl ⟨_, _, rfl, rfl, h⟩)
  · exact .inr (.inr ⟨_, _, rfl, rfl, h⟩)
  · exact h.elim
/-! lists: a + b, a new one that is to stand still -/
def rCatL (K : PySem.W.Frag) : R2 := fun x y H Q => ∃ l b xs zs, x = .ref l ∧ y = .ref b ∧ SqL K H l xs ∧ SqL K H b zs ∧ xs.length + zs.length ≤ sizeLine ∧ ∀ p, H p = none → Q (.ref p) (upd H p (.lst (xs ++ zs)))
theorem op_catL : OpR X (binaryOp .Add) (rCatL X.K) := by
  intro pins s σ H x y v u Q I rx ry h
  obtain ⟨l, b, xs, zs, rfl, rfl, hH, hB, hz, q⟩ := h
  cases rx
  cases ry
  obtain ⟨its, r1, p1, z1⟩ := I.list hH
  obtain ⟨jts, r2, p2, z2⟩ := I.list hB
  obtain ⟨⟨cls, dd, data, sl⟩, n, ho, hc, hdd, hd⟩ := id p1
  obtain ⟨⟨cls2, dd2, data2, sl2⟩, n2, ho2, hc2, hdd2, hd2⟩ := id p2
  simp only at hc hd hc2 hd2
  subst hc hd hc2 hd2
  have e : its.toArray ++ jts.toArray = (its ++ jts).toArray := by simp
  have hz' : its.toArray.size + jts.toArray.size ≤ sizeLine := by rw [List.size_toArray, List.size_toArray, ← r1.length, ← r2.length]; exact hz
  refine concat_meets ⟨_, ho, rfl⟩ ⟨_, ho2, rfl⟩ noFill_list_add seq_list_add PySem.F.slot_list_add PySem.F.entry_list_add (PySem.F.args_list_add_2 _ _) (list_addW l b its.toArray jts.toArray n n2 dd dd2 sl sl2 hz') ⟨ho, ho2, ?_⟩
  rw [e]
  exact ⟨.ref _, _, I.lnew (t' := s.toks) (r1.append r2) (by rw [List.length_append]; omega), rfl, q _ I.fresh⟩
end
end Y


set_option Elab.async false
set_option linter.all false
set_option maxRecDepth 100000
set_option maxHeartbeats 1000000
/-! Y4: sums, comparisons, membership, subscripts, slices, calls of built-ins by data. -/
namespace Y
open PySem PySem.Spec PyProof.Rows L2

section
variable {K : PySem.W.Frag} {H F : Hp} {M : Mm} {x y : V} {d e : D} {ds : List D}
/-! ### data that == tells apart -/
/-! plain data: no addresses, texts that are texts -/
mutual
def pln : D → Bool
  | .v .non => true
  | .v (.bl _) => true
  | .v (.int _) => true
  | .v (.str x) => PyData.strOk x
  | .v _ => false
  | .tup ds => plnL ds
  | .lst ds => plnL ds
def plnL : List D → Bool
  | [] => true
  | d :: ds => pln d && plnL ds
end
mutual
def dep : D → Nat
  | .v _ => 0
  | .tup ds => depL ds + 1
  | .lst ds => depL ds + 1
def depL : List D → Nat
  | [] => 0
  | d :: ds => max (dep d) (depL ds)
end
mutual
def pyD : D → PyData
  | .v .non => .none
  | .v (.bl b) => .bool b
  | .v (.int i) => .int i
  | .v (.str x) => .str x
  | .v _ => .none
  | .tup ds => .tuple (pyL ds)
  | .lst ds => .list (pyL ds)
def pyL : List D → List PyData
  | [] => []
  | d :: ds => pyD d :: pyL ds
end
/-! == of data -/
mutual
def deq : D → D → Bool
  | .v a, .v b => eqV a b
  | .tup a, .tup b => deqL a b
  | .lst a, .lst b => deqL a b
  | .v _, .tup _ => false
  | .v _, .lst _ => false
  | .tup _, .v _ => false
  | .lst _, .v _ => false
  | .tup _, .lst _ => false
  | .lst _, .tup _ => false
def deqL : List D → List D → Bool
  | [], [] => true
  | d :: ds, e :: es => deq d e && deqL ds es
  | [], _ :: _ => false
  | _ :: _, [] => false
end
mutual
theorem py_eqv : ∀ d e : D, pln d = true → pln e = true → PyData.eqv (pyD d) (pyD e) = deq d e
  | .v a, .v b, h1, h2 => by
    cases a <;> cases b <;> simp_all [pln, pyD, PyData.eqv, deq, eqV]
  | .tup a, .tup b, h1, h2 => by
    simp only [pyD, PyData.eqv, deq]
    exact py_eqvL a b (by simpa [pln] using h1) (by simpa [pln] using h2)
  | .lst a, .lst b, h1, h2 => by
    simp only [pyD, PyData.eqv, deq]
    exact py_eqvL a b (by simpa [pln] using h1) (by simpa [pln] using h2)
  | .v a, .tup _, h1, _ => by cases a <;> simp_all [pln, pyD, PyData.eqv, deq]
  | .v a, .lst _, h1, _ => by cases a <;> simp_all [pln, pyD, PyData.eqv, deq]
  | .tup _, .v a, _, h1 => by cases a <;> simp_all [pln, pyD, PyData.eqv, deq]
  | .lst _, .v a, _, h1 => by cases a <;> simp_all [pln, pyD, PyData.eqv, deq]
  | .tup _, .lst _, _, _ => by simp [pyD, PyData.eqv, deq]
  | .lst _, .tup _, _, _ => by simp [pyD, PyData.eqv, deq]
theorem py_eqvL : ∀ d e : List D, plnL d = true → plnL e = true → PyData.eqvAll (pyL d) (pyL e) = deqL d e
  | [], [], _, _ => by simp [pyL, PyData.eqvAll, deqL]
  | d :: ds, e :: es, h1, h2 => by
    have h1' : pln d = true ∧ plnL ds = true := by simpa [plnL] using h1
    have h2' : pln e = true ∧ plnL es = true := by simpa [plnL] using h2
    simp only [pyL, PyData.eqvAll, deqL, py_eqv d e h1'.1 h2'.1, py_eqvL ds es h1'.2 h2'.2]
  | [], _ :: _, _, _ => by simp [pyL, PyData.eqvAll, deqL]
  | _ :: _, [], _, _ => by simp [pyL, PyData.eqvAll, deqL]
end
mutual
theorem py_lay : ∀ d : D, pln d = true → (pyD d).canLay0 = true
  | .v a, h => by cases a <;> simp_all [pln, pyD, PyData.canLay0]
  | .tup a, h => by
    simp only [pyD, PyData.canLay0]
    exact py_layL a (by simpa [pln] using h)
  | .lst a, h => by
    simp only [pyD, PyData.canLay0]
    exact py_layL a (by simpa [pln] using h)
theorem py_layL : ∀ d : List D, plnL d = true → PyData.canLayAll0 (pyL d) = true
  | [], _ => by simp [pyL, PyData.canLayAll0]
  | d :: ds, h => by
    have h' : pln d = true ∧ plnL ds = true := by simpa [plnL] using h
    simp only [pyL, PyData.canLayAll0, py_lay d h'.1, py_layL ds h'.2, Bool.and_self]
end
mutual
theorem py_dep : ∀ d : D, (pyD d).depth = dep d
  | .v a => by cases a <;> simp [pyD, PyData.depth, dep]
  | .tup a => by simp [pyD, PyData.depth, dep, py_depL a]
  | .lst a => by simp [pyD, PyData.depth, dep, py_depL a]
theorem py_depL : ∀ d : List D, PyData.depthAll (pyL d) = depL d
  | [] => by simp [pyL, PyData.depthAll, depL]
  | d :: ds => by simp [pyL, PyData.depthAll, depL, py_dep d, py_depL ds]
end
theorem py_shaped (h : pln d = true) (h2 : dep d ≤ 64) : SeqAt.shaped (pyD d) = true := by
  unfold SeqAt.shaped
  rw [py_lay d h, py_dep]
  simpa using h2
mutual
theorem py_dp (S : Stt K H F M) : ∀ (d : D) (x : V), Rep K F x d → pln d = true → Dp K H x (pyD d)
  | .v a, x, r, h => by
    cases r
    cases a with
    | non => exact .non
    | bl b => exact .bl b
    | int i => exact .int i
    | str z => exact .str z
    | _ => simp [pln] at h
  | .tup a, _, .tup hs rl, h => .tup (SqT.le S.fz hs) (py_dpL S a _ rl (by simpa [pln] using h))
  | .lst a, _, .lst hs rl, h => .lst (SqL.le S.fz hs) (py_dpL S a _ rl (by simpa [pln] using h))
theorem py_dpL (S : Stt K H F M) : ∀ (ds : List D) (xs : List V), RepL K F xs ds → plnL ds = true → DpAll K H xs (pyL ds)
  | [], _, .nil, _ => .nil
  | d :: ds, _, .cons r rl, h => by
    have h' : pln d = true ∧ plnL ds = true := by simpa [plnL] using h
    exact .cons (py_dp S d _ r h'.1) (py_dpL S ds _ rl h'.2)
end
mutual
theorem deq_refl : ∀ d : D, pln d = true → deq d d = true
  | .v a, h => by cases a <;> simp_all [pln, deq, eqV]
  | .tup a, h => by simp only [deq]; exact deqL_refl a (by simpa [pln] using h)
  | .lst a, h => by simp only [deq]; exact deqL_refl a (by simpa [pln] using h)
theorem deqL_refl : ∀ d : List D, plnL d = true → deqL d d = true
  | [], _ => by simp [deqL]
  | d :: ds, h => by
    have h' : pln d = true ∧ plnL ds = true := by simpa [plnL] using h
    simp only [deqL, deq_refl d h'.1, deqL_refl ds h'.2, Bool.and_self]
end
/-- a list that may change, as data -/
def rsv (d : D) (M : Mm) : D := match d with
  | .v (.ref a) => (match M a with | some (.lst ds) => .lst ds | _ => d)
  | _ => d
theorem rsv_dp (S : Stt K H F M) (r : Rep K F x d) (h : pln (rsv d M) = true) : Dp K H x (pyD (rsv d M)) := by
  by_cases z : ∃ a ds, d = .ref a ∧ M a = some (.lst ds)
  · obtain ⟨a, ds, e1, e2⟩ := z
    subst e1
    cases r
    have e3 : rsv (.ref a) M = .lst ds := by simp [rsv, e2]
    rw [e3] at h ⊢
    obtain ⟨xs, h1, h2⟩ := muL S e2
    exact .lst (SqL.of h1) (py_dpL S ds xs h2 (by simpa [pln] using h))
  · have e : rsv d M = d := by
      unfold rsv
      split
      · rename_i a
        split
        · rename_i ds e2
          exact absurd ⟨a, ds, rfl, e2⟩ z
        · rfl
      · rfl
    rw [e] at h ⊢
    exact py_dp S d x r h
end

section
variable {X : Cx} {B : Hp} {K : PySem.W.Frag}
/-! ### ==, != -/
def eqDeep (neg : Bool) (x y : D) (M : Mm) (Q : QD) : Prop := pln (rsv x M) = true ∧ pln (rsv y M) = true ∧ dep (rsv x M) ≤ 64 ∧ dep (rsv y M) ≤ 64 ∧ Q (.bl (neg ^^ deq (rsv x M) (rsv y M))) M
def eqD (neg : Bool) (x y : D) (M : Mm) (Q : QD) : Prop := match x, y with
  | .v a, .v b => if scal a b = true then Q (.bl (neg ^^ decide (a = b))) M else eqDeep neg x y M Q
  | _, _ => eqDeep neg x y M Q
theorem l_eqS : Lift2 K rEq (fun x y M Q => ∃ a b, x = .v a ∧ y = .v b ∧ scal a b = true ∧ Q (.bl (decide (a = b))) M) := fun H F M x y d e Q' Q S rx ry ⟨a, b, e1, e2, s, q⟩ k => by
  subst e1 e2; cases rx; cases ry
  exact ⟨s, k _ _ ⟨F, M, _, Le.refl F, S, .v _, q⟩⟩
theorem l_neS : Lift2 K rNe (fun x y M Q => ∃ a b, x = .v a ∧ y = .v b ∧ scal a b = true ∧ Q (.bl (!decide (a = b))) M) := fun H F M x y d e Q' Q S rx ry ⟨a, b, e1, e2, s, q⟩ k => by
  subst e1 e2; cases rx; cases ry
  exact ⟨s, k _ _ ⟨F, M, _, Le.refl F, S, .v _, q⟩⟩
theorem l_eqP : Lift2 K (rEqD K) (eqDeep false) := fun H F M x y d e Q' Q S rx ry ⟨p1, p2, d1, d2, q⟩ k => by
  refine ⟨_, _, rsv_dp S rx p1, rsv_dp S ry p2, py_shaped p1 d1, py_shaped p2 d2, k _ _ ⟨F, M, _, Le.refl F, S, .v _, ?_⟩⟩
  rw [py_eqv _ _ p1 p2]
  simpa using q
theorem l_neP : Lift2 K (rNeD K) (eqDeep true) := fun H F M x y d e Q' Q S rx ry ⟨p1, p2, d1, d2, q⟩ k => by
  refine ⟨_, _, rsv_dp S rx p1, rsv_dp S ry p2, py_shaped p1 d1, py_shaped p2 d2, k _ _ ⟨F, M, _, Le.refl F, S, .v _, ?_⟩⟩
  rw [py_eqv _ _ p1 p2]
  simpa using q
theorem op_eqA (hu : X.A.units + 64 < cLine) : OpR X (compareOp .Eq) (fun x y H Q => rEq x y H Q ∨ rEqD X.K x y H Q) := OpR.or op_eq (op_eqD hu)
theorem op_neA (hu : X.A.units + 64 < cLine) : OpR X (compareOp .NotEq) (fun x y H Q => rNe x y H Q ∨ rNeD X.K x y H Q) := OpR.or op_ne (op_neD hu)
theorem eqD_cases {neg : Bool} {x y : D} {M : Mm} {Q : QD} (h : eqD neg x y M Q) : (∃ a b, x = .v a ∧ y = .v b ∧ scal a b = true ∧ Q (.bl (neg ^^ decide (a = b))) M) ∨ eqDeep neg x y M Q := by
  unfold eqD at h
  split at h
  · rename_i a b
    by_cases s : scal a b = true
    · rw [if_pos s] at h; exact .inl ⟨a, b, rfl, rfl, s, h⟩
    · rw [if_neg s] at h; exact .inr h
  · exact .inr h
theorem l_eq : Lift2 K (fun x y H Q => rEq x y H Q ∨ rEqD K x y H Q) (eqD false) := (l_eqS.or l_eqP).wk fun x y M Q h => by
  simpa using eqD_cases h
theorem l_ne : Lift2 K (fun x y H Q => rNe x y H Q ∨ rNeD K x y H Q) (eqD true) := (l_neS.or l_neP).wk fun x y M Q h => by
  simpa using eqD_cases h
/-! ### is None -/
def nonD : D → Bool
  | .v .non => true
  | _ => false
def isN (neg : Bool) (x y : D) (M : Mm) (Q : QD) : Prop := y = .non ∧ Q (.bl (neg ^^ nonD x)) M
theorem isN_of {K : PySem.W.Frag} {F : Hp} {x : V} {d : D} (r : Rep K F x d) : decide (x = .non) = nonD d := by
  cases r with
  | v => cases x <;> simp [nonD]
  | tup => simp [nonD]
  | lst => simp [nonD]
theorem l_isN : Lift2 K (fun x y H Q => y = .non ∧ Q (.bl (decide (x = .non))) H) (isN false) := fun H F M x y d e Q' Q S rx ry ⟨e1, q⟩ k => by
  subst e1; cases ry
  refine ⟨rfl, k _ _ ⟨F, M, _, Le.refl F, S, .v _, ?_⟩⟩
  rw [isN_of rx]; simpa using q
theorem l_notN : Lift2 K (fun x y H Q => y = .non ∧ Q (.bl (!decide (x = .non))) H) (isN true) := fun H F M x y d e Q' Q S rx ry ⟨e1, q⟩ k => by
  subst e1; cases ry
  refine ⟨rfl, k _ _ ⟨F, M, _, Le.refl F, S, .v _, ?_⟩⟩
  rw [isN_of rx]; simpa using q
/-! ### lists put together -/
theorem l_catL : Lift2 K (rCatL K) (fun x y M Q => ∃ a b, lsD x M = some a ∧ lsD y M = some b ∧ a.length + b.length ≤ sizeLine ∧ Q (.lst (a ++ b)) M) := fun H F M x y d e Q' Q S rx ry ⟨a, b, e1, e2, c, q⟩ k => by
  obtain ⟨p, xs, rfl, h1, r1⟩ := lsD_at S rx e1
  obtain ⟨p', ys, rfl, h2, r2⟩ := lsD_at S ry e2
  refine ⟨p, p', xs, ys, rfl, rfl, h1, h2, by rw [r1.length, r2.length]; exact c, fun t ht => ?_⟩
  have f0 := (S.free ht).1
  exact k _ _ ⟨_, M, _, le_upd f0, S.still ht, .lst (SqL.of upd_same) ((r1.append r2).le (le_upd f0)), q⟩
theorem l_catLM : Lift2 K (rCatL K) (fun x y M Q => ∃ a b, lsD x M = some a ∧ lsD y M = some b ∧ a.length + b.length ≤ sizeLine ∧ ∀ p, M p = none → Q (.ref p) (Y.put M p (.lst (a ++ b)))) := fun H F M x y d e Q' Q S rx ry ⟨a, b, e1, e2, c, q⟩ k => by
  obtain ⟨p, xs, rfl, h1, r1⟩ := lsD_at S rx e1
  obtain ⟨p', ys, rfl, h2, r2⟩ := lsD_at S ry e2
  refine ⟨p, p', xs, ys, rfl, rfl, h1, h2, by rw [r1.length, r2.length]; exact c, fun t ht => ?_⟩
  exact k _ _ ⟨F, _, _, Le.refl F, S.newM ht (.lst (r1.append r2)), .v _, q t (S.free ht).2⟩
/-- a + b -/
def plusD (x y : D) (M : Mm) (Q : QD) : Prop := match x, y with
  | .v (.int i), .v (.int j) => Q (.int (i + j)) M
  | .v (.str a), .v (.str b) => a.length + b.length ≤ sizeLine ∧ Q (.str (a ++ b)) M
  | .tup a, .tup b => a.length + b.length ≤ sizeLine ∧ Q (.tup (a ++ b)) M
  | x, y => ∃ a b, lsD x M = some a ∧ lsD y M = some b ∧ a.length + b.length ≤ sizeLine ∧ Q (.lst (a ++ b)) M
theorem op_plus : OpR X (binaryOp .Add) (fun x y H Q => addR X.K x y H Q ∨ rCatL X.K x y H Q) := OpR.or op_addA op_catL
theorem l_plus : Lift2 K (fun x y H Q => addR K x y H Q ∨ rCatL K x y H Q) plusD := (l_add.or l_catL).wk fun x y M Q h => by
  unfold plusD at h
  split at h
  · exact .inl h
  · exact .inl h
  · exact .inl h
  · exact .inr h
/-- a + b of lists, the sum to be changed -/
def plusM : D2 := fun x y M Q => ∃ a b, lsD x M = some a ∧ lsD y M = some b ∧ a.length + b.length ≤ sizeLine ∧ ∀ p, M p = none → Q (.ref p) (Y.put M p (.lst (a ++ b)))

/-! ### a[i] -/
def rIxDict : R2 := fun x y H Q => ∃ a v, x = .ref a ∧ DGet H a y (some v) ∧ Q v H
theorem ix_dict (hu : X.A.units + 1 < cLine) : IxR X rIxDict := by
  intro value slice pins s σ H x y v u Q I rx ry h hs
  obtain ⟨a, w, rfl, g, q⟩ := h
  cases rx
  exact tail_any (dict_typeIs I g) PySem.F.slot_dict_getitem.lookup (d_getItem hu I g ry fun w' s3 I3 rw' => ⟨w, H, I3, rw', q⟩) hs
theorem atI_rep {F : Hp} {xs : List V} {ds : List D} {i : Int} {d : D} (r : RepL K F xs ds) (h : atI ds i = some d) : ∃ x, atI xs i = some x ∧ Rep K F x d := by
  unfold atI at h ⊢
  rw [r.length]
  cases e : ixN ds.length i with
  | none => rw [e] at h; cases h
  | some j =>
    rw [e] at h
    exact r.get h
def keyD : D → Option Key
  | .v (.int i) => some (.inl i)
  | .v (.str x) => some (.inr x)
  | _ => none
theorem keyD_at {F : Hp} {x : V} {d : D} {k : Key} (r : Rep K F x d) (h : keyD d = some k) : x = kV k := by
  cases r with
  | v => cases x <;> simp [keyD] at h <;> subst h <;> rfl
  | tup => simp [keyD] at h
  | lst => simp [keyD] at h
/-- a[i]: of a tuple, a list, a text, a dict -/
def subD (x y : D) (M : Mm) (Q : QD) : Prop := match x with
  | .tup ds => ∃ i d, y = .int i ∧ atI ds i = some d ∧ Q d M
  | .v (.str z) => ∃ i c, y = .int i ∧ z.length ≤ sizeLine ∧ atI z.cps.toList i = some c ∧ Q (.str ⟨#[c]⟩) M
  | x => (∃ ds i d, lsD x M = some ds ∧ y = .int i ∧ atI ds i = some d ∧ Q d M) ∨ ∃ kvs k d, dkD x M = some kvs ∧ keyD y = some k ∧ valD kvs k = some d ∧ Q d M
theorem l_ixT : Lift2 K (rIxT K) (fun x y M Q => ∃ ds i d, x = .tup ds ∧ y = .int i ∧ atI ds i = some d ∧ Q d M) := fun H F M x y d e Q' Q S rx ry ⟨ds, i, f, e1, e2, h, q⟩ k => by
  subst e1 e2; cases ry
  cases rx with
  | tup hs rl =>
    obtain ⟨v, h1, h2⟩ := atI_rep rl h
    exact ⟨_, _, i, v, rfl, rfl, SqT.le S.fz hs, h1, k _ _ ⟨F, M, f, Le.refl F, S, h2, q⟩⟩
theorem l_ixL : Lift2 K (rIxL K) (fun x y M Q => ∃ ds i d, lsD x M = some ds ∧ y = .int i ∧ atI ds i = some d ∧ Q d M) := fun H F M x y d e Q' Q S rx ry ⟨ds, i, f, e1, e2, h, q⟩ k => by
  subst e2; cases ry
  obtain ⟨a, xs, rfl, h3, rl⟩ := lsD_at S rx e1
  obtain ⟨v, h1, h2⟩ := atI_rep rl h
  exact ⟨_, _, i, v, rfl, rfl, h3, h1, k _ _ ⟨F, M, f, Le.refl F, S, h2, q⟩⟩
theorem l_ixS : Lift2 K rIxS (fun x y M Q => ∃ z i c, x = .str z ∧ y = .int i ∧ z.length ≤ sizeLine ∧ atI z.cps.toList i = some c ∧ Q (.str ⟨#[c]⟩) M) := fun H F M x y d e Q' Q S rx ry ⟨z, i, c, e1, e2, h, h1, q⟩ k => by
  subst e1 e2; cases ry; cases rx
  exact ⟨z, i, c, rfl, rfl, h, h1, k _ _ ⟨F, M, _, Le.refl F, S, .v _, q⟩⟩
theorem l_ixD : Lift2 K rIxDict (fun x y M Q => ∃ kvs k d, dkD x M = some kvs ∧ keyD y = some k ∧ valD kvs k = some d ∧ Q d M) := fun H F M x y d e Q' Q S rx ry ⟨kvs, k, f, e1, e2, h, q⟩ kk => by
  obtain ⟨a, xs, rfl, h3, rl⟩ := dkD_at S rx e1
  have ey := keyD_at ry e2
  subst ey
  rcases valD_rep (k := k) rl with ⟨_, z⟩ | ⟨v, d', h1, h2, h4⟩
  · rw [z] at h; cases h
  · rw [h2] at h; cases h
    exact ⟨a, v, rfl, .inl ⟨xs, k, h3, rfl, h1.symm⟩, kk _ _ ⟨F, M, f, Le.refl F, S, h4, q⟩⟩
theorem ix_all (hu : X.A.units + 1 < cLine) : IxR X (fun x y H Q => rIxT X.K x y H Q ∨ (rIxS x y H Q ∨ (rIxL X.K x y H Q ∨ rIxDict x y H Q))) := IxR.or ix_tup (IxR.or ix_str (IxR.or ix_list (ix_dict hu)))
theorem l_sub : Lift2 K (fun x y H Q => rIxT K x y H Q ∨ (rIxS x y H Q ∨ (rIxL K x y H Q ∨ rIxDict x y H Q))) subD := (l_ixT.or (l_ixS.or (l_ixL.or l_ixD))).wk fun x y M Q h => by
  unfold subD at h
  split at h
  · obtain ⟨i, d, e, h, q⟩ := h; exact .inl ⟨_, i, d, rfl, e, h, q⟩
  · obtain ⟨i, c, e, h, h1, q⟩ := h; exact .inr (.inl ⟨_, i, c, rfl, e, h, h1, q⟩)
  · exact .inr (.inr h)

/-! ### in -/
def rInDict (neg : Bool) : R2 := fun y x H Q => ∃ a o, x = .ref a ∧ DGet H a y o ∧ Q (.bl (neg ^^ o.isSome)) H
theorem op_inDict (hu : X.A.units + 1 < cLine) : OpR X (compareOp .In) (rInDict false) := by
  intro pins s σ H x y v u Q I rx ry h
  obtain ⟨a, o, rfl, g, q⟩ := h
  cases ry
  exact d_in hu I g rx fun s3 I3 => ⟨.bl o.isSome, H, I3, rfl, by simpa using q⟩
theorem op_notInDict (hu : X.A.units + 1 < cLine) : OpR X (compareOp .NotIn) (rInDict true) := by
  intro pins s σ H x y v u Q I rx ry h
  obtain ⟨a, o, rfl, g, q⟩ := h
  cases ry
  exact d_notIn hu I g rx fun s3 I3 => ⟨.bl (!o.isSome), H, I3, rfl, by simpa using q⟩
def flatD : D → Bool
  | .v a => flatV a
  | _ => false
/-- x among items of flat data -/
def memD (x : D) (ds : List D) : Bool := ds.any fun y => match y, x with | .v b, .v a => eqV b a | _, _ => false
theorem flat_rep {F : Hp} {x : V} {d : D} (r : Rep K F x d) (h : flatD d = true) : d = .v x ∧ flatV x = true := by
  cases r with
  | v => exact ⟨rfl, h⟩
  | tup => simp [flatD] at h
  | lst => simp [flatD] at h
theorem flatL_rep {F : Hp} {xs : List V} {ds : List D} (r : RepL K F xs ds) (h : ds.all flatD = true) : ds = xs.map D.v ∧ xs.all flatV = true := by
  match r with
  | .nil => exact ⟨rfl, rfl⟩
  | .cons r rl =>
    simp only [List.all_cons, Bool.and_eq_true] at h
    obtain ⟨e1, f1⟩ := flat_rep r h.1
    obtain ⟨e2, f2⟩ := flatL_rep rl h.2
    exact ⟨by rw [List.map_cons, ← e2, ← e1], by simp [f1, f2]⟩
theorem memD_rep {x : V} {xs : List V} : memD (.v x) (xs.map D.v) = inV x xs := by
  unfold memD inV
  rw [List.any_map]
  rfl
/-- x in y: of a tuple or list of flat items, of a text (one sign), of a dict -/
def inD (neg : Bool) (x y : D) (M : Mm) (Q : QD) : Prop := match y with
  | .tup ds => flatD x = true ∧ ds.all flatD = true ∧ Q (.bl (neg ^^ memD x ds)) M
  | .v (.str z) => ∃ c, x = .str ⟨#[c]⟩ ∧ Q (.bl (neg ^^ decide (c ∈ z.cps.toList))) M
  | y => (∃ ds, lsD y M = some ds ∧ flatD x = true ∧ ds.all flatD = true ∧ Q (.bl (neg ^^ memD x ds)) M) ∨ ∃ kvs k, dkD y M = some kvs ∧ keyD x = some k ∧ Q (.bl (neg ^^ (valD kvs k).isSome)) M
theorem l_inSeq (neg : Bool) : Lift2 K (rIn K neg) (fun x y M Q => ∃ ds, (y = .tup ds ∨ lsD y M = some ds) ∧ flatD x = true ∧ ds.all flatD = true ∧ Q (.bl (neg ^^ memD x ds)) M) := fun H F M x y d e Q' Q S rx ry ⟨ds, hy, fx, fs, q⟩ k => by
  obtain ⟨ex, fx'⟩ := flat_rep rx fx
  subst ex
  have fin : ∀ (xs : List V), RepL K F xs ds → Q (.bl (if neg = true then !inV x xs else inV x xs)) H := fun xs rl => by
    obtain ⟨e1, _⟩ := flatL_rep rl fs
    subst e1
    refine k _ _ ⟨F, M, _, Le.refl F, S, .v _, ?_⟩
    rw [memD_rep] at q
    cases neg <;> simpa using q
  rcases hy with hy | hy
  · subst hy
    cases ry with
    | tup hs rl => exact ⟨_, _, rfl, .inr (SqT.le S.fz hs), fx', (flatL_rep rl fs).2, fin _ rl⟩
  · obtain ⟨a, xs, rfl, h3, rl⟩ := lsD_at S ry hy
    exact ⟨_, _, rfl, .inl h3, fx', (flatL_rep rl fs).2, fin xs rl⟩
theorem l_inSign : Lift2 K (fun x y H Q => ∃ (c : Nat) (z : Str), x = .str ⟨#[c]⟩ ∧ y = .str z ∧ Q (.bl (decide (c ∈ z.cps.toList))) H) (fun x y M Q => ∃ c z, x = .str ⟨#[c]⟩ ∧ y = .str z ∧ Q (.bl (decide (c ∈ z.cps.toList))) M) := fun H F M x y d e Q' Q S rx ry ⟨c, z, e1, e2, q⟩ k => by
  subst e1 e2; cases rx; cases ry
  exact ⟨c, z, rfl, rfl, k _ _ ⟨F, M, _, Le.refl F, S, .v _, q⟩⟩
theorem l_notInSign : Lift2 K (fun x y H Q => ∃ (c : Nat) (z : Str), x = .str ⟨#[c]⟩ ∧ y = .str z ∧ Q (.bl (!decide (c ∈ z.cps.toList))) H) (fun x y M Q => ∃ c z, x = .str ⟨#[c]⟩ ∧ y = .str z ∧ Q (.bl (!decide (c ∈ z.cps.toList))) M) := fun H F M x y d e Q' Q S rx ry ⟨c, z, e1, e2, q⟩ k => by
  subst e1 e2; cases rx; cases ry
  exact ⟨c, z, rfl, rfl, k _ _ ⟨F, M, _, Le.refl F, S, .v _, q⟩⟩
theorem l_inDict (neg : Bool) : Lift2 K (rInDict neg) (fun x y M Q => ∃ kvs k, dkD y M = some kvs ∧ keyD x = some k ∧ Q (.bl (neg ^^ (valD kvs k).isSome)) M) := fun H F M x y d e Q' Q S rx ry ⟨kvs, k, e1, e2, q⟩ kk => by
  obtain ⟨a, xs, rfl, h3, rl⟩ := dkD_at S ry e1
  have ex := keyD_at rx e2
  subst ex
  refine ⟨a, valV xs k, rfl, .inl ⟨xs, k, h3, rfl, rfl⟩, kk _ _ ⟨F, M, _, Le.refl F, S, .v _, ?_⟩⟩
  rcases valD_rep (k := k) rl with ⟨z1, z2⟩ | ⟨v, d', h1, h2, h4⟩
  · rw [z2] at q; rw [z1]; exact q
  · rw [h2] at q; rw [h1]; exact q
theorem inD_cases {neg : Bool} {x y : D} {M : Mm} {Q : QD} (h : inD neg x y M Q) : (∃ ds, (y = .tup ds ∨ lsD y M = some ds) ∧ flatD x = true ∧ ds.all flatD = true ∧ Q (.bl (neg ^^ memD x ds)) M) ∨ ((∃ c z, x = .str ⟨#[c]⟩ ∧ y = .str z ∧ Q (.bl (neg ^^ decide (c ∈ z.cps.toList))) M) ∨
    ∃ kvs k, dkD y M = some kvs ∧ keyD x = some k ∧ Q (.bl (neg ^^ (valD kvs k).isSome)) M) := by
  unfold inD at h
  split at h
  · exact .inl ⟨_, .inl rfl, h⟩
  · obtain ⟨c, e, q⟩ := h; exact .inr (.inl ⟨c, _, e, rfl, q⟩)
  · rcases h with ⟨ds, h⟩ | h
    · exact .inl ⟨ds, .inr h.1, h.2⟩
    · exact .inr (.inr h)
theorem op_inA (hu : X.A.units + 1 < cLine) : OpR X (compareOp .In) (fun x y H Q => rIn X.K false x y H Q ∨ ((∃ (c : Nat) (z : Str), x = .str ⟨#[c]⟩ ∧ y = .str z ∧ Q (.bl (decide (c ∈ z.cps.toList))) H) ∨ rInDict false x y H Q)) := OpR.or op_in_seq (OpR.or op_in_sign (op_inDict hu))
theorem op_notInA (hu : X.A.units + 1 < cLine) : OpR X (compareOp .NotIn) (fun x y H Q => rIn X.K true x y H Q ∨ ((∃ (c : Nat) (z : Str), x = .str ⟨#[c]⟩ ∧ y = .str z ∧ Q (.bl (!decide (c ∈ z.cps.toList))) H) ∨ rInDict true x y H Q)) := OpR.or op_notIn_seq (OpR.or op_notIn_sign (op_notInDict hu))
theorem l_in : Lift2 K (fun x y H Q => rIn K false x y H Q ∨ ((∃ (c : Nat) (z : Str), x = .str ⟨#[c]⟩ ∧ y = .str z ∧ Q (.bl (decide (c ∈ z.cps.toList))) H) ∨ rInDict false x y H Q)) (inD false) :=
  ((l_inSeq false).or (l_inSign.or (l_inDict false))).wk fun x y M Q h => by simpa using inD_cases h
theorem l_notIn : Lift2 K (fun x y H Q => rIn K true x y H Q ∨ ((∃ (c : Nat) (z : Str), x = .str ⟨#[c]⟩ ∧ y = .str z ∧ Q (.bl (!decide (c ∈ z.cps.toList))) H) ∨ rInDict true x y H Q)) (inD true) :=
  ((l_inSeq true).or (l_notInSign.or (l_inDict true))).wk fun x y M Q h => by simpa using inD_cases h
end
end Y


set_option Elab.async false
set_option linter.all false
set_option maxRecDepth 100000
set_option maxHeartbeats 1000000
/-! Y5: slices, truth, len, calls of built-ins, comprehensions, dicts, methods of lists and dicts, fields. -/
namespace Y
open PySem PySem.Spec PyProof.Rows L2

section
variable {X : Cx} {B : Hp} {K : PySem.W.Frag}
/-! ### slices -/
def cut {α : Type} (xs : List α) (lo hi : Option Int) : List α := (xs.drop (HT.sIx xs.length 0 lo)).take (HT.sIx xs.length xs.length hi - HT.sIx xs.length 0 lo)
theorem cut_rep {F : Hp} {xs : List V} {ds : List D} (r : RepL K F xs ds) (lo hi : Option Int) : RepL K F (cutV xs lo hi) (cut ds lo hi) := by
  unfold cutV cut
  rw [r.length]
  exact (r.drop _).take _
theorem cut_whole {α : Type} {xs : List α} {lo hi : Option Int} (h : HT.sIx xs.length 0 lo = 0 ∧ HT.sIx xs.length xs.length hi = xs.length) : cut xs lo hi = xs := by
  unfold cut
  rw [h.1, h.2]
  simp
abbrev DO := Env → Mm → (Option Int → Mm → Prop) → Prop
def LO (K : PySem.W.Frag) (F : Hp) (Q : Option Int → Mm → Prop) : Option Int → Hp → Prop := fun b H' => ∃ F' M', Le F F' ∧ Stt K H' F' M' ∧ Q b M'
def upO (K : PySem.W.Frag) (B : Hp) (t : DO) : TO := fun σ H Q => ∃ F M δ Q', Le B F ∧ Stt K H F M ∧ RepS K F σ δ ∧ t δ M Q' ∧ ∀ v H', LO K F Q' v H' → Q v H'
def doNone : DO := fun _ M Q => Q none M
def doSome (t : DE) : DO := fun δ M Q => t δ M fun d M1 => ∃ i, d = .int i ∧ Q (some i) M1
theorem PO.wk {e : Option Expr} {t t' : TO} (h : PO X e t) (w : ∀ σ H Q, t' σ H Q → t σ H Q) : PO X e t' := ⟨fun pins s σ H Q I q => h.run pins s σ H Q I (w σ H Q q)⟩
theorem qo_none : PO X none (upO X.K B doNone) := PO.wk po_none fun σ H Q ⟨F, M, δ, Q', lb, S, rs, h, k⟩ => k _ _ ⟨F, M, Le.refl F, S, h⟩
theorem qo_some {e : Expr} {t : DE} (h : PE X e (up X.K B t)) : PO X (some e) (upO X.K B (doSome t)) := PO.wk (po_some h) fun σ H Q ⟨F, M, δ, Q', lb, S, rs, h, k⟩ => ⟨F, M, δ, _, lb, S, rs, h, fun x H1 ⟨F1, M1, d, l1, S1, r1, i, e, h1⟩ => by
  subst e; cases r1
  exact ⟨i, rfl, k _ _ ⟨F1, M1, l1, S1, h1⟩⟩⟩
/-- x[lo:hi]: of a tuple, a list (the part stands still), a text -/
def sliceD (x : D) (lo hi : Option Int) (M : Mm) (Q : QD) : Prop := match x with
  | .tup ds => Q (.tup (cut ds lo hi)) M
  | .v (.str z) => z.length ≤ sizeLine ∧ Q (.str (cutS z lo hi)) M
  | x => ∃ ds, lsD x M = some ds ∧ Q (.lst (cut ds lo hi)) M
def dSlice (te : DE) (tl th : DO) : DE := fun δ M Q => te δ M fun x M1 => tl δ M1 fun l M2 => th δ M2 fun u M3 => sliceD x l u M3 Q
def slAll (K : PySem.W.Frag) : V → Option Int → Option Int → Hp → VK → Prop := fun x lo hi H Q => rSlA K x lo hi H Q ∨ (rSlS x lo hi H Q ∨ rSlL K x lo hi H Q)
theorem sl_all : SlR X (slAll X.K) := SlR.or sl_tupA (SlR.or sl_str sl_list)
theorem slice_lift {H F : Hp} {M : Mm} {x : V} {d : D} {lo hi : Option Int} {Q' : QD} {Q : VK} (S : Stt K H F M) (rx : Rep K F x d) (h : sliceD d lo hi M Q') (k : ∀ v H', LQ K F Q' v H' → Q v H') : slAll K x lo hi H Q := by
  unfold sliceD at h
  split at h
  · rename_i ds
    cases rx with
    | @tup a xs _ hs rl =>
      refine .inl ⟨a, xs, rfl, SqT.le S.fz hs, fun z => ?_, fun _ p hp => ?_⟩
      · rw [rl.length] at z
        rw [cut_whole z] at h
        exact k _ _ ⟨F, M, _, Le.refl F, S, .tup hs rl, h⟩
      · have f0 := (S.free hp).1
        exact k _ _ ⟨_, M, _, le_upd f0, S.still hp, .tup (SqT.of upd_same) ((cut_rep rl lo hi).le (le_upd f0)), h⟩
  · cases rx
    exact .inr (.inl ⟨_, rfl, h.1, k _ _ ⟨F, M, _, Le.refl F, S, .v _, h.2⟩⟩)
  · obtain ⟨ds, e, h⟩ := h
    obtain ⟨a, xs, rfl, h3, rl⟩ := lsD_at S rx e
    refine .inr (.inr ⟨a, xs, rfl, h3, fun p hp => ?_⟩)
    have f0 := (S.free hp).1
    exact k _ _ ⟨_, M, _, le_upd f0, S.still hp, .lst (SqL.of upd_same) ((cut_rep rl lo hi).le (le_upd f0)), h⟩
theorem q_slice {e : Expr} {lo hi : Option Expr} {te : DE} {tl th : DO} {pos p2 : Pos} (he : PE X e (up X.K B te)) (hl : PO X lo (upO X.K B tl)) (hu : PO X hi (upO X.K B th)) : PE X (.Subscript e (.Slice lo hi none p2) pos) (up X.K B (dSlice te tl th)) :=
  PE.wk (pe_slice sl_all he hl hu) fun σ H Q ⟨F, M, δ, Q', lb, S, rs, h, k⟩ => ⟨F, M, δ, _, lb, S, rs, h, fun x H1 ⟨F1, M1, d, l1, S1, r1, h1⟩ =>
    ⟨F1, M1, δ, _, lb.trans l1, S1, rs.le l1, h1, fun l H2 ⟨F2, M2, l2, S2, h2⟩ => ⟨F2, M2, δ, _, lb.trans (l1.trans l2), S2, rs.le (l1.trans l2), h2, fun u H3 ⟨F3, M3, l3, S3, h3⟩ =>
      slice_lift S3 (r1.le (l2.trans l3)) h3 fun v H' q => k v H' (q.le ((l1.trans l2).trans l3))⟩⟩⟩

/-! ### truth -/
def truD (d : D) (M : Mm) : Option Bool := match d with
  | .v .non => some false
  | .v (.bl b) => some b
  | .v (.int i) => some (i != 0)
  | .v (.str z) => if z.length ≤ sizeLine then some ((z.length : Int) != 0) else none
  | .tup ds => some (!ds.isEmpty)
  | .lst ds => some (!ds.isEmpty)
  | .v (.ref a) => (match M a with | some (.lst ds) => some (!ds.isEmpty) | some (.dct kvs) => some (!kvs.isEmpty) | _ => none)
  | _ => none
theorem empty_rep {F : Hp} {xs : List V} {ds : List D} (r : RepL K F xs ds) : xs.isEmpty = ds.isEmpty := by cases r <;> rfl
theorem truD_at {H F : Hp} {M : Mm} {x : V} {d : D} {b : Bool} (S : Stt K H F M) (r : Rep K F x d) (h : truD d M = some b) : TruV K x H b := by
  cases r with
  | v =>
    cases x with
    | non => simp [truD] at h; subst h; rfl
    | bl c => simp [truD] at h; subst h; rfl
    | int i => simp only [truD, Option.some.injEq] at h; exact h.symm
    | str z =>
      simp only [truD] at h
      split at h
      · rename_i hz
        exact ⟨hz, (Option.some.inj h).symm⟩
      · cases h
    | ref a =>
      simp only [truD] at h
      cases e : M a with
      | none => rw [e] at h; cases h
      | some m =>
        rw [e] at h
        cases m with
        | lst ds =>
          obtain ⟨xs, h1, h2⟩ := muL S e
          exact .inl ⟨xs, SqL.of h1, by rw [empty_rep h2]; exact (Option.some.inj h).symm⟩
        | dct ds =>
          obtain ⟨xs, h1, h2⟩ := muD S e
          refine .inr (.inr ⟨xs, h1, ?_⟩)
          rw [show xs.isEmpty = ds.isEmpty from by unfold RepKV at h2; cases h2 <;> rfl]
          exact (Option.some.inj h).symm
        | _ => simp at h
    | _ => simp [truD] at h
  | tup hs rl => exact .inr (.inl ⟨_, SqT.le S.fz hs, by rw [empty_rep rl]; exact (Option.some.inj h).symm⟩)
  | lst hs rl => exact .inl ⟨_, SqL.le S.fz hs, by rw [empty_rep rl]; exact (Option.some.inj h).symm⟩
def dTru (t : DE) : DT := fun δ M Q => t δ M fun d M1 => ∃ b, truD d M1 = some b ∧ Q b M1
theorem qt_truth {a : Expr} {t : DE} (ha : PE X a (up X.K B t)) (he : ∀ whole, isTrue a X.env whole = (do let v ← whole; standAt a.pos; holding [v] (truthy v)) := by intro _; rfl) : PT X a (upT X.K B (dTru t)) :=
  PT.wk (pt_truth ha he) fun σ H Q ⟨F, M, δ, Q', lb, S, rs, h, k⟩ => ⟨F, M, δ, _, lb, S, rs, h, fun x H1 ⟨F1, M1, d, l1, S1, r1, b, e, h1⟩ => ⟨b, truD_at S1 r1 e, k _ _ ⟨F1, M1, l1, S1, h1⟩⟩⟩

/-! ### calls of built-ins -/
abbrev DC := List D → Mm → QD → Prop
def LiftC (K : PySem.W.Frag) (r : List V → Hp → VK → Prop) (r' : DC) : Prop := ∀ H F M xs ds Q' Q, Stt K H F M → RepL K F xs ds → r' ds M Q' → (∀ v H', LQ K F Q' v H' → Q v H') → r xs H Q
def dCB (r : DC) (t : DA) : DE := fun δ M Q => t δ M fun ds M1 => r ds M1 Q
theorem up_cb {r : List V → Hp → VK → Prop} {r' : DC} (L : LiftC K r r') {t : DA} {σ : Sg} {H : Hp} {Q : VK} (h : up K B (dCB r' t) σ H Q) : tCB r (upA K B t) σ H Q := by
  obtain ⟨F, M, δ, Q', lb, S, rs, h, k⟩ := h
  exact ⟨F, M, δ, _, lb, S, rs, h, fun vs H1 ⟨F1, M1, ds, l1, S1, r1, h1⟩ => L H1 F1 M1 vs ds Q' Q S1 r1 h1 fun v H' q => k v H' (q.le l1)⟩
section
variable {x : Str} {p pos : Pos} {e : Expr} {es : List Expr} {t : DA} {id T : String} {r : List V → Hp → VK → Prop} {r' : DC}
theorem q_callB (hc : CallR X (.builtin id) r) (L : LiftC X.K r r') (hg : Gl X x) (hm : X.mg x = none) (hv : bootBuiltins x = some (.builtin id)) (ha : PA X (e :: es) (upA X.K B t)) (hn : x ≠ "__name__" := by decide) (hdb : (x == ("__debug__" : Str)) = false := by decide)
    (he : starEach (e :: es) X.env = (false, eval e X.env) :: starEach es X.env := by rfl) (hpl : (backTo pos (starEach es X.env)).any (·.1) = false := by rfl) : PE X (.Call (.Name x p) (e :: es) [] pos) (up X.K B (dCB r' t)) :=
  PE.wk (pe_callB hc hg hm hv ha hn hdb he hpl) fun _ _ _ h => up_cb L h
theorem q_callTy (hc : CallR X (.type T) r) (L : LiftC X.K r r') (hg : Gl X x) (hm : X.mg x = none) (hv : bootBuiltins x = some (.type T)) (ha : PA X (e :: es) (upA X.K B t)) (hn : x ≠ "__name__" := by decide) (hdb : (x == ("__debug__" : Str)) = false := by decide)
    (he : starEach (e :: es) X.env = (false, eval e X.env) :: starEach es X.env := by rfl) (hpl : (backTo pos (starEach es X.env)).any (·.1) = false := by rfl) : PE X (.Call (.Name x p) (e :: es) [] pos) (up X.K B (dCB r' t)) :=
  PE.wk (pe_callTy hc hg hm hv ha hn hdb he hpl) fun _ _ _ h => up_cb L h
end
theorem rep1 {F : Hp} {xs : List V} {d : D} (r : RepL K F xs [d]) : ∃ x, xs = [x] ∧ Rep K F x d := by
  cases r with
  | cons a b => cases b; exact ⟨_, rfl, a⟩
theorem rep2 {F : Hp} {xs : List V} {d e : D} (r : RepL K F xs [d, e]) : ∃ x y, xs = [x, y] ∧ Rep K F x d ∧ Rep K F y e := by
  cases r with
  | cons a b =>
    obtain ⟨y, rfl, h⟩ := rep1 b
    exact ⟨_, _, rfl, a, h⟩
/-- len -/
def lenD (d : D) (M : Mm) : Option Nat := match d with
  | .v (.str z) => if z.length ≤ sizeLine then some z.length else none
  | .tup ds => some ds.length
  | .lst ds => some ds.length
  | .v (.ref a) => (match M a with | some (.lst ds) => some ds.length | some (.dct kvs) => some kvs.length | _ => none)
  | _ => none
def cLen : DC := fun ds M Q => ∃ d n, ds = [d] ∧ lenD d M = some n ∧ Q (.int (n : Int)) M
def rLenA (K : PySem.W.Frag) : List V → Hp → VK → Prop := fun xs H Q => (∃ x n, xs = [x] ∧ LenV K x H n ∧ Q (.int n) H) ∨ (∃ a kvs, xs = [.ref a] ∧ H a = some (.dK kvs) ∧ Q (.int kvs.length) H)
theorem call_lenA : CallR X (.builtin "len") (rLenA X.K) := CallR.or call_len (by
  intro pins s σ H xs us Q I r h
  obtain ⟨a, kvs, e, ea, q⟩ := h
  exact call_lenD pins s σ H xs us Q I r ⟨a, kvs, e, ea, q⟩)
theorem l_len : LiftC K (rLenA K) cLen := fun H F M xs ds Q' Q S r ⟨d, n, e, h, q⟩ k => by
  subst e
  obtain ⟨x, rfl, rx⟩ := rep1 r
  have fin : ∀ m : Nat, m = n → Q (.int (m : Int)) H := fun m hm => by subst hm; exact k _ _ ⟨F, M, _, Le.refl F, S, .v _, q⟩
  cases rx with
  | v =>
    cases x with
    | str z =>
      simp only [lenD] at h
      split at h
      · rename_i hz; exact .inl ⟨_, z.length, rfl, ⟨hz, rfl⟩, fin _ (Option.some.inj h)⟩
      · cases h
    | ref a =>
      simp only [lenD] at h
      cases e : M a with
      | none => rw [e] at h; cases h
      | some m =>
        rw [e] at h
        cases m with
        | lst ds =>
          obtain ⟨xs, h1, h2⟩ := muL S e
          exact .inl ⟨_, xs.length, rfl, .inl ⟨xs, SqL.of h1, rfl⟩, fin _ (by rw [h2.length]; exact Option.some.inj h)⟩
        | dct ds =>
          obtain ⟨xs, h1, h2⟩ := muD S e
          exact .inr ⟨a, xs, rfl, h1, fin _ (by rw [h2.length]; exact Option.some.inj h)⟩
        | _ => simp at h
    | _ => simp [lenD] at h
  | tup hs rl => exact .inl ⟨_, _, rfl, .inr ⟨_, SqT.le S.fz hs, rfl⟩, fin _ (by rw [rl.length]; exact Option.some.inj h)⟩
  | lst hs rl => exact .inl ⟨_, _, rfl, .inl ⟨_, SqL.le S.fz hs, rfl⟩, fin _ (by rw [rl.length]; exact Option.some.inj h)⟩
/-- int(n), abs(n), str(n) -/
def cInt : DC := fun ds M Q => ∃ i, ds = [.int i] ∧ Q (.int i) M
theorem l_int : LiftC K (fun xs H Q => (∃ i, xs = [.int i] ∧ Q (.int i) H) ∨ ∃ k, xs = [.bl k] ∧ Q (.int (if k then 1 else 0)) H) cInt := fun H F M xs ds Q' Q S r ⟨i, e, q⟩ k => by
  subst e
  obtain ⟨x, rfl, rx⟩ := rep1 r
  cases rx
  exact .inl ⟨i, rfl, k _ _ ⟨F, M, _, Le.refl F, S, .v _, q⟩⟩
def cAbs : DC := fun ds M Q => ∃ i, ds = [.int i] ∧ Q (.int (if i < 0 then -i else i)) M
theorem l_abs : LiftC K (fun xs H Q => ∃ i, xs = [.int i] ∧ Q (.int (if i < 0 then -i else i)) H) cAbs := fun H F M xs ds Q' Q S r ⟨i, e, q⟩ k => by
  subst e
  obtain ⟨x, rfl, rx⟩ := rep1 r
  cases rx
  exact ⟨i, rfl, k _ _ ⟨F, M, _, Le.refl F, S, .v _, q⟩⟩
def cStrI : DC := fun ds M Q => ∃ i, ds = [.int i] ∧ i.natAbs.log2 < 1920 ∧ Q (.str (Str.ofString (toString i))) M
theorem l_strI : LiftC K (fun xs H Q => ∃ i, xs = [.int i] ∧ i.natAbs.log2 < 1920 ∧ Q (.str (Str.ofString (toString i))) H) cStrI := fun H F M xs ds Q' Q S r ⟨i, e, h, q⟩ k => by
  subst e
  obtain ⟨x, rfl, rx⟩ := rep1 r
  cases rx
  exact ⟨i, rfl, h, k _ _ ⟨F, M, _, Le.refl F, S, .v _, q⟩⟩
/-- list(x) of a list or tuple: a new one; tuple(x) -/
def itD (d : D) (M : Mm) : Option (List D) := match d with
  | .tup ds => some ds
  | d => lsD d M
theorem itD_at {H F : Hp} {M : Mm} {x : V} {d : D} {ds : List D} (S : Stt K H F M) (r : Rep K F x d) (h : itD d M = some ds) : ∃ a xs, x = .ref a ∧ (SqL K H a xs ∨ SqT K H a xs) ∧ RepL K F xs ds := by
  unfold itD at h
  split at h
  · cases h
    cases r with
    | tup hs rl => exact ⟨_, _, rfl, .inr (SqT.le S.fz hs), rl⟩
  · obtain ⟨a, xs, e, h1, h2⟩ := lsD_at S r h
    exact ⟨a, xs, e, .inl h1, h2⟩
def cList : DC := fun ds M Q => ∃ d es, ds = [d] ∧ itD d M = some es ∧ Q (.lst es) M
def cListM : DC := fun ds M Q => ∃ d es, ds = [d] ∧ itD d M = some es ∧ ∀ p, M p = none → Q (.ref p) (Y.put M p (.lst es))
def rListOf (K : PySem.W.Frag) : List V → Hp → VK → Prop := fun xs H Q => ∃ p ys, xs = [.ref p] ∧ (SqL K H p ys ∨ SqT K H p ys) ∧ ∀ l, H l = none → Q (.ref l) (upd H l (.lst ys))
theorem l_list : LiftC K (rListOf K) cList := fun H F M xs ds Q' Q S r ⟨d, es, e, h, q⟩ k => by
  subst e
  obtain ⟨x, rfl, rx⟩ := rep1 r
  obtain ⟨a, ys, rfl, h1, rl⟩ := itD_at S rx h
  refine ⟨a, ys, rfl, h1, fun l hl => ?_⟩
  have f0 := (S.free hl).1
  exact k _ _ ⟨_, M, _, le_upd f0, S.still hl, .lst (SqL.of upd_same) (rl.le (le_upd f0)), q⟩
theorem l_listM : LiftC K (rListOf K) cListM := fun H F M xs ds Q' Q S r ⟨d, es, e, h, q⟩ k => by
  subst e
  obtain ⟨x, rfl, rx⟩ := rep1 r
  obtain ⟨a, ys, rfl, h1, rl⟩ := itD_at S rx h
  exact ⟨a, ys, rfl, h1, fun l hl => k _ _ ⟨F, _, _, Le.refl F, S.newM hl (.lst rl), .v _, q l (S.free hl).2⟩⟩
def cTuple : DC := fun ds M Q => ∃ d es, ds = [d] ∧ itD d M = some es ∧ Q (.tup es) M
theorem l_tuple : LiftC K (fun xs H Q => ∃ p ys, xs = [.ref p] ∧ ((SqL K H p ys ∧ ∀ l, H l = none → Q (.ref l) (upd H l (.tup ys))) ∨ (SqT K H p ys ∧ Q (.ref p) H))) cTuple := fun H F M xs ds Q' Q S r ⟨d, es, e, h, q⟩ k => by
  subst e
  obtain ⟨x, rfl, rx⟩ := rep1 r
  by_cases z : ∃ fs, d = .tup fs
  · obtain ⟨fs, rfl⟩ := z
    cases h
    cases rx with
    | tup hs rl => exact ⟨_, _, rfl, .inr ⟨SqT.le S.fz hs, k _ _ ⟨F, M, _, Le.refl F, S, .tup hs rl, q⟩⟩⟩
  · have h' : lsD d M = some es := by
      unfold itD at h
      split at h
      · exact absurd ⟨_, rfl⟩ z
      · exact h
    obtain ⟨a, ys, rfl, h1, rl⟩ := lsD_at S rx h'
    refine ⟨a, ys, rfl, .inl ⟨h1, fun l hl => ?_⟩⟩
    have f0 := (S.free hl).1
    exact k _ _ ⟨_, M, _, le_upd f0, S.still hl, .tup (SqT.of upd_same) (rl.le (le_upd f0)), q⟩
/-- all, any over a list of bools -/
def blsD : List D → Option (List Bool)
  | [] => some []
  | .v (.bl b) :: ds => (blsD ds).map (b :: ·)
  | _ :: _ => none
theorem blsD_at {F : Hp} : ∀ {xs : List V} {ds : List D} {bs : List Bool}, RepL K F xs ds → blsD ds = some bs → xs = bs.map V.bl
  | _, [], _, .nil, h => by simp [blsD] at h; subst h; rfl
  | x :: xs, d :: ds, bs, .cons r rl, h => by
    cases d with
    | v z =>
      have ez := Rep.v_inv r
      subst ez
      clear r
      cases x with
      | bl b =>
        cases e : blsD ds with
        | none => simp [blsD, e] at h
        | some cs =>
          simp [blsD, e] at h
          subst h
          rw [blsD_at rl e]
          rfl
      | _ => simp [blsD] at h
    | tup => simp [blsD] at h
    | lst => simp [blsD] at h
def cAll : DC := fun ds M Q => ∃ d es bs, ds = [d] ∧ lsD d M = some es ∧ blsD es = some bs ∧ Q (.bl (bs.all id)) M
def cAny : DC := fun ds M Q => ∃ d es bs, ds = [d] ∧ lsD d M = some es ∧ blsD es = some bs ∧ Q (.bl (bs.any id)) M
theorem l_all : LiftC K (rAll K) cAll := fun H F M xs ds Q' Q S r ⟨d, es, bs, e, h, hb, q⟩ k => by
  subst e
  obtain ⟨x, rfl, rx⟩ := rep1 r
  obtain ⟨a, ys, rfl, h1, rl⟩ := lsD_at S rx h
  have e := blsD_at rl hb
  subst e
  exact ⟨a, bs, rfl, h1, k _ _ ⟨F, M, _, Le.refl F, S, .v _, q⟩⟩
theorem l_any : LiftC K (rAny K) cAny := fun H F M xs ds Q' Q S r ⟨d, es, bs, e, h, hb, q⟩ k => by
  subst e
  obtain ⟨x, rfl, rx⟩ := rep1 r
  obtain ⟨a, ys, rfl, h1, rl⟩ := lsD_at S rx h
  have e := blsD_at rl hb
  subst e
  exact ⟨a, bs, rfl, h1, k _ _ ⟨F, M, _, Le.refl F, S, .v _, q⟩⟩
/-- isinstance(x, T), T a built-in class -/
def typD (d : D) (M : Mm) : Option String := match d with
  | .v .non => some "NoneType"
  | .v (.bl _) => some "bool"
  | .v (.int _) => some "int"
  | .v (.str _) => some "str"
  | .tup _ => some "tuple"
  | .v (.ref a) => (match M a with | some (.lst _) => some "list" | some (.dct _) => some "dict" | _ => none)
  | _ => none
theorem typD_at {H F : Hp} {M : Mm} {x : V} {d : D} {t : String} (S : Stt K H F M) (r : Rep K F x d) (h : typD d M = some t) : TyX K H x (.type t) := by
  cases r with
  | v =>
    cases x with
    | non => cases h; exact .base .non
    | bl c => cases h; exact .base (.bl _)
    | int i => cases h; exact .base (.int _)
    | str z => cases h; exact .base (.str _)
    | ref a =>
      simp only [typD] at h
      cases e : M a with
      | none => rw [e] at h; cases h
      | some m =>
        rw [e] at h
        cases m with
        | lst ds => cases h; obtain ⟨xs, h1, h2⟩ := muL S e; exact .base (.lst h1)
        | dct ds => cases h; obtain ⟨xs, h1, h2⟩ := muD S e; exact .base (.dK h1)
        | _ => simp at h
    | _ => simp [typD] at h
  | tup hs rl =>
    cases h
    rcases SqT.le S.fz hs with (z | ⟨o, z⟩) | ⟨o, its, n, h1, h2, _⟩
    · exact .base (.tup z)
    · exact .fTuple z
    · exact .kTuple h1 h2
  | lst => simp [typD] at h
def cIsi : DC := fun ds M Q => ∃ d t n b, ds = [d, .v (.ty n)] ∧ typD d M = some t ∧ kitB t n = some b ∧ Q (.bl b) M
theorem l_isi : LiftC K (rIsi K) cIsi := fun H F M xs ds Q' Q S r ⟨d, t, n, b, e, h, hb, q⟩ k => by
  subst e
  obtain ⟨x, y, rfl, rx, ry⟩ := rep2 r
  cases ry
  exact ⟨x, _, _, _, b, rfl, .ty n, typD_at S rx h, kit_ty hb, k _ _ ⟨F, M, _, Le.refl F, S, .v _, q⟩⟩
end
end Y


set_option Elab.async false
set_option linter.all false
set_option maxRecDepth 100000
set_option maxHeartbeats 1000000
/-! Y6: comprehensions, dicts, methods of lists and dicts, stores, fields, objects, bodies of defs. -/
namespace Y
open PySem PySem.Spec PyProof.Rows L2

section
variable {X : Cx} {B : Hp} {K : PySem.W.Frag}
/-! ### the slots of a block forgotten -/
def wipeD (δ : Env) : List Nat → Env
  | [] => δ
  | v :: vs => (wipeD δ vs).set v none
theorem RepS.wipe {F : Hp} {σ : Sg} {δ : Env} (r : RepS K F σ δ) : ∀ vs : List Nat, RepS K F (L2.wipe σ vs) (wipeD δ vs)
  | [] => r
  | v :: vs => RepS.unset v (RepS.wipe r vs)
theorem wipe_get (σ : Sg) : ∀ (vs : List Nat) (j : Nat), (L2.wipe σ vs)[j]? = if j ∈ vs then (σ[j]?).map (fun _ => none) else σ[j]?
  | [], j => by simp [L2.wipe]
  | v :: vs, j => by
    unfold L2.wipe
    by_cases e : v = j
    · subst e
      rw [List.getElem?_set_self', wipe_get σ vs v, if_pos List.mem_cons_self]
      split <;> simp [Option.map_map] <;> cases σ[v]? <;> rfl
    · rw [List.getElem?_set_ne e, wipe_get σ vs j]
      have : (j ∈ v :: vs) ↔ j ∈ vs := by simp [List.mem_cons, Ne.symm e]
      by_cases h : j ∈ vs
      · rw [if_pos h, if_pos (this.mpr h)]
      · rw [if_neg h, if_neg fun z => h (this.mp z)]
theorem wipe_set {σ : Sg} {vs : List Nat} {i : Nat} {x : Option V} (h : i ∈ vs) : L2.wipe (σ.set i x) vs = L2.wipe σ vs := by
  apply List.ext_getElem?
  intro j
  rw [wipe_get, wipe_get]
  by_cases e : j = i
  · subst e
    rw [if_pos h, if_pos h]
    rw [List.getElem?_set_self']
    cases σ[j]? <;> rfl
  · rw [List.getElem?_set_ne (Ne.symm e)]
theorem wipe_wipe {σ : Sg} {vs : List Nat} : L2.wipe (L2.wipe σ vs) vs = L2.wipe σ vs := by
  apply List.ext_getElem?
  intro j
  rw [wipe_get, wipe_get]
  by_cases h : j ∈ vs
  · rw [if_pos h, if_pos h]; cases σ[j]? <;> rfl
  · rw [if_neg h, if_neg h]
/-- a target of a block: it stores into the block's own slots alone -/
def LiftG (K : PySem.W.Frag) (vs : List Nat) (g : TG) (g' : DG) : Prop := ∀ H F M δ d v σ Q' Q, Stt K H F M → RepS K F σ δ → Rep K F v d → g' d δ M Q' → (∀ σ' H', L2.wipe σ' vs = L2.wipe σ vs → LS K F Q' σ' H' → Q σ' H') → g v σ H Q
def LiftGs (K : PySem.W.Frag) (vs : List Nat) (g : TGs) (g' : DGs) : Prop := ∀ H F M δ ds xs σ Q' Q, Stt K H F M → RepS K F σ δ → RepL K F xs ds → g' ds δ M Q' → (∀ σ' H', L2.wipe σ' vs = L2.wipe σ vs → LS K F Q' σ' H' → Q σ' H') → g xs σ H Q
theorem lg_name {vs : List Nat} {i : Nat} (h : i ∈ vs) : LiftG K vs (gName i) (dgName i) := fun H F M δ d v σ Q' Q S rs r q k => k _ _ (wipe_set h) ⟨F, M, _, Le.refl F, S, rs.set r i, q⟩
theorem lgs_nil {vs : List Nat} : LiftGs K vs gNil dgNil := fun H F M δ ds xs σ Q' Q S rs r ⟨e, q⟩ k => by
  subst e; cases r
  exact ⟨rfl, k _ _ rfl ⟨F, M, _, Le.refl F, S, rs, q⟩⟩
theorem lgs_cons {vs : List Nat} {g : TG} {g' : DG} {u : TGs} {u' : DGs} (h1 : LiftG K vs g g') (h2 : LiftGs K vs u u') : LiftGs K vs (gCons g u) (dgCons g' u') := fun H F M δ ds xs σ Q' Q S rs r ⟨d, r', e, q⟩ k => by
  subst e
  cases r with
  | cons ra rb =>
    refine ⟨_, _, rfl, h1 H F M δ d _ σ _ _ S rs ra q fun σ1 H1 w1 ⟨F1, M1, δ1, l1, S1, rs1, q1⟩ => ?_⟩
    exact h2 H1 F1 M1 δ1 r' _ σ1 Q' Q S1 rs1 (rb.le l1) q1 fun σ2 H2 w2 q2 => k _ _ (w2.trans w1) (q2.le l1)
theorem lg_tup {vs : List Nat} {n : Nat} {u : TGs} {u' : DGs} (h : LiftGs K vs u u') : LiftG K vs (gTup K n u) (dgTup n u') := fun H F M δ d v σ Q' Q S rs r ⟨ds, e, hl, q⟩ k => by
  subst e
  cases r with
  | tup hs rl => exact ⟨_, _, rfl, SqT.le S.fz hs, by rw [rl.length]; exact hl, h H F M δ ds _ σ Q' Q S rs rl q k⟩
/-- (a, b) = a list of that length -/
def dgLst (n : Nat) (t : DGs) : DG := fun d δ M Q => ∃ ds, lsD d M = some ds ∧ ds.length = n ∧ t ds δ M Q
theorem qg_lst {es : List Expr} {k : Nat} {t : DGs} {n : Nat} {pos : Pos} (hc : X.calm = true) (h : PGs X es (upGs X.K B t)) (hn : (assignEach es X.env).length = n := by rfl) (hst : (assignEach es X.env).findIdx? (·.1) = none := by rfl) : PG X (.Tuple es k pos) (upG X.K B (dgLst n t)) :=
  PG.wk (pg_lst hc h hn hst) fun v σ H Q ⟨F, M, δ, d, Q', lb, S, rs, r, ⟨ds, e, hl, h⟩, k⟩ => by
    obtain ⟨a, xs, rfl, h1, rl⟩ := lsD_at S r e
    exact ⟨_, _, rfl, h1, by rw [rl.length]; exact hl, F, M, δ, ds, _, lb, S, rs, rl, h, k⟩

/-! ### list comprehensions -/
def tYesD : DT := fun _ M Q => Q true M
theorem qts_nil : PTs X [] (upT X.K B tYesD) := ⟨fun pins s σ H Q I ⟨F, M, δ, Q', lb, S, rs, h, k⟩ => pts_nil.run pins s σ H Q I (k _ _ ⟨F, M, Le.refl F, S, h⟩)⟩
theorem qts_one {c : Expr} {t : DT} (h : PT X c (upT X.K B t)) : PTs X [c] (upT X.K B t) := pts_one h
def lcD (G : Mm → Prop) (g : DG) (tt : DT) (te : DE) (δ0 : Env) (p : Addr) (Q : Mm → Prop) : List D → Mm → Prop
  | [], M => G M ∧ Q M
  | d :: ds, M => G M ∧ ∃ N : Mm → Prop, (∀ M', N M' → lcD G g tt te δ0 p Q ds M') ∧ g d δ0 M fun δ' M1 => tt δ' M1 fun b M2 => if b = true then te δ' M2 fun e M3 => ∃ acc, M3 p = some (.lst acc) ∧ acc.length < sizeLine ∧ N (Y.put M3 p (.lst (acc ++ [e]))) else N M2
theorem lcD_G {G : Mm → Prop} {g : DG} {tt : DT} {te : DE} {δ0 : Env} {p : Addr} {Q : Mm → Prop} {ds : List D} {M : Mm} (h : lcD G g tt te δ0 p Q ds M) : G M := by
  cases ds with
  | nil => exact h.1
  | cons d ds => exact h.1
def dLc (wi : DI) (g : DG) (tt : DT) (te : DE) (vs : List Nat) : DE := fun δ M Q => wi δ M fun ds G M1 => ∀ p, M1 p = none → lcD G g tt te (wipeD δ vs) p (fun M' => Q (.ref p) M') ds (Y.put M1 p (.lst []))
theorem up_lc {wi : DI} {g : TG} {g' : DG} {tt : DT} {te : DE} {vs : List Nat} (L : LiftG K vs g g') {σ : Sg} {H : Hp} {Q : VK} (h : up K B (dLc wi g' tt te vs) σ H Q) : tLc (upI K B wi) g (upT K B tt) (up K B te) vs σ H Q := by
  obtain ⟨F, M, δ, Q', lb, S, rs, h, k⟩ := h
  refine ⟨F, M, δ, _, lb, S, rs, h, fun J H1 ⟨F1, M1, ds, G, l1, S1, Yw, h1⟩ p hp => ?_⟩
  have h1 := h1 p (S1.free hp).2
  have S2 := S1.newM (o := .lst []) hp (.lst .nil)
  refine ⟨fun i m H => m = ds.length - i ∧ i ≤ ds.length ∧ ∃ F2 M2, Le F1 F2 ∧ Stt K H F2 M2 ∧ lcD G g' tt te (wipeD δ vs) p (fun M' => Q' (.ref p) M') (ds.drop i) M2, ⟨ds.length, by simp, Nat.zero_le _, F1, _, Le.refl F1, S2, by simpa using h1⟩, ?_⟩
  rintro i m H2 ⟨rfl, hi, F2, M2, l2, S3, h2⟩
  have gm := lcD_G h2
  have l02 := l1.trans l2
  by_cases hlt : i < ds.length
  · refine .inr ⟨Yw.go i H2 F2 M2 l2 S3 gm hlt, fun H' => i + 1 ≤ ds.length ∧ ∃ F2 M2, Le F1 F2 ∧ Stt K H' F2 M2 ∧ lcD G g' tt te (wipeD δ vs) p (fun M' => Q' (.ref p) M') (ds.drop (i + 1)) M2, fun H' q => ⟨ds.length - (i + 1), by omega, rfl, q⟩, fun x H3 y => ?_⟩
    obtain ⟨F3, d, l3, S4, e3, r3⟩ := Yw.yld i H2 F2 M2 x H3 l2 S3 gm hlt y
    rw [List.drop_eq_getElem_cons hlt] at h2
    have ed : ds[i] = d := by
      rw [List.getElem?_eq_getElem hlt] at e3
      exact Option.some.inj e3
    rw [ed] at h2
    obtain ⟨_, N, hN, h2⟩ := h2
    refine L H3 F3 M2 (wipeD δ vs) d x (L2.wipe σ vs) _ _ S4 ((rs.wipe vs).le (l02.trans l3)) r3 h2 fun σ4 H4 w4 ⟨F4, M4, δ4, l4, S5, rs4, h4⟩ => ?_
    refine ⟨w4.trans wipe_wipe, F4, M4, δ4, _, lb.trans ((l02.trans l3).trans l4), S5, rs4, h4, fun b H5 ⟨F5, M5, l5, S6, h5⟩ => ?_⟩
    have l15 : Le F1 F5 := ((l2.trans l3).trans l4).trans l5
    cases b with
    | false => exact iteF ⟨hlt, F5, M5, l15, S6, hN _ (by simpa using h5)⟩
    | true =>
      rw [if_pos rfl] at h5
      refine iteT ⟨F5, M5, δ4, _, lb.trans (l1.trans l15), S6, rs4.le l5, h5, fun y H6 ⟨F6, M6, e, l6, S7, r6, acc, ea, hz, h6⟩ => ?_⟩
      obtain ⟨xs, hx, rx⟩ := muL S7 ea
      exact ⟨xs, hx, by rw [rx.length]; exact hz, hlt, F6, _, l15.trans l6, S7.change ea (.lst (rx.append (.cons r6 .nil))), hN _ h6⟩
  · have e : i = ds.length := by omega
    subst e
    rw [List.drop_eq_nil_of_le (Nat.le_refl _)] at h2
    exact .inl ⟨Yw.stop H2 F2 M2 l2 S3 gm, k _ _ ⟨F2, M2, _, l02, S3, .v _, h2.2⟩⟩
variable {elt tg iter : Expr} {ifs : List Expr} {scope : Scope} {own : List (Str × Nat)} {pos spos : Pos} {wi : DI} {g : TG} {g' : DG} {tt : DT} {te : DE}
theorem q_lc (hc : X.calm = true) (hN : X.N.Nodup) (hi : PI X tg iter (upI X.K B wi)) (ok : BlkOk X.N X.env.scope scope own)
    (hg : ∀ (s : Shared) (H : Hp) (C : Addr) (cl : List (Str × Addr)) (fp : List Addr), PG (X.blk s H scope (compEnvC scope cl C X.env) fp) tg g) (L : LiftG X.K (own.map (·.2)) g g')
    (ht : ∀ (s : Shared) (H : Hp) (C : Addr) (cl : List (Str × Addr)) (fp : List Addr), PTs (X.blk s H scope (compEnvC scope cl C X.env) fp) ifs (upT X.K B tt))
    (he : ∀ (s : Shared) (H : Hp) (C : Addr) (cl : List (Str × Addr)) (fp : List Addr), PE (X.blk s H scope (compEnvC scope cl C X.env) fp) elt (up X.K B te)) (hs : ∀ x, foldedSetIterable iter X.env x = pure x := by intro _; rfl) :
    PE X (.ListComp elt [⟨tg, iter, ifs, 0⟩] scope pos) (up X.K B (dLc wi g' tt te (own.map (·.2)))) :=
  PE.wk (pe_lc hc hN hi ok hg ht he hs) fun _ _ _ h => up_lc L h
theorem qs_setLc {i : Nat} {y : Str} {py : Pos} (hc : X.calm = true) (hN : X.N.Nodup) (hy : X.N[i]? = some y) (hyl : X.env.scope.names.lookup y = some .local)
    (hsw : swapsWith (.ListComp elt [⟨tg, iter, ifs, 0⟩] scope pos) (some (.Name y py)) spos.line X.env = pure true) (hi : PI X tg iter (upI X.K B wi)) (ok : BlkOk X.N X.env.scope scope own)
    (hg : ∀ (s : Shared) (H : Hp) (C : Addr) (cl : List (Str × Addr)) (fp : List Addr), PG (X.blk s H scope (compEnvC scope cl C X.env) fp) tg g) (L : LiftG X.K (own.map (·.2)) g g')
    (ht : ∀ (s : Shared) (H : Hp) (C : Addr) (cl : List (Str × Addr)) (fp : List Addr), PTs (X.blk s H scope (compEnvC scope cl C X.env) fp) ifs (upT X.K B tt))
    (he : ∀ (s : Shared) (H : Hp) (C : Addr) (cl : List (Str × Addr)) (fp : List Addr), PE (X.blk s H scope (compEnvC scope cl C X.env) fp) elt (up X.K B te)) (hs : ∀ x, foldedSetIterable iter X.env x = pure x := by intro _; rfl) :
    PS X (.Assign [.Name y py] (.ListComp elt [⟨tg, iter, ifs, 0⟩] scope pos) spos) (upS X.K B (dAsg (dLc wi g' tt te (own.map (·.2))) (dgName i))) :=
  PS.wk (ps_setLc hc hN hy hyl hsw hi ok hg ht he hs) fun E σ H h => by
    have h := up_asg E σ H h
    obtain ⟨F, M, δ, E', lb, S, rs, h, k⟩ := h
    exact up_lc L ⟨F, M, δ, _, lb, S, rs, h, fun v H' q => by
      obtain ⟨F1, M1, δ1, d1, Q1, _, S1, rs1, r1, q1, k1⟩ := k v H' q
      exact k1 _ _ ⟨F1, M1, _, Le.refl F1, S1, rs1.set r1 i, q1⟩⟩

/-! ### dict comprehensions -/
def dcD (G : Mm → Prop) (g : DG) (tt : DT) (tk te : DE) (δ0 : Env) (p : Addr) (Q : Mm → Prop) : List D → Mm → Prop
  | [], M => G M ∧ Q M
  | d :: ds, M => G M ∧ ∃ N : Mm → Prop, (∀ M', N M' → dcD G g tt tk te δ0 p Q ds M') ∧ g d δ0 M fun δ' M1 => tt δ' M1 fun b M2 => if b = true then tk δ' M2 fun y M3 => te δ' M3 fun e M4 => ∃ kvs k, keyD y = some k ∧ M4 p = some (.dct kvs) ∧ kvs.length < sizeLine ∧ N (Y.put M4 p (.dct (putKD kvs k e))) else N M2
theorem dcD_G {G : Mm → Prop} {g : DG} {tt : DT} {tk te : DE} {δ0 : Env} {p : Addr} {Q : Mm → Prop} {ds : List D} {M : Mm} (h : dcD G g tt tk te δ0 p Q ds M) : G M := by
  cases ds with
  | nil => exact h.1
  | cons d ds => exact h.1
def dDc (wi : DI) (g : DG) (tt : DT) (tk te : DE) (vs : List Nat) : DE := fun δ M Q => wi δ M fun ds G M1 => ∀ p, M1 p = none → dcD G g tt tk te (wipeD δ vs) p (fun M' => Q (.ref p) M') ds (Y.put M1 p (.dct []))
theorem up_dc {wi : DI} {g : TG} {g' : DG} {tt : DT} {tk te : DE} {vs : List Nat} (L : LiftG K vs g g') {σ : Sg} {H : Hp} {Q : VK} (h : up K B (dDc wi g' tt tk te vs) σ H Q) : tDc (upI K B wi) g (upT K B tt) (up K B tk) (up K B te) vs σ H Q := by
  obtain ⟨F, M, δ, Q', lb, S, rs, h, k⟩ := h
  refine ⟨F, M, δ, _, lb, S, rs, h, fun J H1 ⟨F1, M1, ds, G, l1, S1, Yw, h1⟩ p hp => ?_⟩
  have h1 := h1 p (S1.free hp).2
  have S2 := S1.newM (o := .dK []) (m := .dct []) hp (.dct .nil)
  refine ⟨fun i m H => m = ds.length - i ∧ i ≤ ds.length ∧ ∃ F2 M2, Le F1 F2 ∧ Stt K H F2 M2 ∧ dcD G g' tt tk te (wipeD δ vs) p (fun M' => Q' (.ref p) M') (ds.drop i) M2, ⟨ds.length, by simp, Nat.zero_le _, F1, _, Le.refl F1, S2, by simpa using h1⟩, ?_⟩
  rintro i m H2 ⟨rfl, hi, F2, M2, l2, S3, h2⟩
  have gm := dcD_G h2
  have l02 := l1.trans l2
  by_cases hlt : i < ds.length
  · refine .inr ⟨Yw.go i H2 F2 M2 l2 S3 gm hlt, fun H' => i + 1 ≤ ds.length ∧ ∃ F2 M2, Le F1 F2 ∧ Stt K H' F2 M2 ∧ dcD G g' tt tk te (wipeD δ vs) p (fun M' => Q' (.ref p) M') (ds.drop (i + 1)) M2, fun H' q => ⟨ds.length - (i + 1), by omega, rfl, q⟩, fun x H3 y => ?_⟩
    obtain ⟨F3, d, l3, S4, e3, r3⟩ := Yw.yld i H2 F2 M2 x H3 l2 S3 gm hlt y
    rw [List.drop_eq_getElem_cons hlt] at h2
    have ed : ds[i] = d := by
      rw [List.getElem?_eq_getElem hlt] at e3
      exact Option.some.inj e3
    rw [ed] at h2
    obtain ⟨_, N, hN, h2⟩ := h2
    refine L H3 F3 M2 (wipeD δ vs) d x (L2.wipe σ vs) _ _ S4 ((rs.wipe vs).le (l02.trans l3)) r3 h2 fun σ4 H4 w4 ⟨F4, M4, δ4, l4, S5, rs4, h4⟩ => ?_
    refine ⟨w4.trans wipe_wipe, F4, M4, δ4, _, lb.trans ((l02.trans l3).trans l4), S5, rs4, h4, fun b H5 ⟨F5, M5, l5, S6, h5⟩ => ?_⟩
    have l15 : Le F1 F5 := ((l2.trans l3).trans l4).trans l5
    cases b with
    | false => exact iteF ⟨hlt, F5, M5, l15, S6, hN _ (by simpa using h5)⟩
    | true =>
      rw [if_pos rfl] at h5
      refine iteT ⟨F5, M5, δ4, _, lb.trans (l1.trans l15), S6, rs4.le l5, h5, fun y H6 ⟨F6, M6, dk, l6, S7, r6, h6⟩ => ?_⟩
      refine ⟨F6, M6, δ4, _, lb.trans ((l1.trans l15).trans l6), S7, rs4.le (l5.trans l6), h6, fun z H7 ⟨F7, M7, e, l7, S8, r7, kvs, kk, ek, ea, hz, h7⟩ => ?_⟩
      obtain ⟨xs, hx, rx⟩ := muD S8 ea
      exact ⟨xs, kk, keyD_at r6 ek, hx, by rw [rx.length]; exact hz, hlt, F7, _, (l15.trans l6).trans l7, S8.change ea (.dct (putKD_rep rx r7)), hN _ h7⟩
  · have e : i = ds.length := by omega
    subst e
    rw [List.drop_eq_nil_of_le (Nat.le_refl _)] at h2
    exact .inl ⟨Yw.stop H2 F2 M2 l2 S3 gm, k _ _ ⟨F2, M2, _, l02, S3, .v _, h2.2⟩⟩
theorem q_dc {kx vx : Expr} {tk : DE} (hc : X.calm = true) (hN : X.N.Nodup) (hi : PI X tg iter (upI X.K B wi)) (ok : BlkOk X.N X.env.scope scope own)
    (hg : ∀ (s : Shared) (H : Hp) (C : Addr) (cl : List (Str × Addr)) (fp : List Addr), PG (X.blk s H scope (compEnvC scope cl C X.env) fp) tg g) (L : LiftG X.K (own.map (·.2)) g g')
    (ht : ∀ (s : Shared) (H : Hp) (C : Addr) (cl : List (Str × Addr)) (fp : List Addr), PTs (X.blk s H scope (compEnvC scope cl C X.env) fp) ifs (upT X.K B tt))
    (hk : ∀ (s : Shared) (H : Hp) (C : Addr) (cl : List (Str × Addr)) (fp : List Addr), PE (X.blk s H scope (compEnvC scope cl C X.env) fp) kx (up X.K B tk))
    (he : ∀ (s : Shared) (H : Hp) (C : Addr) (cl : List (Str × Addr)) (fp : List Addr), PE (X.blk s H scope (compEnvC scope cl C X.env) fp) vx (up X.K B te)) (hs : ∀ x, foldedSetIterable iter X.env x = pure x := by intro _; rfl) :
    PE X (.DictComp kx vx [⟨tg, iter, ifs, 0⟩] scope pos) (up X.K B (dDc wi g' tt tk te (own.map (·.2)))) :=
  PE.wk (pe_dc hc hN hi ok hg ht hk he hs) fun _ _ _ h => up_dc L h

/-! ### a name's list stands still from here on -/
def dFrzS (i : Nat) (u : DS) : DS := fun E δ M => ∃ p ds, δ[i]? = some (some (.ref p)) ∧ M p = some (.lst ds) ∧ u E (δ.set i (some (.lst ds))) (Y.drop M p)
theorem RepS.turn {F : Hp} {i : Nat} {x : V} {d : D} (r : Rep K F x d) : ∀ {σ : Sg} {δ : Env} {j : Nat}, RepS K F σ δ → σ[j]? = Option.some (Option.some x) → RepS K F σ (δ.set j (Option.some d))
  | _, _, _, .nil, h => .nil
  | _, _, 0, .some _ t, h => by
    simp at h
    subst h
    exact .some r t
  | _, _, 0, .none _, h => by simp at h
  | _, _, j + 1, .some q t, h => .some q (RepS.turn (i := i) r t (by simpa using h))
  | _, _, j + 1, .none t, h => .none (RepS.turn (i := i) r t (by simpa using h))
theorem qss_frz (i : Nat) {sts : List Stmt} {u : DS} (h : PSs X sts (upS X.K B u)) : PSs X sts (upS X.K B (dFrzS i u)) := PSs.wk h fun E σ H ⟨F, M, δ, E', lb, S, rs, ⟨p, ds, e1, e2, h⟩, k1, k2, k3, k4⟩ => by
  obtain ⟨x, h1, h2⟩ := rs.get e1
  cases h2
  obtain ⟨o, g1, g2, l2, S2⟩ := S.freeze e2
  cases g2 with
  | lst r => exact ⟨_, _, _, E', lb.trans l2, S2, (RepS.turn (i := i) (.lst (SqL.of upd_same) (r.le l2)) (rs.le l2) h1), h, fun _ _ q => k1 _ _ (q.le l2), fun _ _ q => k2 _ _ (q.le l2), fun _ _ q => k3 _ _ (q.le l2), fun _ _ q => k4 _ _ (q.le l2)⟩
end
end Y


set_option Elab.async false
set_option linter.all false
set_option maxRecDepth 100000
set_option maxHeartbeats 1000000
/-! Y7: stores, methods of lists and dicts, fields, objects, bodies of defs, dicts walked. -/
namespace Y
open PySem PySem.Spec PyProof.Rows L2

section
variable {X : Cx} {B : Hp} {K : PySem.W.Frag}
/-! ### o[i] = e -/
def setD (o i v : D) (M : Mm) (Q : Mm → Prop) : Prop := match o with
  | .v (.ref a) => (match M a with
    | some (.lst ds) => ∃ k j, i = .int k ∧ ixN ds.length k = some j ∧ Q (Y.put M a (.lst (ds.set j v)))
    | some (.dct kvs) => ∃ k, keyD i = some k ∧ kvs.length < sizeLine ∧ Q (Y.put M a (.dct (putKD kvs k v)))
    | _ => False)
  | _ => False
def rSetA : TSet := fun o i v H Q => rSetL o i v H Q ∨ rSetD o i v H Q
theorem set_all (hu : X.A.units + 1 < cLine) : PSet X rSetA := by
  intro pins s σ H o i v ov iv u Q I ro ri rv h
  rcases h with h | h
  · exact set_list pins s σ H o i v ov iv u Q I ro ri rv h
  · exact set_dict hu pins s σ H o i v ov iv u Q I ro ri rv h
theorem set_lift {H F : Hp} {M : Mm} {o i v : V} {od id vd : D} {Q' : Mm → Prop} {Q : Hp → Prop} (S : Stt K H F M) (ro : Rep K F o od) (ri : Rep K F i id) (rv : Rep K F v vd) (h : setD od id vd M Q') (k : ∀ H' M', Stt K H' F M' → Q' M' → Q H') : rSetA o i v H Q := by
  unfold setD at h
  split at h
  · rename_i a
    cases ro
    split at h
    · rename_i ds e
      obtain ⟨n, j, rfl, hj, q⟩ := h
      cases ri
      obtain ⟨xs, h1, r1⟩ := muL S e
      exact .inl ⟨a, xs, n, j, rfl, rfl, h1, by rw [r1.length]; exact hj, k _ _ (S.change e (.lst (RepL.set rv j r1))) q⟩
    · rename_i kvs e
      obtain ⟨n, hk, hz, q⟩ := h
      have ei := keyD_at ri hk
      subst ei
      obtain ⟨xs, h1, r1⟩ := muD S e
      exact .inr ⟨a, _, rfl, DPut.k h1 (by rw [r1.length]; exact hz), k _ _ (S.change e (.dct (putKD_rep r1 rv))) q⟩
    · exact h.elim
  · exact h.elim
def dgSub (to ti : DE) : DG := fun v δ M Q => to δ M fun o M1 => ti δ M1 fun i M2 => setD o i v M2 fun M3 => Q δ M3
theorem qg_sub {o i : Expr} {to ti : DE} {pos : Pos} (hu : X.A.units + 1 < cLine) (ho : PE X o (up X.K B to)) (hi : PE X i (up X.K B ti))
    (ha : ∀ v, assign (.Subscript o i pos) X.env v = (do
      let ov ← holding [v] (eval o X.env)
      let iv ← holding [v, ov] (eval i X.env)
      standAt pos
      holding [v, ov, iv] (setItem ov iv v)
      release [v, ov, iv] []) := by intro _; rfl) : PG X (.Subscript o i pos) (upG X.K B (dgSub to ti)) :=
  PG.wk (pg_sub ho hi (set_all hu) ha) fun v σ H Q ⟨F, M, δ, d, Q', lb, S, rs, r, h, k⟩ => ⟨F, M, δ, _, lb, S, rs, h, fun x H1 ⟨F1, M1, d1, l1, S1, r1, h1⟩ =>
    ⟨F1, M1, δ, _, lb.trans l1, S1, rs.le l1, h1, fun y H2 ⟨F2, M2, d2, l2, S2, r2, h2⟩ => set_lift S2 (r1.le l2) r2 (r.le (l1.trans l2)) h2 fun H3 M3 S3 q => k _ _ ⟨F2, M3, δ, l1.trans l2, S3, rs.le (l1.trans l2), q⟩⟩⟩
/-! ### del d[k] -/
def dDel (to ti : DE) : DS := fun E δ M => to δ M fun o M1 => ti δ M1 fun i M2 => ∃ a kvs k, o = .ref a ∧ M2 a = some (.dct kvs) ∧ keyD i = some k ∧ (valD kvs k).isSome = true ∧ E.nx δ (Y.put M2 a (.dct (dropKD kvs k)))
theorem qs_del {o i : Expr} {to ti : DE} {tpos pos : Pos} (ho : PE X o (up X.K B to)) (hi : PE X i (up X.K B ti)) : PS X (.Delete [.Subscript o i tpos] pos) (upS X.K B (dDel to ti)) :=
  PS.wk (ps_ddel ho hi) fun E σ H ⟨F, M, δ, E', lb, S, rs, h, k1, k2, k3, k4⟩ => ⟨F, M, δ, _, lb, S, rs, h, fun x H1 ⟨F1, M1, d1, l1, S1, r1, h1⟩ =>
    ⟨F1, M1, δ, _, lb.trans l1, S1, rs.le l1, h1, fun y H2 ⟨F2, M2, d2, l2, S2, r2, a, kvs, k, e, em, ek, hs, h2⟩ => by
      subst e
      cases r1
      obtain ⟨xs, hx, rx⟩ := muD S2 em
      have ey := keyD_at r2 ek
      subst ey
      refine ⟨a, xs, k, rfl, hx, rfl, ?_, k1 _ _ ⟨F2, _, δ, l1.trans l2, S2.change em (.dct (dropKD_rep rx)), rs.le (l1.trans l2), h2⟩⟩
      rcases valD_rep (k := k) rx with ⟨_, z⟩ | ⟨v, d, z, _, _⟩
      · rw [z] at hs; cases hs
      · rw [z]; rfl⟩⟩

/-! ### methods of built-in types, by values -/
abbrev DM := D → List D → Mm → QD → Prop
def LiftM (K : PySem.W.Frag) (r : V → List V → Hp → VK → Prop) (r' : DM) : Prop := ∀ H F M x d xs ds Q' Q, Stt K H F M → Rep K F x d → RepL K F xs ds → r' d ds M Q' → (∀ v H', LQ K F Q' v H' → Q v H') → r x xs H Q
/-- what stands ahead of the dot, by its type -/
def tyD (T : String) (d : D) (M : Mm) : Prop := match d with
  | .v (.str _) => T = "str"
  | .lst _ => T = "list"
  | .v (.ref a) => (match M a with | some (.lst _) => T = "list" | some (.dct _) => T = "dict" | _ => False)
  | _ => False
theorem tyD_at {H F : Hp} {M : Mm} {x : V} {d : D} {T : String} (S : Stt K H F M) (r : Rep K F x d) (h : tyD T d M) : tyV K T x H := by
  cases r with
  | v =>
    cases x with
    | str z => exact h
    | ref a =>
      simp only [tyD] at h
      cases e : M a with
      | none => rw [e] at h; exact h.elim
      | some m =>
        rw [e] at h
        cases m with
        | lst ds => obtain ⟨xs, h1, h2⟩ := muL S e; exact .inl ⟨h, xs, SqL.of h1⟩
        | dct ds => obtain ⟨xs, h1, h2⟩ := muD S e; exact .inr (.inr (.inl ⟨h, .inl ⟨xs, h1⟩⟩))
        | _ => exact h.elim
    | _ => exact h.elim
  | tup => exact h.elim
  | lst hs rl => exact .inl ⟨h, _, SqL.le S.fz hs⟩
def dBM0 (T : String) (r : DM) (to : DE) : DE := fun δ M Q => to δ M fun x M1 => tyD T x M1 ∧ r x [] M1 Q
def dBM (T : String) (r : DM) (to : DE) (t : DA) : DE := fun δ M Q => to δ M fun x M1 => tyD T x M1 ∧ t δ M1 fun xs M2 => r x xs M2 Q
section
variable {o e : Expr} {es : List Expr} {to : DE} {t : DA} {name : Str} {apos cpos : Pos} {T id : String} {r : V → List V → Hp → VK → Prop} {r' : DM}
theorem q_bm0 (pa : PlainAttrs T) (slot : Slot T name id) (hty : typeOf (.builtin id) = pure (.type "method_descriptor")) (hm : MtR X id r) (L : LiftM X.K r r') (ho : PE X o (up X.K B to))
    (hbase : attributeBase o name X.env (eval o X.env) = eval o X.env := by rfl) (hline : (apos.endLine == cpos.line) = true := by rfl) : PE X (.Call (.Attribute o name apos) [] [] cpos) (up X.K B (dBM0 T r' to)) :=
  PE.wk (pe_bm0 pa slot hty hm ho hbase hline) fun σ H Q ⟨F, M, δ, Q', lb, S, rs, h, k⟩ => ⟨F, M, δ, _, lb, S, rs, h, fun x H1 ⟨F1, M1, d1, l1, S1, r1, ty, h1⟩ => ⟨tyD_at S1 r1 ty, L H1 F1 M1 x d1 [] [] Q' Q S1 r1 .nil h1 fun v H' q => k v H' (q.le l1)⟩⟩
theorem q_bm (pa : PlainAttrs T) (slot : Slot T name id) (hty : typeOf (.builtin id) = pure (.type "method_descriptor")) (hm : MtR X id r) (L : LiftM X.K r r') (ho : PE X o (up X.K B to)) (ha : PA X (e :: es) (upA X.K B t))
    (hbase : attributeBase o name X.env (eval o X.env) = eval o X.env := by rfl)
    (hfew : ((backTo cpos (starEach (e :: es) X.env)).all (fun x => !x.1) && (backToKw cpos (keywordEach [] X.env)).all (fun x => x.1.isSome)
      && decide ((e :: es).length + ([] : List Keyword).length + (if ([] : List Keyword).isEmpty then 0 else 1) < 30)) = true := by rfl)
    (hline : (apos.endLine == cpos.line) = true := by rfl) (hs : starEach (e :: es) X.env = (false, eval e X.env) :: starEach es X.env := by rfl) (hplain : (backTo cpos (starEach es X.env)).any (·.1) = false := by rfl) :
    PE X (.Call (.Attribute o name apos) (e :: es) [] cpos) (up X.K B (dBM T r' to t)) :=
  PE.wk (pe_bm pa slot hty hm ho ha hbase hfew hline hs hplain) fun σ H Q ⟨F, M, δ, Q', lb, S, rs, h, k⟩ => ⟨F, M, δ, _, lb, S, rs, h, fun x H1 ⟨F1, M1, d1, l1, S1, r1, ty, h1⟩ => ⟨tyD_at S1 r1 ty, F1, M1, δ, _, lb.trans l1, S1, rs.le l1, h1,
    fun xs H2 ⟨F2, M2, ds, l2, S2, r2, h2⟩ => L H2 F2 M2 x d1 xs ds Q' Q S2 (r1.le l2) r2 h2 fun v H' q => k v H' (q.le (l1.trans l2))⟩⟩
end
def mAppend : DM := fun x vs M Q => ∃ a ds d, x = .ref a ∧ vs = [d] ∧ M a = some (.lst ds) ∧ ds.length < sizeLine ∧ Q .non (Y.put M a (.lst (ds ++ [d])))
theorem l_append : LiftM K rAppend mAppend := fun H F M x d xs ds Q' Q S r rl ⟨a, es, e, e1, e2, em, hz, q⟩ k => by
  subst e1 e2
  cases r
  obtain ⟨y, rfl, ry⟩ := rep1 rl
  obtain ⟨ys, hy, rys⟩ := muL S em
  exact ⟨a, ys, y, rfl, rfl, hy, by rw [rys.length]; exact hz, k _ _ ⟨F, _, _, Le.refl F, S.change em (.lst (rys.append (.cons ry .nil))), .v _, q⟩⟩
def mPop : DM := fun x vs M Q => ∃ a ds d, x = .ref a ∧ vs = [] ∧ M a = some (.lst ds) ∧ ds[ds.length - 1]? = some d ∧ Q d (Y.put M a (.lst ds.dropLast))
theorem RepL.dropLast {F : Hp} {xs : List V} {ds : List D} (r : RepL K F xs ds) : RepL K F xs.dropLast ds.dropLast := by
  rw [List.dropLast_eq_take, List.dropLast_eq_take, r.length]
  exact r.take _
theorem l_pop : LiftM K rPop mPop := fun H F M x d xs ds Q' Q S r rl ⟨a, es, e, e1, e2, em, hz, q⟩ k => by
  subst e1 e2
  cases r
  cases rl
  obtain ⟨ys, hy, rys⟩ := muL S em
  obtain ⟨y, h1, h2⟩ := rys.get hz
  exact ⟨a, ys, y, rfl, rfl, hy, by rw [rys.length]; exact h1, k _ _ ⟨F, _, _, Le.refl F, S.change em (.lst rys.dropLast), h2, q⟩⟩
/-- texts' methods -/
def strsD : List D → Option (List Str)
  | [] => some []
  | .v (.str x) :: ds => (strsD ds).map (x :: ·)
  | _ :: _ => none
theorem strsD_at {F : Hp} : ∀ {xs : List V} {ds : List D} {bs : List Str}, RepL K F xs ds → strsD ds = some bs → xs = bs.map V.str
  | _, [], _, .nil, h => by simp [strsD] at h; subst h; rfl
  | x :: xs, d :: ds, bs, .cons r rl, h => by
    cases d with
    | v z =>
      have ez := Rep.v_inv r
      subst ez
      clear r
      cases x with
      | str b =>
        cases e : strsD ds with
        | none => simp [strsD, e] at h
        | some cs =>
          simp [strsD, e] at h
          subst h
          rw [strsD_at rl e]
          rfl
      | _ => simp [strsD] at h
    | tup => simp [strsD] at h
    | lst => simp [strsD] at h
theorem strsD_map (xs : List Str) : strsD (xs.map D.str) = some xs := by
  induction xs with
  | nil => rfl
  | cons x xs ih => simp [strsD, ih]
def mJoin : DM := fun x vs M Q => ∃ a d ds ys, x = .str a ∧ vs = [d] ∧ itD d M = some ds ∧ strsD ds = some ys ∧ (ys.map (·.length)).sum + ys.length * a.length ≤ 16777216 ∧ Q (.str (Txt.join a ys)) M
theorem l_join : LiftM K (fun x xs H Q => ∃ a p, ∃ ys : List Str, x = .str a ∧ xs = [.ref p] ∧ (SqL K H p (ys.map V.str) ∨ SqT K H p (ys.map V.str)) ∧
    (ys.map (·.length)).sum + ys.length * a.length ≤ 16777216 ∧ Q (.str (Txt.join a ys)) H) mJoin := fun H F M x d xs ds Q' Q S r rl ⟨a, e, es, ys, e1, e2, h1, h2, hz, q⟩ k => by
  subst e1 e2
  cases r
  obtain ⟨y, rfl, ry⟩ := rep1 rl
  obtain ⟨p, zs, rfl, h3, r3⟩ := itD_at S ry h1
  have ez := strsD_at r3 h2
  subst ez
  exact ⟨a, p, ys, rfl, rfl, h3, hz, k _ _ ⟨F, M, _, Le.refl F, S, .v _, q⟩⟩

/-! ### d.get(k), d.get(k, x), d.pop(k, x) -/
def isDk (d : D) (M : Mm) : Prop := ∃ kvs, dkD d M = some kvs
theorem isDk_at {H F : Hp} {M : Mm} {x : V} {d : D} (S : Stt K H F M) (r : Rep K F x d) (h : isDk d M) : ∃ a, x = .ref a ∧ IsD H a := by
  obtain ⟨kvs, h⟩ := h
  obtain ⟨a, xs, e, h1, _⟩ := dkD_at S r h
  exact ⟨a, e, .inl ⟨xs, h1⟩⟩
def dGet1 (td ty : DE) : DE := fun δ M Q => td δ M fun x M1 => isDk x M1 ∧ ty δ M1 fun y M2 => ∃ kvs k, dkD x M2 = some kvs ∧ keyD y = some k ∧ Q ((valD kvs k).getD .non) M2
def dGet2 (td ty tx : DE) : DE := fun δ M Q => td δ M fun x M1 => isDk x M1 ∧ ty δ M1 fun y M2 => tx δ M2 fun z M3 => ∃ kvs k, dkD x M3 = some kvs ∧ keyD y = some k ∧ Q ((valD kvs k).getD z) M3
theorem q_get1 {o e : Expr} {td ty : DE} {apos cpos : Pos} (hu : X.A.units + 1 < cLine) (ho : PE X o (up X.K B td)) (he : PE X e (up X.K B ty)) (m : M1 X o "get" apos e cpos := by exact ⟨rfl, rfl, rfl, rfl⟩) : PE X (.Call (.Attribute o "get" apos) [e] [] cpos) (up X.K B (dGet1 td ty)) :=
  PE.wk (pe_dget1 hu ho he m) fun σ H Q ⟨F, M, δ, Q', lb, S, rs, h, k⟩ => ⟨F, M, δ, _, lb, S, rs, h, fun x H1 ⟨F1, M1, d1, l1, S1, r1, hd, h1⟩ => by
    obtain ⟨a, rfl, ha⟩ := isDk_at S1 r1 hd
    refine ⟨a, rfl, ha, F1, M1, δ, _, lb.trans l1, S1, rs.le l1, h1, fun y H2 ⟨F2, M2, d2, l2, S2, r2, kvs, kk, h3, h4, h5⟩ => ?_⟩
    obtain ⟨a', xs, e, h6, r6⟩ := dkD_at S2 (r1.le l2) h3
    cases e
    have ey := keyD_at r2 h4
    subst ey
    refine ⟨valV xs kk, .inl ⟨xs, kk, h6, rfl, rfl⟩, ?_⟩
    rcases valD_rep (k := kk) r6 with ⟨z1, z2⟩ | ⟨v, d, z1, z2, z3⟩
    · rw [z2] at h5; rw [z1]; exact k _ _ ⟨F2, M2, _, l1.trans l2, S2, .v _, h5⟩
    · rw [z2] at h5; rw [z1]; exact k _ _ ⟨F2, M2, _, l1.trans l2, S2, z3, h5⟩⟩
theorem q_get2 {o e f : Expr} {td ty tx : DE} {apos cpos : Pos} (hu : X.A.units + 1 < cLine) (ho : PE X o (up X.K B td)) (he : PE X e (up X.K B ty)) (hf : PE X f (up X.K B tx)) (m : M2 X o "get" apos e f cpos := by exact ⟨rfl, rfl, rfl, rfl⟩) : PE X (.Call (.Attribute o "get" apos) [e, f] [] cpos) (up X.K B (dGet2 td ty tx)) :=
  PE.wk (pe_dget2 hu ho he hf m) fun σ H Q ⟨F, M, δ, Q', lb, S, rs, h, k⟩ => ⟨F, M, δ, _, lb, S, rs, h, fun x H1 ⟨F1, M1, d1, l1, S1, r1, hd, h1⟩ => by
    obtain ⟨a, rfl, ha⟩ := isDk_at S1 r1 hd
    refine ⟨a, rfl, ha, F1, M1, δ, _, lb.trans l1, S1, rs.le l1, h1, fun y H2 ⟨F2, M2, d2, l2, S2, r2, h2⟩ => ?_⟩
    refine ⟨F2, M2, δ, _, lb.trans (l1.trans l2), S2, rs.le (l1.trans l2), h2, fun z H3 ⟨F3, M3, d3, l3, S3, r3, kvs, kk, h3, h4, h5⟩ => ?_⟩
    obtain ⟨a', xs, e, h6, r6⟩ := dkD_at S3 (r1.le (l2.trans l3)) h3
    cases e
    have ey := keyD_at r2 h4
    subst ey
    refine ⟨valV xs kk, .inl ⟨xs, kk, h6, rfl, rfl⟩, ?_⟩
    have l13 := (l1.trans l2).trans l3
    rcases valD_rep (k := kk) r6 with ⟨z1, z2⟩ | ⟨v, d, z1, z2, z3⟩
    · rw [z2] at h5; rw [z1]; exact k _ _ ⟨F3, M3, _, l13, S3, r3, h5⟩
    · rw [z2] at h5; rw [z1]; exact k _ _ ⟨F3, M3, _, l13, S3, z3, h5⟩⟩

/-! ### a display of a dict -/
def dPairs : List (DE × DE) → Env → Mm → (List (D × D) → Mm → Prop) → Prop
  | [], _, M, Q => Q [] M
  | (tk, tv) :: r, δ, M, Q => tk δ M fun x M1 => tv δ M1 fun y M2 => dPairs r δ M2 fun ps M3 => Q ((x, y) :: ps) M3
def keysD : List (D × D) → Option (List (Key × D))
  | [] => some []
  | (x, y) :: r => (keyD x).bind fun k => (keysD r).map ((k, y) :: ·)
def mergeD (kvs : List (Key × D)) : List (Key × D) := kvs.foldl (fun acc kv => putKD acc kv.1 kv.2) []
def upP (K : PySem.W.Frag) (B : Hp) (l : List (DE × DE)) : List (TE × TE) := l.map fun p => (up K B p.1, up K B p.2)
def RepP (K : PySem.W.Frag) (F : Hp) : List (V × V) → List (D × D) → Prop := Paired fun p q => Rep K F p.1 q.1 ∧ Rep K F p.2 q.2
theorem RepP.le {F G : Hp} {xs : List (V × V)} {ds : List (D × D)} (e : Le F G) (h : RepP K F xs ds) : RepP K G xs ds := Paired.mapP h fun _ _ q => ⟨q.1.le e, q.2.le e⟩
theorem up_pairs : ∀ (l : List (DE × DE)) {σ : Sg} {H F : Hp} {M : Mm} {δ : Env} {Q' : List (D × D) → Mm → Prop} {Q : List (V × V) → Hp → Prop}, Le B F → Stt K H F M → RepS K F σ δ → dPairs l δ M Q' →
    (∀ ps H', (∃ F' M' ds, Le F F' ∧ Stt K H' F' M' ∧ RepP K F' ps ds ∧ Q' ds M') → Q ps H') → tPairs (upP K B l) σ H Q
  | [], σ, H, F, M, δ, Q', Q, lb, S, rs, h, k => k _ _ ⟨F, M, [], Le.refl F, S, .nil, h⟩
  | (tk, tv) :: r, σ, H, F, M, δ, Q', Q, lb, S, rs, h, k => by
    refine ⟨F, M, δ, _, lb, S, rs, h, fun x H1 ⟨F1, M1, d1, l1, S1, r1, h1⟩ => ?_⟩
    refine ⟨F1, M1, δ, _, lb.trans l1, S1, rs.le l1, h1, fun y H2 ⟨F2, M2, d2, l2, S2, r2, h2⟩ => ?_⟩
    exact up_pairs r (lb.trans (l1.trans l2)) S2 (rs.le (l1.trans l2)) h2 fun ps H3 ⟨F3, M3, ds, l3, S3, r3, h3⟩ => k _ _ ⟨F3, M3, _, (l1.trans l2).trans l3, S3, .cons ⟨r1.le (l2.trans l3), r2.le l3⟩ r3, h3⟩
theorem keysD_at {F : Hp} : ∀ {ps : List (V × V)} {ds : List (D × D)} {kvs : List (Key × D)}, RepP K F ps ds → keysD ds = some kvs → ∃ xs : List (Key × V), ps = xs.map (fun kv => (kV kv.1, kv.2)) ∧ RepKV K F xs kvs := by
  intro ps ds kvs r
  unfold RepP at r
  induction r generalizing kvs with
  | nil => intro h; cases h; exact ⟨[], rfl, .nil⟩
  | @cons p q ps qs h _ ih =>
    intro hk
    obtain ⟨x, y⟩ := q
    cases ek : keyD x with
    | none => simp [keysD, ek] at hk
    | some k =>
      cases er : keysD qs with
      | none => simp [keysD, ek, er] at hk
      | some rs =>
        simp [keysD, ek, er] at hk
        subst hk
        obtain ⟨xs, e1, r1⟩ := ih er
        have e2 := keyD_at h.1 ek
        exact ⟨(k, p.2) :: xs, by rw [List.map_cons, ← e1, ← e2], .cons ⟨rfl, h.2⟩ r1⟩
theorem merge_rep {F : Hp} {xs : List (Key × V)} {kvs : List (Key × D)} (r : RepKV K F xs kvs) : RepKV K F (mergeK [] xs) (mergeD kvs) := by
  have : ∀ (a : List (Key × V)) (b : List (Key × D)), RepKV K F a b → RepKV K F (mergeK a xs) (kvs.foldl (fun acc kv => putKD acc kv.1 kv.2) b) := by
    unfold RepKV at r
    induction r with
    | nil => intro a b h; exact h
    | @cons p q ps qs h _ ih =>
      intro a b hab
      have h1 : p.1 = q.1 := h.1
      show RepKV K F (mergeK (putK a p.1 p.2) ps) (qs.foldl _ (putKD b q.1 q.2))
      rw [h1]
      exact ih _ _ (putKD_rep hab h.2)
  exact this [] [] .nil
def dDisp (l : List (DE × DE)) : DE := fun δ M Q => ∀ p, M p = none → dPairs l δ (Y.put M p (.dct [])) fun ps M2 => M2 p = some (.dct []) ∧ ∃ kvs, keysD ps = some kvs ∧ kvs.length ≤ 15 ∧ Q (.ref p) (Y.put M2 p (.dct (mergeD kvs)))
theorem q_disp {pos : Pos} {keys : List (Option Expr)} {values : List Expr} {l : List (DE × DE)} (h : PPs X pos keys values (upP X.K B l)) (hall : keys.all (·.isSome) = true := by rfl) (hl : keys.length = values.length := by rfl) (h0 : keys ≠ [] := by exact fun z => nomatch z)
    (h15 : keys.length ≤ 15 := by decide) : PE X (.Dict keys values pos) (up X.K B (dDisp l)) :=
  PE.wk (pe_disp h hall hl h0 h15) fun σ H Q ⟨F, M, δ, Q', lb, S, rs, h, k⟩ p hp => by
    have S1 := S.newM (o := .dK []) (m := .dct []) hp (.dct .nil)
    refine up_pairs l lb S1 rs (h p (S.free hp).2) fun ps H2 ⟨F2, M2, ds, l2, S2, r2, em, kvs, ek, hz, q⟩ => ?_
    obtain ⟨xs, hx, rx⟩ := muD S2 em
    cases rx
    obtain ⟨ys, ey, ry⟩ := keysD_at r2 ek
    exact ⟨hx, ys, ey, by rw [ry.length]; exact hz, k _ _ ⟨F2, _, _, l2, S2.change em (.dct (merge_rep ry)), .v _, q⟩⟩
theorem qps_nil {pos : Pos} : PPs X pos [] [] (upP X.K B []) := pps_nil
theorem qps_cons {pos : Pos} {k v : Expr} {ks : List (Option Expr)} {vs : List Expr} {tk tv : DE} {l : List (DE × DE)} (hk : PE X k (up X.K B tk)) (hv : PE X v (up X.K B tv)) (hr : PPs X pos ks vs (upP X.K B l)) : PPs X pos (some k :: ks) (v :: vs) (upP X.K B ((tk, tv) :: l)) := pps_cons hk hv hr

/-! ### a dict walked -/
theorem lk_at {H F : Hp} {M : Mm} {a : Addr} {o : Obj} {xs : List (Key × V)} {kvs : List (Key × D)} (S : Stt K H F M) (h : M a = some (.lk o xs kvs)) : H a = some (.frz o (.dK xs)) ∧ RepKV K F xs kvs := by
  obtain ⟨_, u, h2, h3⟩ := S.mu _ _ h
  cases h3 with
  | lk r => exact ⟨h2, r⟩
def lkEnd (a : Addr) (od : Obj) (xs : List (Key × V)) (kvs : List (Key × D)) (R : Mm → Prop) : Mm → Prop := fun M' => M' a = some (.lk od xs kvs) ∧ R (Y.put M' a (.dct kvs))
def dLock (t : DS) : DS := fun E δ M => ∃ a kvs, M a = some (.dct kvs) ∧ ∀ od xs, t ⟨fun δ' => lkEnd a od xs kvs (E.nx δ'), fun v => lkEnd a od xs kvs (E.rt v), fun δ' => lkEnd a od xs kvs (E.bk δ'), fun δ' => lkEnd a od xs kvs (E.ct δ')⟩ δ (Y.put M a (.lk od xs kvs))
def dLockE (t : DE) : DE := fun δ M Q => ∃ a kvs, M a = some (.dct kvs) ∧ ∀ od xs, t δ (Y.put M a (.lk od xs kvs)) fun v => lkEnd a od xs kvs (Q v)
theorem qs_lock {st : Stmt} {t : DS} (h : PS X st (upS X.K B t)) : PS X st (upS X.K B (dLock t)) := PS.wk (ps_lock h) fun E σ H ⟨F, M, δ, E', lb, S, rs, ⟨a, kvs, em, h⟩, k1, k2, k3, k4⟩ => by
  obtain ⟨xs, hx, rx⟩ := muD S em
  refine ⟨a, .dK xs, hx, trivial, fun od => ?_⟩
  refine ⟨F, _, δ, _, lb, S.change em (.lk rx), rs, h od xs, fun σ' H' ⟨F1, M1, δ1, l1, S1, rs1, e1, q⟩ => ?_, fun v H' ⟨F1, M1, d1, l1, S1, r1, e1, q⟩ => ?_, fun σ' H' ⟨F1, M1, δ1, l1, S1, rs1, e1, q⟩ => ?_, fun σ' H' ⟨F1, M1, δ1, l1, S1, rs1, e1, q⟩ => ?_⟩
  · exact ⟨(lk_at S1 e1).1, k1 _ _ ⟨F1, _, δ1, l1, S1.change e1 (.dct (RepKV.le l1 rx)), rs1, q⟩⟩
  · exact ⟨(lk_at S1 e1).1, k2 _ _ ⟨F1, _, d1, l1, S1.change e1 (.dct (RepKV.le l1 rx)), r1, q⟩⟩
  · exact ⟨(lk_at S1 e1).1, k3 _ _ ⟨F1, _, δ1, l1, S1.change e1 (.dct (RepKV.le l1 rx)), rs1, q⟩⟩
  · exact ⟨(lk_at S1 e1).1, k4 _ _ ⟨F1, _, δ1, l1, S1.change e1 (.dct (RepKV.le l1 rx)), rs1, q⟩⟩
theorem q_lock {e : Expr} {t : DE} (h : PE X e (up X.K B t)) : PE X e (up X.K B (dLockE t)) := PE.wk (pe_lock h) fun σ H Q ⟨F, M, δ, Q', lb, S, rs, ⟨a, kvs, em, h⟩, k⟩ => by
  obtain ⟨xs, hx, rx⟩ := muD S em
  refine ⟨a, .dK xs, hx, trivial, fun od => ?_⟩
  exact ⟨F, _, δ, _, lb, S.change em (.lk rx), rs, h od xs, fun v H' ⟨F1, M1, d1, l1, S1, r1, e1, q⟩ => ⟨(lk_at S1 e1).1, k _ _ ⟨F1, _, d1, l1, S1.change e1 (.dct (RepKV.le l1 rx)), r1, q⟩⟩⟩
def kD : Key → D
  | .inl i => .int i
  | .inr x => .str x
/-- the keys of a dict that is walked -/
def diKeys (t : DE) : DI := fun δ M R => t δ M fun d M1 => ∃ a o xs kvs, d = .ref a ∧ M1 a = some (.lk o xs kvs) ∧ R (kvs.map fun kv => kD kv.1) (fun M => M a = some (.lk o xs kvs)) M1
theorem qi_keys {tg e : Expr} {t : DE} (h : PE X e (up X.K B t)) : PI X tg e (upI X.K B (diKeys t)) :=
  PI.wk (pi_keys h) fun σ H R ⟨F, M, δ, R', lb, S, rs, h, k⟩ => ⟨F, M, δ, _, lb, S, rs, h, fun v H1 ⟨F1, M1, d, l1, S1, r1, a, o, xs, kvs, e, em, h1⟩ => by
    subst e
    cases r1
    obtain ⟨hx, rx⟩ := lk_at S1 em
    have hl := rx.length
    refine ⟨a, o, rfl, .inl ⟨xs, hx, k _ _ ⟨F1, M1, _, _, l1, S1, ⟨fun i H F M l S g hi => ?_, fun H F M l S g => ?_, fun i H F M x H' l S g hi y => ?_⟩, h1⟩⟩⟩
    · exact walk_keys.goes i H (by rw [hl]; simpa using hi) (lk_at S g).1
    · rw [List.length_map, ← hl]; exact walk_keys.stops H (lk_at S g).1
    · obtain ⟨e1, kk, v, e2, e3⟩ := walk_keys.yields i H x H' (by rw [hl]; simpa using hi) (lk_at S g).1 y
      subst e1 e3
      have hi' : i < kvs.length := by simpa using hi
      refine ⟨F, kD kk, Le.refl F, S, ?_, by cases kk <;> exact .v _⟩
      have hk : ∀ {l1 : List (Key × V)} {l2 : List (Key × D)} {i : Nat}, RepKV X.K F1 l1 l2 → l1[i]? = some (kk, v) → (l2.map fun kv => kD kv.1)[i]? = some (kD kk) := by
        intro l1 l2 i r
        unfold RepKV at r
        induction r generalizing i with
        | nil => intro z; simp at z
        | @cons p q ps qs h _ ih =>
          intro z
          cases i with
          | zero => simp at z; subst z; simp [← h.1]
          | succ i => simpa using ih (by simpa using z)
      exact hk rx e2⟩

/-! ### fields, objects -/
def putFD (f : Str) (v : D) : List (Str × D) → List (Str × D)
  | [] => [(f, v)]
  | (g, x) :: r => if g = f then (g, v) :: r else (g, x) :: putFD f v r
theorem lookup_rep {F : Hp} {xs : List (Str × V)} {ds : List (Str × D)} {f : Str} {d : D} (r : RepKV K F xs ds) (h : ds.lookup f = some d) : ∃ v, xs.lookup f = some v ∧ Rep K F v d := by
  unfold RepKV at r
  induction r with
  | nil => simp at h
  | @cons p q ps qs hh _ ih =>
    obtain ⟨p1, p2⟩ := p
    obtain ⟨q1, q2⟩ := q
    obtain ⟨h1, h2⟩ := hh
    have h1 : p1 = q1 := h1
    subst h1
    by_cases e : f = p1
    · subst e
      simp only [List.lookup_cons, beq_self_eq_true, Option.some.injEq] at h ⊢
      subst h
      exact ⟨p2, rfl, h2⟩
    · have eb : (f == p1) = false := by simpa using e
      simp only [List.lookup_cons, eb] at h ⊢
      exact ih h
theorem lookup_none {F : Hp} {xs : List (Str × V)} {ds : List (Str × D)} {f : Str} (r : RepKV K F xs ds) (h : ds.lookup f = none) : xs.lookup f = none := by
  unfold RepKV at r
  induction r with
  | nil => rfl
  | @cons p q ps qs hh _ ih =>
    obtain ⟨p1, p2⟩ := p
    obtain ⟨q1, q2⟩ := q
    obtain ⟨h1, h2⟩ := hh
    have h1 : p1 = q1 := h1
    subst h1
    by_cases e : f = p1
    · subst e
      simp at h
    · have eb : (f == p1) = false := by simpa using e
      simp only [List.lookup_cons, eb] at h ⊢
      exact ih h
theorem putFD_rep {F : Hp} {xs : List (Str × V)} {ds : List (Str × D)} {f : Str} {v : V} {d : D} (r : RepKV K F xs ds) (rv : Rep K F v d) : RepKV K F (putF f v xs) (putFD f d ds) := by
  unfold RepKV at r
  induction r with
  | nil => exact .cons ⟨rfl, rv⟩ .nil
  | @cons p q ps qs hh t ih =>
    obtain ⟨p1, p2⟩ := p
    obtain ⟨q1, q2⟩ := q
    obtain ⟨h1, h2⟩ := hh
    have h1 : p1 = q1 := h1
    subst h1
    show RepKV K F (if p1 = f then (p1, v) :: ps else (p1, p2) :: putF f v ps) (if p1 = f then (p1, d) :: qs else (p1, q2) :: putFD f d qs)
    by_cases e : p1 = f
    · rw [if_pos e, if_pos e]; exact .cons ⟨rfl, rv⟩ t
    · rw [if_neg e, if_neg e]; exact .cons ⟨rfl, h2⟩ ih
def dFld (K : PySem.W.Frag) (f : Str) (ta : DE) : DE := fun δ M Q => ta δ M fun x M1 => ∃ a C dx fs d, x = .ref a ∧ M1 a = some (.ins C dx fs) ∧ Cls K C ∧ NoAttr K C f ∧ fs.lookup f = some d ∧ Q d M1
theorem q_fld {e : Expr} {f : Str} {ta : DE} {pos : Pos} (he : PE X e (up X.K B ta)) (hb : attributeBase e f X.env (eval e X.env) = eval e X.env := by rfl) : PE X (.Attribute e f pos) (up X.K B (dFld X.K f ta)) :=
  PE.wk (pe_fld he hb) fun σ H Q ⟨F, M, δ, Q', lb, S, rs, h, k⟩ => ⟨F, M, δ, _, lb, S, rs, h, fun x H1 ⟨F1, M1, d1, l1, S1, r1, a, C, dx, fs, d, e, em, c, n, hl, h1⟩ => by
    subst e
    cases r1
    obtain ⟨xs, hx, rx⟩ := muI S1 em
    obtain ⟨v, h2, h3⟩ := lookup_rep rx hl
    exact ⟨a, C, dx, xs, v, rfl, hx, c, n, h2, k _ _ ⟨F1, M1, d, l1, S1, h3, h1⟩⟩⟩
def dsFld (K : PySem.W.Frag) (f : Str) (ta tv : DE) : DS := fun E δ M => tv δ M fun y M1 => ta δ M1 fun x M2 => ∃ a C dx fs, x = .ref a ∧ M2 a = some (.ins C dx fs) ∧ Cls K C ∧ NoAttr K C f ∧ fs.length < 1000 ∧ E.nx δ (Y.put M2 a (.ins C dx (putFD f y fs)))
theorem qs_fld {o value : Expr} {f : Str} {ta tv : DE} {pos pos' : Pos} (ha : PE X o (up X.K B ta)) (hv : PE X value (up X.K B tv)) (hs : swapsWith value (some (.Attribute o f pos')) pos.line X.env = pure false := by rfl) : PS X (.Assign [.Attribute o f pos'] value pos) (upS X.K B (dsFld X.K f ta tv)) :=
  PS.wk (ps_fld ha hv hs) fun E σ H ⟨F, M, δ, E', lb, S, rs, h, k1, k2, k3, k4⟩ => ⟨F, M, δ, _, lb, S, rs, h, fun y H1 ⟨F1, M1, d1, l1, S1, r1, h1⟩ =>
    ⟨F1, M1, δ, _, lb.trans l1, S1, rs.le l1, h1, fun x H2 ⟨F2, M2, d2, l2, S2, r2, a, C, dx, fs, e, em, c, n, hz, h2⟩ => by
      subst e
      cases r2
      obtain ⟨xs, hx, rx⟩ := muI S2 em
      exact ⟨a, C, dx, xs, rfl, hx, c, n, by rw [rx.length]; exact hz, k1 _ _ ⟨F2, _, δ, l1.trans l2, S2.change em (.ins (putFD_rep rx (r1.le l2))), rs.le (l1.trans l2), h2⟩⟩⟩⟩
def dsFldAug (K : PySem.W.Frag) (f : Str) (ta tv : DE) (r : D2) : DS := fun E δ M => ta δ M fun x M1 => ∃ a C dx fs d, x = .ref a ∧ M1 a = some (.ins C dx fs) ∧ Cls K C ∧ NoAttr K C f ∧ fs.lookup f = some d ∧
  tv δ M1 fun y M2 => r d y M2 fun z M3 => ∃ dx' fs', M3 a = some (.ins C dx' fs') ∧ fs'.length < 1000 ∧ E.nx δ (Y.put M3 a (.ins C dx' (putFD f z fs')))
theorem qs_fldaug {op : Operator} {o value : Expr} {f : Str} {ta tv : DE} {pos tpos : Pos} {rd : V → V → Hp → VK → Prop} {r' : D2} (ha : PE X o (up X.K B ta)) (hv : PE X value (up X.K B tv)) (hop : InOp X op rd) (L : Lift2 X.K rd r') : PS X (.AugAssign (.Attribute o f tpos) op value pos) (upS X.K B (dsFldAug X.K f ta tv r')) :=
  PS.wk (ps_fldaug ha hv hop) fun E σ H ⟨F, M, δ, E', lb, S, rs, h, k1, k2, k3, k4⟩ => ⟨F, M, δ, _, lb, S, rs, h, fun x H1 ⟨F1, M1, d1, l1, S1, r1, a, C, dx, fs, d, e, em, c, n, hl, h1⟩ => by
    subst e
    cases r1
    obtain ⟨xs, hx, rx⟩ := muI S1 em
    obtain ⟨v, h2, h3⟩ := lookup_rep rx hl
    refine ⟨a, C, dx, xs, v, rfl, hx, c, n, h2, F1, M1, δ, _, lb.trans l1, S1, rs.le l1, h1, fun y H2 ⟨F2, M2, d2, l2, S2, r2, h4⟩ => ?_⟩
    refine L H2 F2 M2 v y d d2 _ _ S2 (h3.le l2) r2 h4 fun z H3 ⟨F3, M3, d3, l3, S3, r3, dx', fs', em', hz, h5⟩ => ?_
    obtain ⟨xs', hx', rx'⟩ := muI S3 em'
    have l13 := (l1.trans l2).trans l3
    exact ⟨dx', xs', hx', by rw [rx'.length]; exact hz, k1 _ _ ⟨F3, _, δ, l13, S3.change em' (.ins (putFD_rep rx' r3)), rs.le l13, h5⟩⟩⟩
theorem l_fadd : Lift2 K rAdd (dI0 fun i j => .int (i + j)) := fun H F M x y d e Q' Q S rx ry ⟨i, j, e1, e2, q⟩ k => by
  subst e1 e2; cases rx; cases ry
  exact ⟨i, j, rfl, rfl, k _ _ ⟨F, M, _, Le.refl F, S, .v _, q⟩⟩
theorem l_fsub : Lift2 K rSub (dI0 fun i j => .int (i - j)) := fun H F M x y d e Q' Q S rx ry ⟨i, j, e1, e2, q⟩ k => by
  subst e1 e2; cases rx; cases ry
  exact ⟨i, j, rfl, rfl, k _ _ ⟨F, M, _, Le.refl F, S, .v _, q⟩⟩
section
variable {CX : CXT} {k : Nat} {f C : Addr} {fd : FuncData} {ps : List Str} {s : DSp} {x m : Str} {p pos apos : Pos} {o e : Expr} {es : List Expr} {t : DA} {ta : DE}
def dMeth (C : Addr) (m : Str) (s : DSp) (ta : DE) (t : DA) : DE := fun δ M Q => ta δ M fun x M1 => ∃ a dx fs, x = .ref a ∧ M1 a = some (.ins C dx fs) ∧ fs.lookup m = none ∧ t δ M1 fun ds M2 => s (x :: ds) M2 Q noX
theorem q_meth {pl : Sem Bool} (he : PE X o (up X.K B ta)) (c : Cls X.K C) (hm : Meth X.K C m f) (F : FnOk X.prog X.w X.K X.mg X.base CX k f fd ps (spOf X.K s)) (hr : Room k X.A) (hb : Binds X.K fd ps []) (hx : Passes CX X E0) (ha : PA X (e :: es) (upA X.K B t))
    (hst : starEach (e :: es) X.env = (false, eval e X.env) :: starEach es X.env := by rfl) (hpl : (backTo pos (starEach es X.env)).any (·.1) = false := by rfl)
    (ht : eval (.Call (.Attribute o m apos) (e :: es) [] pos) X.env = (do
      let ov ← eval o X.env
      standAt apos.atName
      let (f, first) ← holding [ov] (getMethod ov m pl)
      callWith pos f first (backTo pos (starEach (e :: es) X.env)) (backToKw pos (keywordEach [] X.env))) := by rfl) :
    PE X (.Call (.Attribute o m apos) (e :: es) [] pos) (up X.K B (dMeth C m s ta t)) :=
  PE.wk (pe_meth he c hm F hr hb .nil hx ha hst hpl ht) fun σ H Q ⟨F, M, δ, Q', lb, S, rs, h, k⟩ => ⟨F, M, δ, _, lb, S, rs, h, fun x H1 ⟨F1, M1, d1, l1, S1, r1, a, dx, fs, e, em, hl, h1⟩ => by
    subst e
    cases r1
    obtain ⟨xs, hx, rx⟩ := muI S1 em
    refine ⟨a, dx, xs, rfl, hx, lookup_none rx hl, F1, M1, δ, _, lb.trans l1, S1, rs.le l1, h1, fun vs H2 ⟨F2, M2, ds, l2, S2, r2, h2⟩ => ?_⟩
    show spOf X.K s (_ :: (vs ++ [])) H2 Q E0
    rw [List.append_nil]
    exact ⟨F2, M2, _, _, _, S2, .cons (.v _) r2, h2, fun v H' q => k v H' (q.le (l1.trans l2)), noX_ok⟩⟩
theorem q_meth0 {pl : Sem Bool} (he : PE X o (up X.K B ta)) (c : Cls X.K C) (hm : Meth X.K C m f) (F : FnOk X.prog X.w X.K X.mg X.base CX k f fd ps (spOf X.K s)) (hr : Room k X.A) (hb : Binds X.K fd ps []) (hx : Passes CX X E0)
    (ht : eval (.Call (.Attribute o m apos) [] [] pos) X.env = (do
      let ov ← eval o X.env
      standAt apos.atName
      let (f, first) ← holding [ov] (getMethod ov m pl)
      callWith pos f first (backTo pos (starEach [] X.env)) (backToKw pos (keywordEach [] X.env))) := by rfl) :
    PE X (.Call (.Attribute o m apos) [] [] pos) (up X.K B (dMeth C m s ta dNil)) :=
  PE.wk (pe_meth0 he c hm F hr hb .nil hx ht) fun σ H Q ⟨F, M, δ, Q', lb, S, rs, h, k⟩ => ⟨F, M, δ, _, lb, S, rs, h, fun x H1 ⟨F1, M1, d1, l1, S1, r1, a, dx, fs, e, em, hl, h1⟩ => by
    subst e
    cases r1
    obtain ⟨xs, hx, rx⟩ := muI S1 em
    exact ⟨a, dx, xs, rfl, hx, lookup_none rx hl, F1, M1, _, _, _, S1, .cons (.v _) .nil, h1, fun v H' q => k v H' (q.le l1), noX_ok⟩⟩
theorem Stt.bury {H F : Hp} {M : Mm} (S : Stt K H F M) {p : Addr} {o : HO} (h : H p = none) : Stt K (upd H p o) F M := by
  obtain ⟨f0, m0⟩ := S.free h
  refine ⟨fun a u e => ?_, fun a n e => ?_⟩
  · rw [upd_ne (ne_of_none e f0)]; exact S.fz _ _ e
  · obtain ⟨h1, u, h2, h3⟩ := S.mu _ _ e
    have q : a ≠ p := fun z => by rw [z, m0] at e; cases e
    exact ⟨h1, u, by rw [upd_ne q]; exact h2, h3⟩
def dMake (C : Addr) (s : DSp) (t : DA) : DE := fun δ M Q => t δ M fun ds M1 => ∀ x dx, M1 x = none → s (.ref x :: ds) (Y.put M1 x (.ins C dx [])) (fun d M2 => d = .non ∧ Q (.ref x) M2) noX
theorem q_make (Mk_ : Mk X.K C f) (F : FnOk X.prog X.w X.K X.mg X.base CX k f fd ps (spOf X.K s)) (hr : Room (k + 1) X.A) (hg : Gl X x) (hm : X.mg x = some (.ref C)) (hb : Binds X.K fd ps []) (hx : Passes CX X E0) (ha : PA X (e :: es) (upA X.K B t))
    (hdb : (x == ("__debug__" : Str)) = false := by decide) (he : starEach (e :: es) X.env = (false, eval e X.env) :: starEach es X.env := by rfl) (hpl : (backTo pos (starEach es X.env)).any (·.1) = false := by rfl) : PE X (.Call (.Name x p) (e :: es) [] pos) (up X.K B (dMake C s t)) :=
  PE.wk (pe_make Mk_ F hr hg hm hb .nil hx ha hdb he hpl) fun σ H Q ⟨F, M, δ, Q', lb, S, rs, h, k⟩ => ⟨F, M, δ, _, lb, S, rs, h, fun vs H1 ⟨F1, M1, ds, l1, S1, r1, h1⟩ y dx hy hd nyd => by
    show spOf X.K s (_ :: (vs ++ [])) _ _ E0
    rw [List.append_nil]
    have hy' : upd H1 dx (.own y) y = none := by rw [upd_ne (Ne.symm nyd)]; exact hy
    have S2 := (S1.bury (o := .own y) hd).newM (o := .ins C dx []) (m := .ins C dx []) hy' (.ins .nil)
    exact ⟨F1, _, _, _, _, S2, .cons (.v _) r1, h1 y dx (S1.free hy).2, fun v H' ⟨F2, M2, d, l2, S3, r2, e, q⟩ => by
      subst e
      cases r2
      exact ⟨rfl, k _ _ ⟨F2, M2, _, l1.trans l2, S3, .v _, q⟩⟩, noX_ok⟩⟩
theorem q_make0 (Mk_ : Mk X.K C f) (F : FnOk X.prog X.w X.K X.mg X.base CX k f fd ps (spOf X.K s)) (hr : Room (k + 1) X.A) (hg : Gl X x) (hm : X.mg x = some (.ref C)) (hb : Binds X.K fd ps []) (hx : Passes CX X E0)
    (hdb : (x == ("__debug__" : Str)) = false := by decide) : PE X (.Call (.Name x p) [] [] pos) (up X.K B (dMake C s dNil)) :=
  PE.wk (pe_make0 Mk_ F hr hg hm hb .nil hx hdb) fun σ H Q ⟨F1, M1, δ, Q', lb, S1, rs, h1, k⟩ y dx hy hd nyd => by
    have hy' : upd H dx (.own y) y = none := by rw [upd_ne (Ne.symm nyd)]; exact hy
    have S2 := (S1.bury (o := .own y) hd).newM (o := .ins C dx []) (m := .ins C dx []) hy' (.ins .nil)
    exact ⟨F1, _, _, _, _, S2, .cons (.v _) .nil, h1 y dx (S1.free hy).2, fun v H' ⟨F2, M2, d, l2, S3, r2, e, q⟩ => by
      subst e
      cases r2
      exact ⟨rfl, k _ _ ⟨F2, M2, _, l2, S3, .v _, q⟩⟩, noX_ok⟩
end
end

/-! ### a def's body -/
def startD (n : Nat) (ds : List D) : Env := ds.map some ++ List.replicate (n - ds.length) none
theorem startD_rep {K : PySem.W.Frag} {F : Hp} {N : List Str} {xs : List V} {ds : List D} (r : RepL K F xs ds) : RepS K F (L2.start N xs) (startD N.length ds) := by
  unfold L2.start startD
  rw [r.length]
  exact (RepS.ofL r).append (RepS.rep _)
section
variable {P : Program} {w : World} {K : PySem.W.Frag} {mg : Str → Option Value} {base : Heap}
/-- less is told of what may change -/
def Sub (M' M : Mm) : Prop := ∀ a m, M' a = some m → M a = some m
theorem Sub.refl (M : Mm) : Sub M M := fun _ _ h => h
/-- what a def has made for itself is forgotten where it hands back -/
def less (Q : QD) : QD := fun d M => ∃ M', Sub M' M ∧ Q d M'
theorem LQ_less {K : PySem.W.Frag} {F : Hp} {Q : QD} {v : V} {H : Hp} (h : LQ K F (less Q) v H) : LQ K F Q v H :=
  let ⟨F', M', d, l, S, r, M2, hs, q⟩ := h; ⟨F', M2, d, l, S.less hs, r, q⟩
abbrev B0 : Hp := fun _ => none
theorem B0_le (F : Hp) : Le B0 F := fun _ _ h => by cases h
/-- a def from which nothing is raised -/
theorem okD {x qual : Str} {st : Stmt} {f : Addr} {fd : FuncData} {N ps : List Str} {k : Nat} {s : DSp} (F : Fun K x qual st f fd) (S : FnScope N ps (defScope st)) (len : ∀ ds M Q E, s ds M Q E → ds.length = ps.length)
    (hbody : ∀ (cdv : Value) (A : Around) (outer : List PySem.Env) (s0 : Shared) (H : Hp) (E : XK), Room k (A.deeper (envOfC qual (defScope st) s0.heap.objs.size f cdv)) →
      ∃ t : DS, PSs (cxOf CX0 P w K mg base N qual (defScope st) f cdv A outer s0 H E).nox (defBody st) (upS K B0 t) ∧ ∀ ds M Q E', s ds M Q E' → t { nx := fun _ M' => less Q .non M', rt := less Q } (startD N.length ds) M) : FnOk P w K mg base CX0 (k + 1) f fd ps (spOf K s) := by
  refine F.ok S (fun vs H Q E h => ?_) (fun cdv A outer s0 H vs Q E hr h => ?_)
  · obtain ⟨F, M, ds, Q', E', S, r, h, _⟩ := h
    rw [r.length]
    exact len _ _ _ _ h
  · obtain ⟨t, ht, hq⟩ := hbody cdv A outer s0 H E hr
    obtain ⟨F, M, ds, Q', E', S, r, h, k1, k2⟩ := h
    exact ⟨_, ht, F, M, _, _, B0_le F, S, startD_rep r, hq ds M Q' E' h, fun σ' H' ⟨F1, M1, δ1, l1, S1, r1, q⟩ => k1 _ _ (LQ_less ⟨F1, M1, _, l1, S1, .v _, q⟩), fun v H' q => k1 _ _ (LQ_less q), fun _ _ ⟨_, _, _, _, _, _, q⟩ => q.elim, fun _ _ ⟨_, _, _, _, _, _, q⟩ => q.elim⟩
end
end Y


set_option Elab.async false
set_option linter.all false
set_option maxRecDepth 100000
set_option maxHeartbeats 1000000
/-! Y8: calls by name, what a for walks, constants of the module. -/
namespace Y
open PySem PySem.Spec PyProof.Rows L2

/-! ### a def by its name -/
structure GD (K : PySem.W.Frag) (mg : Str → Option Value) (x : Str) (st : Stmt) (ps : List Str) (f : Addr) (fd : FuncData) : Prop where
  fn : Fun K x x st f fd
  mg : mg x = some (.ref f)
  kp : PySem.W.keepIn K (.ref f) = true
  bd : L2.Binds K fd ps []
structure Cal (P : Program) (w : World) (K : PySem.W.Frag) (mg : Str → Option Value) (base : Heap) (CX : CXT) (k : Nat) (x : Str) (ps : List Str) (s : DSp) : Prop where
  ex : ∃ f fd, mg x = some (.ref f) ∧ PySem.W.keepIn K (.ref f) = true ∧ L2.Binds K fd ps [] ∧ FnOk P w K mg base CX k f fd ps (spOf K s)
section
variable {P : Program} {w : World} {K : PySem.W.Frag} {mg : Str → Option Value} {base : Heap}
theorem GD.cal {CX : CXT} {x : Str} {st : Stmt} {ps : List Str} {f : Addr} {fd : FuncData} {k : Nat} {s : DSp} (G : GD K mg x st ps f fd) (h : FnOk P w K mg base CX k f fd ps (spOf K s)) : Cal P w K mg base CX k x ps s := ⟨f, fd, G.mg, G.kp, G.bd, h⟩
theorem Cal.mono {CX : CXT} {x : Str} {ps : List Str} {j k : Nat} {s : DSp} (c : Cal P w K mg base CX j x ps s) (h : j ≤ k) : Cal P w K mg base CX k x ps s := let ⟨f, fd, a, b, d, F⟩ := c; ⟨f, fd, a, b, d, F.mono h⟩
end
/-- a weaker promise -/
theorem spOf_imp {K : PySem.W.Frag} {s s' : DSp} (h : ∀ ds M Q E, s' ds M Q E → s ds M Q E) : ∀ vs H Q E, spOf K s' vs H Q E → spOf K s vs H Q E := fun vs H Q E ⟨F, M, ds, Q', E', S, r, q, k1, k2⟩ => ⟨F, M, ds, Q', E', S, r, h _ _ _ _ q, k1, k2⟩
theorem Cal.imp {P : Program} {w : World} {K : PySem.W.Frag} {mg : Str → Option Value} {base : Heap} {CX : CXT} {x : Str} {ps : List Str} {k : Nat} {s s' : DSp} (c : Cal P w K mg base CX k x ps s) (h : ∀ ds M Q E, s' ds M Q E → s ds M Q E) : Cal P w K mg base CX k x ps s' :=
  let ⟨f, fd, a, b, d, F⟩ := c; ⟨f, fd, a, b, d, F.imp (spOf_imp h)⟩
/-- a class, a method of it -/
structure CD (K : PySem.W.Frag) (mg : Str → Option Value) (x : Str) (C : Addr) : Prop where
  cl : Cls K C
  mg : mg x = some (.ref C)
structure Mcal (P : Program) (w : World) (K : PySem.W.Frag) (mg : Str → Option Value) (base : Heap) (CX : CXT) (k : Nat) (C : Addr) (m : Str) (ps : List Str) (s : DSp) : Prop where
  ex : ∃ f fd, Meth K C m f ∧ L2.Binds K fd ps [] ∧ FnOk P w K mg base CX k f fd ps (spOf K s)
structure Kcal (P : Program) (w : World) (K : PySem.W.Frag) (mg : Str → Option Value) (base : Heap) (CX : CXT) (k : Nat) (x : Str) (C : Addr) (ps : List Str) (s : DSp) : Prop where
  ex : ∃ f fd, Mk K C f ∧ mg x = some (.ref C) ∧ L2.Binds K fd ps [] ∧ FnOk P w K mg base CX k f fd ps (spOf K s)
theorem Mcal.mono {P : Program} {w : World} {K : PySem.W.Frag} {mg : Str → Option Value} {base : Heap} {CX : CXT} {C : Addr} {m : Str} {ps : List Str} {j k : Nat} {s : DSp} (c : Mcal P w K mg base CX j C m ps s) (h : j ≤ k) : Mcal P w K mg base CX k C m ps s := let ⟨f, fd, a, b, F⟩ := c; ⟨f, fd, a, b, F.mono h⟩

section
variable {X : Cx} {B : Hp} {x m : Str} {p pos apos : Pos} {e o : Expr} {es : List Expr} {t : DA} {ta : DE} {j k : Nat} {ps : List Str} {s : DSp}
theorem q_c (c : Cal X.prog X.w X.K X.mg X.base CX0 j x ps s) (hr : Room k X.A) (hk : j ≤ k) (hg : Gl X x) (ha : PA X (e :: es) (upA X.K B t))
    (hd : (x == ("__debug__" : Str)) = false := by decide) (he : starEach (e :: es) X.env = (false, eval e X.env) :: starEach es X.env := by rfl) (hpl : (backTo pos (starEach es X.env)).any (·.1) = false := by rfl) : PE X (.Call (.Name x p) (e :: es) [] pos) (up X.K B (dCall s t)) :=
  let ⟨_, _, a, b, d, F⟩ := c.ex
  q_call F (hr.mono hk) hg a b d pass0 ha hd he hpl
theorem q_mc {C : Addr} {pl : Sem Bool} (he : PE X o (up X.K B ta)) (c : Mcal X.prog X.w X.K X.mg X.base CX0 j C m ps s) (cl : Cls X.K C) (hr : Room k X.A) (hk : j ≤ k) (ha : PA X (e :: es) (upA X.K B t))
    (hst : starEach (e :: es) X.env = (false, eval e X.env) :: starEach es X.env := by rfl) (hpl : (backTo pos (starEach es X.env)).any (·.1) = false := by rfl)
    (ht : eval (.Call (.Attribute o m apos) (e :: es) [] pos) X.env = (do
      let ov ← eval o X.env
      standAt apos.atName
      let (f, first) ← holding [ov] (getMethod ov m pl)
      callWith pos f first (backTo pos (starEach (e :: es) X.env)) (backToKw pos (keywordEach [] X.env))) := by rfl) :
    PE X (.Call (.Attribute o m apos) (e :: es) [] pos) (up X.K B (dMeth C m s ta t)) :=
  let ⟨_, _, a, b, F⟩ := c.ex
  q_meth (pl := pl) he cl a F (hr.mono hk) b pass0 ha hst hpl ht
theorem q_mc0 {C : Addr} {pl : Sem Bool} (he : PE X o (up X.K B ta)) (c : Mcal X.prog X.w X.K X.mg X.base CX0 j C m ps s) (cl : Cls X.K C) (hr : Room k X.A) (hk : j ≤ k)
    (ht : eval (.Call (.Attribute o m apos) [] [] pos) X.env = (do
      let ov ← eval o X.env
      standAt apos.atName
      let (f, first) ← holding [ov] (getMethod ov m pl)
      callWith pos f first (backTo pos (starEach [] X.env)) (backToKw pos (keywordEach [] X.env))) := by rfl) :
    PE X (.Call (.Attribute o m apos) [] [] pos) (up X.K B (dMeth C m s ta dNil)) :=
  let ⟨_, _, a, b, F⟩ := c.ex
  q_meth0 (pl := pl) he cl a F (hr.mono hk) b pass0 ht
theorem q_kc {C : Addr} (c : Kcal X.prog X.w X.K X.mg X.base CX0 j x C ps s) (hr : Room k X.A) (hk : j + 1 ≤ k) (hg : Gl X x) (ha : PA X (e :: es) (upA X.K B t))
    (hdb : (x == ("__debug__" : Str)) = false := by decide) (he : starEach (e :: es) X.env = (false, eval e X.env) :: starEach es X.env := by rfl) (hpl : (backTo pos (starEach es X.env)).any (·.1) = false := by rfl) : PE X (.Call (.Name x p) (e :: es) [] pos) (up X.K B (dMake C s t)) :=
  let ⟨_, _, a, b, d, F⟩ := c.ex
  q_make a F (hr.mono hk) hg b d pass0 ha hdb he hpl

/-! ### constants of the module -/
def dCD (d : D) : DE := fun _ M Q => Q d M
theorem q_gl {v : V} {u : Value} {d : D} (hg : Gl X x) (hm : X.mg x = some u) (r : RelV v u) (rd : ∀ F, Rep X.K F v d) (hd : (x == ("__debug__" : Str)) = false := by decide) : PE X (.Name x pos) (up X.K B (dCD d)) :=
  PE.wk (pe_glob hg hm r hd) fun σ H Q ⟨F, M, δ, Q', lb, S, rs, h, k⟩ => k _ _ ⟨F, M, d, Le.refl F, S, rd F, h⟩
theorem q_bltn {v : V} {u : Value} (hg : Gl X x) (hm : X.mg x = none) (hv : bootBuiltins x = some u) (r : RelV v u) (hn : x ≠ "__name__" := by decide) (hd : (x == ("__debug__" : Str)) = false := by decide) : PE X (.Name x pos) (up X.K B (dC v)) := q_const (pe_bltn hg hm hv r hn hd)
def dU (g : Int → Int) (ta : DE) : DE := fun δ M Q => ta δ M fun x M1 => ∃ i, x = .int i ∧ Q (.int (g i)) M1
theorem q_un {op : UnaryOp} {g : Int → Int} {a : Expr} (ho : UnR X (unaryOp op) (rU fun i => .int (g i))) (ha : PE X a (up X.K B ta)) : PE X (.UnaryOp op a pos) (up X.K B (dU g ta)) :=
  PE.wk (pe_un ho ha) fun σ H Q ⟨F, M, δ, Q', lb, S, rs, h, k⟩ => ⟨F, M, δ, _, lb, S, rs, h, fun y H1 ⟨F1, M1, d1, l1, S1, r1, i, e, h1⟩ => by
    subst e; cases r1
    exact ⟨i, rfl, k _ _ ⟨F1, M1, _, l1, S1, .v _, h1⟩⟩⟩
theorem q_neg {a : Expr} (ha : PE X a (up X.K B ta)) : PE X (.UnaryOp .USub a pos) (up X.K B (dU (fun i => -i) ta)) := q_un un_neg ha

/-! ### what a for walks: a list, a tuple, a text's signs -/
def signs (z : Str) : List D := z.cps.toList.map fun c => .str ⟨#[c]⟩
def itsD (d : D) (M : Mm) : Option (List D) := match d with
  | .tup ds => some ds
  | .lst ds => some ds
  | .v (.str z) => some (signs z)
  | _ => none
def iAny (K : PySem.W.Frag) (tl : TE) : TI := fun σ H R => tl σ H fun x H1 => (∃ a, x = .ref a ∧ (∃ xs, SqL K H1 a xs) ∧ R (Itl K a) H1) ∨ ((∃ a, x = .ref a ∧ (∃ xs, SqT K H1 a xs) ∧ R (Itt K a) H1) ∨ ∃ z, x = .str z ∧ R (Its z) H1)
theorem pi_any {tg l : Expr} {tl : TE} (hl : PE X l tl) : PI X tg l (iAny X.K tl) := by
  refine ⟨fun pins s σ H R I h => ?_⟩
  refine thn (hl.run pins s σ H _ I h) fun v s1 ⟨x, H1, I1, r1, q1⟩ => ?_
  rcases q1 with ⟨a, e, ⟨xs, hq⟩, q⟩ | ⟨a, e, ⟨xs, hq⟩, q⟩ | ⟨z, e, q⟩
  · subst e
    cases r1
    obtain ⟨its, rv, p, hz⟩ := I1.list hq
    refine wpAny_pyIter_list p.isList ?_
    refine ⟨s1.heap.objs.size, [s1.heap.objs.size], _, _, H1, rfl, I1.kept (t' := s1.toks) fun b o e => Heap.get?_push_of_some _ e, turn_list a _, ⟨_, Heap.get?_push_size _ rfl, rfl, rfl⟩, fun b hb => ?_, q⟩
    have e : b = s1.heap.objs.size := by simpa using hb
    subst e
    exact I1.fpOk (Nat.le_refl _) (I1.hok.fresh (Nat.le_refl _))
  · subst e
    cases r1
    obtain ⟨its, rv, p, hz⟩ := I1.tuple hq
    refine wpAny_pyIter_tuple (show s1.heap.IsTuple a its.toArray from p) ?_
    refine ⟨s1.heap.objs.size, [s1.heap.objs.size], _, _, H1, rfl, I1.kept (t' := s1.toks) fun b o e => Heap.get?_push_of_some _ e, turn_tuple a _, ⟨_, Heap.get?_push_size _ rfl, rfl, rfl⟩, fun b hb => ?_, q⟩
    have e : b = s1.heap.objs.size := by simpa using hb
    subst e
    exact I1.fpOk (Nat.le_refl _) (I1.hok.fresh (Nat.le_refl _))
  · subst e
    obtain ⟨t, rfl⟩ := r1
    cases ha : z.cps.all (· < 128)
    · exact wpAny_pyIter_wide ha (pi_one (tk := s1.toks) I1 _ (turn_str _ z t "str_iterator" (.inr rfl)) ⟨_, Heap.get?_push_size _ rfl, rfl, rfl⟩ q)
    · exact wpAny_pyIter_ascii ha (pi_one (tk := s1.toks) I1 _ (turn_str _ z t "str_ascii_iterator" (.inl rfl)) ⟨_, Heap.get?_push_size _ rfl, rfl, rfl⟩ q)
def diIt (t : DE) : DI := fun δ M R => t δ M fun d M1 => ∃ ds, itsD d M1 = some ds ∧ R ds GT M1
theorem yl_lst {K : PySem.W.Frag} {F1 : Hp} {a : Addr} {xs : List V} {ds : List D} (hs : SqL K F1 a xs) (rl : RepL K F1 xs ds) : Yl K (Itl K a) F1 ds GT := by
  refine ⟨fun i H F M l S _ hi => ?_, fun H F M l S _ => ?_, fun i H F M x H' l S _ hi y => ?_⟩
  · exact walk_list.goes i H (by rw [rl.length]; exact hi) (SqL.le S.fz (SqL.le l hs))
  · rw [← rl.length]; exact walk_list.stops H (SqL.le S.fz (SqL.le l hs))
  · obtain ⟨e1, e2⟩ := walk_list.yields i H x H' (by rw [rl.length]; exact hi) (SqL.le S.fz (SqL.le l hs)) y
    subst e1
    obtain ⟨d, h3, h4⟩ := rl.get' e2
    exact ⟨F, d, Le.refl F, S, h3, h4.le l⟩
theorem yl_tup {K : PySem.W.Frag} {F1 : Hp} {a : Addr} {xs : List V} {ds : List D} (hs : SqT K F1 a xs) (rl : RepL K F1 xs ds) : Yl K (Itt K a) F1 ds GT := by
  refine ⟨fun i H F M l S _ hi => ?_, fun H F M l S _ => ?_, fun i H F M x H' l S _ hi y => ?_⟩
  · exact walk_tup.goes i H (by rw [rl.length]; exact hi) (SqT.le S.fz (SqT.le l hs))
  · rw [← rl.length]; exact walk_tup.stops H (SqT.le S.fz (SqT.le l hs))
  · obtain ⟨e1, e2⟩ := walk_tup.yields i H x H' (by rw [rl.length]; exact hi) (SqT.le S.fz (SqT.le l hs)) y
    subst e1
    obtain ⟨d, h3, h4⟩ := rl.get' e2
    exact ⟨F, d, Le.refl F, S, h3, h4.le l⟩
theorem yl_str {K : PySem.W.Frag} {F1 : Hp} {z : Str} : Yl K (Its z) F1 (signs z) GT := by
  have hl : (signs z).length = z.cps.size := by simp [signs]
  refine ⟨fun i H F M l S _ hi => walk_str.goes i H (by rw [← hl]; exact hi) trivial, fun H F M l S _ => by rw [hl]; exact walk_str.stops H trivial, fun i H F M x H' l S _ hi y => ?_⟩
  obtain ⟨e1, c, e2, e3⟩ := walk_str.yields i H x H' (by rw [← hl]; exact hi) trivial y
  subst e1 e3
  refine ⟨F, .str ⟨#[c]⟩, Le.refl F, S, ?_, .v _⟩
  simp [signs, e2]
theorem qi_it {tg l : Expr} {t : DE} (h : PE X l (up X.K B t)) : PI X tg l (upI X.K B (diIt t)) :=
  PI.wk (pi_any h) fun σ H R ⟨F, M, δ, R', lb, S, rs, h, k⟩ => ⟨F, M, δ, _, lb, S, rs, h, fun v H1 ⟨F1, M1, d, l1, S1, r1, ds, e, h1⟩ => by
    cases r1 with
    | v =>
      cases v with
      | str z =>
        simp only [itsD, Option.some.injEq] at e
        subst e
        exact .inr (.inr ⟨z, rfl, k _ _ ⟨F1, M1, _, GT, l1, S1, yl_str, h1⟩⟩)
      | _ => simp [itsD] at e
    | @tup a xs _ hs rl =>
      simp only [itsD, Option.some.injEq] at e
      subst e
      exact .inr (.inl ⟨a, rfl, ⟨xs, SqT.le S1.fz hs⟩, k _ _ ⟨F1, M1, _, GT, l1, S1, yl_tup hs rl, h1⟩⟩)
    | @lst a xs _ hs rl =>
      simp only [itsD, Option.some.injEq] at e
      subst e
      exact .inl ⟨a, rfl, ⟨xs, SqL.le S1.fz hs⟩, k _ _ ⟨F1, M1, _, GT, l1, S1, yl_lst hs rl, h1⟩⟩⟩
end
/-- a list that may change, but does not while it is walked -/
def diMut (t : DE) : DI := fun δ M R => t δ M fun d M1 => ∃ a ds, d = .ref a ∧ M1 a = some (.lst ds) ∧ R ds (fun M => M a = some (.lst ds)) M1
theorem qi_mut {X : Cx} {B : Hp} {tg l : Expr} {t : DE} (h : PE X l (up X.K B t)) : PI X tg l (upI X.K B (diMut t)) :=
  PI.wk (pi_any h) fun σ H R ⟨F, M, δ, R', lb, S, rs, h, k⟩ => ⟨F, M, δ, _, lb, S, rs, h, fun v H1 ⟨F1, M1, d, l1, S1, r1, a, ds, e, em, h1⟩ => by
    subst e
    cases r1
    obtain ⟨xs, hx, rx⟩ := muL S1 em
    refine .inl ⟨a, rfl, ⟨xs, .inl (.inl hx)⟩, k _ _ ⟨F1, M1, ds, _, l1, S1, ⟨fun i H F M l S g hi => ?_, fun H F M l S g => ?_, fun i H F M x H' l S g hi y => ?_⟩, h1⟩⟩
    · obtain ⟨ys, hy, ry⟩ := muL S g
      exact walk_list.goes i H (by rw [ry.length]; exact hi) (.inl (.inl hy))
    · obtain ⟨ys, hy, ry⟩ := muL S g
      rw [← ry.length]; exact walk_list.stops H (.inl (.inl hy))
    · obtain ⟨ys, hy, ry⟩ := muL S g
      obtain ⟨e1, e2⟩ := walk_list.yields i H x H' (by rw [ry.length]; exact hi) (.inl (.inl hy)) y
      subst e1
      obtain ⟨d, h3, h4⟩ := ry.get' e2
      exact ⟨F, d, Le.refl F, S, h3, h4⟩⟩
theorem cx_K {CX : CXT} {P : Program} {w : World} {K : PySem.W.Frag} {mg : Str → Option Value} {base : Heap} {N : List Str} {qual : Str} {scope : Scope} {f : Addr} {cd : Value} {A : Around} {outer : List PySem.Env} {s : Shared} {H : Hp} {E : XK} : (cxOf CX P w K mg base N qual scope f cd A outer s H E).nox.K = K := rfl
end Y


set_option Elab.async false
set_option linter.all false
set_option maxRecDepth 100000
set_option maxHeartbeats 1000000
/-! Y9: the readings step by step: one lemma for each word, to be applied from the outside. -/
namespace Y
open PySem PySem.Spec PyProof.Rows L2
section
variable {E : DEnds} {δ : Env} {M : Mm} {Q : QD} {QB : Bool → Mm → Prop} {QL : List D → Mm → Prop} {QO : Option Int → Mm → Prop} {t u : DS} {te ta tb tc : DE} {g : DG} {r r' : D2} {c c' : DT} {a b : Addr} {ds es : List D} {d e : D} {R : Env → Mm → Prop}
theorem i_seq (h : t { E with nx := u E } δ M) : dSeq t u E δ M := h
theorem i_next (h : E.nx δ M) : dNext E δ M := h
theorem i_asg (h : te δ M fun d M1 => g d δ M1 E.nx) : dAsg te g E δ M := h
theorem i_ret (h : te δ M E.rt) : dRet te E δ M := h
theorem i_retN (h : E.rt .non M) : dRetN E δ M := h
theorem i_drop (h : te δ M fun _ M1 => E.nx δ M1) : dDrop te E δ M := h
theorem i_cont (h : E.ct δ M) : dCont E δ M := h
theorem i_break (h : E.bk δ M) : dBreak E δ M := h
theorem i_ifs (h : c δ M fun b M1 => if b = true then t E δ M1 else u E δ M1) : dIfS c t u E δ M := h
theorem i_if (h : c δ M fun b M1 => if b = true then ta δ M1 Q else tb δ M1 Q) : dIf c ta tb δ M Q := h
theorem i_and (h : c δ M fun b M1 => if b = true then c' δ M1 QB else QB false M1) : dAnd c c' δ M QB := h
theorem i_or (h : c δ M fun b M1 => if b = true then QB true M1 else c' δ M1 QB) : dOr c c' δ M QB := h
theorem i_not (h : c δ M fun b M1 => QB (!b) M1) : dNot c δ M QB := h
theorem i_test (h : te δ M fun d M1 => ∃ k, d = .bl k ∧ QB k M1) : dTest te δ M QB := h
theorem i_tru (h : te δ M fun d M1 => ∃ b, truD d M1 = some b ∧ QB b M1) : dTru te δ M QB := h
theorem i_andV (h : ta δ M fun x M1 => ∃ c, x = .bl c ∧ if c = true then tb δ M1 Q else Q (.bl false) M1) : dAndV ta tb δ M Q := h
theorem i_orV (h : ta δ M fun x M1 => ∃ c, x = .bl c ∧ if c = true then Q (.bl true) M1 else tb δ M1 Q) : dOrV ta tb δ M Q := h
theorem i_notV (h : ta δ M fun x M1 => ∃ c, x = .bl c ∧ Q (.bl (!c)) M1) : dNotV ta δ M Q := h
theorem i_bl {P : Bool → Prop} {k : Bool} (h : P k) : ∃ c, D.bl k = .bl c ∧ P c := ⟨k, rfl, h⟩
theorem i_op (h : ta δ M fun x M1 => tb δ M1 fun y M2 => r x y M2 Q) : dOp r ta tb δ M Q := h
theorem i_chain (h : ta δ M fun x M1 => tb δ M1 fun y M2 => r x y M2 fun z M3 => ∃ k, z = .bl k ∧ (if k = true then tc δ M3 fun w' M4 => r' y w' M4 Q else Q (.bl false) M3)) : dChain r r' ta tb tc δ M Q := h
theorem i_var {i : Nat} (e : δ[i]? = some (some d)) (h : Q d M) : dVar i δ M Q := ⟨d, e, h⟩
theorem i_c {v : V} (h : Q (.v v) M) : dC v δ M Q := h
theorem i_cd (h : Q d M) : dCD d δ M Q := h
theorem i_nil (h : QL [] M) : dNil δ M QL := h
theorem i_cons {u : DA} (h : te δ M fun d M1 => u δ M1 fun ds M2 => QL (d :: ds) M2) : dCons te u δ M QL := h
theorem i_call {s : DSp} {t : DA} (h : t δ M fun ds M1 => s ds M1 Q noX) : dCall s t δ M Q := h
theorem i_cb {r : DC} {t : DA} (h : t δ M fun ds M1 => r ds M1 Q) : dCB r t δ M Q := h
theorem i_tup {t : DA} (h : t δ M fun ds M1 => ds.length ≤ sizeLine ∧ Q (.tup ds) M1) : dTup t δ M Q := h
theorem i_lst {t : DA} (h : t δ M fun ds M1 => ds.length ≤ sizeLine ∧ Q (.lst ds) M1) : dLst t δ M Q := h
theorem i_lstM {t : DA} (h : t δ M fun ds M1 => ds.length ≤ sizeLine ∧ ∀ p, M1 p = none → Q (.ref p) (put M1 p (.lst ds))) : dLstM t δ M Q := h
theorem i_dict (h : ∀ p, M p = none → Q (.ref p) (put M p (.dct []))) : dDict δ M Q := h
theorem i_frz (h : te δ M fun d M1 => ∃ p ds, d = .ref p ∧ M1 p = some (.lst ds) ∧ Q (.lst ds) (drop M1 p)) : dFrz te δ M Q := h
theorem i_frzd {p : Addr} (e : M p = some (.lst ds)) (h : Q (.lst ds) (drop M p)) : ∃ q es, D.ref p = .ref q ∧ M q = some (.lst es) ∧ Q (.lst es) (drop M q) := ⟨p, ds, rfl, e, h⟩
theorem i_name {i : Nat} (h : R (δ.set i (some d)) M) : dgName i d δ M R := h
theorem i_gtup {n : Nat} {t : DGs} (hl : ds.length = n) (h : t ds δ M R) : dgTup n t (.tup ds) δ M R := ⟨ds, rfl, hl, h⟩
theorem i_glst {n : Nat} {t : DGs} (e : lsD d M = some ds) (hl : ds.length = n) (h : t ds δ M R) : dgLst n t d δ M R := ⟨ds, e, hl, h⟩
theorem i_glst' {n : Nat} {t : DGs} (hl : ds.length = n) (h : t ds δ M R) : dgLst n t (.lst ds) δ M R := ⟨ds, rfl, hl, h⟩
theorem i_gcons {t : DGs} (h : g d δ M fun δ' M' => t ds δ' M' R) : dgCons g t (d :: ds) δ M R := ⟨d, ds, rfl, h⟩
theorem i_gnil (h : R δ M) : dgNil [] δ M R := ⟨rfl, h⟩
theorem i_gsub (h : ta δ M fun o M1 => tb δ M1 fun i M2 => setD o i d M2 fun M3 => R δ M3) : dgSub ta tb d δ M R := h
theorem i_par {i j : Nat} {t : DA} (h : t δ M fun ds M1 => ∃ v w, ds = [v, w] ∧ E.nx ((δ.set i (some v)).set j (some w)) M1) : dPar i j t E δ M := h
theorem i_par2 {P : D → D → Prop} (h : P d e) : ∃ v w, [d, e] = [v, w] ∧ P v w := ⟨d, e, rfl, h⟩
theorem i_un {f : Int → Int} (h : te δ M fun x M1 => ∃ i, x = .int i ∧ Q (.int (f i)) M1) : dU f te δ M Q := h
theorem i_int {P : Int → Prop} {i : Int} (h : P i) : ∃ j, D.int i = .int j ∧ P j := ⟨i, rfl, h⟩
theorem i_slice {tl th : DO} (h : te δ M fun x M1 => tl δ M1 fun l M2 => th δ M2 fun u M3 => sliceD x l u M3 Q) : dSlice te tl th δ M Q := h
theorem i_onone (h : QO none M) : doNone δ M QO := h
theorem i_osome (h : te δ M fun d M1 => ∃ i, d = .int i ∧ QO (some i) M1) : doSome te δ M QO := h
theorem i_bm {T : String} {r : DM} {t : DA} (h : te δ M fun x M1 => tyD T x M1 ∧ t δ M1 fun xs M2 => r x xs M2 Q) : dBM T r te t δ M Q := h
theorem i_bm0 {T : String} {r : DM} (h : te δ M fun x M1 => tyD T x M1 ∧ r x [] M1 Q) : dBM0 T r te δ M Q := h
theorem i_get1 (h : ta δ M fun x M1 => isDk x M1 ∧ tb δ M1 fun y M2 => ∃ kvs k, dkD x M2 = some kvs ∧ keyD y = some k ∧ Q ((valD kvs k).getD .non) M2) : dGet1 ta tb δ M Q := h
theorem i_get2 (h : ta δ M fun x M1 => isDk x M1 ∧ tb δ M1 fun y M2 => tc δ M2 fun z M3 => ∃ kvs k, dkD x M3 = some kvs ∧ keyD y = some k ∧ Q ((valD kvs k).getD z) M3) : dGet2 ta tb tc δ M Q := h
theorem i_del (h : ta δ M fun o M1 => tb δ M1 fun i M2 => ∃ a kvs k, o = .ref a ∧ M2 a = some (.dct kvs) ∧ keyD i = some k ∧ (valD kvs k).isSome = true ∧ E.nx δ (put M2 a (.dct (dropKD kvs k)))) : dDel ta tb E δ M := h
theorem i_for {wi : DI} (h : wi δ M fun ds G M1 => forD G g t E ds δ M1) : dFor wi g t E δ M := h
theorem i_lc {wi : DI} {vs : List Nat} (h : wi δ M fun ds G M1 => ∀ p, M1 p = none → lcD G g c te (wipeD δ vs) p (fun M' => Q (.ref p) M') ds (put M1 p (.lst []))) : dLc wi g c te vs δ M Q := h
theorem i_dc {wi : DI} {vs : List Nat} (h : wi δ M fun ds G M1 => ∀ p, M1 p = none → dcD G g c ta te (wipeD δ vs) p (fun M' => Q (.ref p) M') ds (put M1 p (.dct []))) : dDc wi g c ta te vs δ M Q := h
theorem i_yes (h : QB true M) : tYesD δ M QB := h
theorem i_it {RI : List D → (Mm → Prop) → Mm → Prop} (h : te δ M fun d M1 => ∃ ds, itsD d M1 = some ds ∧ RI ds GT M1) : diIt te δ M RI := h
theorem i_its {P : List D → Prop} (e : itsD d M = some ds) (h : P ds) : ∃ es, itsD d M = some es ∧ P es := ⟨ds, e, h⟩
theorem i_rng1 {t : DA} {RI : List D → (Mm → Prop) → Mm → Prop} (h : t δ M fun ds M1 => ∃ j : Int, ds = [.int j] ∧ -(2 ^ 62) ≤ j ∧ j < 2 ^ 62 ∧ RI (rngD 0 j.toNat) GT M1) : diRng1 t δ M RI := h
theorem i_rng1d {j : Int} {P : Int → Prop} (h1 : -(2 ^ 62) ≤ j ∧ j < 2 ^ 62) (h : P j) : ∃ k : Int, [D.int j] = [.int k] ∧ -(2 ^ 62) ≤ k ∧ k < 2 ^ 62 ∧ P k := ⟨j, rfl, h1.1, h1.2, h⟩
theorem i_frzS {i : Nat} {p : Addr} (e : δ[i]? = some (some (.ref p))) (em : M p = some (.lst ds)) (h : t E (δ.set i (some (.lst ds))) (drop M p)) : dFrzS i t E δ M := ⟨p, ds, e, em, h⟩
theorem i_fld {K : PySem.W.Frag} {f : Str} (h : te δ M fun x M1 => ∃ a C dx fs d, x = .ref a ∧ M1 a = some (.ins C dx fs) ∧ Cls K C ∧ NoAttr K C f ∧ fs.lookup f = some d ∧ Q d M1) : dFld K f te δ M Q := h
theorem i_sfld {K : PySem.W.Frag} {f : Str} (h : tb δ M fun y M1 => ta δ M1 fun x M2 => ∃ a C dx fs, x = .ref a ∧ M2 a = some (.ins C dx fs) ∧ Cls K C ∧ NoAttr K C f ∧ fs.length < 1000 ∧ E.nx δ (put M2 a (.ins C dx (putFD f y fs)))) : dsFld K f ta tb E δ M := h
theorem i_meth {C : Addr} {m : Str} {s : DSp} {t : DA} (h : te δ M fun x M1 => ∃ a dx fs, x = .ref a ∧ M1 a = some (.ins C dx fs) ∧ fs.lookup m = none ∧ t δ M1 fun ds M2 => s (x :: ds) M2 Q noX) : dMeth C m s te t δ M Q := h
theorem i_make {C : Addr} {s : DSp} {t : DA} (h : t δ M fun ds M1 => ∀ x dx, M1 x = none → s (.ref x :: ds) (put M1 x (.ins C dx [])) (fun d M2 => d = .non ∧ Q (.ref x) M2) noX) : dMake C s t δ M Q := h
/-! values -/
theorem v_I0 {f : Int → Int → V} {i j : Int} (h : Q (.v (f i j)) M) : dI0 f (.int i) (.int j) M Q := ⟨i, j, rfl, rfl, h⟩
theorem v_I {C : Int → Int → Prop} {f : Int → Int → V} {i j : Int} (hc : C i j) (h : Q (.v (f i j)) M) : dI C f (.int i) (.int j) M Q := ⟨i, j, rfl, rfl, hc, h⟩
theorem v_plusI {i j : Int} (h : Q (.int (i + j)) M) : plusD (.int i) (.int j) M Q := h
theorem v_plusS {x y : Str} (hl : x.length + y.length ≤ sizeLine) (h : Q (.str (x ++ y)) M) : plusD (.str x) (.str y) M Q := ⟨hl, h⟩
theorem v_plusT (hl : ds.length + es.length ≤ sizeLine) (h : Q (.tup (ds ++ es)) M) : plusD (.tup ds) (.tup es) M Q := ⟨hl, h⟩
theorem v_plusL (h1 : lsD d M = some ds) (h2 : lsD e M = some es) (hl : ds.length + es.length ≤ sizeLine) (h : Q (.lst (ds ++ es)) M) : plusD d e M Q := by
  unfold plusD
  split
  · simp [lsD] at h1
  · simp [lsD] at h1
  · simp [lsD] at h1
  · exact ⟨ds, es, h1, h2, hl, h⟩
theorem v_subT {i : Int} (e : atI ds i = some d) (h : Q d M) : subD (.tup ds) (.int i) M Q := ⟨i, d, rfl, e, h⟩
theorem v_subL {i : Int} (e : atI ds i = some d) (h : Q d M) : subD (.lst ds) (.int i) M Q := .inl ⟨ds, i, d, rfl, rfl, e, h⟩
theorem v_subM {i : Int} (em : M a = some (.lst ds)) (e : atI ds i = some d) (h : Q d M) : subD (.ref a) (.int i) M Q := .inl ⟨ds, i, d, lsD_ref em, rfl, e, h⟩
theorem v_subK {kvs : List (Key × D)} {k : Key} (em : M a = some (.dct kvs)) (ek : keyD e = some k) (ev : valD kvs k = some d) (h : Q d M) : subD (.ref a) e M Q := .inr ⟨kvs, k, d, by simp [dkD, em], ek, ev, h⟩
theorem v_eqI {neg : Bool} {i j : Int} (h : Q (.bl (neg ^^ decide (i = j))) M) : eqD neg (.int i) (.int j) M Q := by
  unfold eqD
  simpa [scal] using h
theorem v_eqS {neg : Bool} {i j : Str} (h : Q (.bl (neg ^^ decide (i = j))) M) : eqD neg (.str i) (.str j) M Q := by
  unfold eqD
  simpa [scal] using h
theorem v_isN {neg : Bool} (h : Q (.bl (neg ^^ nonD d)) M) : isN neg d .non M Q := ⟨rfl, h⟩
theorem itD_ref (em : M a = some (.lst ds)) : itD (.ref a) M = some ds := lsD_ref em
theorem lenD_ref (em : M a = some (.lst ds)) : lenD (.ref a) M = some ds.length := by simp [lenD, em]
theorem v_len {n : Nat} (e : lenD d M = some n) (h : Q (.int (n : Int)) M) : cLen [d] M Q := ⟨d, n, rfl, e, h⟩
theorem v_int {i : Int} (h : Q (.int i) M) : cInt [.int i] M Q := ⟨i, rfl, h⟩
theorem v_abs {i : Int} (h : Q (.int (if i < 0 then -i else i)) M) : cAbs [.int i] M Q := ⟨i, rfl, h⟩
theorem v_list (e : itD d M = some es) (h : Q (.lst es) M) : cList [d] M Q := ⟨d, es, rfl, e, h⟩
theorem v_listM (e : itD d M = some es) (h : ∀ p, M p = none → Q (.ref p) (put M p (.lst es))) : cListM [d] M Q := ⟨d, es, rfl, e, h⟩
theorem v_tuple (e : itD d M = some es) (h : Q (.tup es) M) : cTuple [d] M Q := ⟨d, es, rfl, e, h⟩
theorem v_setL {RM : Mm → Prop} {k : Int} {j : Nat} (em : M a = some (.lst ds)) (hj : ixN ds.length k = some j) (h : RM (put M a (.lst (ds.set j d)))) : setD (.ref a) (.int k) d M RM := by
  show (match M a with | some (.lst ds) => _ | some (.dct kvs) => _ | _ => False)
  rw [em]
  exact ⟨k, j, rfl, hj, h⟩
theorem v_setK {RM : Mm → Prop} {k : Key} {kvs : List (Key × D)} (em : M a = some (.dct kvs)) (ek : keyD e = some k) (hl : kvs.length < sizeLine) (h : RM (put M a (.dct (putKD kvs k d)))) : setD (.ref a) e d M RM := by
  show (match M a with | some (.lst ds) => _ | some (.dct kvs) => _ | _ => False)
  rw [em]
  exact ⟨k, ek, hl, h⟩
theorem v_append (em : M a = some (.lst ds)) (hl : ds.length < sizeLine) (h : Q .non (put M a (.lst (ds ++ [d])))) : tyD "list" (.ref a) M ∧ mAppend (.ref a) [d] M Q := ⟨by simp [tyD, em], a, ds, d, rfl, rfl, em, hl, h⟩
theorem i_tyL {P : Prop} (em : M a = some (.lst ds)) (h : P) : tyD "list" (.ref a) M ∧ P := ⟨by simp [tyD, em], h⟩
theorem i_tyl {P : Prop} (h : P) : tyD "list" (.lst ds) M ∧ P := ⟨by simp [tyD], h⟩
theorem v_app (em : M a = some (.lst ds)) (hl : ds.length < sizeLine) (h : Q .non (put M a (.lst (ds ++ [d])))) : mAppend (.ref a) [d] M Q := ⟨a, ds, d, rfl, rfl, em, hl, h⟩
theorem v_sliceT {lo hi : Option Int} (h : Q (.tup (cut ds lo hi)) M) : sliceD (.tup ds) lo hi M Q := h
theorem v_sliceL {lo hi : Option Int} (h : Q (.lst (cut ds lo hi)) M) : sliceD (.lst ds) lo hi M Q := ⟨ds, rfl, h⟩
theorem v_sliceM {lo hi : Option Int} (em : M a = some (.lst ds)) (h : Q (.lst (cut ds lo hi)) M) : sliceD (.ref a) lo hi M Q := ⟨ds, lsD_ref em, h⟩
theorem v_inT {neg : Bool} (h1 : flatD d = true ∧ ds.all flatD = true) (h : Q (.bl (neg ^^ memD d ds)) M) : inD neg d (.tup ds) M Q := ⟨h1.1, h1.2, h⟩
/-! tests -/
theorem b_dec {p : Prop} [Decidable p] {A C : Prop} (h1 : p → A) (h2 : ¬ p → C) : if decide p = true then A else C := by
  by_cases h : p
  · rw [decide_eq_true h]; exact h1 h
  · rw [decide_eq_false h, if_neg Bool.false_ne_true]; exact h2 h
theorem b_ndec {p : Prop} [Decidable p] {A C : Prop} (h1 : ¬ p → A) (h2 : p → C) : if (!decide p) = true then A else C := by
  by_cases h : p
  · rw [decide_eq_true h]; exact iteF (h2 h)
  · rw [decide_eq_false h]; exact iteT (h1 h)
theorem b_fx {p A C : Prop} [Decidable p] (h : if decide p = true then A else C) : if (false ^^ decide p) = true then A else C := by simpa using h
theorem b_tx {p A C : Prop} [Decidable p] (h : if (!decide p) = true then A else C) : if (true ^^ decide p) = true then A else C := by simpa using h
theorem b_var {k : Bool} {A C : Prop} (h1 : k = true → A) (h2 : k = false → C) : if k = true then A else C := by
  cases k with
  | true => exact iteT (h1 rfl)
  | false => exact iteF (h2 rfl)
end
theorem atI_nn {α : Type} (xs : List α) (n : Nat) : atI xs (n : Int) = xs[n]? := by
  unfold atI ixN
  by_cases h : n < xs.length
  · simp [h]
  · simp [h]
theorem put_none {M : Mm} {a p : Addr} {m : MO} (h : put M a m p = none) : p ≠ a ∧ M p = none := by
  by_cases e : p = a
  · subst e; rw [put_same] at h; cases h
  · exact ⟨e, by rwa [put_ne e] at h⟩
theorem ne_none {M : Mm} {a p : Addr} {m : MO} (h1 : M a = some m) (h2 : M p = none) : a ≠ p := fun e => by subst e; rw [h1] at h2; cases h2
/-- all but what S names is as it was -/
def Fr (M M' : Mm) (S : List Addr) : Prop := ∀ b, b ∉ S → M' b = M b
theorem Fr.refl (M : Mm) (S : List Addr) : Fr M M S := fun _ _ => rfl
theorem Fr.put {M M' : Mm} {S : List Addr} {a : Addr} {m : MO} (h : Fr M M' S) (ha : a ∈ S) : Fr M (Y.put M' a m) S := fun b hb => by
  rw [put_ne (show b ≠ a from fun e => hb (by rw [e]; exact ha))]; exact h b hb
theorem Fr.drop {M M' : Mm} {S : List Addr} {a : Addr} (h : Fr M M' S) (ha : a ∈ S) : Fr M (Y.drop M' a) S := fun b hb => by
  rw [drop_ne (show b ≠ a from fun e => hb (by rw [e]; exact ha))]; exact h b hb
theorem Fr.more {M M' : Mm} {S T : List Addr} (h : Fr M M' S) (ht : ∀ a ∈ S, a ∈ T) : Fr M M' T := fun b hb => h b fun z => hb (ht b z)
theorem less_of {Q : QD} {d : D} {M M' : Mm} (h : Q d M') (e : M = M') : less Q d M := ⟨M', by rw [e]; exact Sub.refl _, h⟩
/-- at a return: what was made here is forgotten, a holds m -/
theorem less_fr {Q : QD} {d : D} {M M' : Mm} {a : Addr} {m : MO} {L : List Addr} (k : Q d (Y.put M a m)) (ea : M' a = some m) (h : Fr M M' (a :: L)) (hL : ∀ p ∈ L, M p = none) : less Q d M' := by
  refine ⟨Y.put M a m, fun b n hb => ?_, k⟩
  by_cases e : b = a
  · subst e; rw [put_same] at hb; rw [ea]; exact hb
  · rw [put_ne e] at hb
    rw [h b]
    · exact hb
    · intro z
      rcases List.mem_cons.mp z with z | z
      · exact e z
      · rw [hL b z] at hb; cases hb
theorem less_fr0 {Q : QD} {d : D} {M M' : Mm} {L : List Addr} (k : Q d M) (h : Fr M M' L) (hL : ∀ p ∈ L, M p = none) : less Q d M' := by
  refine ⟨M, fun b n hb => ?_, k⟩
  rw [h b]
  · exact hb
  · intro z
    rw [hL b z] at hb; cases hb
/-! plain data by its depth -/
def Pl (k : Nat) (d : D) : Prop := pln d = true ∧ dep d ≤ k
def PlL (k : Nat) (ds : List D) : Prop := ∀ d ∈ ds, Pl k d
theorem Pl.mono {j k : Nat} {d : D} (h : Pl j d) (hk : j ≤ k) : Pl k d := ⟨h.1, Nat.le_trans h.2 hk⟩
theorem Pl.int {k : Nat} (i : Int) : Pl k (.int i) := ⟨rfl, Nat.zero_le _⟩
theorem Pl.non {k : Nat} : Pl k .non := ⟨rfl, Nat.zero_le _⟩
theorem Pl.bl {k : Nat} (b : Bool) : Pl k (.bl b) := ⟨rfl, Nat.zero_le _⟩
theorem Pl.str {k : Nat} {x : Str} (h : PyData.strOk x = true) : Pl k (.str x) := ⟨h, Nat.zero_le _⟩
theorem PlL.pln : ∀ {k : Nat} {ds : List D}, PlL k ds → plnL ds = true ∧ depL ds ≤ k
  | _, [], _ => ⟨rfl, Nat.zero_le _⟩
  | k, d :: ds, h => by
    have h1 := h d List.mem_cons_self
    have h2 := PlL.pln (k := k) (ds := ds) fun e he => h e (List.mem_cons_of_mem _ he)
    exact ⟨by simp [plnL, h1.1, h2.1], by simp only [depL]; exact Nat.max_le.mpr ⟨h1.2, h2.2⟩⟩
theorem Pl.tup {k : Nat} {ds : List D} (h : PlL k ds) : Pl (k + 1) (.tup ds) := ⟨by simpa [Y.pln] using h.pln.1, by simp only [dep]; exact Nat.succ_le_succ h.pln.2⟩
theorem Pl.lst {k : Nat} {ds : List D} (h : PlL k ds) : Pl (k + 1) (.lst ds) := ⟨by simpa [Y.pln] using h.pln.1, by simp only [dep]; exact Nat.succ_le_succ h.pln.2⟩
theorem PlL.nil {k : Nat} : PlL k [] := fun _ h => by cases h
theorem PlL.cons {k : Nat} {d : D} {ds : List D} (h : Pl k d) (t : PlL k ds) : PlL k (d :: ds) := fun e he => by
  rcases List.mem_cons.mp he with rfl | he
  · exact h
  · exact t e he
theorem PlL.append {k : Nat} {ds es : List D} (h : PlL k ds) (t : PlL k es) : PlL k (ds ++ es) := fun e he => (List.mem_append.mp he).elim (h e) (t e)
theorem PlL.mono {j k : Nat} {ds : List D} (h : PlL j ds) (hk : j ≤ k) : PlL k ds := fun d hd => (h d hd).mono hk
theorem i_sz {P : Prop} {ds : List D} (hl : ds.length ≤ sizeLine) (h : P) : ds.length ≤ sizeLine ∧ P := ⟨hl, h⟩
theorem i_szl {P : Prop} {ds : List D} (hl : ds.length < sizeLine) (h : P) : ds.length < sizeLine ∧ P := ⟨hl, h⟩
/-- something new: where it lies, nothing lay -/
theorem i_new {P : Addr → Prop} {M : Mm} (h : ∀ p, M p = none → P p) : ∀ p, M p = none → P p := h
/-- a for by a word that holds between the turns -/
theorem for_word {g : DG} {tb : DS} {E : DEnds} {ds : List D} {δ : Env} {M : Mm} (I : Nat → Env → Mm → Prop) (h0 : I 0 δ M) (hs : ∀ i d δ M, ds[i]? = some d → I i δ M → g d δ M fun δ' M' => tb { E with nx := I (i + 1), ct := I (i + 1), bk := E.nx } δ' M')
    (hd : ∀ δ M, I ds.length δ M → E.nx δ M) : forD GT g tb E ds δ M := by
  induction ds generalizing I δ M with
  | nil => exact ⟨trivial, hd _ _ h0⟩
  | cons d ds ih =>
    refine ⟨trivial, I 1, fun δ' M' h => ?_, hs 0 d δ M rfl h0⟩
    exact ih (fun i => I (i + 1)) h (fun i d δ M e h => hs (i + 1) d δ M (by simpa using e) h) hd
theorem b_emp {ds : List D} {A C : Prop} (h1 : 0 < ds.length → A) (h2 : ds = [] → C) : if (!ds.isEmpty) = true then A else C := by
  cases ds with
  | nil => exact iteF (h2 rfl)
  | cons d ds => exact iteT (h1 (by simp))
theorem i_trul {ds : List D} {M : Mm} {QB : Bool → Prop} (h : QB (!ds.isEmpty)) : ∃ b, truD (.lst ds) M = some b ∧ QB b := ⟨_, rfl, h⟩
theorem i_trut {ds : List D} {M : Mm} {QB : Bool → Prop} (h : QB (!ds.isEmpty)) : ∃ b, truD (.tup ds) M = some b ∧ QB b := ⟨_, rfl, h⟩
theorem i_trub {c : Bool} {M : Mm} {QB : Bool → Prop} (h : QB c) : ∃ b, truD (.bl c) M = some b ∧ QB b := ⟨_, rfl, h⟩
theorem pl_rsv {k : Nat} {d : D} {M : Mm} (h : Pl k d) : rsv d M = d := by
  cases d with
  | v x => cases x <;> first | rfl | (have := h.1; simp [pln] at this)
  | tup ds => rfl
  | lst ds => rfl
theorem v_eqP {neg : Bool} {x y : D} {M : Mm} {Q : QD} (hx : Pl 64 x) (hy : Pl 64 y) (h : ∀ b, Q (.bl b) M) : eqD neg x y M Q := by
  have e : eqDeep neg x y M Q := ⟨by rw [pl_rsv hx]; exact hx.1, by rw [pl_rsv hy]; exact hy.1, by rw [pl_rsv hx]; exact hx.2, by rw [pl_rsv hy]; exact hy.2, h _⟩
  unfold eqD
  split
  · split
    · exact h _
    · exact e
  · exact e
end Y


set_option Elab.async false
set_option linter.all false
set_option maxRecDepth 100000
/-! readings of the defs, printed by gen.py -/
namespace YD
open PySem PySem.Spec PyProof.Rows L2 Y
/-- _law_begin, level 1, slots 0:script 1:seed 2:cell -/
def r__law_begin  : DS := dSeq (dAsg (dC (.int 1)) (dgName 1)) (dSeq (dFor (diIt (dVar 0)) (dgName 2) (dAsg (dOp (dI (fun _ j => 0 < j) fun i j => .int (i % j)) (dOp plusD (dOp plusD (dOp (dI CMul fun i j => .int (i * j)) (dVar 1) (dC (.int 69621))) (dOp (dI (fun _ j => 0 < j) fun i j => .int (i % j)) (dCB cInt (dCons (dVar 2) (dNil))) (dC (.int 2147483629)))) (dC (.int 7))) (dC (.int 2147483647))) (dgName 1))) (dRet (dLstM (dCons (dCB cList (dCons (dVar 0) (dNil))) (dCons (dC (.int 0)) (dCons (dC (.int 0)) (dCons (dVar 1) (dNil))))))))
/-- _law_take, level 1, slots 0:d 1:many 2:small 3:digit -/
def r__law_take  : DS := dSeq (dIfS (dAnd (dTest (dOp (eqD false) (dOp subD (dVar 0) (dC (.int 2))) (dC (.int 0)))) (dTest (dOp (dI0 fun i j => .bl (decide (i < j))) (dOp subD (dVar 0) (dC (.int 1))) (dCB cLen (dCons (dOp subD (dVar 0) (dC (.int 0))) (dNil)))))) (dSeq (dAsg (dCB cAbs (dCons (dCB cInt (dCons (dOp subD (dOp subD (dVar 0) (dC (.int 0))) (dOp subD (dVar 0) (dC (.int 1)))) (dNil))) (dNil))) (dgSub (dVar 0) (dC (.int 2)))) (dSeq (dAsg (dOp plusD (dOp subD (dVar 0) (dC (.int 1))) (dC (.int 1))) (dgSub (dVar 0) (dC (.int 1)))) (dIfS (dTest (dChain (dI0 fun i j => .bl (decide (i < j))) (dI0 fun i j => .bl (decide (i < j))) (dC (.int 0)) (dOp subD (dVar 0) (dC (.int 2))) (dVar 1))) (dSeq (dAsg (dOp subD (dVar 0) (dC (.int 2))) (dgName 2)) (dSeq (dAsg (dC (.int 0)) (dgSub (dVar 0) (dC (.int 2)))) (dRet (dVar 2)))) (dNext)))) (dNext)) (dSeq (dIfS (dTest (dOp (dI0 fun i j => .bl (decide (j < i))) (dOp subD (dVar 0) (dC (.int 2))) (dC (.int 0)))) (dSeq (dAsg (dOp (dI (fun _ j => 0 < j) fun i j => .int (i % j)) (dCB cInt (dCons (dOp subD (dVar 0) (dC (.int 2))) (dNil))) (dVar 1)) (dgName 3)) (dSeq (dAsg (dOp (dI CDiv fun i j => .int (i / j)) (dCB cInt (dCons (dOp subD (dVar 0) (dC (.int 2))) (dNil))) (dVar 1)) (dgSub (dVar 0) (dC (.int 2)))) (dRet (dVar 3)))) (dNext)) (dSeq (dAsg (dOp (dI (fun _ j => 0 < j) fun i j => .int (i % j)) (dCB cInt (dCons (dOp plusD (dOp (dI CMul fun i j => .int (i * j)) (dOp subD (dVar 0) (dC (.int 3))) (dC (.int 48271))) (dC (.int 11))) (dNil))) (dC (.int 2147483647))) (dgSub (dVar 0) (dC (.int 3)))) (dRet (dOp (dI (fun _ j => 0 < j) fun i j => .int (i % j)) (dCB cInt (dCons (dOp (dI CDiv fun i j => .int (i / j)) (dOp subD (dVar 0) (dC (.int 3))) (dC (.int 3))) (dNil))) (dVar 1)))))
/-- _law_pick, level 2, slots 0:d 1:menu -/
def r__law_pick (s__law_take : DSp) : DS := dRet (dOp subD (dVar 1) (dCall s__law_take (dCons (dVar 0) (dCons (dCB cLen (dCons (dVar 1) (dNil))) (dNil)))))
end YD


set_option Elab.async false
set_option linter.all false
set_option maxRecDepth 100000
set_option maxHeartbeats 2000000
set_option pp.deepTerms false
set_option pp.maxSteps 400
/-! YD: the draws: what _law_begin, _law_take, _law_pick promise. -/
namespace YD
open PySem PySem.Spec PyProof.Rows L2 Y
local macro_rules | `(tactic| walk_at "y_ne") => `(tactic| first | assumption | exact Ne.symm (by assumption) | ((refine ne_none (M := ?yM) (m := ?ymo) ?ym1 ?ym2); (case ym2 => assumption); (case ym1 => walk_at "y_look")) | ((refine Ne.symm (ne_none (M := ?yM) (m := ?ymo) ?ym1 ?ym2)); (case ym2 => assumption); (case ym1 => walk_at "y_look")) | ((refine ne_none (M := ?yM) (m := ?ymo) ?ym1 (put_none (M := ?yM) (a := ?yma) (m := ?ymo2) ?ym2).2); (case ym2 => assumption); (case ym1 => walk_at "y_look")) | ((refine Ne.symm (ne_none (M := ?yM) (m := ?ymo) ?ym1 (put_none (M := ?yM) (a := ?yma) (m := ?ymo2) ?ym2).2)); (case ym2 => assumption); (case ym1 => walk_at "y_look")))
local macro_rules | `(tactic| walk_at "y_look") => `(tactic| first | assumption | exact put_same | ((with_reducible refine Eq.trans (put_ne ?yn) ?_); (case yn => walk_at "y_ne"); (walk_at "y_look")) | ((with_reducible refine Eq.trans (drop_ne ?yn) ?_); (case yn => walk_at "y_ne"); (walk_at "y_look")))
local macro_rules | `(tactic| walk_at "y_pl") => `(tactic| first | assumption | exact PlL.nil | exact Pl.int _ | exact Pl.non | exact Pl.bl _ | exact Pl.str (by decide +kernel) | ((with_reducible refine PlL.cons ?yp1 ?yp2); (case yp1 => walk_at "y_pl"); (case yp2 => walk_at "y_pl")) | ((with_reducible refine PlL.append ?yp1 ?yp2); (case yp1 => walk_at "y_pl"); (case yp2 => walk_at "y_pl")) | ((with_reducible refine Pl.tup ?yp1); (case yp1 => walk_at "y_pl")) | ((with_reducible refine PlL.mono (j := ?yj) ?yp1 ?yp2); (case yp1 => assumption); (case yp2 => first | decide | omega)) | ((with_reducible refine Pl.mono (j := ?yj) ?yp1 ?yp2); (case yp1 => assumption); (case yp2 => first | decide | omega)))
local macro_rules | `(tactic| walk_at "y_len") => `(tactic| ((try simp only [List.length_append, List.length_cons, List.length_nil, List.length_map, sizeLine_eq] at *); omega))
local macro_rules | `(tactic| walk_at "y_rfl") => `(tactic| first | rfl | (simp only [atI_nn]; rfl))
local macro_rules | `(tactic| walk_at "y_at") => `(tactic| first | exact atI_nn _ 0 | rfl)
local macro_rules | `(tactic| walk_at "y_cond") => `(tactic| first
  | (show (0 : Int) < _; first | decide | assumption | omega)
  | (exact ⟨by first | decide | assumption | omega, by first | decide | assumption | omega⟩)
  | (exact Or.inl ⟨by first | decide | assumption | omega, by first | decide | assumption | omega⟩)
  | (exact Or.inr ⟨by first | decide | assumption | omega, by first | decide | assumption | omega⟩)
  | (exact ⟨by decide, by decide, by decide⟩))
local macro_rules | `(tactic| walk_at "y1") => `(tactic| first
  | (with_reducible first | refine i_seq ?_ | refine i_next ?_ | refine i_asg ?_ | refine i_ret ?_ | refine i_retN ?_ | refine i_drop ?_ | refine i_cont ?_ | refine i_break ?_ | refine i_ifs ?_ | refine i_if ?_ | refine i_and ?_ | refine i_or ?_ | refine i_not ?_ | refine i_test ?_ | refine i_tru ?_ | refine i_andV ?_ | refine i_orV ?_ | refine i_notV ?_ | refine i_bl ?_ | refine i_op ?_ | refine i_chain ?_ | refine i_c ?_ | refine i_cd ?_ | refine i_nil ?_ | refine i_cons ?_ | refine i_call ?_ | refine i_cb ?_ | refine i_tup ?_ | refine i_lst ?_ | refine i_lstM ?_ | refine i_dict ?_ | refine i_frz ?_ | refine i_name ?_ | refine i_gcons ?_ | refine i_gnil ?_ | refine i_gsub ?_ | refine i_par ?_ | refine i_par2 ?_ | refine i_un ?_ | refine i_int ?_ | refine i_slice ?_ | refine i_onone ?_ | refine i_osome ?_ | refine i_bm ?_ | refine i_bm0 ?_ | refine i_get1 ?_ | refine i_get2 ?_ | refine i_del ?_ | refine i_for ?_ | refine i_lc ?_ | refine i_dc ?_ | refine i_yes ?_ | refine i_it ?_ | refine i_rng1 ?_ | refine i_fld ?_ | refine i_sfld ?_ | refine i_meth ?_ | refine i_make ?_ | refine v_I0 ?_ | refine v_plusI ?_ | refine v_eqI ?_ | refine v_eqS ?_ | refine v_isN ?_ | refine v_int ?_ | refine v_abs ?_ | refine v_sliceT ?_ | refine v_sliceL ?_ | refine b_fx ?_ | refine b_tx ?_)
  | ((with_reducible refine i_var (d := ?yd) ?ye0 ?_); (case ye0 => rfl))
  | ((with_reducible refine i_gtup ?ye0 ?_); (case ye0 => rfl))
  | (with_reducible refine iteT ?_)
  | (with_reducible refine iteF ?_)
  | (with_reducible refine b_dec ?_ ?_ <;> intro hc)
  | (with_reducible refine b_ndec ?_ ?_ <;> intro hc)
  | ((with_reducible refine v_subT (d := ?yd) ?ye0 ?_); (case ye0 => rfl))
  | ((with_reducible refine v_subL (d := ?yd) ?ye0 ?_); (case ye0 => rfl))
  | ((with_reducible refine v_subM (ds := ?yds) (d := ?yd) ?ye0 ?ye1 ?_); (case ye0 => (walk_at "y_look")); (case ye1 => rfl))
  | ((with_reducible refine v_setL (ds := ?yds) (j := ?yj) ?ye0 ?ye1 ?_); (case ye0 => (walk_at "y_look")); (case ye1 => rfl))
  | ((with_reducible refine v_I ?ye0 ?_); (case ye0 => (walk_at "y_cond")))
  | ((with_reducible refine i_sz ?ye0 ?_); (case ye0 => (first | exact Nat.le_of_ble_eq_true rfl | (simp only [List.length_append, List.length_cons, List.length_nil, List.length_map, sizeLine_eq] at *; omega))))
  | (with_reducible refine i_new fun yp yhp => ?_)
  | ((with_reducible refine v_app (ds := ?yds) ?ye0 ?ye1 ?_); (case ye0 => (walk_at "y_look")); (case ye1 => (first | (simp only [List.length_append, List.length_cons, List.length_nil, List.length_map, sizeLine_eq] at *; omega))))
  | ((with_reducible refine i_tyL (ds := ?yds) ?ye0 ?_); (case ye0 => (walk_at "y_look")))
  | (with_reducible refine i_tyl ?_)
  | ((with_reducible refine v_subK (kvs := ?ykv) (k := ?yk) (d := ?yd) ?ye0 ?ye1 ?ye2 ?_); (case ye0 => (walk_at "y_look")); (case ye1 => rfl); (case ye2 => first | assumption | rfl))
  | ((with_reducible refine v_plusL (ds := ?yds) (es := ?yes) ?ye0 ?ye1 ?ye2 ?_); (case ye0 => first | rfl | (with_reducible refine lsD_ref (ds := ?yds2) ?yl0; walk_at "y_look")); (case ye1 => first | rfl | (with_reducible refine lsD_ref (ds := ?yds2) ?yl0; walk_at "y_look")); (case ye2 => (simp only [List.length_append, List.length_cons, List.length_nil, List.length_map, sizeLine_eq] at *; omega)))
  | ((with_reducible refine v_plusT ?ye0 ?_); (case ye0 => (simp only [List.length_append, List.length_cons, List.length_nil, List.length_map, sizeLine_eq] at *; omega)))
  | ((with_reducible refine i_rng1d ?ye0 ?_); (case ye0 => (constructor <;> omega)))
  | ((with_reducible refine v_len (n := ?yn) ?ye0 ?_); (case ye0 => first | (with_reducible refine lenD_ref (ds := ?yds) ?yl0; walk_at "y_look") | rfl))
  | ((with_reducible refine v_list (es := ?yes) ?ye0 ?_); (case ye0 => first | (with_reducible refine itD_ref (ds := ?yds) ?yl0; walk_at "y_look") | rfl))
  | ((with_reducible refine v_tuple (es := ?yes) ?ye0 ?_); (case ye0 => first | (with_reducible refine itD_ref (ds := ?yds) ?yl0; walk_at "y_look") | rfl))
  | ((with_reducible refine v_eqP ?ye0 ?ye1 fun yb => ?_); (case ye0 => walk_at "y_pl"); (case ye1 => walk_at "y_pl"))
  | (with_reducible refine b_emp ?_ ?_ <;> intro hc)
  | (with_reducible refine i_trul ?_)
  | (with_reducible refine i_trut ?_)
  | (with_reducible refine i_trub ?_)
  | ((with_reducible refine v_inT ?ye0 ?_); (case ye0 => exact ⟨rfl, rfl⟩))
  | (with_reducible refine b_var ?_ ?_ <;> intro hc)
  | ((with_reducible refine i_its (ds := ?yds) ?ye0 ?_); (case ye0 => rfl)))
local macro_rules | `(tactic| walk_at "y0") => `(tactic| repeat' (walk_at "y1"))
local macro_rules | `(tactic| walk_at "ys") => `(tactic| walk_at "y0")
structure Tk where
  ns : List Int
  i : Int
  cur : Int
  seed : Int
def Tk.ok (t : Tk) : Prop := 0 ≤ t.i ∧ 0 ≤ t.cur ∧ 0 ≤ t.seed ∧ t.seed < 2147483647
def tkM (t : Tk) : MO := .lst [.lst (t.ns.map D.int), .int t.i, .int t.cur, .int t.seed]
/-- any number from 0 on, below many -/
def spTake : DSp := fun ds M Q _ => ∃ a t many, ds = [.ref a, .int many] ∧ M a = some (tkM t) ∧ t.ok ∧ 0 < many ∧ many < 1073741824 ∧ ∀ r t', 0 ≤ r → r < many → t'.ok → Q (.int r) (put M a (tkM t'))
def spBegin : DSp := fun ds M Q _ => ∃ ns : List Int, ds = [.lst (ns.map D.int)] ∧ ∀ p t, M p = none → t.ok → Q (.ref p) (put M p (tkM t))
/-- any of the menu's items -/
def spPick : DSp := fun ds M Q _ => ∃ a t menu, ds = [.ref a, .lst menu] ∧ M a = some (tkM t) ∧ t.ok ∧ menu ≠ [] ∧ menu.length < 1073741824 ∧ ∀ d t', d ∈ menu → t'.ok → Q d (put M a (tkM t'))
theorem tk_fin {a : Addr} {t : Tk} {many : Int} {M : Mm} {Q : QD} {i cur seed r : Int} (k : ∀ r t', 0 ≤ r → r < many → t'.ok → Q (.int r) (put M a (tkM t'))) {M' : Mm}
    (e : M' = put M a (.lst [.lst (t.ns.map D.int), .int i, .int cur, .int seed])) (h0 : 0 ≤ r) (h1 : r < many) (hi : 0 ≤ i) (hc : 0 ≤ cur) (hs : 0 ≤ seed) (hs' : seed < 2147483647) : less Q (.int r) M' := less_of (k r ⟨t.ns, i, cur, seed⟩ h0 h1 ⟨hi, hc, hs, hs'⟩) e
theorem sub_ints {ns : List Int} {i : Int} {M : Mm} {Q : QD} (h0 : 0 ≤ i) (h : i < ns.length) (q : ∀ z, Q (.int z) M) : subD (.lst (ns.map D.int)) (.int i) M Q := by
  obtain ⟨n, rfl⟩ := Int.eq_ofNat_of_zero_le h0
  exact v_subL (by rw [atI_nn]; simp [show n < ns.length by omega]; rfl) (q _)
theorem rd_take (ds : List D) (M : Mm) (Q : QD) (E : DX) (h : spTake ds M Q E) : r__law_take { nx := fun _ M' => less Q .non M', rt := less Q } (startD 4 ds) M := by
  obtain ⟨a, t, many, rfl, hM, ⟨h0, h1, h2, h3⟩, h5, h6, k⟩ := h
  unfold tkM at hM
  show r__law_take _ [some (.ref a), some (.int many), none, none] M
  unfold r__law_take
  have m0 : ∀ z : Int, 0 ≤ z % many := fun z => Int.emod_nonneg _ (by omega)
  have m1 : ∀ z : Int, z % many < many := fun z => Int.emod_lt_of_pos _ h5
  have m2 : ∀ z : Int, 0 ≤ z → 0 ≤ z / many := fun z hz => Int.ediv_nonneg hz (by omega)
  have m3 : ∀ z : Int, 0 ≤ z % 2147483647 := fun z => Int.emod_nonneg _ (by omega)
  have m4 : ∀ z : Int, z % 2147483647 < 2147483647 := fun z => Int.emod_lt_of_pos _ (by omega)
  walk_at "ys"
  · refine sub_ints h0 (by rename_i z1; simpa using z1) fun z => ?_
    have hz : 0 ≤ (if z < 0 then -z else z) := by split <;> omega
    generalize hw : (if z < 0 then -z else z) = w at hz
    walk_at "ys"
    all_goals first
      | exact tk_fin (t := t) k (by first | (simp only [put_put]; rfl) | rfl) (by omega) (by omega) (by omega) (by omega) h2 h3
      | exact tk_fin (t := t) k (by first | (simp only [put_put]; rfl) | rfl) (m0 _) (m1 _) (by omega) (m2 _ (by omega)) h2 h3
      | exact tk_fin (t := t) k (by first | (simp only [put_put]; rfl) | rfl) (m0 _) (m1 _) (by omega) (by omega) (m3 _) (m4 _)
  all_goals first
    | exact tk_fin (t := t) k (by first | (simp only [put_put]; rfl) | rfl) (m0 _) (m1 _) (by omega) (m2 _ (by omega)) h2 h3
    | exact tk_fin (t := t) k (by first | (simp only [put_put]; rfl) | rfl) (m0 _) (m1 _) (by omega) (by omega) (m3 _) (m4 _)
theorem rd_pick (ds : List D) (M : Mm) (Q : QD) (E : DX) (h : spPick ds M Q E) : r__law_pick spTake { nx := fun _ M' => less Q .non M', rt := less Q } (startD 2 ds) M := by
  obtain ⟨a, t, menu, rfl, hM, ok, h5, h6, k⟩ := h
  show r__law_pick _ _ [some (.ref a), some (.lst menu)] M
  unfold r__law_pick
  have hl : 0 < menu.length := by cases menu with | nil => exact absurd rfl h5 | cons _ _ => simp
  walk_at "ys"
  refine ⟨a, t, _, rfl, hM, ok, by omega, by omega, fun r t' r0 r1 ok' => ?_⟩
  obtain ⟨n, rfl⟩ := Int.eq_ofNat_of_zero_le r0
  have hn : n < menu.length := by omega
  refine v_subL (d := menu[n]) (by rw [atI_nn]; simp [hn]) ?_
  exact less_of (k _ t' (List.getElem_mem hn) ok') rfl
theorem rd_begin (ds : List D) (M : Mm) (Q : QD) (E : DX) (h : spBegin ds M Q E) : r__law_begin { nx := fun _ M' => less Q .non M', rt := less Q } (startD 3 ds) M := by
  obtain ⟨ns, rfl, k⟩ := h
  show r__law_begin _ [some (.lst (ns.map D.int)), none, none] M
  unfold r__law_begin
  walk_at "ys"
  refine for_word (fun i δ M' => ∃ z c, 0 ≤ z ∧ z < 2147483647 ∧ δ = [some (.lst (ns.map D.int)), some (.int z), c] ∧ M' = M) ⟨1, none, by omega, by omega, rfl, rfl⟩ ?_ ?_
  · rintro i d δ M' hd ⟨z, c, z0, z1, rfl, rfl⟩
    obtain ⟨y, rfl⟩ : ∃ y, d = .int y := by
      rw [List.getElem?_map] at hd
      cases e : ns[i]? with
      | none => rw [e] at hd; cases hd
      | some y => rw [e] at hd; exact ⟨y, (Option.some.inj hd).symm⟩
    walk_at "ys"
    exact ⟨_, _, Int.emod_nonneg _ (by omega), Int.emod_lt_of_pos _ (by omega), rfl, rfl⟩
  · rintro δ M' ⟨z, c, z0, z1, rfl, rfl⟩
    walk_at "ys"
    rename_i p hp
    exact less_of (k p ⟨ns, 0, 0, z⟩ hp ⟨Int.le_refl 0, Int.le_refl 0, z0, z1⟩) rfl
theorem i_take {a : Addr} {t : Tk} {many : Int} {M : Mm} {Q : QD} {E : DX} (hM : M a = some (tkM t)) (ok : t.ok) (hb : 0 < many ∧ many < 1073741824) (h : ∀ r t', 0 ≤ r → r < many → t'.ok → Q (.int r) (put M a (tkM t'))) : spTake [.ref a, .int many] M Q E := ⟨a, t, many, rfl, hM, ok, hb.1, hb.2, h⟩
theorem i_pick {P : D → Prop} {a : Addr} {t : Tk} {menu : List D} {M : Mm} {Q : QD} {E : DX} (hM : M a = some (tkM t)) (ok : t.ok) (hb : 0 < menu.length ∧ menu.length < 1073741824) (hP : ∀ d ∈ menu, P d) (h : ∀ d t', P d → t'.ok → Q d (put M a (tkM t'))) : spPick [.ref a, .lst menu] M Q E :=
  ⟨a, t, menu, rfl, hM, ok, fun e => by rw [e] at hb; exact absurd hb.1 (by decide), hb.2, fun d t' hd => h d t' (hP d hd)⟩
theorem i_pick2 {k : Nat} {a : Addr} {t : Tk} {menu : List D} {M : Mm} {Q : QD} {E : DX} (hM : M a = some (tkM t)) (ok : t.ok) (hb : 0 < menu.length ∧ menu.length < 1073741824) (hP : PlL k menu) (h : ∀ d t', Pl k d → d ∈ menu → t'.ok → Q d (put M a (tkM t'))) : spPick [.ref a, .lst menu] M Q E :=
  ⟨a, t, menu, rfl, hM, ok, fun e => by rw [e] at hb; exact absurd hb.1 (by decide), hb.2, fun d t' hd => h d t' (hP d hd) hd⟩
/-- a comprehension by a word that holds between the turns -/
theorem lc_wordG {G : Mm → Prop} {g : DG} {tt : DT} {te : DE} {δ0 : Y.Env} {p : Addr} {Q : Mm → Prop} {ds : List D} {M : Mm} (I : Nat → Mm → Prop) (h0 : I 0 M) (hs : ∀ i d M, ds[i]? = some d → I i M → g d δ0 M fun δ' M1 => tt δ' M1 fun b M2 => if b = true then te δ' M2 fun e M3 => ∃ acc, M3 p = some (.lst acc) ∧ acc.length < sizeLine ∧ I (i + 1) (put M3 p (.lst (acc ++ [e]))) else I (i + 1) M2)
    (hd : ∀ M, I ds.length M → Q M) (hG : ∀ i M, I i M → G M) : lcD G g tt te δ0 p Q ds M := by
  induction ds generalizing I M with
  | nil => exact ⟨hG _ _ h0, hd _ h0⟩
  | cons d ds ih =>
    refine ⟨hG _ _ h0, I 1, fun M' h => ?_, hs 0 d M rfl h0⟩
    exact ih (fun i => I (i + 1)) h (fun i d M e h => hs (i + 1) d M (by simpa using e) h) hd (fun i => hG (i + 1))
theorem lc_word {g : DG} {tt : DT} {te : DE} {δ0 : Y.Env} {p : Addr} {Q : Mm → Prop} {ds : List D} {M : Mm} (I : Nat → Mm → Prop) (h0 : I 0 M) (hs : ∀ i d M, ds[i]? = some d → I i M → g d δ0 M fun δ' M1 => tt δ' M1 fun b M2 => if b = true then te δ' M2 fun e M3 => ∃ acc, M3 p = some (.lst acc) ∧ acc.length < sizeLine ∧ I (i + 1) (put M3 p (.lst (acc ++ [e]))) else I (i + 1) M2)
    (hd : ∀ M, I ds.length M → Q M) : lcD GT g tt te δ0 p Q ds M := lc_wordG I h0 hs hd fun _ _ _ => trivial
theorem put_comm {M : Mm} {a b : Addr} {m n : MO} (h : a ≠ b) : put (put M a m) b n = put (put M b n) a m := by
  funext c
  unfold put
  by_cases h1 : c = a
  · subst h1; simp [h]
  · simp [h1]
/-- a comprehension that draws -/
theorem frz_drawG {G : Mm → Prop} (P : D → Prop) (all : Bool) {a p : Addr} {t : Tk} {g : DG} {te : DE} {tt : DT} {δ0 : Y.Env} {ds : List D} {M : Mm} {Q : Mm → Prop} (hM : M a = some (tkM t)) (ok : t.ok) (hp : M p = none) (hl : ds.length < sizeLine)
    (hs : ∀ d ∈ ds, ∀ t' M' (R : Mm → Prop), t'.ok → M' a = some (tkM t') → (∀ b, b ≠ a → b ≠ p → M' b = M b) → M' p ≠ none → (∀ e t'', P e → t''.ok → ∃ acc, put M' a (tkM t'') p = some (.lst acc) ∧ acc.length < sizeLine ∧ R (put (put M' a (tkM t'')) p (.lst (acc ++ [e])))) → (all = false → ∀ t'', t''.ok → R (put M' a (tkM t''))) →
      g d δ0 M' fun δ' M1 => tt δ' M1 fun b M2 => if b = true then te δ' M2 fun e M3 => ∃ acc, M3 p = some (.lst acc) ∧ acc.length < sizeLine ∧ R (put M3 p (.lst (acc ++ [e]))) else R M2)
    (k : ∀ es t' M', M' p = some (.lst es) → drop M' p = put M a (tkM t') → (∀ e ∈ es, P e) → es.length ≤ ds.length → (all = true → es.length = ds.length) → t'.ok → Q M') (hG : ∀ t' es, G (put (put M a (tkM t')) p (.lst es))) : lcD G g tt te δ0 p Q ds (put M p (.lst [])) := by
  have hap : a ≠ p := ne_none hM hp
  refine lc_wordG (fun i M' => ∃ t' es, t'.ok ∧ (∀ e ∈ es, P e) ∧ es.length ≤ i ∧ (all = true → es.length = i) ∧ i ≤ ds.length ∧ M' = put (put M a (tkM t')) p (.lst es)) ⟨t, [], ok, fun _ h => (by cases h), Nat.le_refl _, fun _ => rfl, Nat.zero_le _, ?_⟩ ?_ ?_ (fun i M' ⟨t', es, _, _, _, _, _, e⟩ => by rw [e]; exact hG t' es)
  · funext c; unfold put; by_cases h : c = p
    · simp [h]
    · by_cases h' : c = a
      · subst h'; simp [h, hM]
      · simp [h, h']
  · rintro i d M' hd ⟨t', es, o, hP, h1, h2, h3, rfl⟩
    have hi : i < ds.length := (List.getElem?_eq_some_iff.mp hd).1
    have key : ∀ (t'' : Tk), put (put (put M a (tkM t')) p (.lst es)) a (tkM t'') = put (put M a (tkM t'')) p (.lst es) := fun t'' => by
      rw [put_comm (M := put M a (tkM t')) hap.symm, put_put]
    refine hs d (List.mem_of_getElem? hd) t' _ _ o (by rw [put_ne hap]; exact put_same) (fun b hb hb' => by rw [put_ne hb', put_ne hb]) (by rw [put_same]; exact nofun) ?_ ?_
    · intro e t'' he o'
      rw [key]
      refine ⟨es, put_same, by omega, t'', es ++ [e], o', ?_, by simp; omega, fun z => by simp [h2 z], by omega, ?_⟩
      · intro e' he'
        rcases List.mem_append.mp he' with z | z
        · exact hP _ z
        · rw [List.mem_singleton.mp z]; exact he
      · rw [put_put]
    · intro hy t'' o'
      exact ⟨t'', es, o', hP, by omega, fun z => (by rw [hy] at z; cases z), by omega, by rw [key]⟩
  · rintro M' ⟨t', es, o, hP, h1, h2, h3, rfl⟩
    exact k es t' _ put_same (drop_put (by rw [put_ne hap.symm]; exact hp)) hP h1 h2 o
theorem frz_draw (P : D → Prop) (all : Bool) {a p : Addr} {t : Tk} {g : DG} {te : DE} {tt : DT} {δ0 : Y.Env} {ds : List D} {M : Mm} {Q : Mm → Prop} (hM : M a = some (tkM t)) (ok : t.ok) (hp : M p = none) (hl : ds.length < sizeLine)
    (hs : ∀ d ∈ ds, ∀ t' M' (R : Mm → Prop), t'.ok → M' a = some (tkM t') → (∀ b, b ≠ a → b ≠ p → M' b = M b) → M' p ≠ none → (∀ e t'', P e → t''.ok → ∃ acc, put M' a (tkM t'') p = some (.lst acc) ∧ acc.length < sizeLine ∧ R (put (put M' a (tkM t'')) p (.lst (acc ++ [e])))) → (all = false → ∀ t'', t''.ok → R (put M' a (tkM t''))) →
      g d δ0 M' fun δ' M1 => tt δ' M1 fun b M2 => if b = true then te δ' M2 fun e M3 => ∃ acc, M3 p = some (.lst acc) ∧ acc.length < sizeLine ∧ R (put M3 p (.lst (acc ++ [e]))) else R M2)
    (k : ∀ es t' M', M' p = some (.lst es) → drop M' p = put M a (tkM t') → (∀ e ∈ es, P e) → es.length ≤ ds.length → (all = true → es.length = ds.length) → t'.ok → Q M') : lcD GT g tt te δ0 p Q ds (put M p (.lst [])) := frz_drawG P all hM ok hp hl hs k fun _ _ => trivial
theorem put_id {M : Mm} {a : Addr} {m : MO} (h : M a = some m) : put M a m = M := by
  funext b
  unfold put
  by_cases e : b = a
  · subst e; simp [h]
  · simp [e]
/-- forget how a value came, but for P -/
theorem split_at {te : DE} {δ : Y.Env} {M : Mm} {K : QD} (P : D → Mm → Prop) (h1 : ∀ K' : QD, (∀ d M', P d M' → K' d M') → te δ M K') (h2 : ∀ d M', P d M' → K d M') : te δ M K := h1 K h2
theorem i_disp {l : List (DE × DE)} {δ : Y.Env} {M : Mm} {Q : QD} (h : ∀ p, M p = none → dPairs l δ (put M p (.dct [])) fun ps M2 => M2 p = some (.dct []) ∧ ∃ kvs, keysD ps = some kvs ∧ kvs.length ≤ 15 ∧ Q (.ref p) (put M2 p (.dct (mergeD kvs)))) : dDisp l δ M Q := h
theorem i_pcons {tk tv : DE} {r : List (DE × DE)} {δ : Y.Env} {M : Mm} {Q : List (D × D) → Mm → Prop} (h : tk δ M fun x M1 => tv δ M1 fun y M2 => dPairs r δ M2 fun ps M3 => Q ((x, y) :: ps) M3) : dPairs ((tk, tv) :: r) δ M Q := h
theorem i_pnil {δ : Y.Env} {M : Mm} {Q : List (D × D) → Mm → Prop} (h : Q [] M) : dPairs [] δ M Q := h
theorem i_mut {te : DE} {δ : Y.Env} {M : Mm} {R : List D → (Mm → Prop) → Mm → Prop} (h : te δ M fun d M1 => ∃ a ds, d = .ref a ∧ M1 a = some (.lst ds) ∧ R ds (fun M => M a = some (.lst ds)) M1) : diMut te δ M R := h
theorem i_mutd {M : Mm} {a : Addr} {ds : List D} {R : Addr → List D → Prop} (em : M a = some (.lst ds)) (h : R a ds) : ∃ b es, D.ref a = .ref b ∧ M b = some (.lst es) ∧ R b es := ⟨a, ds, rfl, em, h⟩
theorem valD_same {kvs : List (Key × D)} {k : Key} {d : D} : valD (putKD kvs k d) k = some d := by
  unfold valD putKD
  split
  · rename_i h
    induction kvs with
    | nil => simp at h
    | cons kv r ih =>
      by_cases e : kv.1 = k
      · simp [e]
      · have h' : (r.any fun kv => decide (kv.1 = k)) = true := by simpa [e] using h
        simpa [e] using ih h'
  · rename_i h
    have : kvs.find? (fun kv => decide (kv.1 = k)) = none := by
      rw [List.find?_eq_none]
      intro x hx hk
      exact h (by rw [List.any_eq_true]; exact ⟨x, hx, hk⟩)
    simp [this]
theorem valD_ne {kvs : List (Key × D)} {k k' : Key} {d e : D} (hk : k' ≠ k) (h : valD kvs k' = some e) : valD (putKD kvs k d) k' = some e := by
  have hk' : ¬ k = k' := fun z => hk z.symm
  unfold valD putKD at *
  split
  · rename_i h1
    clear h1
    induction kvs with
    | nil => simp at h
    | cons kv r ih =>
      by_cases e1 : kv.1 = k'
      · have e2 : ¬ kv.1 = k := fun z => hk (by rw [← e1, z])
        simp [e1, hk] at h ⊢
        exact h
      · by_cases e2 : kv.1 = k
        · simp [e2, hk'] at h ⊢
          simpa using ih (by simpa using h)
        · simp [e1, e2] at h ⊢
          simpa using ih (by simpa using h)
  · rw [List.find?_append]
    cases e1 : kvs.find? (fun kv => decide (kv.1 = k')) with
    | none => rw [e1] at h; cases h
    | some x => rw [e1] at h; exact h
theorem putKD_len {kvs : List (Key × D)} {k : Key} {d : D} : (putKD kvs k d).length ≤ kvs.length + 1 := by
  unfold putKD
  split <;> simp
theorem cut_mem {α : Type} {ds : List α} {lo hi : Option Int} {d : α} (h : d ∈ cut ds lo hi) : d ∈ ds := List.mem_of_mem_drop (List.mem_of_mem_take h)
theorem cut_len {α : Type} (ds : List α) (lo hi : Option Int) : (cut ds lo hi).length ≤ ds.length := by unfold cut; simp; omega
theorem cut_pl {k : Nat} {ds : List D} {lo hi : Option Int} (h : PlL k ds) : PlL k (cut ds lo hi) := fun d hd => h d (cut_mem hd)
theorem cut_pos {α : Type} {ds : List α} {n : Int} (h1 : 0 < n) (h2 : 0 < ds.length) : 0 < (cut ds none (some n)).length := by
  have e : HT.sIx ds.length ds.length (some n) = min n.toNat ds.length := by
    show (if n < 0 then (n + (ds.length : Int)).toNat else min n.toNat ds.length) = _
    rw [if_neg (by omega)]
  unfold cut
  rw [e, show HT.sIx ds.length 0 none = 0 from rfl, List.length_take, List.length_drop]
  omega
theorem pl_flat {d : D} (h : Pl 0 d) : flatD d = true := by
  obtain ⟨h1, h2⟩ := h
  cases d with
  | v x => cases x <;> simp_all [flatD, flatV, pln]
  | tup ds => simp [dep] at h2
  | lst ds => simp [dep] at h2
theorem pll_flat {ds : List D} (h : PlL 0 ds) : ds.all flatD = true := List.all_eq_true.mpr fun d hd => pl_flat (h d hd)
def KL (kvs : List (Key × D)) (n : Nat) : Prop := kvs.length ≤ n
theorem KL.put {kvs : List (Key × D)} {k : Key} {d : D} {n : Nat} (h : KL kvs n) : KL (putKD kvs k d) (n + 1) := Nat.le_trans putKD_len (Nat.succ_le_succ h)
theorem KL.merge {kvs : List (Key × D)} : KL (mergeD kvs) kvs.length := by
  have : ∀ (l acc : List (Key × D)), (l.foldl (fun acc kv => putKD acc kv.1 kv.2) acc).length ≤ acc.length + l.length := by
    intro l
    induction l with
    | nil => intro acc; simp
    | cons x l ih =>
      intro acc
      have h1 := ih (putKD acc x.1 x.2)
      have h2 := putKD_len (kvs := acc) (k := x.1) (d := x.2)
      simp only [List.foldl, List.length_cons]
      omega
  exact by simpa [KL, mergeD] using this kvs []
theorem KL.lt {kvs : List (Key × D)} {n : Nat} (h : KL kvs n) (hn : n < 1000) : kvs.length < sizeLine := by rw [sizeLine_eq]; have h : kvs.length ≤ n := h; omega
theorem v_inT' {neg : Bool} {d : D} {ds : List D} {M : Mm} {Q : QD} (h1 : Pl 0 d) (h2 : PlL 0 ds) (h : ∀ b, Q (.bl b) M) : inD neg d (.tup ds) M Q := ⟨pl_flat h1, pll_flat h2, h _⟩
theorem bls_app {es : List D} {bs : List Bool} {b : Bool} (h : blsD es = some bs) : blsD (es ++ [.bl b]) = some (bs ++ [b]) := by
  induction es generalizing bs with
  | nil => simp [blsD] at h; subst h; rfl
  | cons d es ih =>
    cases d with
    | v x =>
      cases x with
      | bl c =>
        simp only [blsD] at h
        cases e : blsD es with
        | none => rw [e] at h; cases h
        | some cs =>
          rw [e] at h
          cases h
          show (blsD (es ++ [.bl b])).map (c :: ·) = _
          rw [ih e]; rfl
      | _ => simp [blsD] at h
    | tup _ => simp [blsD] at h
    | lst _ => simp [blsD] at h
theorem len3 {ds : List D} (h : ds.length = 3) : ∃ x y z, ds = [x, y, z] := by
  match ds, h with
  | [x, y, z], _ => exact ⟨x, y, z, rfl⟩
theorem len2 {ds : List D} (h : ds.length = 2) : ∃ x y, ds = [x, y] := by
  match ds, h with
  | [x, y], _ => exact ⟨x, y, rfl⟩
end YD


set_option Elab.async false
set_option linter.all false
set_option maxRecDepth 100000
/-! readings of the defs, printed by gen.py -/
namespace K15
open PySem PySem.Spec PyProof.Rows L2 Y
/-- _law_begin, level 1, slots 0:script 1:seed 2:cell -/
def r__law_begin  : DS := dSeq (dAsg (dC (.int 1)) (dgName 1)) (dSeq (dFor (diIt (dVar 0)) (dgName 2) (dAsg (dOp (dI (fun _ j => 0 < j) fun i j => .int (i % j)) (dOp plusD (dOp plusD (dOp (dI CMul fun i j => .int (i * j)) (dVar 1) (dC (.int 69621))) (dOp (dI (fun _ j => 0 < j) fun i j => .int (i % j)) (dCB cInt (dCons (dVar 2) (dNil))) (dC (.int 2147483629)))) (dC (.int 7))) (dC (.int 2147483647))) (dgName 1))) (dRet (dLstM (dCons (dCB cList (dCons (dVar 0) (dNil))) (dCons (dC (.int 0)) (dCons (dC (.int 0)) (dCons (dVar 1) (dNil))))))))
/-- _law_take, level 1, slots 0:d 1:many 2:small 3:digit -/
def r__law_take  : DS := dSeq (dIfS (dAnd (dTest (dOp (eqD false) (dOp subD (dVar 0) (dC (.int 2))) (dC (.int 0)))) (dTest (dOp (dI0 fun i j => .bl (decide (i < j))) (dOp subD (dVar 0) (dC (.int 1))) (dCB cLen (dCons (dOp subD (dVar 0) (dC (.int 0))) (dNil)))))) (dSeq (dAsg (dCB cAbs (dCons (dCB cInt (dCons (dOp subD (dOp subD (dVar 0) (dC (.int 0))) (dOp subD (dVar 0) (dC (.int 1)))) (dNil))) (dNil))) (dgSub (dVar 0) (dC (.int 2)))) (dSeq (dAsg (dOp plusD (dOp subD (dVar 0) (dC (.int 1))) (dC (.int 1))) (dgSub (dVar 0) (dC (.int 1)))) (dIfS (dTest (dChain (dI0 fun i j => .bl (decide (i < j))) (dI0 fun i j => .bl (decide (i < j))) (dC (.int 0)) (dOp subD (dVar 0) (dC (.int 2))) (dVar 1))) (dSeq (dAsg (dOp subD (dVar 0) (dC (.int 2))) (dgName 2)) (dSeq (dAsg (dC (.int 0)) (dgSub (dVar 0) (dC (.int 2)))) (dRet (dVar 2)))) (dNext)))) (dNext)) (dSeq (dIfS (dTest (dOp (dI0 fun i j => .bl (decide (j < i))) (dOp subD (dVar 0) (dC (.int 2))) (dC (.int 0)))) (dSeq (dAsg (dOp (dI (fun _ j => 0 < j) fun i j => .int (i % j)) (dCB cInt (dCons (dOp subD (dVar 0) (dC (.int 2))) (dNil))) (dVar 1)) (dgName 3)) (dSeq (dAsg (dOp (dI CDiv fun i j => .int (i / j)) (dCB cInt (dCons (dOp subD (dVar 0) (dC (.int 2))) (dNil))) (dVar 1)) (dgSub (dVar 0) (dC (.int 2)))) (dRet (dVar 3)))) (dNext)) (dSeq (dAsg (dOp (dI (fun _ j => 0 < j) fun i j => .int (i % j)) (dCB cInt (dCons (dOp plusD (dOp (dI CMul fun i j => .int (i * j)) (dOp subD (dVar 0) (dC (.int 3))) (dC (.int 48271))) (dC (.int 11))) (dNil))) (dC (.int 2147483647))) (dgSub (dVar 0) (dC (.int 3)))) (dRet (dOp (dI (fun _ j => 0 < j) fun i j => .int (i % j)) (dCB cInt (dCons (dOp (dI CDiv fun i j => .int (i / j)) (dOp subD (dVar 0) (dC (.int 3))) (dC (.int 3))) (dNil))) (dVar 1)))))
/-- _law_pick, level 2, slots 0:d 1:menu -/
def r__law_pick (s__law_take : DSp) : DS := dRet (dOp subD (dVar 1) (dCall s__law_take (dCons (dVar 0) (dCons (dCB cLen (dCons (dVar 1) (dNil))) (dNil)))))
/-- _law_shape_over, level 3, slots 0:d 1:names 2:most 3:facts 4:items 5:k 6:one 7:two 8:three 9:kind 10:side -/
def r__law_shape_over (s__law_take : DSp) (s__law_pick : DSp) : DS := dSeq (dAsg (dLstM (dNil)) (dgName 3)) (dSeq (dAsg (dLstM (dNil)) (dgName 4)) (dSeq (dFor (diRng1 (dCons (dCall s__law_take (dCons (dVar 0) (dCons (dOp plusD (dVar 2) (dC (.int 1))) (dNil)))) (dNil))) (dgName 5) (dSeq (dAsg (dFrz (dLc (diIt (dTup (dCons (dC (.int 0)) (dCons (dC (.int 1)) (dCons (dC (.int 2)) (dNil)))))) (dgName 10) (tYesD) (dCall s__law_pick (dCons (dVar 0) (dCons (dOp plusD (dVar 1) (dLst (dCons (dC (.int 0)) (dCons (dC (.int 4)) (dNil))))) (dNil)))) [10])) (dgLst 3 (dgCons (dgName 6) (dgCons (dgName 7) (dgCons (dgName 8) (dgNil)))))) (dSeq (dAsg (dCall s__law_take (dCons (dVar 0) (dCons (dC (.int 5)) (dNil)))) (dgName 9)) (dIfS (dTest (dOp (eqD false) (dVar 9) (dC (.int 0)))) (dDrop (dBM "list" mAppend (dVar 3) (dCons (dTup (dCons (dCall s__law_pick (dCons (dVar 0) (dCons (dLst (dCons (dC (.str "eq")) (dCons (dC (.str "ne")) (dNil)))) (dNil)))) (dCons (dVar 6) (dCons (dVar 7) (dNil))))) (dNil)))) (dIfS (dTest (dOp (dI0 fun i j => .bl (decide (i < j))) (dVar 9) (dC (.int 3)))) (dDrop (dBM "list" mAppend (dVar 4) (dCons (dTup (dCons (dC (.str "cell")) (dCons (dCall s__law_pick (dCons (dVar 0) (dCons (dLst (dCons (dC (.int 12)) (dCons (dC (.int 12)) (dCons (dOp plusD (dC (.int 1)) (dCall s__law_take (dCons (dVar 0) (dCons (dC (.int 12)) (dNil))))) (dNil))))) (dNil)))) (dCons (dVar 6) (dCons (dVar 7) (dCons (dVar 8) (dNil))))))) (dNil)))) (dDrop (dBM "list" mAppend (dVar 4) (dCons (dIf (dTest (dOp (eqD false) (dVar 9) (dC (.int 3)))) (dTup (dCons (dC (.str "list")) (dCons (dVar 6) (dCons (dVar 7) (dNil))))) (dTup (dCons (dC (.str "tree")) (dCons (dVar 6) (dNil))))) (dNil))))))))) (dRet (dTup (dCons (dTup (dNil)) (dCons (dCB cTuple (dCons (dVar 3) (dNil))) (dCons (dCB cTuple (dCons (dVar 4) (dNil))) (dNil))))))))
/-- _law_with_unknown, level 3, slots 0:d 1:names 2:shape 3:cell 4:unknown -/
def r__law_with_unknown (s__law_take : DSp) (s__law_pick : DSp) : DS := dSeq (dIfS (dTest (dOp (eqD false) (dCall s__law_take (dCons (dVar 0) (dCons (dC (.int 2)) (dNil)))) (dC (.int 0)))) (dRet (dVar 2)) (dNext)) (dSeq (dAsg (dTup (dCons (dC (.str "cell")) (dCons (dC (.int 12)) (dCons (dCall s__law_pick (dCons (dVar 0) (dCons (dOp plusD (dVar 1) (dLst (dCons (dC (.int 3)) (dNil)))) (dNil)))) (dCons (dC (.str "dd")) (dCons (dCall s__law_pick (dCons (dVar 0) (dCons (dLst (dCons (dC (.str "dd")) (dCons (dC (.str "nn")) (dCons (dC (.int 0)) (dNil))))) (dNil)))) (dNil))))))) (dgName 3)) (dSeq (dAsg (dIf (dTest (dOp (eqD false) (dOp subD (dVar 3) (dC (.int 4))) (dC (.str "nn")))) (dTup (dCons (dC (.str "dd")) (dCons (dC (.str "nn")) (dNil)))) (dTup (dCons (dC (.str "dd")) (dNil)))) (dgName 4)) (dRet (dTup (dCons (dVar 4) (dCons (dOp subD (dVar 2) (dC (.int 1))) (dCons (dOp plusD (dOp subD (dVar 2) (dC (.int 2))) (dTup (dCons (dVar 3) (dNil)))) (dNil))))))))
/-- _law_any, level 4, slots 0:d 1:names 2:most 3:k -/
def r__law_any (s__law_take : DSp) (s__law_shape_over : DSp) (s__law_with_unknown : DSp) : DS := dRet (dCB cTuple (dCons (dFrz (dLc (diRng1 (dCons (dOp plusD (dC (.int 1)) (dCall s__law_take (dCons (dVar 0) (dCons (dC (.int 2)) (dNil))))) (dNil))) (dgName 3) (tYesD) (dCall s__law_with_unknown (dCons (dVar 0) (dCons (dVar 1) (dCons (dCall s__law_shape_over (dCons (dVar 0) (dCons (dVar 1) (dCons (dVar 2) (dNil))))) (dNil))))) [3])) (dNil)))
/-- _law_called, level 3, slots 0:d 1:own 2:name 3:many 4:target 5:k -/
def r__law_called (s__law_pick : DSp) : DS := dSeq (dAsg (dCall s__law_pick (dCons (dVar 0) (dCons (dOp subD (dVar 1) (dC (.str "calls"))) (dNil)))) (dgTup 2 (dgCons (dgName 2) (dgCons (dgName 3) (dgNil))))) (dSeq (dAsg (dCall s__law_pick (dCons (dVar 0) (dCons (dOp plusD (dOp subD (dVar 1) (dC (.str "locals"))) (dLst (dCons (dC .non) (dNil)))) (dNil)))) (dgName 4)) (dRet (dTup (dCons (dVar 4) (dCons (dVar 2) (dCons (dCB cTuple (dCons (dFrz (dLc (diRng1 (dCons (dVar 3) (dNil))) (dgName 5) (tYesD) (dCall s__law_pick (dCons (dVar 0) (dCons (dOp plusD (dOp subD (dVar 1) (dC (.str "reads"))) (dLst (dCons (dC (.int 0)) (dCons (dC (.int 7)) (dNil))))) (dNil)))) [5])) (dNil))) (dNil)))))))
/-- _law_plain, level 3, slots 0:d 1:own 2:x 3:s 4:t 5:a 6:k -/
def r__law_plain (s__law_pick : DSp) (s__law_take : DSp) : DS := dSeq (dAsg (dCall s__law_pick (dCons (dVar 0) (dCons (dOp subD (dVar 1) (dC (.str "locals"))) (dNil)))) (dgName 2)) (dSeq (dAsg (dFrz (dLc (diIt (dTup (dCons (dC (.int 0)) (dCons (dC (.int 1)) (dNil))))) (dgName 6) (tYesD) (dCall s__law_pick (dCons (dVar 0) (dCons (dOp plusD (dOp subD (dVar 1) (dC (.str "reads"))) (dLst (dCons (dC (.int 0)) (dCons (dC (.int 3)) (dNil))))) (dNil)))) [6])) (dgLst 2 (dgCons (dgName 3) (dgCons (dgName 4) (dgNil))))) (dSeq (dAsg (dCall s__law_pick (dCons (dVar 0) (dCons (dOp subD (dVar 1) (dC (.str "reads"))) (dNil)))) (dgName 5)) (dRet (dCall s__law_pick (dCons (dVar 0) (dCons (dLst (dCons (dTup (dCons (dC (.str "set")) (dCons (dVar 2) (dCons (dTup (dCons (dC (.str "term")) (dCons (dCall s__law_pick (dCons (dVar 0) (dCons (dLst (dCons (dVar 3) (dCons (dU (fun i => -i) (dC (.int 5))) (dCons (dOp (dI CPow fun i j => .int (i ^ j.toNat)) (dC (.int 10)) (dC (.int 20))) (dNil))))) (dNil)))) (dNil)))) (dNil))))) (dCons (dTup (dCons (dC (.str "set")) (dCons (dVar 2) (dCons (dTup (dCons (dCall s__law_pick (dCons (dVar 0) (dCons (dLst (dCons (dC (.str "add")) (dCons (dC (.str "sub")) (dNil)))) (dNil)))) (dCons (dVar 3) (dCons (dVar 4) (dNil))))) (dNil))))) (dCons (dTup (dCons (dC (.str "load")) (dCons (dVar 2) (dCons (dVar 5) (dCons (dCall s__law_take (dCons (dVar 0) (dCons (dC (.int 2)) (dNil)))) (dNil)))))) (dCons (dTup (dCons (dC (.str "store")) (dCons (dVar 5) (dCons (dCall s__law_take (dCons (dVar 0) (dCons (dC (.int 2)) (dNil)))) (dCons (dVar 3) (dNil)))))) (dCons (dTup (dCons (dC (.str "new")) (dCons (dVar 2) (dCons (dVar 3) (dCons (dVar 4) (dNil)))))) (dCons (dTup (dCons (dC (.str "load")) (dCons (dVar 2) (dCons (dVar 5) (dCons (dCall s__law_take (dCons (dVar 0) (dCons (dC (.int 2)) (dNil)))) (dNil)))))) (dCons (dTup (dCons (dC (.str "new")) (dCons (dVar 2) (dCons (dVar 3) (dCons (dVar 4) (dNil)))))) (dCons (dTup (dCons (dC (.str "free")) (dCons (dVar 5) (dNil)))) (dCons (dTup (dCons (dC (.str "set")) (dCons (dVar 2) (dCons (dTup (dCons (dC (.str "term")) (dCons (dVar 3) (dNil)))) (dNil))))) (dNil))))))))))) (dNil)))))))
/-- _law_body, level 5, slots 0:d 1:own 2:depth 3:many 4:rows 5:k 6:kind 7:test 8:told 9:one 10:other -/
def r__law_body (s__law_take : DSp) (s__law_pick : DSp) (s__law_body : DSp) (s__law_any : DSp) (s__law_called : DSp) (s__law_plain : DSp) : DS := dSeq (dAsg (dLstM (dNil)) (dgName 4)) (dSeq (dFor (diRng1 (dCons (dCall s__law_take (dCons (dVar 0) (dCons (dVar 3) (dNil)))) (dNil))) (dgName 5) (dSeq (dAsg (dCall s__law_take (dCons (dVar 0) (dCons (dC (.int 12)) (dNil)))) (dgName 6)) (dSeq (dAsg (dTup (dCons (dCall s__law_pick (dCons (dVar 0) (dCons (dLst (dCons (dC (.str "==")) (dCons (dC (.str "!=")) (dCons (dC (.str "<")) (dNil))))) (dNil)))) (dCons (dCall s__law_pick (dCons (dVar 0) (dCons (dOp plusD (dOp subD (dVar 1) (dC (.str "reads"))) (dLst (dCons (dC (.int 2)) (dNil)))) (dNil)))) (dCons (dCall s__law_pick (dCons (dVar 0) (dCons (dOp plusD (dOp subD (dVar 1) (dC (.str "reads"))) (dLst (dCons (dC (.int 0)) (dCons (dU (fun i => -i) (dC (.int 1))) (dNil))))) (dNil)))) (dNil))))) (dgName 7)) (dIfS (dAnd (dTest (dOp (eqD false) (dVar 6) (dC (.int 0)))) (dTest (dOp (dI0 fun i j => .bl (decide (i < j))) (dVar 2) (dC (.int 2))))) (dDrop (dBM "list" mAppend (dVar 4) (dCons (dOp plusD (dOp plusD (dTup (dCons (dC (.str "if")) (dNil))) (dVar 7)) (dTup (dCons (dCall s__law_body (dCons (dVar 0) (dCons (dVar 1) (dCons (dOp plusD (dVar 2) (dC (.int 1))) (dCons (dC (.int 3)) (dNil)))))) (dCons (dCall s__law_body (dCons (dVar 0) (dCons (dVar 1) (dCons (dOp plusD (dVar 2) (dC (.int 1))) (dCons (dC (.int 2)) (dNil)))))) (dNil))))) (dNil)))) (dIfS (dAnd (dTest (dOp (eqD false) (dVar 6) (dC (.int 1)))) (dTest (dOp (dI0 fun i j => .bl (decide (i < j))) (dVar 2) (dC (.int 2))))) (dSeq (dAsg (dCall s__law_pick (dCons (dVar 0) (dCons (dLst (dCons (dC .non) (dCons (dCall s__law_any (dCons (dVar 0) (dCons (dOp subD (dVar 1) (dC (.str "told"))) (dCons (dC (.int 2)) (dNil))))) (dNil)))) (dNil)))) (dgName 8)) (dDrop (dBM "list" mAppend (dVar 4) (dCons (dOp plusD (dOp plusD (dTup (dCons (dC (.str "while")) (dNil))) (dVar 7)) (dTup (dCons (dVar 8) (dCons (dCall s__law_body (dCons (dVar 0) (dCons (dVar 1) (dCons (dOp plusD (dVar 2) (dC (.int 1))) (dCons (dC (.int 4)) (dNil)))))) (dNil))))) (dNil))))) (dIfS (dAnd (dTest (dOp (inD false) (dVar 6) (dTup (dCons (dC (.int 2)) (dCons (dC (.int 3)) (dNil)))))) (dTru (dOp subD (dVar 1) (dC (.str "calls"))))) (dSeq (dPar 9 10 (dCons (dCall s__law_called (dCons (dVar 0) (dCons (dVar 1) (dNil)))) (dCons (dCall s__law_called (dCons (dVar 0) (dCons (dVar 1) (dNil)))) (dNil)))) (dIfS (dOr (dTest (dOp (eqD false) (dVar 6) (dC (.int 2)))) (dAnd (dTest (dOp (isN true) (dOp subD (dVar 9) (dC (.int 0))) (dC .non))) (dTest (dOp (eqD false) (dOp subD (dVar 9) (dC (.int 0))) (dOp subD (dVar 10) (dC (.int 0))))))) (dDrop (dBM "list" mAppend (dVar 4) (dCons (dOp plusD (dTup (dCons (dC (.str "call")) (dNil))) (dVar 9)) (dNil)))) (dDrop (dBM "list" mAppend (dVar 4) (dCons (dTup (dCons (dC (.str "both")) (dCons (dVar 9) (dCons (dVar 10) (dNil))))) (dNil)))))) (dIfS (dAnd (dTest (dOp (eqD false) (dVar 6) (dC (.int 4)))) (dTru (dOp subD (dVar 1) (dC (.str "locks"))))) (dDrop (dBM "list" mAppend (dVar 4) (dCons (dTup (dCons (dCall s__law_pick (dCons (dVar 0) (dCons (dLst (dCons (dC (.str "take")) (dCons (dC (.str "take")) (dCons (dC (.str "give")) (dNil))))) (dNil)))) (dCons (dCall s__law_pick (dCons (dVar 0) (dCons (dOp subD (dVar 1) (dC (.str "locks"))) (dNil)))) (dNil)))) (dNil)))) (dIfS (dAnd (dTest (dOp (eqD false) (dVar 6) (dC (.int 5)))) (dTest (dOp (dI0 fun i j => .bl (decide (j < i))) (dVar 2) (dC (.int 0))))) (dDrop (dBM "list" mAppend (dVar 4) (dCons (dTup (dCons (dC (.str "return")) (dCons (dCall s__law_pick (dCons (dVar 0) (dCons (dOp plusD (dOp subD (dVar 1) (dC (.str "reads"))) (dLst (dCons (dC (.int 0)) (dNil)))) (dNil)))) (dNil)))) (dNil)))) (dDrop (dBM "list" mAppend (dVar 4) (dCons (dCall s__law_plain (dCons (dVar 0) (dCons (dVar 1) (dNil)))) (dNil)))))))))))) (dRet (dCB cTuple (dCons (dVar 4) (dNil)))))
/-- _law_proc, level 6, slots 0:d 1:name 2:names 3:locks 4:calls 5:size 6:params 7:ghosts 8:uses 9:own 10:told 11:requires 12:ensures 13:body 14:lock 15:row -/
def r__law_proc (s__law_take : DSp) (s__law_shape_over : DSp) (s__law_with_unknown : DSp) (s__law_any : DSp) (s__law_body : DSp) (s__law_pick : DSp) : DS := dSeq (dAsg (dCB cTuple (dCons (dSlice (dLst (dCons (dC (.str "x")) (dCons (dC (.str "y")) (dCons (dC (.str "z")) (dNil))))) (doNone) (doSome (dCall s__law_take (dCons (dVar 0) (dCons (dC (.int 3)) (dNil)))))) (dNil))) (dgName 6)) (dSeq (dAsg (dIf (dAnd (dTru (dVar 6)) (dTest (dOp (eqD false) (dCall s__law_take (dCons (dVar 0) (dCons (dC (.int 2)) (dNil)))) (dC (.int 0))))) (dTup (dCons (dC (.str "gg")) (dNil))) (dTup (dNil))) (dgName 7)) (dSeq (dAsg (dCB cTuple (dCons (dFrz (dLc (diIt (dVar 3)) (dgName 14) (dTest (dOp (dI0 fun i j => .bl (decide (j < i))) (dCall s__law_take (dCons (dVar 0) (dCons (dC (.int 3)) (dNil)))) (dC (.int 0)))) (dVar 14) [14])) (dNil))) (dgName 8)) (dSeq (dAsg (dDisp [(dC (.str "locals"), dSlice (dLst (dCons (dC (.str "a")) (dCons (dC (.str "b")) (dCons (dC (.str "c")) (dNil))))) (doNone) (doSome (dOp plusD (dC (.int 1)) (dCall s__law_take (dCons (dVar 0) (dCons (dC (.int 3)) (dNil))))))), (dC (.str "calls"), dFrz (dLc (diMut (dVar 4)) (dgName 15) (dTru (dCB cAll (dCons (dFrz (dLc (diIt (dOp subD (dVar 15) (dC (.int 2)))) (dgName 14) (tYesD) (dOp (inD false) (dVar 14) (dVar 8)) [14])) (dNil)))) (dSlice (dVar 15) (doNone) (doSome (dC (.int 2)))) [15]))]) (dgName 9)) (dSeq (dAsg (dOp plusD (dOp plusD (dCB cList (dCons (dVar 6) (dNil))) (dOp subD (dVar 9) (dC (.str "locals")))) (dVar 2)) (dgSub (dVar 9) (dC (.str "reads")))) (dSeq (dAsg (dCB cList (dCons (dVar 8) (dNil))) (dgSub (dVar 9) (dC (.str "locks")))) (dSeq (dAsg (dOp plusD (dOp plusD (dOp plusD (dCB cList (dCons (dVar 6) (dNil))) (dVar 2)) (dOp subD (dVar 9) (dC (.str "locals")))) (dCB cList (dCons (dVar 7) (dNil)))) (dgSub (dVar 9) (dC (.str "told")))) (dSeq (dAsg (dOp plusD (dCB cList (dCons (dVar 6) (dNil))) (dVar 2)) (dgName 10)) (dSeq (dAsg (dCall s__law_with_unknown (dCons (dVar 0) (dCons (dVar 10) (dCons (dCall s__law_shape_over (dCons (dVar 0) (dCons (dVar 10) (dCons (dC (.int 2)) (dNil))))) (dNil))))) (dgName 11)) (dSeq (dIfS (dTru (dVar 7)) (dAsg (dTup (dCons (dOp subD (dVar 11) (dC (.int 0))) (dCons (dOp subD (dVar 11) (dC (.int 1))) (dCons (dOp plusD (dOp subD (dVar 11) (dC (.int 2))) (dTup (dCons (dTup (dCons (dC (.str "cell")) (dCons (dC (.int 3)) (dCons (dOp subD (dVar 6) (dC (.int 0))) (dCons (dC (.int 0)) (dCons (dC (.str "gg")) (dNil))))))) (dNil)))) (dNil))))) (dgName 11)) (dNext)) (dSeq (dAsg (dCall s__law_any (dCons (dVar 0) (dCons (dOp plusD (dOp plusD (dVar 10) (dCB cList (dCons (dVar 7) (dNil)))) (dLst (dCons (dC (.str "result")) (dNil)))) (dCons (dC (.int 2)) (dNil))))) (dgName 12)) (dSeq (dAsg (dOp plusD (dCall s__law_body (dCons (dVar 0) (dCons (dVar 9) (dCons (dC (.int 0)) (dCons (dVar 5) (dNil)))))) (dCall s__law_pick (dCons (dVar 0) (dCons (dLst (dCons (dTup (dNil)) (dCons (dTup (dCons (dTup (dCons (dC (.str "return")) (dCons (dCall s__law_pick (dCons (dVar 0) (dCons (dOp subD (dVar 9) (dC (.str "reads"))) (dNil)))) (dNil)))) (dNil))) (dNil)))) (dNil))))) (dgName 13)) (dRet (dTup (dCons (dVar 1) (dCons (dVar 6) (dCons (dVar 7) (dCons (dVar 8) (dCons (dVar 11) (dCons (dVar 12) (dCons (dCB cTuple (dCons (dOp subD (dVar 9) (dC (.str "locals"))) (dNil))) (dCons (dVar 13) (dNil))))))))))))))))))))))
/-- _law_program, level 7, slots 0:d 1:size 2:names 3:locks 4:procs 5:calls 6:k 7:proc 8:lock -/
def r__law_program (s__law_take : DSp) (s__law_proc : DSp) (s__law_any : DSp) : DS := dSeq (dAsg (dSlice (dLst (dCons (dC (.str "g1")) (dCons (dC (.str "g2")) (dNil)))) (doNone) (doSome (dCall s__law_take (dCons (dVar 0) (dCons (dC (.int 3)) (dNil)))))) (dgName 2)) (dSeq (dAsg (dSlice (dLst (dCons (dC (.str "m1")) (dCons (dC (.str "m2")) (dNil)))) (doNone) (doSome (dCall s__law_take (dCons (dVar 0) (dCons (dC (.int 3)) (dNil)))))) (dgName 3)) (dSeq (dAsg (dLstM (dNil)) (dgName 4)) (dSeq (dAsg (dLstM (dNil)) (dgName 5)) (dSeq (dFor (diRng1 (dCons (dOp plusD (dC (.int 1)) (dCall s__law_take (dCons (dVar 0) (dCons (dC (.int 3)) (dNil))))) (dNil))) (dgName 6) (dSeq (dAsg (dCall s__law_proc (dCons (dVar 0) (dCons (dOp plusD (dC (.str "p")) (dCB cStrI (dCons (dVar 6) (dNil)))) (dCons (dVar 2) (dCons (dVar 3) (dCons (dVar 5) (dCons (dVar 1) (dNil)))))))) (dgName 7)) (dSeq (dDrop (dBM "list" mAppend (dVar 4) (dCons (dVar 7) (dNil)))) (dDrop (dBM "list" mAppend (dVar 5) (dCons (dTup (dCons (dOp subD (dVar 7) (dC (.int 0))) (dCons (dCB cLen (dCons (dOp subD (dVar 7) (dC (.int 1))) (dNil))) (dCons (dOp subD (dVar 7) (dC (.int 3))) (dNil))))) (dNil))))))) (dRet (dTup (dCons (dCB cTuple (dCons (dVar 2) (dNil))) (dCons (dCB cTuple (dCons (dFrz (dLc (diIt (dVar 3)) (dgName 8) (tYesD) (dTup (dCons (dVar 8) (dCons (dCall s__law_any (dCons (dVar 0) (dCons (dOp plusD (dVar 2) (dLst (dCons (dC (.int 9)) (dNil)))) (dCons (dC (.int 2)) (dNil))))) (dNil)))) [8])) (dNil))) (dCons (dCB cTuple (dCons (dVar 4) (dNil))) (dNil))))))))))
/-- _law_flat, level 1, slots 0:body 1:rows 2:loops 3:row 4:at 5:over 6:head -/
def r__law_flat (s__law_flat : DSp) : DS := dFor (diIt (dVar 0)) (dgName 3) (dIfS (dTest (dOp (eqD false) (dOp subD (dVar 3) (dC (.int 0))) (dC (.str "if")))) (dSeq (dAsg (dCB cLen (dCons (dVar 1) (dNil))) (dgName 4)) (dSeq (dDrop (dBM "list" mAppend (dVar 1) (dCons (dC .non) (dNil)))) (dSeq (dDrop (dCall s__law_flat (dCons (dOp subD (dVar 3) (dC (.int 4))) (dCons (dVar 1) (dCons (dVar 2) (dNil)))))) (dSeq (dAsg (dCB cLen (dCons (dVar 1) (dNil))) (dgName 5)) (dSeq (dDrop (dBM "list" mAppend (dVar 1) (dCons (dC .non) (dNil)))) (dSeq (dDrop (dCall s__law_flat (dCons (dOp subD (dVar 3) (dC (.int 5))) (dCons (dVar 1) (dCons (dVar 2) (dNil)))))) (dSeq (dAsg (dTup (dCons (dC (.str "test")) (dCons (dOp subD (dVar 3) (dC (.int 1))) (dCons (dOp subD (dVar 3) (dC (.int 2))) (dCons (dOp subD (dVar 3) (dC (.int 3))) (dCons (dOp plusD (dVar 4) (dC (.int 1))) (dCons (dOp plusD (dVar 5) (dC (.int 1))) (dNil)))))))) (dgSub (dVar 1) (dVar 4))) (dAsg (dTup (dCons (dC (.str "go")) (dCons (dCB cLen (dCons (dVar 1) (dNil))) (dNil)))) (dgSub (dVar 1) (dVar 5)))))))))) (dIfS (dTest (dOp (eqD false) (dOp subD (dVar 3) (dC (.int 0))) (dC (.str "while")))) (dSeq (dAsg (dCB cLen (dCons (dVar 1) (dNil))) (dgName 6)) (dSeq (dDrop (dBM "list" mAppend (dVar 1) (dCons (dTup (dCons (dC (.str "head")) (dCons (dCB cLen (dCons (dVar 2) (dNil))) (dNil)))) (dNil)))) (dSeq (dDrop (dBM "list" mAppend (dVar 2) (dCons (dOp subD (dVar 3) (dC (.int 4))) (dNil)))) (dSeq (dDrop (dBM "list" mAppend (dVar 1) (dCons (dC .non) (dNil)))) (dSeq (dDrop (dCall s__law_flat (dCons (dOp subD (dVar 3) (dC (.int 5))) (dCons (dVar 1) (dCons (dVar 2) (dNil)))))) (dSeq (dDrop (dBM "list" mAppend (dVar 1) (dCons (dTup (dCons (dC (.str "go")) (dCons (dVar 6) (dNil)))) (dNil)))) (dAsg (dTup (dCons (dC (.str "test")) (dCons (dOp subD (dVar 3) (dC (.int 1))) (dCons (dOp subD (dVar 3) (dC (.int 2))) (dCons (dOp subD (dVar 3) (dC (.int 3))) (dCons (dOp plusD (dVar 6) (dC (.int 2))) (dCons (dCB cLen (dCons (dVar 1) (dNil))) (dNil)))))))) (dgSub (dVar 1) (dOp plusD (dVar 6) (dC (.int 1))))))))))) (dDrop (dBM "list" mAppend (dVar 1) (dCons (dVar 3) (dNil))))))
/-- _law_code, level 2, slots 0:proc 1:rows 2:loops -/
def r__law_code (s__law_flat : DSp) : DS := dSeq (dAsg (dLstM (dNil)) (dgName 1)) (dSeq (dAsg (dLstM (dNil)) (dgName 2)) (dSeq (dDrop (dCall s__law_flat (dCons (dOp subD (dVar 0) (dC (.int 7))) (dCons (dVar 1) (dCons (dVar 2) (dNil)))))) (dRet (dTup (dCons (dOp plusD (dVar 1) (dLst (dCons (dTup (dCons (dC (.str "return")) (dCons (dC (.int 0)) (dNil)))) (dNil)))) (dCons (dVar 2) (dNil)))))))
/-- Code._block, level 1, slots 0:self 1:body 2:row -/
def r_Code__block (K : PySem.W.Frag) (C_Code : Addr) (s_Code__if : DSp) (s_Code__while : DSp) : DS := dFor (diIt (dVar 1)) (dgName 2) (dIfS (dTest (dOp (eqD false) (dOp subD (dVar 2) (dC (.int 0))) (dC (.str "if")))) (dDrop (dMeth C_Code "_if" s_Code__if (dVar 0) (dCons (dVar 2) (dNil)))) (dIfS (dTest (dOp (eqD false) (dOp subD (dVar 2) (dC (.int 0))) (dC (.str "while")))) (dDrop (dMeth C_Code "_while" s_Code__while (dVar 0) (dCons (dVar 2) (dNil)))) (dDrop (dBM "list" mAppend (dFld K "rows" (dVar 0)) (dCons (dVar 2) (dNil))))))
/-- Code._test, level 1, slots 0:self 1:row -/
def r_Code__test (K : PySem.W.Frag) : DS := dSeq (dDrop (dBM "list" mAppend (dFld K "rows" (dVar 0)) (dCons (dTup (dCons (dC (.str "test")) (dCons (dOp subD (dVar 1) (dC (.int 1))) (dCons (dOp subD (dVar 1) (dC (.int 2))) (dCons (dOp subD (dVar 1) (dC (.int 3))) (dCons (dC (.int 0)) (dCons (dC (.int 0)) (dNil)))))))) (dNil)))) (dRet (dOp (dI0 fun i j => .int (i - j)) (dCB cLen (dCons (dFld K "rows" (dVar 0)) (dNil))) (dC (.int 1))))
/-- Code._goals, level 1, slots 0:self 1:at 2:yes 3:no -/
def r_Code__goals (K : PySem.W.Frag) : DS := dAsg (dOp plusD (dSlice (dOp subD (dFld K "rows" (dVar 0)) (dVar 1)) (doNone) (doSome (dC (.int 4)))) (dTup (dCons (dVar 2) (dCons (dVar 3) (dNil))))) (dgSub (dFld K "rows" (dVar 0)) (dVar 1))
/-- Code._if, level 2, slots 0:self 1:row 2:at 3:over -/
def r_Code__if (K : PySem.W.Frag) (C_Code : Addr) (s_Code__test : DSp) (s_Code__block : DSp) (s_Code__goals : DSp) : DS := dSeq (dAsg (dMeth C_Code "_test" s_Code__test (dVar 0) (dCons (dVar 1) (dNil))) (dgName 2)) (dSeq (dDrop (dMeth C_Code "_block" s_Code__block (dVar 0) (dCons (dOp subD (dVar 1) (dC (.int 4))) (dNil)))) (dSeq (dAsg (dCB cLen (dCons (dFld K "rows" (dVar 0)) (dNil))) (dgName 3)) (dSeq (dDrop (dBM "list" mAppend (dFld K "rows" (dVar 0)) (dCons (dTup (dCons (dC (.str "go")) (dCons (dC (.int 0)) (dNil)))) (dNil)))) (dSeq (dDrop (dMeth C_Code "_block" s_Code__block (dVar 0) (dCons (dOp subD (dVar 1) (dC (.int 5))) (dNil)))) (dSeq (dAsg (dTup (dCons (dC (.str "go")) (dCons (dCB cLen (dCons (dFld K "rows" (dVar 0)) (dNil))) (dNil)))) (dgSub (dFld K "rows" (dVar 0)) (dVar 3))) (dDrop (dMeth C_Code "_goals" s_Code__goals (dVar 0) (dCons (dVar 2) (dCons (dOp plusD (dVar 2) (dC (.int 1))) (dCons (dOp plusD (dVar 3) (dC (.int 1))) (dNil)))))))))))
/-- Code._while, level 2, slots 0:self 1:row 2:head 3:at -/
def r_Code__while (K : PySem.W.Frag) (C_Code : Addr) (s_Code__test : DSp) (s_Code__block : DSp) (s_Code__goals : DSp) : DS := dSeq (dAsg (dCB cLen (dCons (dFld K "rows" (dVar 0)) (dNil))) (dgName 2)) (dSeq (dDrop (dBM "list" mAppend (dFld K "rows" (dVar 0)) (dCons (dTup (dCons (dC (.str "head")) (dCons (dCB cLen (dCons (dFld K "loops" (dVar 0)) (dNil))) (dNil)))) (dNil)))) (dSeq (dDrop (dBM "list" mAppend (dFld K "loops" (dVar 0)) (dCons (dOp subD (dVar 1) (dC (.int 4))) (dNil)))) (dSeq (dAsg (dMeth C_Code "_test" s_Code__test (dVar 0) (dCons (dVar 1) (dNil))) (dgName 3)) (dSeq (dDrop (dMeth C_Code "_block" s_Code__block (dVar 0) (dCons (dOp subD (dVar 1) (dC (.int 5))) (dNil)))) (dSeq (dDrop (dBM "list" mAppend (dFld K "rows" (dVar 0)) (dCons (dTup (dCons (dC (.str "go")) (dCons (dVar 2) (dNil)))) (dNil)))) (dDrop (dMeth C_Code "_goals" s_Code__goals (dVar 0) (dCons (dVar 3) (dCons (dOp plusD (dVar 3) (dC (.int 1))) (dCons (dCB cLen (dCons (dFld K "rows" (dVar 0)) (dNil))) (dNil)))))))))))
/-- Code.__init__, level 2, slots 0:self 1:body -/
def r_Code___init__ (K : PySem.W.Frag) (C_Code : Addr) (s_Code__block : DSp) : DS := dSeq (dsFld K "rows" (dVar 0) (dLstM (dNil))) (dSeq (dsFld K "loops" (dVar 0) (dLstM (dNil))) (dSeq (dDrop (dMeth C_Code "_block" s_Code__block (dVar 0) (dCons (dVar 1) (dNil)))) (dDrop (dBM "list" mAppend (dFld K "rows" (dVar 0)) (dCons (dTup (dCons (dC (.str "return")) (dCons (dC (.int 0)) (dNil)))) (dNil))))))
/-- code_of, level 4, slots 0:proc 1:code -/
def r_code_of (K : PySem.W.Frag) (C_Code : Addr) (s_Code___init__ : DSp) : DS := dSeq (dAsg (dMake C_Code s_Code___init__ (dCons (dOp subD (dVar 0) (dC (.int 7))) (dNil))) (dgName 1)) (dRet (dTup (dCons (dCB cTuple (dCons (dFld K "rows" (dVar 1)) (dNil))) (dCons (dCB cTuple (dCons (dFld K "loops" (dVar 1)) (dNil))) (dNil)))))
/-- law, level 8, slots 0:script 1:d 2:program 3:proc 4:rows 5:loops 6:body 7:own 8:told -/
def r_law (s__law_begin : DSp) (s__law_program : DSp) (s__law_code : DSp) (s_code_of : DSp) : DS := dSeq (dAsg (dCall s__law_begin (dCons (dVar 0) (dNil))) (dgName 1)) (dSeq (dAsg (dCall s__law_program (dCons (dVar 1) (dCons (dC (.int 8)) (dNil)))) (dgName 2)) (dSeq (dFor (diIt (dOp subD (dVar 2) (dC (.int 2)))) (dgName 3) (dSeq (dAsg (dCall s__law_code (dCons (dVar 3) (dNil))) (dgTup 2 (dgCons (dgName 4) (dgCons (dgName 5) (dgNil))))) (dSeq (dIfS (dTest (dOp (eqD true) (dCall s_code_of (dCons (dVar 3) (dNil))) (dTup (dCons (dCB cTuple (dCons (dVar 4) (dNil))) (dCons (dCB cTuple (dCons (dVar 5) (dNil))) (dNil)))))) (dRet (dC (.bl false))) (dNext)) (dFor (diIt (dTup (dCons (dSlice (dOp subD (dVar 3) (dC (.int 7))) (doSome (dC (.int 1))) (doNone)) (dCons (dOp plusD (dOp subD (dVar 3) (dC (.int 7))) (dOp subD (dVar 3) (dC (.int 7)))) (dCons (dTup (dCons (dTup (dCons (dC (.str "if")) (dCons (dC (.str "==")) (dCons (dC (.int 0)) (dCons (dC (.int 0)) (dCons (dOp subD (dVar 3) (dC (.int 7))) (dCons (dOp subD (dVar 3) (dC (.int 7))) (dNil)))))))) (dNil))) (dCons (dTup (dCons (dTup (dCons (dC (.str "while")) (dCons (dC (.str "<")) (dCons (dC (.str "a")) (dCons (dC (.int 3)) (dCons (dC .non) (dCons (dOp subD (dVar 3) (dC (.int 7))) (dNil)))))))) (dNil))) (dNil))))))) (dgName 6) (dSeq (dAsg (dOp plusD (dSlice (dVar 3) (doNone) (doSome (dC (.int 7)))) (dTup (dCons (dVar 6) (dNil)))) (dgName 7)) (dSeq (dAsg (dCall s__law_code (dCons (dVar 7) (dNil))) (dgTup 2 (dgCons (dgName 4) (dgCons (dgName 5) (dgNil))))) (dSeq (dAsg (dCall s_code_of (dCons (dVar 7) (dNil))) (dgName 8)) (dIfS (dOr (dTest (dOp (eqD true) (dVar 8) (dTup (dCons (dCB cTuple (dCons (dVar 4) (dNil))) (dCons (dCB cTuple (dCons (dVar 5) (dNil))) (dNil)))))) (dNot (dTru (dCB cIsi (dCons (dOp subD (dVar 8) (dC (.int 0))) (dCons (dC (.ty "tuple")) (dNil))))))) (dRet (dC (.bl false))) (dNext))))))))) (dRet (dC (.bl true)))))
end K15


set_option Elab.async false
set_option linter.all false
set_option maxRecDepth 100000
set_option maxHeartbeats 4000000
/-! the walks, printed by gen.py -/
namespace K15
open PySem PySem.Spec PyProof.Rows L2 Y
def topS (i : Nat) : Stmt := PySem.Challenge.pw_eachcellheld_k15_code.main.body.getD i (.Pass ⟨0, 0, 0, 0⟩)
structure Txt (K : PySem.W.Frag) (mg : Str → Option Value) : Prop where
  n_abs : mg "abs" = none
  n_all : mg "all" = none
  n_int : mg "int" = none
  n_isinstance : mg "isinstance" = none
  n_len : mg "len" = none
  n_list : mg "list" = none
  n_range : mg "range" = none
  n_str : mg "str" = none
  n_tuple : mg "tuple" = none
section
variable {P : Program} {w : World} {K : PySem.W.Frag} {mg : Str → Option Value} {base : Heap}
abbrev st__law_begin : Stmt := topS 4
abbrev N__law_begin : List Str := ["script", "seed", "cell"]
theorem sc__law_begin : FnScope N__law_begin ["script"] (defScope st__law_begin) := ⟨rfl, rfl, rfl, by decide +kernel, rfl, by decide +kernel, by decide +kernel⟩
theorem t__law_begin (T : Txt K mg) {k : Nat} {cdv : Value} {A : Around} {outer : List PySem.Env} {s0 : Shared} {H : Hp} {E : XK} {f : Addr} (hr : Room k (A.deeper (envOfC "_law_begin" (defScope st__law_begin) s0.heap.objs.size f cdv)))  :
    PSs (cxOf CX0 P w K mg base N__law_begin "_law_begin" (defScope st__law_begin) f cdv A outer s0 H E).nox (defBody st__law_begin) (upS K B0 (r__law_begin )) := by
  have nd := sc__law_begin.nd
  exact qss_cons (qs_set (i := 1) nd rfl (by first | exact Or.inl rfl | exact Or.inr rfl) (q_int)) (qss_cons (qs_for PassesOwn.never rfl (qi_it (q_var 0)) (qg_name (i := 2) nd rfl (by first | exact Or.inl rfl | exact Or.inr rfl)) (qss_one (qs_set (i := 1) nd rfl (by first | exact Or.inl rfl | exact Or.inr rfl) (q_op op_mod l_I (q_op op_plus l_plus (q_op op_plus l_plus (q_op op_mul l_I (q_var 1) (q_int)) (q_op op_mod l_I (q_callTy call_int1 l_int (by rfl) T.n_int (by decide +kernel) (qa_cons (q_var 2) (qa_nil))) (q_int))) (q_int)) (q_int))))) (qss_one (qs_ret (q_lstM (qa_cons (q_callTy call_list_of l_list (by rfl) T.n_list (by decide +kernel) (qa_cons (q_var 0) (qa_nil))) (qa_cons (q_int) (qa_cons (q_int) (qa_cons (q_var 1) (qa_nil)))))))))
abbrev st__law_take : Stmt := topS 5
abbrev N__law_take : List Str := ["d", "many", "small", "digit"]
theorem sc__law_take : FnScope N__law_take ["d", "many"] (defScope st__law_take) := ⟨rfl, rfl, rfl, by decide +kernel, rfl, by decide +kernel, by decide +kernel⟩
theorem t__law_take (T : Txt K mg) {k : Nat} {cdv : Value} {A : Around} {outer : List PySem.Env} {s0 : Shared} {H : Hp} {E : XK} {f : Addr} (hr : Room k (A.deeper (envOfC "_law_take" (defScope st__law_take) s0.heap.objs.size f cdv)))  :
    PSs (cxOf CX0 P w K mg base N__law_take "_law_take" (defScope st__law_take) f cdv A outer s0 H E).nox (defBody st__law_take) (upS K B0 (r__law_take )) := by
  have nd := sc__law_take.nd
  exact qss_cons (qs_if (PW.pt (qw_and (qt_cmp (op_eqA hr.units) l_eq (q_ix (ix_all (hu_of hr)) l_sub (q_var 0) (q_int)) (q_int) (nomark _)) (qw_and1 (qt_cmp op_lt l_I0 (q_ix (ix_all (hu_of hr)) l_sub (q_var 0) (q_int)) (q_callB call_lenA l_len (by rfl) T.n_len PySem.boot_len (qa_cons (q_ix (ix_all (hu_of hr)) l_sub (q_var 0) (q_int)) (qa_nil))) (nomark _))))) (qss_cons (qs_asg (q_callB call_abs l_abs (by rfl) T.n_abs (by decide +kernel) (qa_cons (q_callTy call_int1 l_int (by rfl) T.n_int (by decide +kernel) (qa_cons (q_ix (ix_all (hu_of hr)) l_sub (q_ix (ix_all (hu_of hr)) l_sub (q_var 0) (q_int)) (q_ix (ix_all (hu_of hr)) l_sub (q_var 0) (q_int))) (qa_nil))) (qa_nil))) (qg_sub (hu_of hr) (q_var 0) (q_int))) (qss_cons (qs_asg (q_op op_plus l_plus (q_ix (ix_all (hu_of hr)) l_sub (q_var 0) (q_int)) (q_int)) (qg_sub (hu_of hr) (q_var 0) (q_int))) (qss_one (qs_if (qt_chain op_lt l_I0 op_lt l_I0 (q_int) (q_ix (ix_all (hu_of hr)) l_sub (q_var 0) (q_int)) (q_var 1)) (qss_cons (qs_set (i := 2) nd rfl (by first | exact Or.inl rfl | exact Or.inr rfl) (q_ix (ix_all (hu_of hr)) l_sub (q_var 0) (q_int))) (qss_cons (qs_asg (q_int) (qg_sub (hu_of hr) (q_var 0) (q_int))) (qss_one (qs_ret (q_var 2))))) (qss_nil))))) (qss_nil)) (qss_cons (qs_if (qt_cmp op_gt l_I0 (q_ix (ix_all (hu_of hr)) l_sub (q_var 0) (q_int)) (q_int) (nomark _)) (qss_cons (qs_set (i := 3) nd rfl (by first | exact Or.inl rfl | exact Or.inr rfl) (q_op op_mod l_I (q_callTy call_int1 l_int (by rfl) T.n_int (by decide +kernel) (qa_cons (q_ix (ix_all (hu_of hr)) l_sub (q_var 0) (q_int)) (qa_nil))) (q_var 1))) (qss_cons (qs_asg (q_op op_fdiv l_I (q_callTy call_int1 l_int (by rfl) T.n_int (by decide +kernel) (qa_cons (q_ix (ix_all (hu_of hr)) l_sub (q_var 0) (q_int)) (qa_nil))) (q_var 1)) (qg_sub (hu_of hr) (q_var 0) (q_int))) (qss_one (qs_ret (q_var 3))))) (qss_nil)) (qss_cons (qs_asg (q_op op_mod l_I (q_callTy call_int1 l_int (by rfl) T.n_int (by decide +kernel) (qa_cons (q_op op_plus l_plus (q_op op_mul l_I (q_ix (ix_all (hu_of hr)) l_sub (q_var 0) (q_int)) (q_int)) (q_int)) (qa_nil))) (q_int)) (qg_sub (hu_of hr) (q_var 0) (q_int))) (qss_one (qs_ret (q_op op_mod l_I (q_callTy call_int1 l_int (by rfl) T.n_int (by decide +kernel) (qa_cons (q_op op_fdiv l_I (q_ix (ix_all (hu_of hr)) l_sub (q_var 0) (q_int)) (q_int)) (qa_nil))) (q_var 1))))))
abbrev st__law_pick : Stmt := topS 6
abbrev N__law_pick : List Str := ["d", "menu"]
theorem sc__law_pick : FnScope N__law_pick ["d", "menu"] (defScope st__law_pick) := ⟨rfl, rfl, rfl, by decide +kernel, rfl, by decide +kernel, by decide +kernel⟩
theorem t__law_pick (T : Txt K mg) {k : Nat} {cdv : Value} {A : Around} {outer : List PySem.Env} {s0 : Shared} {H : Hp} {E : XK} {f : Addr} (hr : Room k (A.deeper (envOfC "_law_pick" (defScope st__law_pick) s0.heap.objs.size f cdv)))  {j__law_take : Nat} {s__law_take : DSp} (c__law_take : Cal P w K mg base CX0 j__law_take "_law_take" ["d", "many"] s__law_take) (h__law_take : j__law_take ≤ k) :
    PSs (cxOf CX0 P w K mg base N__law_pick "_law_pick" (defScope st__law_pick) f cdv A outer s0 H E).nox (defBody st__law_pick) (upS K B0 (r__law_pick s__law_take)) := by
  have nd := sc__law_pick.nd
  exact qss_one (qs_ret (q_ix (ix_all (hu_of hr)) l_sub (q_var 1) (q_c c__law_take hr h__law_take rfl (qa_cons (q_var 0) (qa_cons (q_callB call_lenA l_len (by rfl) T.n_len PySem.boot_len (qa_cons (q_var 1) (qa_nil))) (qa_nil))))))
abbrev st__law_shape_over : Stmt := topS 7
abbrev N__law_shape_over : List Str := ["d", "names", "most", "facts", "items", "k", "one", "two", "three", "kind", "side"]
theorem sc__law_shape_over : FnScope N__law_shape_over ["d", "names", "most"] (defScope st__law_shape_over) := ⟨rfl, rfl, rfl, by decide +kernel, rfl, by decide +kernel, by decide +kernel⟩
theorem t__law_shape_over (T : Txt K mg) {k : Nat} {cdv : Value} {A : Around} {outer : List PySem.Env} {s0 : Shared} {H : Hp} {E : XK} {f : Addr} (hr : Room k (A.deeper (envOfC "_law_shape_over" (defScope st__law_shape_over) s0.heap.objs.size f cdv)))  {j__law_take : Nat} {s__law_take : DSp} (c__law_take : Cal P w K mg base CX0 j__law_take "_law_take" ["d", "many"] s__law_take) (h__law_take : j__law_take ≤ k) {j__law_pick : Nat} {s__law_pick : DSp} (c__law_pick : Cal P w K mg base CX0 j__law_pick "_law_pick" ["d", "menu"] s__law_pick) (h__law_pick : j__law_pick ≤ k) :
    PSs (cxOf CX0 P w K mg base N__law_shape_over "_law_shape_over" (defScope st__law_shape_over) f cdv A outer s0 H E).nox (defBody st__law_shape_over) (upS K B0 (r__law_shape_over s__law_take s__law_pick)) := by
  have nd := sc__law_shape_over.nd
  exact qss_cons (qs_set (i := 3) nd rfl (by first | exact Or.inl rfl | exact Or.inr rfl) (q_lstM (qa_nil))) (qss_cons (qs_set (i := 4) nd rfl (by first | exact Or.inl rfl | exact Or.inr rfl) (q_lstM (qa_nil))) (qss_cons (qs_for PassesOwn.never rfl (qi_rng1 rfl T.n_range (qa_cons (q_c c__law_take hr h__law_take rfl (qa_cons (q_var 0) (qa_cons (q_op op_plus l_plus (q_var 2) (q_int)) (qa_nil)))) (qa_nil))) (qg_name (i := 5) nd rfl (by first | exact Or.inl rfl | exact Or.inr rfl)) (qss_cons (qs_asg (q_frz (q_lc (own := [("side", 10)]) rfl nd (qi_it (q_tup (qa_cons (q_int) (qa_cons (q_int) (qa_cons (q_int) (qa_nil)))))) (blkOk_by (own := [("side", 10)]) (N := N__law_shape_over) (sc := defScope st__law_shape_over) (by decide +kernel)) (fun _ _ _ _ _ => pg_name (i := 10) nd rfl (Or.inl rfl)) (lg_name (by decide)) (fun _ _ _ _ _ => qts_nil) (fun _ _ _ _ _ => q_c c__law_pick hr h__law_pick rfl (qa_cons (q_var 0) (qa_cons (q_op op_plus l_plus (q_var 1) (q_lst (qa_cons (q_int) (qa_cons (q_int) (qa_nil))))) (qa_nil)))))) (qg_lst rfl (qgs_cons (qg_name (i := 6) nd rfl (by first | exact Or.inl rfl | exact Or.inr rfl)) (qgs_cons (qg_name (i := 7) nd rfl (by first | exact Or.inl rfl | exact Or.inr rfl)) (qgs_cons (qg_name (i := 8) nd rfl (by first | exact Or.inl rfl | exact Or.inr rfl)) (qgs_nil)))))) (qss_cons (qs_set (i := 9) nd rfl (by first | exact Or.inl rfl | exact Or.inr rfl) (q_c c__law_take hr h__law_take rfl (qa_cons (q_var 0) (qa_cons (q_int) (qa_nil))))) (qss_one (qs_if (qt_cmp (op_eqA hr.units) l_eq (q_var 9) (q_int) (nomark _)) (qss_one (qs_expr (q_bm PySem.F.plainAttrs_list PySem.F.slot_list_append PySem.F.type_list_append mt_append l_append (q_var 3) (qa_cons (q_tup (qa_cons (q_c c__law_pick hr h__law_pick rfl (qa_cons (q_var 0) (qa_cons (q_lst (qa_cons (q_str) (qa_cons (q_str) (qa_nil)))) (qa_nil)))) (qa_cons (q_var 6) (qa_cons (q_var 7) (qa_nil))))) (qa_nil))))) (qss_one (qs_if (qt_cmp op_lt l_I0 (q_var 9) (q_int) (nomark _)) (qss_one (qs_expr (q_bm PySem.F.plainAttrs_list PySem.F.slot_list_append PySem.F.type_list_append mt_append l_append (q_var 4) (qa_cons (q_tup (qa_cons (q_str) (qa_cons (q_c c__law_pick hr h__law_pick rfl (qa_cons (q_var 0) (qa_cons (q_lst (qa_cons (q_int) (qa_cons (q_int) (qa_cons (q_op op_plus l_plus (q_int) (q_c c__law_take hr h__law_take rfl (qa_cons (q_var 0) (qa_cons (q_int) (qa_nil))))) (qa_nil))))) (qa_nil)))) (qa_cons (q_var 6) (qa_cons (q_var 7) (qa_cons (q_var 8) (qa_nil))))))) (qa_nil))))) (qss_one (qs_expr (q_bm PySem.F.plainAttrs_list PySem.F.slot_list_append PySem.F.type_list_append mt_append l_append (q_var 4) (qa_cons (q_ifExp (qt_cmp (op_eqA hr.units) l_eq (q_var 9) (q_int) (nomark _)) (q_tup (qa_cons (q_str) (qa_cons (q_var 6) (qa_cons (q_var 7) (qa_nil))))) (q_tup (qa_cons (q_str) (qa_cons (q_var 6) (qa_nil))))) (qa_nil)))))))))))) (qss_one (qs_ret (q_tup (qa_cons (q_tup (qa_nil)) (qa_cons (q_callTy call_tuple_of l_tuple (by rfl) T.n_tuple (by decide +kernel) (qa_cons (q_var 3) (qa_nil))) (qa_cons (q_callTy call_tuple_of l_tuple (by rfl) T.n_tuple (by decide +kernel) (qa_cons (q_var 4) (qa_nil))) (qa_nil)))))))))
abbrev st__law_with_unknown : Stmt := topS 8
abbrev N__law_with_unknown : List Str := ["d", "names", "shape", "cell", "unknown"]
theorem sc__law_with_unknown : FnScope N__law_with_unknown ["d", "names", "shape"] (defScope st__law_with_unknown) := ⟨rfl, rfl, rfl, by decide +kernel, rfl, by decide +kernel, by decide +kernel⟩
theorem t__law_with_unknown (T : Txt K mg) {k : Nat} {cdv : Value} {A : Around} {outer : List PySem.Env} {s0 : Shared} {H : Hp} {E : XK} {f : Addr} (hr : Room k (A.deeper (envOfC "_law_with_unknown" (defScope st__law_with_unknown) s0.heap.objs.size f cdv)))  {j__law_take : Nat} {s__law_take : DSp} (c__law_take : Cal P w K mg base CX0 j__law_take "_law_take" ["d", "many"] s__law_take) (h__law_take : j__law_take ≤ k) {j__law_pick : Nat} {s__law_pick : DSp} (c__law_pick : Cal P w K mg base CX0 j__law_pick "_law_pick" ["d", "menu"] s__law_pick) (h__law_pick : j__law_pick ≤ k) :
    PSs (cxOf CX0 P w K mg base N__law_with_unknown "_law_with_unknown" (defScope st__law_with_unknown) f cdv A outer s0 H E).nox (defBody st__law_with_unknown) (upS K B0 (r__law_with_unknown s__law_take s__law_pick)) := by
  have nd := sc__law_with_unknown.nd
  exact qss_cons (qs_if (qt_cmp (op_eqA hr.units) l_eq (q_c c__law_take hr h__law_take rfl (qa_cons (q_var 0) (qa_cons (q_int) (qa_nil)))) (q_int) (nomark _)) (qss_one (qs_ret (q_var 2))) (qss_nil)) (qss_cons (qs_set (i := 3) nd rfl (by first | exact Or.inl rfl | exact Or.inr rfl) (q_tup (qa_cons (q_str) (qa_cons (q_int) (qa_cons (q_c c__law_pick hr h__law_pick rfl (qa_cons (q_var 0) (qa_cons (q_op op_plus l_plus (q_var 1) (q_lst (qa_cons (q_int) (qa_nil)))) (qa_nil)))) (qa_cons (q_str) (qa_cons (q_c c__law_pick hr h__law_pick rfl (qa_cons (q_var 0) (qa_cons (q_lst (qa_cons (q_str) (qa_cons (q_str) (qa_cons (q_int) (qa_nil))))) (qa_nil)))) (qa_nil)))))))) (qss_cons (qs_set (i := 4) nd rfl (by first | exact Or.inl rfl | exact Or.inr rfl) (q_ifExp (qt_cmp (op_eqA hr.units) l_eq (q_ix (ix_all (hu_of hr)) l_sub (q_var 3) (q_int)) (q_str) (nomark _)) (q_tup (qa_cons (q_str) (qa_cons (q_str) (qa_nil)))) (q_tup (qa_cons (q_str) (qa_nil))))) (qss_one (qs_ret (q_tup (qa_cons (q_var 4) (qa_cons (q_ix (ix_all (hu_of hr)) l_sub (q_var 2) (q_int)) (qa_cons (q_op op_plus l_plus (q_ix (ix_all (hu_of hr)) l_sub (q_var 2) (q_int)) (q_tup (qa_cons (q_var 3) (qa_nil)))) (qa_nil)))))))))
abbrev st__law_any : Stmt := topS 9
abbrev N__law_any : List Str := ["d", "names", "most", "k"]
theorem sc__law_any : FnScope N__law_any ["d", "names", "most"] (defScope st__law_any) := ⟨rfl, rfl, rfl, by decide +kernel, rfl, by decide +kernel, by decide +kernel⟩
theorem t__law_any (T : Txt K mg) {k : Nat} {cdv : Value} {A : Around} {outer : List PySem.Env} {s0 : Shared} {H : Hp} {E : XK} {f : Addr} (hr : Room k (A.deeper (envOfC "_law_any" (defScope st__law_any) s0.heap.objs.size f cdv)))  {j__law_take : Nat} {s__law_take : DSp} (c__law_take : Cal P w K mg base CX0 j__law_take "_law_take" ["d", "many"] s__law_take) (h__law_take : j__law_take ≤ k) {j__law_shape_over : Nat} {s__law_shape_over : DSp} (c__law_shape_over : Cal P w K mg base CX0 j__law_shape_over "_law_shape_over" ["d", "names", "most"] s__law_shape_over) (h__law_shape_over : j__law_shape_over ≤ k) {j__law_with_unknown : Nat} {s__law_with_unknown : DSp} (c__law_with_unknown : Cal P w K mg base CX0 j__law_with_unknown "_law_with_unknown" ["d", "names", "shape"] s__law_with_unknown) (h__law_with_unknown : j__law_with_unknown ≤ k) :
    PSs (cxOf CX0 P w K mg base N__law_any "_law_any" (defScope st__law_any) f cdv A outer s0 H E).nox (defBody st__law_any) (upS K B0 (r__law_any s__law_take s__law_shape_over s__law_with_unknown)) := by
  have nd := sc__law_any.nd
  exact qss_one (qs_ret (q_callTy call_tuple_of l_tuple (by rfl) T.n_tuple (by decide +kernel) (qa_cons (q_frz (q_lc (own := [("k", 3)]) rfl nd (qi_rng1 rfl T.n_range (qa_cons (q_op op_plus l_plus (q_int) (q_c c__law_take hr h__law_take rfl (qa_cons (q_var 0) (qa_cons (q_int) (qa_nil))))) (qa_nil))) (blkOk_by (own := [("k", 3)]) (N := N__law_any) (sc := defScope st__law_any) (by decide +kernel)) (fun _ _ _ _ _ => pg_name (i := 3) nd rfl (Or.inl rfl)) (lg_name (by decide)) (fun _ _ _ _ _ => qts_nil) (fun _ _ _ _ _ => q_c c__law_with_unknown hr h__law_with_unknown rfl (qa_cons (q_var 0) (qa_cons (q_var 1) (qa_cons (q_c c__law_shape_over hr h__law_shape_over rfl (qa_cons (q_var 0) (qa_cons (q_var 1) (qa_cons (q_var 2) (qa_nil))))) (qa_nil))))))) (qa_nil))))
abbrev st__law_called : Stmt := topS 10
abbrev N__law_called : List Str := ["d", "own", "name", "many", "target", "k"]
theorem sc__law_called : FnScope N__law_called ["d", "own"] (defScope st__law_called) := ⟨rfl, rfl, rfl, by decide +kernel, rfl, by decide +kernel, by decide +kernel⟩
theorem t__law_called (T : Txt K mg) {k : Nat} {cdv : Value} {A : Around} {outer : List PySem.Env} {s0 : Shared} {H : Hp} {E : XK} {f : Addr} (hr : Room k (A.deeper (envOfC "_law_called" (defScope st__law_called) s0.heap.objs.size f cdv)))  {j__law_pick : Nat} {s__law_pick : DSp} (c__law_pick : Cal P w K mg base CX0 j__law_pick "_law_pick" ["d", "menu"] s__law_pick) (h__law_pick : j__law_pick ≤ k) :
    PSs (cxOf CX0 P w K mg base N__law_called "_law_called" (defScope st__law_called) f cdv A outer s0 H E).nox (defBody st__law_called) (upS K B0 (r__law_called s__law_pick)) := by
  have nd := sc__law_called.nd
  exact qss_cons (qs_asg (q_c c__law_pick hr h__law_pick rfl (qa_cons (q_var 0) (qa_cons (q_ix (ix_all (hu_of hr)) l_sub (q_var 1) (q_str)) (qa_nil)))) (qg_tup rfl (qgs_cons (qg_name (i := 2) nd rfl (by first | exact Or.inl rfl | exact Or.inr rfl)) (qgs_cons (qg_name (i := 3) nd rfl (by first | exact Or.inl rfl | exact Or.inr rfl)) (qgs_nil))))) (qss_cons (qs_set (i := 4) nd rfl (by first | exact Or.inl rfl | exact Or.inr rfl) (q_c c__law_pick hr h__law_pick rfl (qa_cons (q_var 0) (qa_cons (q_op op_plus l_plus (q_ix (ix_all (hu_of hr)) l_sub (q_var 1) (q_str)) (q_lst (qa_cons (q_non) (qa_nil)))) (qa_nil))))) (qss_one (qs_ret (q_tup (qa_cons (q_var 4) (qa_cons (q_var 2) (qa_cons (q_callTy call_tuple_of l_tuple (by rfl) T.n_tuple (by decide +kernel) (qa_cons (q_frz (q_lc (own := [("k", 5)]) rfl nd (qi_rng1 rfl T.n_range (qa_cons (q_var 3) (qa_nil))) (blkOk_by (own := [("k", 5)]) (N := N__law_called) (sc := defScope st__law_called) (by decide +kernel)) (fun _ _ _ _ _ => pg_name (i := 5) nd rfl (Or.inl rfl)) (lg_name (by decide)) (fun _ _ _ _ _ => qts_nil) (fun _ _ _ _ _ => q_c c__law_pick hr h__law_pick rfl (qa_cons (q_var 0) (qa_cons (q_op op_plus l_plus (q_ix (ix_all (hu_of hr)) l_sub (q_var 1) (q_str)) (q_lst (qa_cons (q_int) (qa_cons (q_int) (qa_nil))))) (qa_nil)))))) (qa_nil))) (qa_nil))))))))
abbrev st__law_plain : Stmt := topS 11
abbrev N__law_plain : List Str := ["d", "own", "x", "s", "t", "a", "k"]
theorem sc__law_plain : FnScope N__law_plain ["d", "own"] (defScope st__law_plain) := ⟨rfl, rfl, rfl, by decide +kernel, rfl, by decide +kernel, by decide +kernel⟩
theorem t__law_plain (T : Txt K mg) {k : Nat} {cdv : Value} {A : Around} {outer : List PySem.Env} {s0 : Shared} {H : Hp} {E : XK} {f : Addr} (hr : Room k (A.deeper (envOfC "_law_plain" (defScope st__law_plain) s0.heap.objs.size f cdv)))  {j__law_pick : Nat} {s__law_pick : DSp} (c__law_pick : Cal P w K mg base CX0 j__law_pick "_law_pick" ["d", "menu"] s__law_pick) (h__law_pick : j__law_pick ≤ k) {j__law_take : Nat} {s__law_take : DSp} (c__law_take : Cal P w K mg base CX0 j__law_take "_law_take" ["d", "many"] s__law_take) (h__law_take : j__law_take ≤ k) :
    PSs (cxOf CX0 P w K mg base N__law_plain "_law_plain" (defScope st__law_plain) f cdv A outer s0 H E).nox (defBody st__law_plain) (upS K B0 (r__law_plain s__law_pick s__law_take)) := by
  have nd := sc__law_plain.nd
  exact qss_cons (qs_set (i := 2) nd rfl (by first | exact Or.inl rfl | exact Or.inr rfl) (q_c c__law_pick hr h__law_pick rfl (qa_cons (q_var 0) (qa_cons (q_ix (ix_all (hu_of hr)) l_sub (q_var 1) (q_str)) (qa_nil))))) (qss_cons (qs_asg (q_frz (q_lc (own := [("k", 6)]) rfl nd (qi_it (q_tup (qa_cons (q_int) (qa_cons (q_int) (qa_nil))))) (blkOk_by (own := [("k", 6)]) (N := N__law_plain) (sc := defScope st__law_plain) (by decide +kernel)) (fun _ _ _ _ _ => pg_name (i := 6) nd rfl (Or.inl rfl)) (lg_name (by decide)) (fun _ _ _ _ _ => qts_nil) (fun _ _ _ _ _ => q_c c__law_pick hr h__law_pick rfl (qa_cons (q_var 0) (qa_cons (q_op op_plus l_plus (q_ix (ix_all (hu_of hr)) l_sub (q_var 1) (q_str)) (q_lst (qa_cons (q_int) (qa_cons (q_int) (qa_nil))))) (qa_nil)))))) (qg_lst rfl (qgs_cons (qg_name (i := 3) nd rfl (by first | exact Or.inl rfl | exact Or.inr rfl)) (qgs_cons (qg_name (i := 4) nd rfl (by first | exact Or.inl rfl | exact Or.inr rfl)) (qgs_nil))))) (qss_cons (qs_set (i := 5) nd rfl (by first | exact Or.inl rfl | exact Or.inr rfl) (q_c c__law_pick hr h__law_pick rfl (qa_cons (q_var 0) (qa_cons (q_ix (ix_all (hu_of hr)) l_sub (q_var 1) (q_str)) (qa_nil))))) (qss_one (qs_ret (q_c c__law_pick hr h__law_pick rfl (qa_cons (q_var 0) (qa_cons (q_lst (qa_cons (q_tup (qa_cons (q_str) (qa_cons (q_var 2) (qa_cons (q_tup (qa_cons (q_str) (qa_cons (q_c c__law_pick hr h__law_pick rfl (qa_cons (q_var 0) (qa_cons (q_lst (qa_cons (q_var 3) (qa_cons (q_neg (q_int)) (qa_cons (q_op op_pow l_I (q_int) (q_int)) (qa_nil))))) (qa_nil)))) (qa_nil)))) (qa_nil))))) (qa_cons (q_tup (qa_cons (q_str) (qa_cons (q_var 2) (qa_cons (q_tup (qa_cons (q_c c__law_pick hr h__law_pick rfl (qa_cons (q_var 0) (qa_cons (q_lst (qa_cons (q_str) (qa_cons (q_str) (qa_nil)))) (qa_nil)))) (qa_cons (q_var 3) (qa_cons (q_var 4) (qa_nil))))) (qa_nil))))) (qa_cons (q_tup (qa_cons (q_str) (qa_cons (q_var 2) (qa_cons (q_var 5) (qa_cons (q_c c__law_take hr h__law_take rfl (qa_cons (q_var 0) (qa_cons (q_int) (qa_nil)))) (qa_nil)))))) (qa_cons (q_tup (qa_cons (q_str) (qa_cons (q_var 5) (qa_cons (q_c c__law_take hr h__law_take rfl (qa_cons (q_var 0) (qa_cons (q_int) (qa_nil)))) (qa_cons (q_var 3) (qa_nil)))))) (qa_cons (q_tup (qa_cons (q_str) (qa_cons (q_var 2) (qa_cons (q_var 3) (qa_cons (q_var 4) (qa_nil)))))) (qa_cons (q_tup (qa_cons (q_str) (qa_cons (q_var 2) (qa_cons (q_var 5) (qa_cons (q_c c__law_take hr h__law_take rfl (qa_cons (q_var 0) (qa_cons (q_int) (qa_nil)))) (qa_nil)))))) (qa_cons (q_tup (qa_cons (q_str) (qa_cons (q_var 2) (qa_cons (q_var 3) (qa_cons (q_var 4) (qa_nil)))))) (qa_cons (q_tup (qa_cons (q_str) (qa_cons (q_var 5) (qa_nil)))) (qa_cons (q_tup (qa_cons (q_str) (qa_cons (q_var 2) (qa_cons (q_tup (qa_cons (q_str) (qa_cons (q_var 3) (qa_nil)))) (qa_nil))))) (qa_nil))))))))))) (qa_nil))))))))
abbrev st__law_body : Stmt := topS 12
abbrev N__law_body : List Str := ["d", "own", "depth", "many", "rows", "k", "kind", "test", "told", "one", "other"]
theorem sc__law_body : FnScope N__law_body ["d", "own", "depth", "many"] (defScope st__law_body) := ⟨rfl, rfl, rfl, by decide +kernel, rfl, by decide +kernel, by decide +kernel⟩
theorem t__law_body (T : Txt K mg) {k : Nat} {cdv : Value} {A : Around} {outer : List PySem.Env} {s0 : Shared} {H : Hp} {E : XK} {f : Addr} (hr : Room k (A.deeper (envOfC "_law_body" (defScope st__law_body) s0.heap.objs.size f cdv)))  {j__law_take : Nat} {s__law_take : DSp} (c__law_take : Cal P w K mg base CX0 j__law_take "_law_take" ["d", "many"] s__law_take) (h__law_take : j__law_take ≤ k) {j__law_pick : Nat} {s__law_pick : DSp} (c__law_pick : Cal P w K mg base CX0 j__law_pick "_law_pick" ["d", "menu"] s__law_pick) (h__law_pick : j__law_pick ≤ k) {j__law_body : Nat} {s__law_body : DSp} (c__law_body : Cal P w K mg base CX0 j__law_body "_law_body" ["d", "own", "depth", "many"] s__law_body) (h__law_body : j__law_body ≤ k) {j__law_any : Nat} {s__law_any : DSp} (c__law_any : Cal P w K mg base CX0 j__law_any "_law_any" ["d", "names", "most"] s__law_any) (h__law_any : j__law_any ≤ k) {j__law_called : Nat} {s__law_called : DSp} (c__law_called : Cal P w K mg base CX0 j__law_called "_law_called" ["d", "own"] s__law_called) (h__law_called : j__law_called ≤ k) {j__law_plain : Nat} {s__law_plain : DSp} (c__law_plain : Cal P w K mg base CX0 j__law_plain "_law_plain" ["d", "own"] s__law_plain) (h__law_plain : j__law_plain ≤ k) :
    PSs (cxOf CX0 P w K mg base N__law_body "_law_body" (defScope st__law_body) f cdv A outer s0 H E).nox (defBody st__law_body) (upS K B0 (r__law_body s__law_take s__law_pick s__law_body s__law_any s__law_called s__law_plain)) := by
  have nd := sc__law_body.nd
  exact qss_cons (qs_set (i := 4) nd rfl (by first | exact Or.inl rfl | exact Or.inr rfl) (q_lstM (qa_nil))) (qss_cons (qs_for PassesOwn.never rfl (qi_rng1 rfl T.n_range (qa_cons (q_c c__law_take hr h__law_take rfl (qa_cons (q_var 0) (qa_cons (q_var 3) (qa_nil)))) (qa_nil))) (qg_name (i := 5) nd rfl (by first | exact Or.inl rfl | exact Or.inr rfl)) (qss_cons (qs_set (i := 6) nd rfl (by first | exact Or.inl rfl | exact Or.inr rfl) (q_c c__law_take hr h__law_take rfl (qa_cons (q_var 0) (qa_cons (q_int) (qa_nil))))) (qss_cons (qs_set (i := 7) nd rfl (by first | exact Or.inl rfl | exact Or.inr rfl) (q_tup (qa_cons (q_c c__law_pick hr h__law_pick rfl (qa_cons (q_var 0) (qa_cons (q_lst (qa_cons (q_str) (qa_cons (q_str) (qa_cons (q_str) (qa_nil))))) (qa_nil)))) (qa_cons (q_c c__law_pick hr h__law_pick rfl (qa_cons (q_var 0) (qa_cons (q_op op_plus l_plus (q_ix (ix_all (hu_of hr)) l_sub (q_var 1) (q_str)) (q_lst (qa_cons (q_int) (qa_nil)))) (qa_nil)))) (qa_cons (q_c c__law_pick hr h__law_pick rfl (qa_cons (q_var 0) (qa_cons (q_op op_plus l_plus (q_ix (ix_all (hu_of hr)) l_sub (q_var 1) (q_str)) (q_lst (qa_cons (q_int) (qa_cons (q_neg (q_int)) (qa_nil))))) (qa_nil)))) (qa_nil)))))) (qss_one (qs_if (PW.pt (qw_and (qt_cmp (op_eqA hr.units) l_eq (q_var 6) (q_int) (nomark _)) (qw_and1 (qt_cmp op_lt l_I0 (q_var 2) (q_int) (nomark _))))) (qss_one (qs_expr (q_bm PySem.F.plainAttrs_list PySem.F.slot_list_append PySem.F.type_list_append mt_append l_append (q_var 4) (qa_cons (q_op op_plus l_plus (q_op op_plus l_plus (q_tup (qa_cons (q_str) (qa_nil))) (q_var 7)) (q_tup (qa_cons (q_c c__law_body hr h__law_body rfl (qa_cons (q_var 0) (qa_cons (q_var 1) (qa_cons (q_op op_plus l_plus (q_var 2) (q_int)) (qa_cons (q_int) (qa_nil)))))) (qa_cons (q_c c__law_body hr h__law_body rfl (qa_cons (q_var 0) (qa_cons (q_var 1) (qa_cons (q_op op_plus l_plus (q_var 2) (q_int)) (qa_cons (q_int) (qa_nil)))))) (qa_nil))))) (qa_nil))))) (qss_one (qs_if (PW.pt (qw_and (qt_cmp (op_eqA hr.units) l_eq (q_var 6) (q_int) (nomark _)) (qw_and1 (qt_cmp op_lt l_I0 (q_var 2) (q_int) (nomark _))))) (qss_cons (qs_set (i := 8) nd rfl (by first | exact Or.inl rfl | exact Or.inr rfl) (q_c c__law_pick hr h__law_pick rfl (qa_cons (q_var 0) (qa_cons (q_lst (qa_cons (q_non) (qa_cons (q_c c__law_any hr h__law_any rfl (qa_cons (q_var 0) (qa_cons (q_ix (ix_all (hu_of hr)) l_sub (q_var 1) (q_str)) (qa_cons (q_int) (qa_nil))))) (qa_nil)))) (qa_nil))))) (qss_one (qs_expr (q_bm PySem.F.plainAttrs_list PySem.F.slot_list_append PySem.F.type_list_append mt_append l_append (q_var 4) (qa_cons (q_op op_plus l_plus (q_op op_plus l_plus (q_tup (qa_cons (q_str) (qa_nil))) (q_var 7)) (q_tup (qa_cons (q_var 8) (qa_cons (q_c c__law_body hr h__law_body rfl (qa_cons (q_var 0) (qa_cons (q_var 1) (qa_cons (q_op op_plus l_plus (q_var 2) (q_int)) (qa_cons (q_int) (qa_nil)))))) (qa_nil))))) (qa_nil)))))) (qss_one (qs_if (PW.pt (qw_and (qt_cmp (op_inA (hu_of hr)) l_in (q_var 6) (q_tup (qa_cons (q_int) (qa_cons (q_int) (qa_nil)))) (by rfl)) (qw_and1 (qt_truth (q_ix (ix_all (hu_of hr)) l_sub (q_var 1) (q_str)))))) (qss_cons (qs_par rfl nd (i := 9) (j := 10) rfl rfl (by decide) rfl rfl (qa_cons (q_c c__law_called hr h__law_called rfl (qa_cons (q_var 0) (qa_cons (q_var 1) (qa_nil)))) (qa_cons (q_c c__law_called hr h__law_called rfl (qa_cons (q_var 0) (qa_cons (q_var 1) (qa_nil)))) (qa_nil)))) (qss_one (qs_if (PW.pt (qw_or (qt_cmp (op_eqA hr.units) l_eq (q_var 6) (q_int) (nomark _)) (qw_or1 (PW.pt (qw_and (qt_cmp op_notN l_notN (q_ix (ix_all (hu_of hr)) l_sub (q_var 9) (q_int)) (q_non) (nomark _)) (qw_and1 (qt_cmp (op_eqA hr.units) l_eq (q_ix (ix_all (hu_of hr)) l_sub (q_var 9) (q_int)) (q_ix (ix_all (hu_of hr)) l_sub (q_var 10) (q_int)) (nomark _)))))))) (qss_one (qs_expr (q_bm PySem.F.plainAttrs_list PySem.F.slot_list_append PySem.F.type_list_append mt_append l_append (q_var 4) (qa_cons (q_op op_plus l_plus (q_tup (qa_cons (q_str) (qa_nil))) (q_var 9)) (qa_nil))))) (qss_one (qs_expr (q_bm PySem.F.plainAttrs_list PySem.F.slot_list_append PySem.F.type_list_append mt_append l_append (q_var 4) (qa_cons (q_tup (qa_cons (q_str) (qa_cons (q_var 9) (qa_cons (q_var 10) (qa_nil))))) (qa_nil)))))))) (qss_one (qs_if (PW.pt (qw_and (qt_cmp (op_eqA hr.units) l_eq (q_var 6) (q_int) (nomark _)) (qw_and1 (qt_truth (q_ix (ix_all (hu_of hr)) l_sub (q_var 1) (q_str)))))) (qss_one (qs_expr (q_bm PySem.F.plainAttrs_list PySem.F.slot_list_append PySem.F.type_list_append mt_append l_append (q_var 4) (qa_cons (q_tup (qa_cons (q_c c__law_pick hr h__law_pick rfl (qa_cons (q_var 0) (qa_cons (q_lst (qa_cons (q_str) (qa_cons (q_str) (qa_cons (q_str) (qa_nil))))) (qa_nil)))) (qa_cons (q_c c__law_pick hr h__law_pick rfl (qa_cons (q_var 0) (qa_cons (q_ix (ix_all (hu_of hr)) l_sub (q_var 1) (q_str)) (qa_nil)))) (qa_nil)))) (qa_nil))))) (qss_one (qs_if (PW.pt (qw_and (qt_cmp (op_eqA hr.units) l_eq (q_var 6) (q_int) (nomark _)) (qw_and1 (qt_cmp op_gt l_I0 (q_var 2) (q_int) (nomark _))))) (qss_one (qs_expr (q_bm PySem.F.plainAttrs_list PySem.F.slot_list_append PySem.F.type_list_append mt_append l_append (q_var 4) (qa_cons (q_tup (qa_cons (q_str) (qa_cons (q_c c__law_pick hr h__law_pick rfl (qa_cons (q_var 0) (qa_cons (q_op op_plus l_plus (q_ix (ix_all (hu_of hr)) l_sub (q_var 1) (q_str)) (q_lst (qa_cons (q_int) (qa_nil)))) (qa_nil)))) (qa_nil)))) (qa_nil))))) (qss_one (qs_expr (q_bm PySem.F.plainAttrs_list PySem.F.slot_list_append PySem.F.type_list_append mt_append l_append (q_var 4) (qa_cons (q_c c__law_plain hr h__law_plain rfl (qa_cons (q_var 0) (qa_cons (q_var 1) (qa_nil)))) (qa_nil)))))))))))))))))) (qss_one (qs_ret (q_callTy call_tuple_of l_tuple (by rfl) T.n_tuple (by decide +kernel) (qa_cons (q_var 4) (qa_nil))))))
abbrev st__law_proc : Stmt := topS 13
abbrev N__law_proc : List Str := ["d", "name", "names", "locks", "calls", "size", "params", "ghosts", "uses", "own", "told", "requires", "ensures", "body", "lock", "row"]
theorem sc__law_proc : FnScope N__law_proc ["d", "name", "names", "locks", "calls", "size"] (defScope st__law_proc) := ⟨rfl, rfl, rfl, by decide +kernel, rfl, by decide +kernel, by decide +kernel⟩
theorem t__law_proc (T : Txt K mg) {k : Nat} {cdv : Value} {A : Around} {outer : List PySem.Env} {s0 : Shared} {H : Hp} {E : XK} {f : Addr} (hr : Room k (A.deeper (envOfC "_law_proc" (defScope st__law_proc) s0.heap.objs.size f cdv)))  {j__law_take : Nat} {s__law_take : DSp} (c__law_take : Cal P w K mg base CX0 j__law_take "_law_take" ["d", "many"] s__law_take) (h__law_take : j__law_take ≤ k) {j__law_shape_over : Nat} {s__law_shape_over : DSp} (c__law_shape_over : Cal P w K mg base CX0 j__law_shape_over "_law_shape_over" ["d", "names", "most"] s__law_shape_over) (h__law_shape_over : j__law_shape_over ≤ k) {j__law_with_unknown : Nat} {s__law_with_unknown : DSp} (c__law_with_unknown : Cal P w K mg base CX0 j__law_with_unknown "_law_with_unknown" ["d", "names", "shape"] s__law_with_unknown) (h__law_with_unknown : j__law_with_unknown ≤ k) {j__law_any : Nat} {s__law_any : DSp} (c__law_any : Cal P w K mg base CX0 j__law_any "_law_any" ["d", "names", "most"] s__law_any) (h__law_any : j__law_any ≤ k) {j__law_body : Nat} {s__law_body : DSp} (c__law_body : Cal P w K mg base CX0 j__law_body "_law_body" ["d", "own", "depth", "many"] s__law_body) (h__law_body : j__law_body ≤ k) {j__law_pick : Nat} {s__law_pick : DSp} (c__law_pick : Cal P w K mg base CX0 j__law_pick "_law_pick" ["d", "menu"] s__law_pick) (h__law_pick : j__law_pick ≤ k) :
    PSs (cxOf CX0 P w K mg base N__law_proc "_law_proc" (defScope st__law_proc) f cdv A outer s0 H E).nox (defBody st__law_proc) (upS K B0 (r__law_proc s__law_take s__law_shape_over s__law_with_unknown s__law_any s__law_body s__law_pick)) := by
  have nd := sc__law_proc.nd
  exact qss_cons (qs_set (i := 6) nd rfl (by first | exact Or.inl rfl | exact Or.inr rfl) (q_callTy call_tuple_of l_tuple (by rfl) T.n_tuple (by decide +kernel) (qa_cons (q_slice (q_lst (qa_cons (q_str) (qa_cons (q_str) (qa_cons (q_str) (qa_nil))))) (qo_none) (qo_some (q_c c__law_take hr h__law_take rfl (qa_cons (q_var 0) (qa_cons (q_int) (qa_nil)))))) (qa_nil)))) (qss_cons (qs_set (i := 7) nd rfl (by first | exact Or.inl rfl | exact Or.inr rfl) (q_ifExp (PW.pt (qw_and (qt_truth (q_var 6)) (qw_and1 (qt_cmp (op_eqA hr.units) l_eq (q_c c__law_take hr h__law_take rfl (qa_cons (q_var 0) (qa_cons (q_int) (qa_nil)))) (q_int) (nomark _))))) (q_tup (qa_cons (q_str) (qa_nil))) (q_tup (qa_nil)))) (qss_cons (qs_set (i := 8) nd rfl (by first | exact Or.inl rfl | exact Or.inr rfl) (q_callTy call_tuple_of l_tuple (by rfl) T.n_tuple (by decide +kernel) (qa_cons (q_frz (q_lc (own := [("lock", 14)]) rfl nd (qi_it (q_var 3)) (blkOk_by (own := [("lock", 14)]) (N := N__law_proc) (sc := defScope st__law_proc) (by decide +kernel)) (fun _ _ _ _ _ => pg_name (i := 14) nd rfl (Or.inl rfl)) (lg_name (by decide)) (fun _ _ _ _ _ => qts_one (qt_cmp op_gt l_I0 (q_c c__law_take hr h__law_take rfl (qa_cons (q_var 0) (qa_cons (q_int) (qa_nil)))) (q_int) (nomark _))) (fun _ _ _ _ _ => q_var 14))) (qa_nil)))) (qss_cons (qs_set (i := 9) nd rfl (by first | exact Or.inl rfl | exact Or.inr rfl) (q_disp (qps_cons (q_str) (q_slice (q_lst (qa_cons (q_str) (qa_cons (q_str) (qa_cons (q_str) (qa_nil))))) (qo_none) (qo_some (q_op op_plus l_plus (q_int) (q_c c__law_take hr h__law_take rfl (qa_cons (q_var 0) (qa_cons (q_int) (qa_nil))))))) (qps_cons (q_str) (q_frz (q_lc (own := [("row", 15)]) rfl nd (qi_mut (q_var 4)) (blkOk_by (own := [("row", 15)]) (N := N__law_proc) (sc := defScope st__law_proc) (by decide +kernel)) (fun _ _ _ _ _ => pg_name (i := 15) nd rfl (Or.inl rfl)) (lg_name (by decide)) (fun _ _ _ _ _ => qts_one (qt_truth (q_callB (cr_all rfl) l_all (by rfl) T.n_all (by decide +kernel) (qa_cons (q_frz (q_lc (own := [("lock", 14)]) rfl nd (qi_it (q_ix (ix_all (hu_of hr)) l_sub (q_var 15) (q_int))) (blkOk_by (own := [("lock", 14)]) (by rfl)) (fun _ _ _ _ _ => pg_name (i := 14) nd rfl (Or.inl rfl)) (lg_name (by decide)) (fun _ _ _ _ _ => qts_nil) (fun _ _ _ _ _ => q_cmp (op_inA (hu_of hr)) l_in (q_var 14) (q_var 8) (by rfl)))) (qa_nil))))) (fun _ _ _ _ _ => q_slice (q_var 15) (qo_none) (qo_some (q_int))))) (qps_nil))))) (qss_cons (qs_asg (q_op op_plus l_plus (q_op op_plus l_plus (q_callTy call_list_of l_list (by rfl) T.n_list (by decide +kernel) (qa_cons (q_var 6) (qa_nil))) (q_ix (ix_all (hu_of hr)) l_sub (q_var 9) (q_str))) (q_var 2)) (qg_sub (hu_of hr) (q_var 9) (q_str))) (qss_cons (qs_asg (q_callTy call_list_of l_list (by rfl) T.n_list (by decide +kernel) (qa_cons (q_var 8) (qa_nil))) (qg_sub (hu_of hr) (q_var 9) (q_str))) (qss_cons (qs_asg (q_op op_plus l_plus (q_op op_plus l_plus (q_op op_plus l_plus (q_callTy call_list_of l_list (by rfl) T.n_list (by decide +kernel) (qa_cons (q_var 6) (qa_nil))) (q_var 2)) (q_ix (ix_all (hu_of hr)) l_sub (q_var 9) (q_str))) (q_callTy call_list_of l_list (by rfl) T.n_list (by decide +kernel) (qa_cons (q_var 7) (qa_nil)))) (qg_sub (hu_of hr) (q_var 9) (q_str))) (qss_cons (qs_set (i := 10) nd rfl (by first | exact Or.inl rfl | exact Or.inr rfl) (q_op op_plus l_plus (q_callTy call_list_of l_list (by rfl) T.n_list (by decide +kernel) (qa_cons (q_var 6) (qa_nil))) (q_var 2))) (qss_cons (qs_set (i := 11) nd rfl (by first | exact Or.inl rfl | exact Or.inr rfl) (q_c c__law_with_unknown hr h__law_with_unknown rfl (qa_cons (q_var 0) (qa_cons (q_var 10) (qa_cons (q_c c__law_shape_over hr h__law_shape_over rfl (qa_cons (q_var 0) (qa_cons (q_var 10) (qa_cons (q_int) (qa_nil))))) (qa_nil)))))) (qss_cons (qs_if (qt_truth (q_var 7)) (qss_one (qs_set (i := 11) nd rfl (by first | exact Or.inl rfl | exact Or.inr rfl) (q_tup (qa_cons (q_ix (ix_all (hu_of hr)) l_sub (q_var 11) (q_int)) (qa_cons (q_ix (ix_all (hu_of hr)) l_sub (q_var 11) (q_int)) (qa_cons (q_op op_plus l_plus (q_ix (ix_all (hu_of hr)) l_sub (q_var 11) (q_int)) (q_tup (qa_cons (q_tup (qa_cons (q_str) (qa_cons (q_int) (qa_cons (q_ix (ix_all (hu_of hr)) l_sub (q_var 6) (q_int)) (qa_cons (q_int) (qa_cons (q_str) (qa_nil))))))) (qa_nil)))) (qa_nil))))))) (qss_nil)) (qss_cons (qs_set (i := 12) nd rfl (by first | exact Or.inl rfl | exact Or.inr rfl) (q_c c__law_any hr h__law_any rfl (qa_cons (q_var 0) (qa_cons (q_op op_plus l_plus (q_op op_plus l_plus (q_var 10) (q_callTy call_list_of l_list (by rfl) T.n_list (by decide +kernel) (qa_cons (q_var 7) (qa_nil)))) (q_lst (qa_cons (q_str) (qa_nil)))) (qa_cons (q_int) (qa_nil)))))) (qss_cons (qs_set (i := 13) nd rfl (by first | exact Or.inl rfl | exact Or.inr rfl) (q_op op_plus l_plus (q_c c__law_body hr h__law_body rfl (qa_cons (q_var 0) (qa_cons (q_var 9) (qa_cons (q_int) (qa_cons (q_var 5) (qa_nil)))))) (q_c c__law_pick hr h__law_pick rfl (qa_cons (q_var 0) (qa_cons (q_lst (qa_cons (q_tup (qa_nil)) (qa_cons (q_tup (qa_cons (q_tup (qa_cons (q_str) (qa_cons (q_c c__law_pick hr h__law_pick rfl (qa_cons (q_var 0) (qa_cons (q_ix (ix_all (hu_of hr)) l_sub (q_var 9) (q_str)) (qa_nil)))) (qa_nil)))) (qa_nil))) (qa_nil)))) (qa_nil)))))) (qss_one (qs_ret (q_tup (qa_cons (q_var 1) (qa_cons (q_var 6) (qa_cons (q_var 7) (qa_cons (q_var 8) (qa_cons (q_var 11) (qa_cons (q_var 12) (qa_cons (q_callTy call_tuple_of l_tuple (by rfl) T.n_tuple (by decide +kernel) (qa_cons (q_ix (ix_all (hu_of hr)) l_sub (q_var 9) (q_str)) (qa_nil))) (qa_cons (q_var 13) (qa_nil)))))))))))))))))))))))
abbrev st__law_program : Stmt := topS 14
abbrev N__law_program : List Str := ["d", "size", "names", "locks", "procs", "calls", "k", "proc", "lock"]
theorem sc__law_program : FnScope N__law_program ["d", "size"] (defScope st__law_program) := ⟨rfl, rfl, rfl, by decide +kernel, rfl, by decide +kernel, by decide +kernel⟩
theorem t__law_program (T : Txt K mg) {k : Nat} {cdv : Value} {A : Around} {outer : List PySem.Env} {s0 : Shared} {H : Hp} {E : XK} {f : Addr} (hr : Room k (A.deeper (envOfC "_law_program" (defScope st__law_program) s0.heap.objs.size f cdv)))  {j__law_take : Nat} {s__law_take : DSp} (c__law_take : Cal P w K mg base CX0 j__law_take "_law_take" ["d", "many"] s__law_take) (h__law_take : j__law_take ≤ k) {j__law_proc : Nat} {s__law_proc : DSp} (c__law_proc : Cal P w K mg base CX0 j__law_proc "_law_proc" ["d", "name", "names", "locks", "calls", "size"] s__law_proc) (h__law_proc : j__law_proc ≤ k) {j__law_any : Nat} {s__law_any : DSp} (c__law_any : Cal P w K mg base CX0 j__law_any "_law_any" ["d", "names", "most"] s__law_any) (h__law_any : j__law_any ≤ k) :
    PSs (cxOf CX0 P w K mg base N__law_program "_law_program" (defScope st__law_program) f cdv A outer s0 H E).nox (defBody st__law_program) (upS K B0 (r__law_program s__law_take s__law_proc s__law_any)) := by
  have nd := sc__law_program.nd
  exact qss_cons (qs_set (i := 2) nd rfl (by first | exact Or.inl rfl | exact Or.inr rfl) (q_slice (q_lst (qa_cons (q_str) (qa_cons (q_str) (qa_nil)))) (qo_none) (qo_some (q_c c__law_take hr h__law_take rfl (qa_cons (q_var 0) (qa_cons (q_int) (qa_nil))))))) (qss_cons (qs_set (i := 3) nd rfl (by first | exact Or.inl rfl | exact Or.inr rfl) (q_slice (q_lst (qa_cons (q_str) (qa_cons (q_str) (qa_nil)))) (qo_none) (qo_some (q_c c__law_take hr h__law_take rfl (qa_cons (q_var 0) (qa_cons (q_int) (qa_nil))))))) (qss_cons (qs_set (i := 4) nd rfl (by first | exact Or.inl rfl | exact Or.inr rfl) (q_lstM (qa_nil))) (qss_cons (qs_set (i := 5) nd rfl (by first | exact Or.inl rfl | exact Or.inr rfl) (q_lstM (qa_nil))) (qss_cons (qs_for PassesOwn.never rfl (qi_rng1 rfl T.n_range (qa_cons (q_op op_plus l_plus (q_int) (q_c c__law_take hr h__law_take rfl (qa_cons (q_var 0) (qa_cons (q_int) (qa_nil))))) (qa_nil))) (qg_name (i := 6) nd rfl (by first | exact Or.inl rfl | exact Or.inr rfl)) (qss_cons (qs_set (i := 7) nd rfl (by first | exact Or.inl rfl | exact Or.inr rfl) (q_c c__law_proc hr h__law_proc rfl (qa_cons (q_var 0) (qa_cons (q_op op_plus l_plus (q_str) (q_callTy call_str_int l_strI (by rfl) T.n_str (by decide +kernel) (qa_cons (q_var 6) (qa_nil)))) (qa_cons (q_var 2) (qa_cons (q_var 3) (qa_cons (q_var 5) (qa_cons (q_var 1) (qa_nil))))))))) (qss_cons (qs_expr (q_bm PySem.F.plainAttrs_list PySem.F.slot_list_append PySem.F.type_list_append mt_append l_append (q_var 4) (qa_cons (q_var 7) (qa_nil)))) (qss_one (qs_expr (q_bm PySem.F.plainAttrs_list PySem.F.slot_list_append PySem.F.type_list_append mt_append l_append (q_var 5) (qa_cons (q_tup (qa_cons (q_ix (ix_all (hu_of hr)) l_sub (q_var 7) (q_int)) (qa_cons (q_callB call_lenA l_len (by rfl) T.n_len PySem.boot_len (qa_cons (q_ix (ix_all (hu_of hr)) l_sub (q_var 7) (q_int)) (qa_nil))) (qa_cons (q_ix (ix_all (hu_of hr)) l_sub (q_var 7) (q_int)) (qa_nil))))) (qa_nil)))))))) (qss_one (qs_ret (q_tup (qa_cons (q_callTy call_tuple_of l_tuple (by rfl) T.n_tuple (by decide +kernel) (qa_cons (q_var 2) (qa_nil))) (qa_cons (q_callTy call_tuple_of l_tuple (by rfl) T.n_tuple (by decide +kernel) (qa_cons (q_frz (q_lc (own := [("lock", 8)]) rfl nd (qi_it (q_var 3)) (blkOk_by (own := [("lock", 8)]) (N := N__law_program) (sc := defScope st__law_program) (by decide +kernel)) (fun _ _ _ _ _ => pg_name (i := 8) nd rfl (Or.inl rfl)) (lg_name (by decide)) (fun _ _ _ _ _ => qts_nil) (fun _ _ _ _ _ => q_tup (qa_cons (q_var 8) (qa_cons (q_c c__law_any hr h__law_any rfl (qa_cons (q_var 0) (qa_cons (q_op op_plus l_plus (q_var 2) (q_lst (qa_cons (q_int) (qa_nil)))) (qa_cons (q_int) (qa_nil))))) (qa_nil)))))) (qa_nil))) (qa_cons (q_callTy call_tuple_of l_tuple (by rfl) T.n_tuple (by decide +kernel) (qa_cons (q_var 4) (qa_nil))) (qa_nil)))))))))))
abbrev st__law_flat : Stmt := topS 15
abbrev N__law_flat : List Str := ["body", "rows", "loops", "row", "at", "over", "head"]
theorem sc__law_flat : FnScope N__law_flat ["body", "rows", "loops"] (defScope st__law_flat) := ⟨rfl, rfl, rfl, by decide +kernel, rfl, by decide +kernel, by decide +kernel⟩
theorem t__law_flat (T : Txt K mg) {k : Nat} {cdv : Value} {A : Around} {outer : List PySem.Env} {s0 : Shared} {H : Hp} {E : XK} {f : Addr} (hr : Room k (A.deeper (envOfC "_law_flat" (defScope st__law_flat) s0.heap.objs.size f cdv)))  {j__law_flat : Nat} {s__law_flat : DSp} (c__law_flat : Cal P w K mg base CX0 j__law_flat "_law_flat" ["body", "rows", "loops"] s__law_flat) (h__law_flat : j__law_flat ≤ k) :
    PSs (cxOf CX0 P w K mg base N__law_flat "_law_flat" (defScope st__law_flat) f cdv A outer s0 H E).nox (defBody st__law_flat) (upS K B0 (r__law_flat s__law_flat)) := by
  have nd := sc__law_flat.nd
  exact qss_one (qs_for PassesOwn.never rfl (qi_it (q_var 0)) (qg_name (i := 3) nd rfl (by first | exact Or.inl rfl | exact Or.inr rfl)) (qss_one (qs_if (qt_cmp (op_eqA hr.units) l_eq (q_ix (ix_all (hu_of hr)) l_sub (q_var 3) (q_int)) (q_str) (nomark _)) (qss_cons (qs_set (i := 4) nd rfl (by first | exact Or.inl rfl | exact Or.inr rfl) (q_callB call_lenA l_len (by rfl) T.n_len PySem.boot_len (qa_cons (q_var 1) (qa_nil)))) (qss_cons (qs_expr (q_bm PySem.F.plainAttrs_list PySem.F.slot_list_append PySem.F.type_list_append mt_append l_append (q_var 1) (qa_cons (q_non) (qa_nil)))) (qss_cons (qs_expr (q_c c__law_flat hr h__law_flat rfl (qa_cons (q_ix (ix_all (hu_of hr)) l_sub (q_var 3) (q_int)) (qa_cons (q_var 1) (qa_cons (q_var 2) (qa_nil)))))) (qss_cons (qs_set (i := 5) nd rfl (by first | exact Or.inl rfl | exact Or.inr rfl) (q_callB call_lenA l_len (by rfl) T.n_len PySem.boot_len (qa_cons (q_var 1) (qa_nil)))) (qss_cons (qs_expr (q_bm PySem.F.plainAttrs_list PySem.F.slot_list_append PySem.F.type_list_append mt_append l_append (q_var 1) (qa_cons (q_non) (qa_nil)))) (qss_cons (qs_expr (q_c c__law_flat hr h__law_flat rfl (qa_cons (q_ix (ix_all (hu_of hr)) l_sub (q_var 3) (q_int)) (qa_cons (q_var 1) (qa_cons (q_var 2) (qa_nil)))))) (qss_cons (qs_asg (q_tup (qa_cons (q_str) (qa_cons (q_ix (ix_all (hu_of hr)) l_sub (q_var 3) (q_int)) (qa_cons (q_ix (ix_all (hu_of hr)) l_sub (q_var 3) (q_int)) (qa_cons (q_ix (ix_all (hu_of hr)) l_sub (q_var 3) (q_int)) (qa_cons (q_op op_plus l_plus (q_var 4) (q_int)) (qa_cons (q_op op_plus l_plus (q_var 5) (q_int)) (qa_nil)))))))) (qg_sub (hu_of hr) (q_var 1) (q_var 4))) (qss_one (qs_asg (q_tup (qa_cons (q_str) (qa_cons (q_callB call_lenA l_len (by rfl) T.n_len PySem.boot_len (qa_cons (q_var 1) (qa_nil))) (qa_nil)))) (qg_sub (hu_of hr) (q_var 1) (q_var 5))))))))))) (qss_one (qs_if (qt_cmp (op_eqA hr.units) l_eq (q_ix (ix_all (hu_of hr)) l_sub (q_var 3) (q_int)) (q_str) (nomark _)) (qss_cons (qs_set (i := 6) nd rfl (by first | exact Or.inl rfl | exact Or.inr rfl) (q_callB call_lenA l_len (by rfl) T.n_len PySem.boot_len (qa_cons (q_var 1) (qa_nil)))) (qss_cons (qs_expr (q_bm PySem.F.plainAttrs_list PySem.F.slot_list_append PySem.F.type_list_append mt_append l_append (q_var 1) (qa_cons (q_tup (qa_cons (q_str) (qa_cons (q_callB call_lenA l_len (by rfl) T.n_len PySem.boot_len (qa_cons (q_var 2) (qa_nil))) (qa_nil)))) (qa_nil)))) (qss_cons (qs_expr (q_bm PySem.F.plainAttrs_list PySem.F.slot_list_append PySem.F.type_list_append mt_append l_append (q_var 2) (qa_cons (q_ix (ix_all (hu_of hr)) l_sub (q_var 3) (q_int)) (qa_nil)))) (qss_cons (qs_expr (q_bm PySem.F.plainAttrs_list PySem.F.slot_list_append PySem.F.type_list_append mt_append l_append (q_var 1) (qa_cons (q_non) (qa_nil)))) (qss_cons (qs_expr (q_c c__law_flat hr h__law_flat rfl (qa_cons (q_ix (ix_all (hu_of hr)) l_sub (q_var 3) (q_int)) (qa_cons (q_var 1) (qa_cons (q_var 2) (qa_nil)))))) (qss_cons (qs_expr (q_bm PySem.F.plainAttrs_list PySem.F.slot_list_append PySem.F.type_list_append mt_append l_append (q_var 1) (qa_cons (q_tup (qa_cons (q_str) (qa_cons (q_var 6) (qa_nil)))) (qa_nil)))) (qss_one (qs_asg (q_tup (qa_cons (q_str) (qa_cons (q_ix (ix_all (hu_of hr)) l_sub (q_var 3) (q_int)) (qa_cons (q_ix (ix_all (hu_of hr)) l_sub (q_var 3) (q_int)) (qa_cons (q_ix (ix_all (hu_of hr)) l_sub (q_var 3) (q_int)) (qa_cons (q_op op_plus l_plus (q_var 6) (q_int)) (qa_cons (q_callB call_lenA l_len (by rfl) T.n_len PySem.boot_len (qa_cons (q_var 1) (qa_nil))) (qa_nil)))))))) (qg_sub (hu_of hr) (q_var 1) (q_op op_plus l_plus (q_var 6) (q_int))))))))))) (qss_one (qs_expr (q_bm PySem.F.plainAttrs_list PySem.F.slot_list_append PySem.F.type_list_append mt_append l_append (q_var 1) (qa_cons (q_var 3) (qa_nil))))))))))
abbrev st__law_code : Stmt := topS 16
abbrev N__law_code : List Str := ["proc", "rows", "loops"]
theorem sc__law_code : FnScope N__law_code ["proc"] (defScope st__law_code) := ⟨rfl, rfl, rfl, by decide +kernel, rfl, by decide +kernel, by decide +kernel⟩
theorem t__law_code (T : Txt K mg) {k : Nat} {cdv : Value} {A : Around} {outer : List PySem.Env} {s0 : Shared} {H : Hp} {E : XK} {f : Addr} (hr : Room k (A.deeper (envOfC "_law_code" (defScope st__law_code) s0.heap.objs.size f cdv)))  {j__law_flat : Nat} {s__law_flat : DSp} (c__law_flat : Cal P w K mg base CX0 j__law_flat "_law_flat" ["body", "rows", "loops"] s__law_flat) (h__law_flat : j__law_flat ≤ k) :
    PSs (cxOf CX0 P w K mg base N__law_code "_law_code" (defScope st__law_code) f cdv A outer s0 H E).nox (defBody st__law_code) (upS K B0 (r__law_code s__law_flat)) := by
  have nd := sc__law_code.nd
  exact qss_cons (qs_set (i := 1) nd rfl (by first | exact Or.inl rfl | exact Or.inr rfl) (q_lstM (qa_nil))) (qss_cons (qs_set (i := 2) nd rfl (by first | exact Or.inl rfl | exact Or.inr rfl) (q_lstM (qa_nil))) (qss_cons (qs_expr (q_c c__law_flat hr h__law_flat rfl (qa_cons (q_ix (ix_all (hu_of hr)) l_sub (q_var 0) (q_int)) (qa_cons (q_var 1) (qa_cons (q_var 2) (qa_nil)))))) (qss_one (qs_ret (q_tup (qa_cons (q_op op_plus l_plus (q_var 1) (q_lst (qa_cons (q_tup (qa_cons (q_str) (qa_cons (q_int) (qa_nil)))) (qa_nil)))) (qa_cons (q_var 2) (qa_nil))))))))
abbrev st_Code__block : Stmt := inClass (topS 1) 1
abbrev N_Code__block : List Str := ["self", "body", "row"]
theorem sc_Code__block : FnScope N_Code__block ["self", "body"] (defScope st_Code__block) := ⟨rfl, rfl, rfl, by decide +kernel, rfl, by decide +kernel, by decide +kernel⟩
theorem t_Code__block (T : Txt K mg) {k : Nat} {cdv : Value} {A : Around} {outer : List PySem.Env} {s0 : Shared} {H : Hp} {E : XK} {f : Addr} (hr : Room k (A.deeper (envOfC "Code._block" (defScope st_Code__block) s0.heap.objs.size f cdv)))  {C_Code : Addr} (cl_Code : Cls K C_Code) {j_Code__if : Nat} {s_Code__if : DSp} (m_Code__if : Mcal P w K mg base CX0 j_Code__if C_Code "_if" ["self", "row"] s_Code__if) (h_Code__if : j_Code__if ≤ k) {j_Code__while : Nat} {s_Code__while : DSp} (m_Code__while : Mcal P w K mg base CX0 j_Code__while C_Code "_while" ["self", "row"] s_Code__while) (h_Code__while : j_Code__while ≤ k) :
    PSs (cxOf CX0 P w K mg base N_Code__block "Code._block" (defScope st_Code__block) f cdv A outer s0 H E).nox (defBody st_Code__block) (upS K B0 (r_Code__block K C_Code s_Code__if s_Code__while)) := by
  have nd := sc_Code__block.nd
  exact qss_one (qs_for PassesOwn.never rfl (qi_it (q_var 1)) (qg_name (i := 2) nd rfl (by first | exact Or.inl rfl | exact Or.inr rfl)) (qss_one (qs_if (qt_cmp (op_eqA hr.units) l_eq (q_ix (ix_all (hu_of hr)) l_sub (q_var 2) (q_int)) (q_str) (nomark _)) (qss_one (qs_expr (q_mc (q_var 0) m_Code__if cl_Code hr h_Code__if (qa_cons (q_var 2) (qa_nil))))) (qss_one (qs_if (qt_cmp (op_eqA hr.units) l_eq (q_ix (ix_all (hu_of hr)) l_sub (q_var 2) (q_int)) (q_str) (nomark _)) (qss_one (qs_expr (q_mc (q_var 0) m_Code__while cl_Code hr h_Code__while (qa_cons (q_var 2) (qa_nil))))) (qss_one (qs_expr (q_bm PySem.F.plainAttrs_list PySem.F.slot_list_append PySem.F.type_list_append mt_append l_append (q_fld (q_var 0)) (qa_cons (q_var 2) (qa_nil))))))))))
abbrev st_Code__test : Stmt := inClass (topS 1) 2
abbrev N_Code__test : List Str := ["self", "row"]
theorem sc_Code__test : FnScope N_Code__test ["self", "row"] (defScope st_Code__test) := ⟨rfl, rfl, rfl, by decide +kernel, rfl, by decide +kernel, by decide +kernel⟩
theorem t_Code__test (T : Txt K mg) {k : Nat} {cdv : Value} {A : Around} {outer : List PySem.Env} {s0 : Shared} {H : Hp} {E : XK} {f : Addr} (hr : Room k (A.deeper (envOfC "Code._test" (defScope st_Code__test) s0.heap.objs.size f cdv)))  :
    PSs (cxOf CX0 P w K mg base N_Code__test "Code._test" (defScope st_Code__test) f cdv A outer s0 H E).nox (defBody st_Code__test) (upS K B0 (r_Code__test K)) := by
  have nd := sc_Code__test.nd
  exact qss_cons (qs_expr (q_bm PySem.F.plainAttrs_list PySem.F.slot_list_append PySem.F.type_list_append mt_append l_append (q_fld (q_var 0)) (qa_cons (q_tup (qa_cons (q_str) (qa_cons (q_ix (ix_all (hu_of hr)) l_sub (q_var 1) (q_int)) (qa_cons (q_ix (ix_all (hu_of hr)) l_sub (q_var 1) (q_int)) (qa_cons (q_ix (ix_all (hu_of hr)) l_sub (q_var 1) (q_int)) (qa_cons (q_int) (qa_cons (q_int) (qa_nil)))))))) (qa_nil)))) (qss_one (qs_ret (q_op op_sub l_I0 (q_callB call_lenA l_len (by rfl) T.n_len PySem.boot_len (qa_cons (q_fld (q_var 0)) (qa_nil))) (q_int))))
abbrev st_Code__goals : Stmt := inClass (topS 1) 3
abbrev N_Code__goals : List Str := ["self", "at", "yes", "no"]
theorem sc_Code__goals : FnScope N_Code__goals ["self", "at", "yes", "no"] (defScope st_Code__goals) := ⟨rfl, rfl, rfl, by decide +kernel, rfl, by decide +kernel, by decide +kernel⟩
theorem t_Code__goals (T : Txt K mg) {k : Nat} {cdv : Value} {A : Around} {outer : List PySem.Env} {s0 : Shared} {H : Hp} {E : XK} {f : Addr} (hr : Room k (A.deeper (envOfC "Code._goals" (defScope st_Code__goals) s0.heap.objs.size f cdv)))  :
    PSs (cxOf CX0 P w K mg base N_Code__goals "Code._goals" (defScope st_Code__goals) f cdv A outer s0 H E).nox (defBody st_Code__goals) (upS K B0 (r_Code__goals K)) := by
  have nd := sc_Code__goals.nd
  exact qss_one (qs_asg (q_op op_plus l_plus (q_slice (q_ix (ix_all (hu_of hr)) l_sub (q_fld (q_var 0)) (q_var 1)) (qo_none) (qo_some (q_int))) (q_tup (qa_cons (q_var 2) (qa_cons (q_var 3) (qa_nil))))) (qg_sub (hu_of hr) (q_fld (q_var 0)) (q_var 1)))
abbrev st_Code__if : Stmt := inClass (topS 1) 4
abbrev N_Code__if : List Str := ["self", "row", "at", "over"]
theorem sc_Code__if : FnScope N_Code__if ["self", "row"] (defScope st_Code__if) := ⟨rfl, rfl, rfl, by decide +kernel, rfl, by decide +kernel, by decide +kernel⟩
theorem t_Code__if (T : Txt K mg) {k : Nat} {cdv : Value} {A : Around} {outer : List PySem.Env} {s0 : Shared} {H : Hp} {E : XK} {f : Addr} (hr : Room k (A.deeper (envOfC "Code._if" (defScope st_Code__if) s0.heap.objs.size f cdv)))  {C_Code : Addr} (cl_Code : Cls K C_Code) {j_Code__test : Nat} {s_Code__test : DSp} (m_Code__test : Mcal P w K mg base CX0 j_Code__test C_Code "_test" ["self", "row"] s_Code__test) (h_Code__test : j_Code__test ≤ k) {j_Code__block : Nat} {s_Code__block : DSp} (m_Code__block : Mcal P w K mg base CX0 j_Code__block C_Code "_block" ["self", "body"] s_Code__block) (h_Code__block : j_Code__block ≤ k) {j_Code__goals : Nat} {s_Code__goals : DSp} (m_Code__goals : Mcal P w K mg base CX0 j_Code__goals C_Code "_goals" ["self", "at", "yes", "no"] s_Code__goals) (h_Code__goals : j_Code__goals ≤ k) :
    PSs (cxOf CX0 P w K mg base N_Code__if "Code._if" (defScope st_Code__if) f cdv A outer s0 H E).nox (defBody st_Code__if) (upS K B0 (r_Code__if K C_Code s_Code__test s_Code__block s_Code__goals)) := by
  have nd := sc_Code__if.nd
  exact qss_cons (qs_set (i := 2) nd rfl (by first | exact Or.inl rfl | exact Or.inr rfl) (q_mc (q_var 0) m_Code__test cl_Code hr h_Code__test (qa_cons (q_var 1) (qa_nil)))) (qss_cons (qs_expr (q_mc (q_var 0) m_Code__block cl_Code hr h_Code__block (qa_cons (q_ix (ix_all (hu_of hr)) l_sub (q_var 1) (q_int)) (qa_nil)))) (qss_cons (qs_set (i := 3) nd rfl (by first | exact Or.inl rfl | exact Or.inr rfl) (q_callB call_lenA l_len (by rfl) T.n_len PySem.boot_len (qa_cons (q_fld (q_var 0)) (qa_nil)))) (qss_cons (qs_expr (q_bm PySem.F.plainAttrs_list PySem.F.slot_list_append PySem.F.type_list_append mt_append l_append (q_fld (q_var 0)) (qa_cons (q_tup (qa_cons (q_str) (qa_cons (q_int) (qa_nil)))) (qa_nil)))) (qss_cons (qs_expr (q_mc (q_var 0) m_Code__block cl_Code hr h_Code__block (qa_cons (q_ix (ix_all (hu_of hr)) l_sub (q_var 1) (q_int)) (qa_nil)))) (qss_cons (qs_asg (q_tup (qa_cons (q_str) (qa_cons (q_callB call_lenA l_len (by rfl) T.n_len PySem.boot_len (qa_cons (q_fld (q_var 0)) (qa_nil))) (qa_nil)))) (qg_sub (hu_of hr) (q_fld (q_var 0)) (q_var 3))) (qss_one (qs_expr (q_mc (q_var 0) m_Code__goals cl_Code hr h_Code__goals (qa_cons (q_var 2) (qa_cons (q_op op_plus l_plus (q_var 2) (q_int)) (qa_cons (q_op op_plus l_plus (q_var 3) (q_int)) (qa_nil))))))))))))
abbrev st_Code__while : Stmt := inClass (topS 1) 5
abbrev N_Code__while : List Str := ["self", "row", "head", "at"]
theorem sc_Code__while : FnScope N_Code__while ["self", "row"] (defScope st_Code__while) := ⟨rfl, rfl, rfl, by decide +kernel, rfl, by decide +kernel, by decide +kernel⟩
theorem t_Code__while (T : Txt K mg) {k : Nat} {cdv : Value} {A : Around} {outer : List PySem.Env} {s0 : Shared} {H : Hp} {E : XK} {f : Addr} (hr : Room k (A.deeper (envOfC "Code._while" (defScope st_Code__while) s0.heap.objs.size f cdv)))  {C_Code : Addr} (cl_Code : Cls K C_Code) {j_Code__test : Nat} {s_Code__test : DSp} (m_Code__test : Mcal P w K mg base CX0 j_Code__test C_Code "_test" ["self", "row"] s_Code__test) (h_Code__test : j_Code__test ≤ k) {j_Code__block : Nat} {s_Code__block : DSp} (m_Code__block : Mcal P w K mg base CX0 j_Code__block C_Code "_block" ["self", "body"] s_Code__block) (h_Code__block : j_Code__block ≤ k) {j_Code__goals : Nat} {s_Code__goals : DSp} (m_Code__goals : Mcal P w K mg base CX0 j_Code__goals C_Code "_goals" ["self", "at", "yes", "no"] s_Code__goals) (h_Code__goals : j_Code__goals ≤ k) :
    PSs (cxOf CX0 P w K mg base N_Code__while "Code._while" (defScope st_Code__while) f cdv A outer s0 H E).nox (defBody st_Code__while) (upS K B0 (r_Code__while K C_Code s_Code__test s_Code__block s_Code__goals)) := by
  have nd := sc_Code__while.nd
  exact qss_cons (qs_set (i := 2) nd rfl (by first | exact Or.inl rfl | exact Or.inr rfl) (q_callB call_lenA l_len (by rfl) T.n_len PySem.boot_len (qa_cons (q_fld (q_var 0)) (qa_nil)))) (qss_cons (qs_expr (q_bm PySem.F.plainAttrs_list PySem.F.slot_list_append PySem.F.type_list_append mt_append l_append (q_fld (q_var 0)) (qa_cons (q_tup (qa_cons (q_str) (qa_cons (q_callB call_lenA l_len (by rfl) T.n_len PySem.boot_len (qa_cons (q_fld (q_var 0)) (qa_nil))) (qa_nil)))) (qa_nil)))) (qss_cons (qs_expr (q_bm PySem.F.plainAttrs_list PySem.F.slot_list_append PySem.F.type_list_append mt_append l_append (q_fld (q_var 0)) (qa_cons (q_ix (ix_all (hu_of hr)) l_sub (q_var 1) (q_int)) (qa_nil)))) (qss_cons (qs_set (i := 3) nd rfl (by first | exact Or.inl rfl | exact Or.inr rfl) (q_mc (q_var 0) m_Code__test cl_Code hr h_Code__test (qa_cons (q_var 1) (qa_nil)))) (qss_cons (qs_expr (q_mc (q_var 0) m_Code__block cl_Code hr h_Code__block (qa_cons (q_ix (ix_all (hu_of hr)) l_sub (q_var 1) (q_int)) (qa_nil)))) (qss_cons (qs_expr (q_bm PySem.F.plainAttrs_list PySem.F.slot_list_append PySem.F.type_list_append mt_append l_append (q_fld (q_var 0)) (qa_cons (q_tup (qa_cons (q_str) (qa_cons (q_var 2) (qa_nil)))) (qa_nil)))) (qss_one (qs_expr (q_mc (q_var 0) m_Code__goals cl_Code hr h_Code__goals (qa_cons (q_var 3) (qa_cons (q_op op_plus l_plus (q_var 3) (q_int)) (qa_cons (q_callB call_lenA l_len (by rfl) T.n_len PySem.boot_len (qa_cons (q_fld (q_var 0)) (qa_nil))) (qa_nil))))))))))))
abbrev st_Code___init__ : Stmt := inClass (topS 1) 0
abbrev N_Code___init__ : List Str := ["self", "body"]
theorem sc_Code___init__ : FnScope N_Code___init__ ["self", "body"] (defScope st_Code___init__) := ⟨rfl, rfl, rfl, by decide +kernel, rfl, by decide +kernel, by decide +kernel⟩
theorem t_Code___init__ (T : Txt K mg) {k : Nat} {cdv : Value} {A : Around} {outer : List PySem.Env} {s0 : Shared} {H : Hp} {E : XK} {f : Addr} (hr : Room k (A.deeper (envOfC "Code.__init__" (defScope st_Code___init__) s0.heap.objs.size f cdv)))  {C_Code : Addr} (cl_Code : Cls K C_Code) {j_Code__block : Nat} {s_Code__block : DSp} (m_Code__block : Mcal P w K mg base CX0 j_Code__block C_Code "_block" ["self", "body"] s_Code__block) (h_Code__block : j_Code__block ≤ k) :
    PSs (cxOf CX0 P w K mg base N_Code___init__ "Code.__init__" (defScope st_Code___init__) f cdv A outer s0 H E).nox (defBody st_Code___init__) (upS K B0 (r_Code___init__ K C_Code s_Code__block)) := by
  have nd := sc_Code___init__.nd
  exact qss_cons (qs_fld (q_var 0) (q_lstM (qa_nil))) (qss_cons (qs_fld (q_var 0) (q_lstM (qa_nil))) (qss_cons (qs_expr (q_mc (q_var 0) m_Code__block cl_Code hr h_Code__block (qa_cons (q_var 1) (qa_nil)))) (qss_one (qs_expr (q_bm PySem.F.plainAttrs_list PySem.F.slot_list_append PySem.F.type_list_append mt_append l_append (q_fld (q_var 0)) (qa_cons (q_tup (qa_cons (q_str) (qa_cons (q_int) (qa_nil)))) (qa_nil)))))))
abbrev st_code_of : Stmt := topS 2
abbrev N_code_of : List Str := ["proc", "code"]
theorem sc_code_of : FnScope N_code_of ["proc"] (defScope st_code_of) := ⟨rfl, rfl, rfl, by decide +kernel, rfl, by decide +kernel, by decide +kernel⟩
theorem t_code_of (T : Txt K mg) {k : Nat} {cdv : Value} {A : Around} {outer : List PySem.Env} {s0 : Shared} {H : Hp} {E : XK} {f : Addr} (hr : Room k (A.deeper (envOfC "code_of" (defScope st_code_of) s0.heap.objs.size f cdv)))  {j_Code : Nat} {C_Code : Addr} {s_Code___init__ : DSp} (k_Code : Kcal P w K mg base CX0 j_Code "Code" C_Code ["self", "body"] s_Code___init__) (h_Code : j_Code + 1 ≤ k) :
    PSs (cxOf CX0 P w K mg base N_code_of "code_of" (defScope st_code_of) f cdv A outer s0 H E).nox (defBody st_code_of) (upS K B0 (r_code_of K C_Code s_Code___init__)) := by
  have nd := sc_code_of.nd
  exact qss_cons (qs_set (i := 1) nd rfl (by first | exact Or.inl rfl | exact Or.inr rfl) (q_kc k_Code hr h_Code rfl (qa_cons (q_ix (ix_all (hu_of hr)) l_sub (q_var 0) (q_int)) (qa_nil)))) (qss_one (qs_ret (q_tup (qa_cons (q_callTy call_tuple_of l_tuple (by rfl) T.n_tuple (by decide +kernel) (qa_cons (q_fld (q_var 1)) (qa_nil))) (qa_cons (q_callTy call_tuple_of l_tuple (by rfl) T.n_tuple (by decide +kernel) (qa_cons (q_fld (q_var 1)) (qa_nil))) (qa_nil))))))
abbrev st_law : Stmt := topS 17
abbrev N_law : List Str := ["script", "d", "program", "proc", "rows", "loops", "body", "own", "told"]
theorem sc_law : FnScope N_law ["script"] (defScope st_law) := ⟨rfl, rfl, rfl, by decide +kernel, rfl, by decide +kernel, by decide +kernel⟩
theorem t_law (T : Txt K mg) {k : Nat} {cdv : Value} {A : Around} {outer : List PySem.Env} {s0 : Shared} {H : Hp} {E : XK} {f : Addr} (hr : Room k (A.deeper (envOfC "law" (defScope st_law) s0.heap.objs.size f cdv)))  {j__law_begin : Nat} {s__law_begin : DSp} (c__law_begin : Cal P w K mg base CX0 j__law_begin "_law_begin" ["script"] s__law_begin) (h__law_begin : j__law_begin ≤ k) {j__law_program : Nat} {s__law_program : DSp} (c__law_program : Cal P w K mg base CX0 j__law_program "_law_program" ["d", "size"] s__law_program) (h__law_program : j__law_program ≤ k) {j__law_code : Nat} {s__law_code : DSp} (c__law_code : Cal P w K mg base CX0 j__law_code "_law_code" ["proc"] s__law_code) (h__law_code : j__law_code ≤ k) {j_code_of : Nat} {s_code_of : DSp} (c_code_of : Cal P w K mg base CX0 j_code_of "code_of" ["proc"] s_code_of) (h_code_of : j_code_of ≤ k) :
    PSs (cxOf CX0 P w K mg base N_law "law" (defScope st_law) f cdv A outer s0 H E).nox (defBody st_law) (upS K B0 (r_law s__law_begin s__law_program s__law_code s_code_of)) := by
  have nd := sc_law.nd
  exact qss_cons (qs_set (i := 1) nd rfl (by first | exact Or.inl rfl | exact Or.inr rfl) (q_c c__law_begin hr h__law_begin rfl (qa_cons (q_var 0) (qa_nil)))) (qss_cons (qs_set (i := 2) nd rfl (by first | exact Or.inl rfl | exact Or.inr rfl) (q_c c__law_program hr h__law_program rfl (qa_cons (q_var 1) (qa_cons (q_int) (qa_nil))))) (qss_cons (qs_for PassesOwn.never rfl (qi_it (q_ix (ix_all (hu_of hr)) l_sub (q_var 2) (q_int))) (qg_name (i := 3) nd rfl (by first | exact Or.inl rfl | exact Or.inr rfl)) (qss_cons (qs_asg (q_c c__law_code hr h__law_code rfl (qa_cons (q_var 3) (qa_nil))) (qg_tup rfl (qgs_cons (qg_name (i := 4) nd rfl (by first | exact Or.inl rfl | exact Or.inr rfl)) (qgs_cons (qg_name (i := 5) nd rfl (by first | exact Or.inl rfl | exact Or.inr rfl)) (qgs_nil))))) (qss_cons (qs_if (qt_cmp (op_neA hr.units) l_ne (q_c c_code_of hr h_code_of rfl (qa_cons (q_var 3) (qa_nil))) (q_tup (qa_cons (q_callTy call_tuple_of l_tuple (by rfl) T.n_tuple (by decide +kernel) (qa_cons (q_var 4) (qa_nil))) (qa_cons (q_callTy call_tuple_of l_tuple (by rfl) T.n_tuple (by decide +kernel) (qa_cons (q_var 5) (qa_nil))) (qa_nil)))) (nomark _)) (qss_one (qs_ret (q_bl))) (qss_nil)) (qss_one (qs_for PassesOwn.never rfl (qi_it (q_tup (qa_cons (q_slice (q_ix (ix_all (hu_of hr)) l_sub (q_var 3) (q_int)) (qo_some (q_int)) (qo_none)) (qa_cons (q_op op_plus l_plus (q_ix (ix_all (hu_of hr)) l_sub (q_var 3) (q_int)) (q_ix (ix_all (hu_of hr)) l_sub (q_var 3) (q_int))) (qa_cons (q_tup (qa_cons (q_tup (qa_cons (q_str) (qa_cons (q_str) (qa_cons (q_int) (qa_cons (q_int) (qa_cons (q_ix (ix_all (hu_of hr)) l_sub (q_var 3) (q_int)) (qa_cons (q_ix (ix_all (hu_of hr)) l_sub (q_var 3) (q_int)) (qa_nil)))))))) (qa_nil))) (qa_cons (q_tup (qa_cons (q_tup (qa_cons (q_str) (qa_cons (q_str) (qa_cons (q_str) (qa_cons (q_int) (qa_cons (q_non) (qa_cons (q_ix (ix_all (hu_of hr)) l_sub (q_var 3) (q_int)) (qa_nil)))))))) (qa_nil))) (qa_nil))))))) (qg_name (i := 6) nd rfl (by first | exact Or.inl rfl | exact Or.inr rfl)) (qss_cons (qs_set (i := 7) nd rfl (by first | exact Or.inl rfl | exact Or.inr rfl) (q_op op_plus l_plus (q_slice (q_var 3) (qo_none) (qo_some (q_int))) (q_tup (qa_cons (q_var 6) (qa_nil))))) (qss_cons (qs_asg (q_c c__law_code hr h__law_code rfl (qa_cons (q_var 7) (qa_nil))) (qg_tup rfl (qgs_cons (qg_name (i := 4) nd rfl (by first | exact Or.inl rfl | exact Or.inr rfl)) (qgs_cons (qg_name (i := 5) nd rfl (by first | exact Or.inl rfl | exact Or.inr rfl)) (qgs_nil))))) (qss_cons (qs_set (i := 8) nd rfl (by first | exact Or.inl rfl | exact Or.inr rfl) (q_c c_code_of hr h_code_of rfl (qa_cons (q_var 7) (qa_nil)))) (qss_one (qs_if (PW.pt (qw_or (qt_cmp (op_neA hr.units) l_ne (q_var 8) (q_tup (qa_cons (q_callTy call_tuple_of l_tuple (by rfl) T.n_tuple (by decide +kernel) (qa_cons (q_var 4) (qa_nil))) (qa_cons (q_callTy call_tuple_of l_tuple (by rfl) T.n_tuple (by decide +kernel) (qa_cons (q_var 5) (qa_nil))) (qa_nil)))) (nomark _)) (qw_or1 (qt_not (qt_truth (q_callB call_isi l_isi (by rfl) T.n_isinstance (by decide +kernel) (qa_cons (q_ix (ix_all (hu_of hr)) l_sub (q_var 8) (q_int)) (qa_cons (q_bltn (v := .ty "tuple") (by rfl) T.n_tuple (by decide +kernel) rfl) (qa_nil))))))))) (qss_one (qs_ret (q_bl))) (qss_nil))))))))))) (qss_one (qs_ret (q_bl)))))
end
end K15


set_option Elab.async false
set_option linter.all false
set_option maxRecDepth 100000
set_option maxHeartbeats 4000000
set_option pp.deepTerms false
set_option pp.maxSteps 300
/-! the readings of law k15 -/
namespace K15
open PySem PySem.Spec PyProof.Rows L2 Y YD
local macro_rules | `(tactic| walk_at "y_ne") => `(tactic| first | assumption | exact Ne.symm (by assumption) | ((refine ne_none (M := ?yM) (m := ?ymo) ?ym1 ?ym2); (case ym2 => assumption); (case ym1 => walk_at "y_look")) | ((refine Ne.symm (ne_none (M := ?yM) (m := ?ymo) ?ym1 ?ym2)); (case ym2 => assumption); (case ym1 => walk_at "y_look")) | ((refine ne_none (M := ?yM) (m := ?ymo) ?ym1 (put_none (M := ?yM) (a := ?yma) (m := ?ymo2) ?ym2).2); (case ym2 => assumption); (case ym1 => walk_at "y_look")) | ((refine Ne.symm (ne_none (M := ?yM) (m := ?ymo) ?ym1 (put_none (M := ?yM) (a := ?yma) (m := ?ymo2) ?ym2).2)); (case ym2 => assumption); (case ym1 => walk_at "y_look")))
local macro_rules | `(tactic| walk_at "y_look") => `(tactic| first | assumption | exact put_same | ((with_reducible refine Eq.trans (put_ne ?yn) ?_); (case yn => walk_at "y_ne"); (walk_at "y_look")) | ((with_reducible refine Eq.trans (drop_ne ?yn) ?_); (case yn => walk_at "y_ne"); (walk_at "y_look")))
local macro_rules | `(tactic| walk_at "y_pl") => `(tactic| first | assumption | exact PlL.nil | exact Pl.int _ | exact Pl.non | exact Pl.bl _ | exact Pl.str (by decide +kernel) | ((with_reducible refine PlL.cons ?yp1 ?yp2); (case yp1 => walk_at "y_pl"); (case yp2 => walk_at "y_pl")) | ((with_reducible refine PlL.append ?yp1 ?yp2); (case yp1 => walk_at "y_pl"); (case yp2 => walk_at "y_pl")) | ((with_reducible refine Pl.tup ?yp1); (case yp1 => walk_at "y_pl")) | ((with_reducible refine PlL.mono (j := ?yj) ?yp1 ?yp2); (case yp1 => assumption); (case yp2 => first | decide | omega)) | ((with_reducible refine Pl.mono (j := ?yj) ?yp1 ?yp2); (case yp1 => assumption); (case yp2 => first | decide | omega)))
local macro_rules | `(tactic| walk_at "y_len") => `(tactic| ((try simp only [List.length_append, List.length_cons, List.length_nil, List.length_map, sizeLine_eq] at *); omega))
local macro_rules | `(tactic| walk_at "y_rfl") => `(tactic| first | rfl | (simp only [atI_nn]; rfl))
local macro_rules | `(tactic| walk_at "y_at") => `(tactic| first | exact atI_nn _ 0 | rfl)
local macro_rules | `(tactic| walk_at "y_cond") => `(tactic| first
  | (show (0 : Int) < _; first | decide | assumption | omega)
  | (exact ⟨by first | decide | assumption | omega, by first | decide | assumption | omega⟩)
  | (exact Or.inl ⟨by first | decide | assumption | omega, by first | decide | assumption | omega⟩)
  | (exact Or.inr ⟨by first | decide | assumption | omega, by first | decide | assumption | omega⟩)
  | (exact ⟨by decide, by decide, by decide⟩))
local macro_rules | `(tactic| walk_at "y1") => `(tactic| first
  | (with_reducible first | refine i_seq ?_ | refine i_next ?_ | refine i_asg ?_ | refine i_ret ?_ | refine i_retN ?_ | refine i_drop ?_ | refine i_cont ?_ | refine i_break ?_ | refine i_ifs ?_ | refine i_if ?_ | refine i_and ?_ | refine i_or ?_ | refine i_not ?_ | refine i_test ?_ | refine i_tru ?_ | refine i_andV ?_ | refine i_orV ?_ | refine i_notV ?_ | refine i_bl ?_ | refine i_op ?_ | refine i_chain ?_ | refine i_c ?_ | refine i_cd ?_ | refine i_nil ?_ | refine i_cons ?_ | refine i_call ?_ | refine i_cb ?_ | refine i_tup ?_ | refine i_lst ?_ | refine i_lstM ?_ | refine i_dict ?_ | refine i_frz ?_ | refine i_name ?_ | refine i_gcons ?_ | refine i_gnil ?_ | refine i_gsub ?_ | refine i_par ?_ | refine i_par2 ?_ | refine i_un ?_ | refine i_int ?_ | refine i_slice ?_ | refine i_onone ?_ | refine i_osome ?_ | refine i_bm ?_ | refine i_bm0 ?_ | refine i_get1 ?_ | refine i_get2 ?_ | refine i_del ?_ | refine i_for ?_ | refine i_lc ?_ | refine i_dc ?_ | refine i_yes ?_ | refine i_it ?_ | refine i_rng1 ?_ | refine i_fld ?_ | refine i_sfld ?_ | refine i_meth ?_ | refine i_make ?_ | refine v_I0 ?_ | refine v_plusI ?_ | refine v_eqI ?_ | refine v_eqS ?_ | refine v_isN ?_ | refine v_int ?_ | refine v_abs ?_ | refine v_sliceT ?_ | refine v_sliceL ?_ | refine b_fx ?_ | refine b_tx ?_)
  | ((with_reducible refine i_var (d := ?yd) ?ye0 ?_); (case ye0 => rfl))
  | ((with_reducible refine i_gtup ?ye0 ?_); (case ye0 => rfl))
  | (with_reducible refine iteT ?_)
  | (with_reducible refine iteF ?_)
  | (with_reducible refine b_dec ?_ ?_ <;> intro hc)
  | (with_reducible refine b_ndec ?_ ?_ <;> intro hc)
  | ((with_reducible refine v_subT (d := ?yd) ?ye0 ?_); (case ye0 => rfl))
  | ((with_reducible refine v_subL (d := ?yd) ?ye0 ?_); (case ye0 => rfl))
  | ((with_reducible refine v_subM (ds := ?yds) (d := ?yd) ?ye0 ?ye1 ?_); (case ye0 => (walk_at "y_look")); (case ye1 => rfl))
  | ((with_reducible refine v_setL (ds := ?yds) (j := ?yj) ?ye0 ?ye1 ?_); (case ye0 => (walk_at "y_look")); (case ye1 => rfl))
  | ((with_reducible refine v_I ?ye0 ?_); (case ye0 => (walk_at "y_cond")))
  | ((with_reducible refine i_sz ?ye0 ?_); (case ye0 => (first | exact Nat.le_of_ble_eq_true rfl | (simp only [List.length_append, List.length_cons, List.length_nil, List.length_map, sizeLine_eq] at *; omega))))
  | (with_reducible refine i_new fun yp yhp => ?_)
  | ((with_reducible refine v_app (ds := ?yds) ?ye0 ?ye1 ?_); (case ye0 => (walk_at "y_look")); (case ye1 => (first | (simp only [List.length_append, List.length_cons, List.length_nil, List.length_map, sizeLine_eq] at *; omega))))
  | ((with_reducible refine i_tyL (ds := ?yds) ?ye0 ?_); (case ye0 => (walk_at "y_look")))
  | (with_reducible refine i_tyl ?_)
  | ((with_reducible refine v_subK (kvs := ?ykv) (k := ?yk) (d := ?yd) ?ye0 ?ye1 ?ye2 ?_); (case ye0 => (walk_at "y_look")); (case ye1 => rfl); (case ye2 => first | assumption | rfl))
  | ((with_reducible refine v_plusL (ds := ?yds) (es := ?yes) ?ye0 ?ye1 ?ye2 ?_); (case ye0 => first | rfl | (with_reducible refine lsD_ref (ds := ?yds2) ?yl0; walk_at "y_look")); (case ye1 => first | rfl | (with_reducible refine lsD_ref (ds := ?yds2) ?yl0; walk_at "y_look")); (case ye2 => (simp only [List.length_append, List.length_cons, List.length_nil, List.length_map, sizeLine_eq] at *; omega)))
  | ((with_reducible refine v_plusT ?ye0 ?_); (case ye0 => (simp only [List.length_append, List.length_cons, List.length_nil, List.length_map, sizeLine_eq] at *; omega)))
  | ((with_reducible refine i_rng1d ?ye0 ?_); (case ye0 => (constructor <;> omega)))
  | ((with_reducible refine v_len (n := ?yn) ?ye0 ?_); (case ye0 => first | (with_reducible refine lenD_ref (ds := ?yds) ?yl0; walk_at "y_look") | rfl))
  | ((with_reducible refine v_list (es := ?yes) ?ye0 ?_); (case ye0 => first | (with_reducible refine itD_ref (ds := ?yds) ?yl0; walk_at "y_look") | rfl))
  | ((with_reducible refine v_tuple (es := ?yes) ?ye0 ?_); (case ye0 => first | (with_reducible refine itD_ref (ds := ?yds) ?yl0; walk_at "y_look") | rfl))
  | ((with_reducible refine v_eqP ?ye0 ?ye1 fun yb => ?_); (case ye0 => walk_at "y_pl"); (case ye1 => walk_at "y_pl"))
  | (with_reducible refine b_emp ?_ ?_ <;> intro hc)
  | (with_reducible refine i_trul ?_)
  | (with_reducible refine i_trut ?_)
  | (with_reducible refine i_trub ?_)
  | ((with_reducible refine v_inT ?ye0 ?_); (case ye0 => exact ⟨rfl, rfl⟩))
  | (with_reducible refine b_var ?_ ?_ <;> intro hc)
  | ((with_reducible refine i_its (ds := ?yds) ?ye0 ?_); (case ye0 => rfl)))
local macro_rules | `(tactic| walk_at "y0") => `(tactic| repeat' (walk_at "y1"))
local macro_rules | `(tactic| walk_at "ys") => `(tactic| walk_at "y0")
local macro_rules | `(tactic| walk_at "y_nn") => `(tactic| first | assumption | exact (put_none (by assumption)).2 | exact (put_none (put_none (by assumption)).2).2 | exact (put_none (put_none (put_none (by assumption)).2).2).2)
local macro_rules | `(tactic| walk_at "y_kl1") => `(tactic| first | (with_reducible exact KL.merge) | ((with_reducible refine KL.put (n := ?ykn) ?ykk); (case ykk => walk_at "y_kl1")))
local macro_rules | `(tactic| walk_at "y_kl") => `(tactic| ((refine KL.lt (n := ?yn) ?yk1 ?yk2); (case yk1 => walk_at "y_kl1"); (case yk2 => first | decide | (simp; done))))
local macro_rules | `(tactic| walk_at "y_fr") => `(tactic| first | exact Fr.refl _ _ | assumption | ((refine Fr.put ?yf1 ?yf2); (case yf2 => simp); (case yf1 => walk_at "y_fr")) | ((refine Fr.drop ?yf1 ?yf2); (case yf2 => simp); (case yf1 => walk_at "y_fr")))
local macro_rules | `(tactic| walk_at "y_fin") => `(tactic| first | assumption | rfl | walk_at "y_look" | walk_at "y_pl" | walk_at "y_fr" | omega | walk_at "y_len" | (intros; omega))
local macro_rules | `(tactic| walk_at "y_take") => `(tactic| ((with_reducible refine i_take (t := ?yt) ?yl ?yo ?yb fun yr yt' yr0 yr1 yok => ?_); (case yl => walk_at "y_look"); (case yo => assumption); (case yb => (constructor <;> first | omega | (simp; omega)))))
local macro_rules | `(tactic| walk_at "y_pick") => `(tactic| first | ((with_reducible refine i_pick2 (k := 0) (t := ?yt) ?yl ?yo ?yb ?yP fun yd yt' yP ym yok => ?_); (case yl => walk_at "y_look"); (case yo => assumption); (case yb => (constructor <;> walk_at "y_len")); (case yP => walk_at "y_pl")) | ((with_reducible refine i_pick2 (k := 5) (t := ?yt) ?yl ?yo ?yb ?yP fun yd yt' yP ym yok => ?_); (case yl => walk_at "y_look"); (case yo => assumption); (case yb => (constructor <;> walk_at "y_len")); (case yP => walk_at "y_pl")))
local macro_rules | `(tactic| walk_at "y2") => `(tactic| first | walk_at "y1" | walk_at "y_take" | walk_at "y_pick" | (with_reducible refine i_disp fun yp yhp => ?_) | (with_reducible refine i_pcons ?_) | (with_reducible refine i_pnil ?_) | (with_reducible refine i_mut ?_) | ((with_reducible refine v_inT' ?ye0 ?ye1 fun yb => ?_); (case ye0 => walk_at "y_pl"); (case ye1 => walk_at "y_pl")) | ((with_reducible refine v_setK (kvs := ?ykv) (k := ?yk) ?ye0 ?ye1 ?ye2 ?_); (case ye0 => walk_at "y_look"); (case ye1 => rfl); (case ye2 => walk_at "y_kl")) | ((with_reducible refine i_mutd (ds := ?yds) ?ye0 ?_); (case ye0 => walk_at "y_look")) | ((with_reducible refine i_glst' ?ye0 ?_); (case ye0 => rfl)))
local macro_rules | `(tactic| walk_at "ys") => `(tactic| repeat' (walk_at "y2"))
/-- a shape, as data -/
def Shp (n : Nat) (d : D) : Prop := ∃ u f i, d = .tup [.tup u, .tup f, .tup i] ∧ PlL 0 u ∧ PlL 1 f ∧ PlL 1 i ∧ f.length ≤ n ∧ i.length ≤ n
def spShape : DSp := fun ds M Q _ => ∃ a t names most, ds = [.ref a, .lst names, .int most] ∧ M a = some (tkM t) ∧ t.ok ∧ PlL 0 names ∧ names.length ≤ 100 ∧ 0 ≤ most ∧ most ≤ 20 ∧ ∀ d t', Shp 20 d → t'.ok → Q d (put M a (tkM t'))
inductive ShI (M : Mm) (a p q : Addr) (names : List D) (most : Int) : Nat → Y.Env → Mm → Prop
  | mk {i : Nat} {M' : Mm} {t' : Tk} {f it : List D} {c5 c6 c7 c8 c9 c10 : Option D} : M' a = some (tkM t') → M' p = some (.lst f) → M' q = some (.lst it) → t'.ok → PlL 1 f → PlL 1 it → f.length ≤ i → it.length ≤ i → Fr M M' [a, p, q] →
    ShI M a p q names most i [some (.ref a), some (.lst names), some (.int most), some (.ref p), some (.ref q), c5, c6, c7, c8, c9, c10] M'
theorem rd_shape (ds : List D) (M : Mm) (Q : QD) (E : DX) (h : spShape ds M Q E) : r__law_shape_over spTake spPick { nx := fun _ M' => less Q .non M', rt := less Q } (startD 11 ds) M := by
  obtain ⟨a, t, names, most, rfl, hM, ok, hn, hl, m0, m1, k⟩ := h
  show r__law_shape_over _ _ _ [some (.ref a), some (.lst names), some (.int most), none, none, none, none, none, none, none, none] M
  unfold r__law_shape_over
  walk_at "ys"
  rename_i p hp q hq' r t1 r0 r1 ok1
  have hq := put_none hq'
  have hap := ne_none hM hp
  have haq := ne_none hM hq.2
  have hqp := hq.1
  have hrl : (rngD 0 r.toNat).length ≤ 20 := by simp [rngD]; omega
  refine for_word (ShI M a p q names most) ?_ ?_ ?_
  · apply ShI.mk <;> walk_at "y_fin"
  · rintro i d δ M' hd ⟨h1, h2, h3, ok, h4, h5, h6, h7, h8⟩
    have hi : i < 20 := Nat.lt_of_lt_of_le (List.getElem?_eq_some_iff.mp hd).1 hrl
    walk_at "ys"
    rename_i p2 hp2
    refine frz_draw (Pl 0) true h1 ok hp2 ?_ ?_ ?_
    · simp [sizeLine_eq]
    · intro d hd t' M' R o hM' fr hp' kT kF
      walk_at "ys"
      rename_i d1 t2 hd1 hm1 ok2
      exact kT _ _ hd1 ok2
    · intro es t' M2 ep ed hP hle hal o'
      refine ⟨p2, es, rfl, ep, ?_⟩
      rw [ed]
      obtain ⟨x, y, z, rfl⟩ := len3 (hal rfl)
      have hx := hP x (by simp)
      have hy := hP y (by simp)
      have hz := hP z (by simp)
      walk_at "ys"
      all_goals (apply ShI.mk <;> walk_at "y_fin")
  · rintro δ M' ⟨h1, h2, h3, ok, h4, h5, h6, h7, h8⟩
    walk_at "ys"
    refine less_fr (k _ _ ⟨[], _, _, rfl, PlL.nil, h4, h5, by omega, by omega⟩ ok) h1 h8 ?_
    simp [hp, hq.2]
theorem Shp.pl {n : Nat} {d : D} (h : Shp n d) : Pl 3 d := by
  obtain ⟨u, f, i, rfl, h1, h2, h3, _, _⟩ := h
  exact .tup (.cons ((Pl.tup h1).mono (by omega)) (.cons (.tup h2) (.cons (.tup h3) .nil)))
def spUnk : DSp := fun ds M Q _ => ∃ a t names sh, ds = [.ref a, .lst names, sh] ∧ M a = some (tkM t) ∧ t.ok ∧ PlL 0 names ∧ names.length ≤ 100 ∧ Shp 20 sh ∧ ∀ d t', Shp 21 d → t'.ok → Q d (put M a (tkM t'))
theorem rd_unk (ds : List D) (M : Mm) (Q : QD) (E : DX) (h : spUnk ds M Q E) : r__law_with_unknown spTake spPick { nx := fun _ M' => less Q .non M', rt := less Q } (startD 5 ds) M := by
  obtain ⟨a, t, names, sh, rfl, hM, ok, hn, hl, ⟨u, f, i, rfl, s1, s2, s3, s4, s5⟩, k⟩ := h
  show r__law_with_unknown _ _ _ [some (.ref a), some (.lst names), some (.tup [.tup u, .tup f, .tup i]), none, none] M
  unfold r__law_with_unknown
  walk_at "ys"
  · exact less_of (k _ _ ⟨u, f, i, rfl, s1, s2, s3, by omega, by omega⟩ (by assumption)) (by simp only [put_put])
  all_goals
    refine less_of (k _ _ ⟨_, _, _, rfl, ?_, s2, ?_, by walk_at "y_len", by walk_at "y_len"⟩ (by assumption)) (by simp only [put_put])
    · walk_at "y_pl"
    · walk_at "y_pl"
def spAny : DSp := fun ds M Q _ => ∃ a t names most, ds = [.ref a, .lst names, .int most] ∧ M a = some (tkM t) ∧ t.ok ∧ PlL 0 names ∧ names.length ≤ 100 ∧ 0 ≤ most ∧ most ≤ 20 ∧ ∀ es t', (∀ e ∈ es, Shp 21 e) → t'.ok → Q (.tup es) (put M a (tkM t'))
theorem rd_any (ds : List D) (M : Mm) (Q : QD) (E : DX) (h : spAny ds M Q E) : r__law_any spTake spShape spUnk { nx := fun _ M' => less Q .non M', rt := less Q } (startD 4 ds) M := by
  obtain ⟨a, t, names, most, rfl, hM, ok, hn, hl, m0, m1, k⟩ := h
  show r__law_any _ _ _ _ [some (.ref a), some (.lst names), some (.int most), none] M
  unfold r__law_any
  walk_at "ys"
  rename_i r t1 r0 r1 o1 p hp
  refine frz_draw (Shp 21) true put_same o1 hp ?_ ?_ ?_
  · simp [sizeLine_eq, rngD]; omega
  · intro d hd t' M' R o hM' fr hp' kT kF
    walk_at "ys"
    refine ⟨a, t', names, most, rfl, hM', o, hn, hl, m0, m1, fun sh t2 hs o2 => ?_⟩
    walk_at "ys"
    refine ⟨a, t2, names, sh, rfl, put_same, o2, hn, hl, hs, fun sh t3 hs o3 => ?_⟩
    rw [put_put]
    exact kT _ _ hs o3
  · intro es t' M2 ep ed hP hle hal o'
    refine ⟨p, es, rfl, ep, ?_⟩
    rw [ed]
    walk_at "ys"
    exact less_of (k _ _ hP o') (by simp only [put_put])
def CallP (d : D) : Prop := ∃ nm m, d = .tup [nm, .int m] ∧ Pl 0 nm ∧ 0 ≤ m ∧ m ≤ 100
structure Own (kvs : List (Key × D)) (ls cs rs ks ts : List D) : Prop where
  l : valD kvs (.inr "locals") = some (.lst ls)
  c : valD kvs (.inr "calls") = some (.lst cs)
  r : valD kvs (.inr "reads") = some (.lst rs)
  k : valD kvs (.inr "locks") = some (.lst ks)
  t : valD kvs (.inr "told") = some (.lst ts)
  pl : PlL 0 ls
  pr : PlL 0 rs
  pk : PlL 0 ks
  pt : PlL 0 ts
  pc : PlL 1 cs
  cc : ∀ d ∈ cs, CallP d
  ll : 0 < ls.length ∧ ls.length ≤ 90
  lr : 0 < rs.length ∧ rs.length ≤ 90
  lk : ks.length ≤ 90
  lt : ts.length ≤ 90
  lc : cs.length ≤ 90
def spCalled : DSp := fun ds M Q _ => ∃ a t o kvs ls cs rs ks ts, ds = [.ref a, .ref o] ∧ M a = some (tkM t) ∧ t.ok ∧ M o = some (.dct kvs) ∧ Own kvs ls cs rs ks ts ∧ 0 < cs.length ∧ a ≠ o ∧ ∀ x y zs t', Pl 0 x → Pl 0 y → PlL 0 zs → t'.ok → Q (.tup [x, y, .tup zs]) (put M a (tkM t'))
theorem rd_called (ds : List D) (M : Mm) (Q : QD) (E : DX) (h : spCalled ds M Q E) : r__law_called spPick { nx := fun _ M' => less Q .non M', rt := less Q } (startD 6 ds) M := by
  obtain ⟨a, t, o, kvs, ls, cs, rs, ks, ts, rfl, hM, ok, ho, ow, hc, hao, k⟩ := h
  show r__law_called _ _ [some (.ref a), some (.ref o), none, none, none, none] M
  unfold r__law_called
  obtain ⟨w1, w2, w3, w4, w5, w6, w7, w8, w9, w10, w11, w12, w13, w14, w15, w16⟩ := ow
  walk_at "ys"
  rename_i d t1 hd hm o1
  obtain ⟨nm, m, rfl, hnm, m0, m1⟩ := w11 d hm
  walk_at "ys"
  rename_i d2 t2 hd2 hm2 o2 p hp
  refine frz_draw (Pl 0) true put_same o2 hp ?_ ?_ ?_
  · simp [sizeLine_eq, rngD]; omega
  · intro d hd t' M' R o' hM' fr hp' kT kF
    have ho' : M' o = some (.dct kvs) := by
      rw [fr o hao.symm]
      · walk_at "y_look"
      · intro e; subst e; rw [put_ne hao.symm, put_ne hao.symm, ho] at hp; cases hp
    walk_at "ys"
    rename_i d1 t2 hd1 hm1 ok2
    exact kT _ _ hd1 ok2
  · intro es t' M2 ep ed hP hle hal o'
    refine ⟨p, es, rfl, ep, ?_⟩
    rw [ed]
    walk_at "ys"
    exact less_of (k _ _ _ _ hd2 hnm hP o') (by simp only [put_put])
def PlainR (s : Str) (r : List D) : Prop := s ≠ "if" ∧ s ≠ "while" ∧ PyData.strOk s = true ∧ PlL 5 r
def spPlain : DSp := fun ds M Q _ => ∃ a t o kvs ls cs rs ks ts, ds = [.ref a, .ref o] ∧ M a = some (tkM t) ∧ t.ok ∧ M o = some (.dct kvs) ∧ Own kvs ls cs rs ks ts ∧ a ≠ o ∧ ∀ s r t', PlainR s r → t'.ok → Q (.tup (.str s :: r)) (put M a (tkM t'))
theorem rd_plain (ds : List D) (M : Mm) (Q : QD) (E : DX) (h : spPlain ds M Q E) : r__law_plain spPick spTake { nx := fun _ M' => less Q .non M', rt := less Q } (startD 7 ds) M := by
  obtain ⟨a, t, o, kvs, ls, cs, rs, ks, ts, rfl, hM, ok, ho, ow, hao, k⟩ := h
  show r__law_plain _ _ _ [some (.ref a), some (.ref o), none, none, none, none, none] M
  unfold r__law_plain
  obtain ⟨w1, w2, w3, w4, w5, w6, w7, w8, w9, w10, w11, w12, w13, w14, w15, w16⟩ := ow
  walk_at "ys"
  rename_i x t2 hx hm2 o2 p hp
  refine frz_draw (Pl 0) true put_same o2 hp ?_ ?_ ?_
  · simp [sizeLine_eq]
  · intro d hd t' M' R o' hM' fr hp' kT kF
    have ho' : M' o = some (.dct kvs) := by
      rw [fr o hao.symm]
      · walk_at "y_look"
      · intro e; subst e; rw [put_ne hao.symm, ho] at hp; cases hp
    walk_at "ys"
    rename_i d1 t2 hd1 hm1 ok2
    exact kT _ _ hd1 ok2
  · intro es t' M2 ep ed hP hle hal o'
    refine ⟨p, es, rfl, ep, ?_⟩
    rw [ed]
    obtain ⟨y, z, rfl⟩ := len2 (hal rfl)
    have hy := hP y (by simp)
    have hz := hP z (by simp)
    walk_at "ys"
    rename_i d td hd hm od
    simp only [List.mem_cons, List.not_mem_nil, or_false] at hm
    rcases hm with rfl | rfl | rfl | rfl | rfl | rfl | rfl | rfl | rfl
    all_goals exact less_of (k _ _ _ ⟨by decide +kernel, by decide +kernel, by decide +kernel, by walk_at "y_pl"⟩ od) (by simp only [put_put])
/-! the flat code of a body, nested at most n deep, put at the place at, with lp loops ahead -/
abbrev go (i : Nat) : D := .tup [.str "go", .int i]
abbrev tst (x y z : D) (i j : Nat) : D := .tup [.str "test", x, y, z, .int i, .int j]
inductive Em : Nat → List D → Nat → Nat → List D → List D → Prop
  | nil {n at_ lp : Nat} : Em n [] at_ lp [] []
  | plain {n at_ lp : Nat} {s : Str} {r ds Y Ls : List D} : PlainR s r → Em n ds (at_ + 1) lp Y Ls → Em n (.tup (.str s :: r) :: ds) at_ lp (.tup (.str s :: r) :: Y) Ls
  | ite {n at_ lp : Nat} {x y z : D} {b1 b2 ds Y1 L1 Y2 L2 Y Ls : List D} : PlL 0 [x, y, z] → Em n b1 (at_ + 1) lp Y1 L1 → Em n b2 (at_ + Y1.length + 2) (lp + L1.length) Y2 L2 → Em (n + 1) ds (at_ + Y1.length + Y2.length + 2) (lp + L1.length + L2.length) Y Ls →
    Em (n + 1) (.tup [.str "if", x, y, z, .tup b1, .tup b2] :: ds) at_ lp (tst x y z (at_ + 1) (at_ + Y1.length + 2) :: (Y1 ++ go (at_ + Y1.length + Y2.length + 2) :: (Y2 ++ Y))) (L1 ++ (L2 ++ Ls))
  | wh {n at_ lp : Nat} {x y z told : D} {b ds Y1 L1 Y Ls : List D} : PlL 0 [x, y, z] → Pl 5 told → Em n b (at_ + 2) (lp + 1) Y1 L1 → Em (n + 1) ds (at_ + Y1.length + 3) (lp + L1.length + 1) Y Ls →
    Em (n + 1) (.tup [.str "while", x, y, z, told, .tup b] :: ds) at_ lp (.tup [.str "head", .int lp] :: tst x y z (at_ + 2) (at_ + Y1.length + 3) :: (Y1 ++ go at_ :: Y)) (told :: (L1 ++ Ls))
theorem Em.up {n at_ lp : Nat} {ds Y Ls : List D} (h : Em n ds at_ lp Y Ls) : Em (n + 1) ds at_ lp Y Ls := by
  induction h with
  | nil => exact .nil
  | plain h _ ih => exact .plain h ih
  | ite h _ _ _ i1 i2 i3 => exact .ite h i1 i2 i3
  | wh h h' _ _ i1 i2 => exact .wh h h' i1 i2
theorem Em.app {n at_ lp : Nat} {ds Y Ls : List D} (h : Em n ds at_ lp Y Ls) : ∀ {es Y' Ls'}, Em n es (at_ + Y.length) (lp + Ls.length) Y' Ls' → Em n (ds ++ es) at_ lp (Y ++ Y') (Ls ++ Ls') := by
  induction h with
  | nil => intro es Y' Ls' h; exact h
  | plain h _ ih =>
    intro es Y' Ls' g
    exact .plain h (ih (by simpa [Nat.add_assoc, Nat.add_comm 1] using g))
  | @ite n at_ lp x y z b1 b2 ds Y1 L1 Y2 L2 Y Ls h h1 h2 h3 i1 i2 i3 =>
    intro es Y' Ls' g
    have := i3 (es := es) (Y' := Y') (Ls' := Ls') (by
      have e1 : at_ + Y1.length + Y2.length + 2 + Y.length = at_ + (tst x y z (at_ + 1) (at_ + Y1.length + 2) :: (Y1 ++ go (at_ + Y1.length + Y2.length + 2) :: (Y2 ++ Y))).length := by simp; omega
      have e2 : lp + L1.length + L2.length + Ls.length = lp + (L1 ++ (L2 ++ Ls)).length := by simp; omega
      rw [e1, e2]; exact g)
    have := Em.ite h h1 h2 this
    simpa [List.append_assoc] using this
  | @wh n at_ lp x y z told b ds Y1 L1 Y Ls h h' h1 h2 i1 i2 =>
    intro es Y' Ls' g
    have := i2 (es := es) (Y' := Y') (Ls' := Ls') (by
      have e1 : at_ + Y1.length + 3 + Y.length = at_ + (.tup [.str "head", .int lp] :: tst x y z (at_ + 2) (at_ + Y1.length + 3) :: (Y1 ++ go at_ :: Y)).length := by simp; omega
      have e2 : lp + L1.length + 1 + Ls.length = lp + (told :: (L1 ++ Ls)).length := by simp; omega
      rw [e1, e2]; exact g)
    have := Em.wh h h' h1 this
    simpa [List.append_assoc] using this
/-- a body, nested at most n deep, of at most w rows -/
def Bd (n w : Nat) (ds : List D) : Prop := ∀ at_ lp, ∃ Y Ls, Em n ds at_ lp Y Ls ∧ Y.length ≤ w ∧ Ls.length ≤ w
theorem Bd.nil {n w : Nat} : Bd n w [] := fun _ _ => ⟨[], [], .nil, Nat.zero_le _, Nat.zero_le _⟩
theorem Bd.mono {n w v : Nat} {ds : List D} (h : Bd n w ds) (hv : w ≤ v) : Bd n v ds := fun a l => let ⟨Y, Ls, h, h1, h2⟩ := h a l; ⟨Y, Ls, h, by omega, by omega⟩
theorem Bd.up {n w : Nat} {ds : List D} (h : Bd n w ds) : Bd (n + 1) w ds := fun a l => let ⟨Y, Ls, h, h1, h2⟩ := h a l; ⟨Y, Ls, h.up, by omega, by omega⟩
theorem Bd.app {n w v : Nat} {ds es : List D} (h : Bd n w ds) (g : Bd n v es) : Bd n (w + v) (ds ++ es) := fun a l =>
  let ⟨Y, Ls, h, h1, h2⟩ := h a l
  let ⟨Y', Ls', g, g1, g2⟩ := g (a + Y.length) (l + Ls.length)
  ⟨_, _, h.app g, by simp; omega, by simp; omega⟩
theorem Bd.plain {n : Nat} {s : Str} {r : List D} (h : PlainR s r) : Bd n 1 [.tup (.str s :: r)] := fun a l => ⟨_, _, .plain h .nil, by simp, by simp⟩
theorem Bd.ite {n w v : Nat} {x y z : D} {b1 b2 : List D} (h : PlL 0 [x, y, z]) (h1 : Bd n w b1) (h2 : Bd n v b2) : Bd (n + 1) (w + v + 2) [.tup [.str "if", x, y, z, .tup b1, .tup b2]] := fun a l =>
  let ⟨Y1, L1, g1, u1, v1⟩ := h1 (a + 1) l
  let ⟨Y2, L2, g2, u2, v2⟩ := h2 (a + Y1.length + 2) (l + L1.length)
  ⟨_, _, .ite h g1 g2 .nil, by simp; omega, by simp; omega⟩
theorem Bd.wh {n w : Nat} {x y z told : D} {b : List D} (h : PlL 0 [x, y, z]) (h' : Pl 5 told) (h1 : Bd n w b) : Bd (n + 1) (w + 3) [.tup [.str "while", x, y, z, told, .tup b]] := fun a l =>
  let ⟨Y1, L1, g1, u1, v1⟩ := h1 (a + 2) (l + 1)
  ⟨_, _, .wh h h' g1 .nil, by simp; omega, by simp; omega⟩
theorem i_any {a : Addr} {t : Tk} {names : List D} {most : Int} {M : Mm} {Q : QD} {E : DX} (hM : M a = some (tkM t)) (ok : t.ok) (hn : PlL 0 names) (hl : names.length ≤ 100) (hm : 0 ≤ most ∧ most ≤ 20) (h : ∀ es t', Pl 4 (.tup es) → (∀ e ∈ es, Shp 21 e) → t'.ok → Q (.tup es) (put M a (tkM t'))) : spAny [.ref a, .lst names, .int most] M Q E :=
  ⟨a, t, names, most, rfl, hM, ok, hn, hl, hm.1, hm.2, fun es t' he => h es t' (.tup fun e q => (he e q).pl) he⟩
theorem i_called {a o : Addr} {t : Tk} {kvs : List (Key × D)} {ls cs rs ks ts : List D} {M : Mm} {Q : QD} {E : DX} (hM : M a = some (tkM t)) (ok : t.ok) (ho : M o = some (.dct kvs)) (ow : Own kvs ls cs rs ks ts) (hc : 0 < cs.length) (hao : a ≠ o) (h : ∀ x y zs t', Pl 0 x → Pl 0 y → PlL 0 zs → t'.ok → Q (.tup [x, y, .tup zs]) (put M a (tkM t'))) : spCalled [.ref a, .ref o] M Q E :=
  ⟨a, t, o, kvs, ls, cs, rs, ks, ts, rfl, hM, ok, ho, ow, hc, hao, h⟩
theorem i_plain {a o : Addr} {t : Tk} {kvs : List (Key × D)} {ls cs rs ks ts : List D} {M : Mm} {Q : QD} {E : DX} (hM : M a = some (tkM t)) (ok : t.ok) (ho : M o = some (.dct kvs)) (ow : Own kvs ls cs rs ks ts) (hao : a ≠ o) (h : ∀ s r t', PlainR s r → t'.ok → Q (.tup (.str s :: r)) (put M a (tkM t'))) : spPlain [.ref a, .ref o] M Q E :=
  ⟨a, t, o, kvs, ls, cs, rs, ks, ts, rfl, hM, ok, ho, ow, hao, h⟩
local macro_rules | `(tactic| walk_at "yc") => `(tactic| first
  | ((with_reducible refine i_any (t := ?yt) ?yl ?yo ?yn ?yb ?yc fun yes yt' yP yE yok => ?_); (case yl => walk_at "y_look"); (case yo => assumption); (case yn => walk_at "y_pl"); (case yb => walk_at "y_len"); (case yc => constructor <;> omega))
  | ((with_reducible refine i_called (t := ?yt) (kvs := ?ykv) (ls := ?yls) (cs := ?ycs) (rs := ?yrs) (ks := ?yks) (ts := ?yts) ?yl ?yo ?yn ?yb ?yc ?yd fun yx yy yzs yt' yP1 yP2 yP3 yok => ?_); (case yb => assumption); (case yl => walk_at "y_look"); (case yo => assumption); (case yn => walk_at "y_look"); (case yc => assumption); (case yd => assumption))
  | ((with_reducible refine i_plain (t := ?yt) (kvs := ?ykv) (ls := ?yls) (cs := ?ycs) (rs := ?yrs) (ks := ?yks) (ts := ?yts) ?yl ?yo ?yn ?yb ?yd fun ys yr yt' yPR yok => ?_); (case yb => assumption); (case yl => walk_at "y_look"); (case yo => assumption); (case yn => walk_at "y_look"); (case yd => assumption)))
local macro_rules | `(tactic| walk_at "ys") => `(tactic| repeat' (first | walk_at "y2" | walk_at "yc"))
def Bw : Nat → Nat
  | 0 => 1
  | n + 1 => 2 * (8 * Bw n) + 3
def Wt (n : Nat) : Nat := 8 * Bw n
theorem Bw_up (n : Nat) : 1 ≤ Bw n := by induction n with | zero => exact Nat.le_refl _ | succ n ih => simp only [Bw]; omega
/-- rows, each of at most B rows of code -/
def Rws (N B : Nat) (rows : List D) : Prop := ∀ r ∈ rows, Bd N B [r]
theorem Rws.nil {N B : Nat} : Rws N B [] := fun _ h => by cases h
theorem Bd.step {N B : Nat} {rows : List D} {r : D} (h : Rws N B rows) (g : Bd N B [r]) : Rws N B (rows ++ [r]) := fun x hx => by
  rcases List.mem_append.mp hx with z | z
  · exact h x z
  · rw [List.mem_singleton.mp z]; exact g
theorem Rws.app {N B : Nat} {rows es : List D} (h : Rws N B rows) (g : Rws N B es) : Rws N B (rows ++ es) := fun x hx => (List.mem_append.mp hx).elim (h x) (g x)
theorem Rws.bd {N B : Nat} : ∀ {rows : List D}, Rws N B rows → Bd N (rows.length * B) rows
  | [], _ => .nil
  | r :: rows, h => by
    have h1 := h r List.mem_cons_self
    have h2 := Rws.bd (rows := rows) fun x hx => h x (List.mem_cons_of_mem _ hx)
    have := h1.app h2
    rw [List.length_cons, Nat.add_mul, Nat.one_mul, Nat.add_comm]
    exact this
theorem Bd.ite' {N : Nat} {x y z : D} {b1 b2 : List D} (hN : N ≠ 0) (hx : Pl 0 x) (hy : Pl 0 y) (hz : Pl 0 z) (h1 : Bd (N - 1) (Wt (N - 1)) b1) (h2 : Bd (N - 1) (Wt (N - 1)) b2) : Bd N (Bw N) [.tup [.str "if", x, y, z, .tup b1, .tup b2]] := by
  obtain ⟨n, rfl⟩ := Nat.exists_eq_succ_of_ne_zero hN
  exact (Bd.ite (.cons hx (.cons hy (.cons hz .nil))) h1 h2).mono (by simp only [Nat.succ_eq_add_one, Nat.add_sub_cancel, Wt, Bw]; omega)
theorem Bd.wh' {N : Nat} {x y z told : D} {b : List D} (hN : N ≠ 0) (hx : Pl 0 x) (hy : Pl 0 y) (hz : Pl 0 z) (ht : Pl 5 told) (h1 : Bd (N - 1) (Wt (N - 1)) b) : Bd N (Bw N) [.tup [.str "while", x, y, z, told, .tup b]] := by
  obtain ⟨n, rfl⟩ := Nat.exists_eq_succ_of_ne_zero hN
  exact (Bd.wh (.cons hx (.cons hy (.cons hz .nil))) ht h1).mono (by simp only [Nat.succ_eq_add_one, Nat.add_sub_cancel, Wt, Bw]; omega)
theorem Bd.plain' {N : Nat} {s : Str} {r : List D} (h : PlainR s r) : Bd N (Bw N) [.tup (.str s :: r)] := (Bd.plain h).mono (Bw_up N)
theorem Bd.fin {N : Nat} {rows : List D} (hN : rows.length ≤ 8) (h : Rws N (Bw N) rows) : Bd N (Wt N) rows := h.bd.mono (Nat.mul_le_mul_right _ hN)
def spBody (N : Nat) : DSp := fun ds M Q _ => ∃ a t o kvs ls cs rs ks ts dp many, ds = [.ref a, .ref o, .int dp, .int many] ∧ M a = some (tkM t) ∧ t.ok ∧ M o = some (.dct kvs) ∧ Own kvs ls cs rs ks ts ∧ a ≠ o ∧ 0 ≤ dp ∧ 2 ≤ dp + N ∧ dp ≤ 2 ∧ 0 < many ∧ many ≤ 8 ∧ ∀ rows t', Rws N (Bw N) rows → rows.length ≤ 7 → t'.ok → Q (.tup rows) (put M a (tkM t'))
theorem i_body {N : Nat} {sB : DSp} {a o : Addr} {t : Tk} {kvs : List (Key × D)} {ls cs rs ks ts : List D} {dp many : Int} {M : Mm} {Q : QD} {E : DX} (hB : ∀ ds M Q E, N ≠ 0 → spBody (N - 1) ds M Q E → sB ds M Q E) (hM : M a = some (tkM t)) (ok : t.ok) (ho : M o = some (.dct kvs)) (ow : Own kvs ls cs rs ks ts) (hao : a ≠ o)
    (hd : 0 ≤ dp ∧ N ≠ 0 ∧ 2 ≤ dp + (N - 1 : Nat) ∧ dp ≤ 2 ∧ 0 < many ∧ many ≤ 8) (h : ∀ rows t', Bd (N - 1) (Wt (N - 1)) rows → rows.length ≤ 8 → t'.ok → Q (.tup rows) (put M a (tkM t'))) : sB [.ref a, .ref o, .int dp, .int many] M Q E :=
  hB _ _ _ _ hd.2.1 ⟨a, t, o, kvs, ls, cs, rs, ks, ts, dp, many, rfl, hM, ok, ho, ow, hao, hd.1, hd.2.2.1, hd.2.2.2.1, hd.2.2.2.2.1, hd.2.2.2.2.2, fun rows t' hr hl => h rows t' (Bd.fin (by omega) hr) (by omega)⟩
theorem Bd.lock {N : Nat} {d1 d2 : D} (h : d1 ∈ [D.str "take", D.str "take", D.str "give"]) (h2 : Pl 0 d2) : Bd N (Bw N) [.tup [d1, d2]] := by
  simp only [List.mem_cons, List.not_mem_nil, or_false] at h
  rcases h with rfl | rfl | rfl
  all_goals exact Bd.plain' ⟨by decide +kernel, by decide +kernel, by decide +kernel, .cons (h2.mono (by omega)) .nil⟩
theorem Bd.call {N : Nat} {x y : D} {zs : List D} (hx : Pl 0 x) (hy : Pl 0 y) (hz : PlL 0 zs) : Bd N (Bw N) [.tup ([.str "call"] ++ [x, y, .tup zs])] := Bd.plain' ⟨by decide +kernel, by decide +kernel, by decide +kernel, .cons (hx.mono (by omega)) (.cons (hy.mono (by omega)) (.cons ((Pl.tup hz).mono (by omega)) .nil))⟩
local macro_rules | `(tactic| walk_at "yc2") => `(tactic| first
  | walk_at "yc"
  | ((refine i_body (N := ?yN) (t := ?yt) (kvs := ?ykv) (ls := ?yls) (cs := ?ycs) (rs := ?yrs) (ks := ?yks) (ts := ?yts) ?ya ?yl ?yo ?yn ?yb ?yd ?ye fun yrw yt' yB yBl yok => ?_); (case ya => assumption); (case yb => assumption); (case yl => walk_at "y_look"); (case yo => assumption); (case yn => walk_at "y_look"); (case yd => assumption); (case ye => (refine ⟨?_, ?_, ?_, ?_, ?_, ?_⟩ <;> omega))))
local macro_rules | `(tactic| walk_at "ys") => `(tactic| repeat' (first | walk_at "y2" | walk_at "yc2"))
local macro_rules | `(tactic| walk_at "bd") => `(tactic| first | exact Bd.plain' (by assumption) | exact Bd.lock (by assumption) (by assumption) | exact Bd.call (by assumption) (by assumption) (by assumption) | exact Bd.ite' (by omega) (by assumption) (by assumption) (by assumption) (by assumption) (by assumption) | exact Bd.wh' (by omega) (by assumption) (by assumption) (by assumption) (by assumption) (by assumption) | exact Bd.plain' ⟨by decide +kernel, by decide +kernel, by decide +kernel, by (try simp only [List.cons_append, List.nil_append, List.append_nil]); walk_at "y_pl"⟩)
inductive BdI (M : Mm) (a o p : Addr) (dp many : D) (N B : Nat) : Nat → Y.Env → Mm → Prop
  | mk {i : Nat} {M' : Mm} {t' : Tk} {rows : List D} {c5 c6 c7 c8 c9 c10 : Option D} : M' a = some (tkM t') → M' p = some (.lst rows) → t'.ok → Rws N B rows → rows.length ≤ i → Fr M M' [a, p] →
    BdI M a o p dp many N B i [some (.ref a), some (.ref o), some dp, some many, some (.ref p), c5, c6, c7, c8, c9, c10] M'
theorem rd_body (N : Nat) (sB : DSp) (hB : ∀ ds M Q E, N ≠ 0 → spBody (N - 1) ds M Q E → sB ds M Q E) (ds : List D) (M : Mm) (Q : QD) (E : DX) (h : spBody N ds M Q E) : r__law_body spTake spPick sB spAny spCalled spPlain { nx := fun _ M' => less Q .non M', rt := less Q } (startD 11 ds) M := by
  obtain ⟨a, t, o, kvs, ls, cs, rs, ks, ts, dp, many, rfl, hM, ok, ho, ow, hao, d0, d1, d2, m0, m1, k⟩ := h
  show r__law_body _ _ _ _ _ _ _ [some (.ref a), some (.ref o), some (.int dp), some (.int many), none, none, none, none, none, none, none] M
  unfold r__law_body
  have ow' := ow
  obtain ⟨w1, w2, w3, w4, w5, w6, w7, w8, w9, w10, w11, w12, w13, w14, w15, w16⟩ := ow
  walk_at "ys"
  rename_i p hp r t1 r0 r1 ok1
  have hap := ne_none hM hp
  have hop := ne_none ho hp
  have hrl : (rngD 0 r.toNat).length ≤ 7 := by simp [rngD]; omega
  refine for_word (BdI M a o p (.int dp) (.int many) N (Bw N)) ?_ ?_ ?_
  · apply BdI.mk <;> first | exact Rws.nil | walk_at "y_fin"
  · rintro i d δ M' hd ⟨h1, h2, ok, h3, h4, h5⟩
    have hi : i < 7 := Nat.lt_of_lt_of_le (List.getElem?_eq_some_iff.mp hd).1 hrl
    have ho' : M' o = some (.dct kvs) := by rw [h5 o (by simp; exact ⟨hao.symm, hop⟩)]; exact ho
    walk_at "ys"
    all_goals first
      | (apply BdI.mk <;> first | assumption | walk_at "y_look" | (refine Bd.step h3 ?_; walk_at "bd") | walk_at "y_len" | walk_at "y_fr"; done)
  · rintro δ M' ⟨h1, h2, ok, h3, h4, h5⟩
    walk_at "ys"
    exact less_fr (k _ _ h3 (by omega) ok) h1 h5 (by simp [hp])
theorem i_body2 {N : Nat} {a o : Addr} {t : Tk} {kvs : List (Key × D)} {ls cs rs ks ts : List D} {dp many : Int} {M : Mm} {Q : QD} {E : DX} (hM : M a = some (tkM t)) (ok : t.ok) (ho : M o = some (.dct kvs)) (ow : Own kvs ls cs rs ks ts) (hao : a ≠ o)
    (hd : 0 ≤ dp ∧ 2 ≤ dp + N ∧ dp ≤ 2 ∧ 0 < many ∧ many ≤ 8) (h : ∀ rows t', Rws N (Bw N) rows → rows.length ≤ 7 → t'.ok → Q (.tup rows) (put M a (tkM t'))) : spBody N [.ref a, .ref o, .int dp, .int many] M Q E :=
  ⟨a, t, o, kvs, ls, cs, rs, ks, ts, dp, many, rfl, hM, ok, ho, ow, hao, hd.1, hd.2.1, hd.2.2.1, hd.2.2.2.1, hd.2.2.2.2, h⟩
theorem i_shape {a : Addr} {t : Tk} {names : List D} {most : Int} {M : Mm} {Q : QD} {E : DX} (hM : M a = some (tkM t)) (ok : t.ok) (hn : PlL 0 names) (hl : names.length ≤ 100) (hm : 0 ≤ most ∧ most ≤ 20) (h : ∀ d t', Shp 20 d → t'.ok → Q d (put M a (tkM t'))) : spShape [.ref a, .lst names, .int most] M Q E :=
  ⟨a, t, names, most, rfl, hM, ok, hn, hl, hm.1, hm.2, h⟩
theorem i_unk {a : Addr} {t : Tk} {names : List D} {sh : D} {M : Mm} {Q : QD} {E : DX} (hM : M a = some (tkM t)) (ok : t.ok) (hn : PlL 0 names) (hl : names.length ≤ 100) (hs : Shp 20 sh) (h : ∀ u f i t', i.length ≤ 21 → t'.ok → Q (.tup [.tup u, .tup f, .tup i]) (put M a (tkM t'))) : spUnk [.ref a, .lst names, sh] M Q E :=
  ⟨a, t, names, sh, rfl, hM, ok, hn, hl, hs, fun d t' ⟨u, f, i, e, _, _, _, _, hi⟩ o => by rw [e]; exact h u f i t' hi o⟩
end K15


set_option Elab.async false
set_option linter.all false
set_option maxRecDepth 100000
set_option maxHeartbeats 4000000
set_option pp.deepTerms false
set_option pp.maxSteps 300
/-! the readings of law k15 -/
namespace K15
open PySem PySem.Spec PyProof.Rows L2 Y YD
local macro_rules | `(tactic| walk_at "y_ne") => `(tactic| first | assumption | exact Ne.symm (by assumption) | ((refine ne_none (M := ?yM) (m := ?ymo) ?ym1 ?ym2); (case ym2 => assumption); (case ym1 => walk_at "y_look")) | ((refine Ne.symm (ne_none (M := ?yM) (m := ?ymo) ?ym1 ?ym2)); (case ym2 => assumption); (case ym1 => walk_at "y_look")) | ((refine ne_none (M := ?yM) (m := ?ymo) ?ym1 (put_none (M := ?yM) (a := ?yma) (m := ?ymo2) ?ym2).2); (case ym2 => assumption); (case ym1 => walk_at "y_look")) | ((refine Ne.symm (ne_none (M := ?yM) (m := ?ymo) ?ym1 (put_none (M := ?yM) (a := ?yma) (m := ?ymo2) ?ym2).2)); (case ym2 => assumption); (case ym1 => walk_at "y_look")))
local macro_rules | `(tactic| walk_at "y_look") => `(tactic| first | assumption | exact put_same | ((with_reducible refine Eq.trans (put_ne ?yn) ?_); (case yn => walk_at "y_ne"); (walk_at "y_look")) | ((with_reducible refine Eq.trans (drop_ne ?yn) ?_); (case yn => walk_at "y_ne"); (walk_at "y_look")))
local macro_rules | `(tactic| walk_at "y_pl") => `(tactic| first | assumption | exact PlL.nil | exact Pl.int _ | exact Pl.non | exact Pl.bl _ | exact Pl.str (by decide +kernel) | ((with_reducible refine PlL.cons ?yp1 ?yp2); (case yp1 => walk_at "y_pl"); (case yp2 => walk_at "y_pl")) | ((with_reducible refine PlL.append ?yp1 ?yp2); (case yp1 => walk_at "y_pl"); (case yp2 => walk_at "y_pl")) | ((with_reducible refine Pl.tup ?yp1); (case yp1 => walk_at "y_pl")) | ((with_reducible refine PlL.mono (j := ?yj) ?yp1 ?yp2); (case yp1 => assumption); (case yp2 => first | decide | omega)) | ((with_reducible refine Pl.mono (j := ?yj) ?yp1 ?yp2); (case yp1 => assumption); (case yp2 => first | decide | omega)))
local macro_rules | `(tactic| walk_at "y_len") => `(tactic| ((try simp only [List.length_append, List.length_cons, List.length_nil, List.length_map, sizeLine_eq] at *); omega))
local macro_rules | `(tactic| walk_at "y_rfl") => `(tactic| first | rfl | (simp only [atI_nn]; rfl))
local macro_rules | `(tactic| walk_at "y_at") => `(tactic| first | exact atI_nn _ 0 | rfl)
local macro_rules | `(tactic| walk_at "y_cond") => `(tactic| first
  | (show (0 : Int) < _; first | decide | assumption | omega)
  | (exact ⟨by first | decide | assumption | omega, by first | decide | assumption | omega⟩)
  | (exact Or.inl ⟨by first | decide | assumption | omega, by first | decide | assumption | omega⟩)
  | (exact Or.inr ⟨by first | decide | assumption | omega, by first | decide | assumption | omega⟩)
  | (exact ⟨by decide, by decide, by decide⟩))
local macro_rules | `(tactic| walk_at "y1") => `(tactic| first
  | (with_reducible first | refine i_seq ?_ | refine i_next ?_ | refine i_asg ?_ | refine i_ret ?_ | refine i_retN ?_ | refine i_drop ?_ | refine i_cont ?_ | refine i_break ?_ | refine i_ifs ?_ | refine i_if ?_ | refine i_and ?_ | refine i_or ?_ | refine i_not ?_ | refine i_test ?_ | refine i_tru ?_ | refine i_andV ?_ | refine i_orV ?_ | refine i_notV ?_ | refine i_bl ?_ | refine i_op ?_ | refine i_chain ?_ | refine i_c ?_ | refine i_cd ?_ | refine i_nil ?_ | refine i_cons ?_ | refine i_call ?_ | refine i_cb ?_ | refine i_tup ?_ | refine i_lst ?_ | refine i_lstM ?_ | refine i_dict ?_ | refine i_frz ?_ | refine i_name ?_ | refine i_gcons ?_ | refine i_gnil ?_ | refine i_gsub ?_ | refine i_par ?_ | refine i_par2 ?_ | refine i_un ?_ | refine i_int ?_ | refine i_slice ?_ | refine i_onone ?_ | refine i_osome ?_ | refine i_bm ?_ | refine i_bm0 ?_ | refine i_get1 ?_ | refine i_get2 ?_ | refine i_del ?_ | refine i_for ?_ | refine i_lc ?_ | refine i_dc ?_ | refine i_yes ?_ | refine i_it ?_ | refine i_rng1 ?_ | refine i_fld ?_ | refine i_sfld ?_ | refine i_meth ?_ | refine i_make ?_ | refine v_I0 ?_ | refine v_plusI ?_ | refine v_eqI ?_ | refine v_eqS ?_ | refine v_isN ?_ | refine v_int ?_ | refine v_abs ?_ | refine v_sliceT ?_ | refine v_sliceL ?_ | refine b_fx ?_ | refine b_tx ?_)
  | ((with_reducible refine i_var (d := ?yd) ?ye0 ?_); (case ye0 => rfl))
  | ((with_reducible refine i_gtup ?ye0 ?_); (case ye0 => rfl))
  | (with_reducible refine iteT ?_)
  | (with_reducible refine iteF ?_)
  | (with_reducible refine b_dec ?_ ?_ <;> intro hc)
  | (with_reducible refine b_ndec ?_ ?_ <;> intro hc)
  | ((with_reducible refine v_subT (d := ?yd) ?ye0 ?_); (case ye0 => rfl))
  | ((with_reducible refine v_subL (d := ?yd) ?ye0 ?_); (case ye0 => rfl))
  | ((with_reducible refine v_subM (ds := ?yds) (d := ?yd) ?ye0 ?ye1 ?_); (case ye0 => (walk_at "y_look")); (case ye1 => rfl))
  | ((with_reducible refine v_setL (ds := ?yds) (j := ?yj) ?ye0 ?ye1 ?_); (case ye0 => (walk_at "y_look")); (case ye1 => rfl))
  | ((with_reducible refine v_I ?ye0 ?_); (case ye0 => (walk_at "y_cond")))
  | ((with_reducible refine i_sz ?ye0 ?_); (case ye0 => (first | exact Nat.le_of_ble_eq_true rfl | (simp only [List.length_append, List.length_cons, List.length_nil, List.length_map, sizeLine_eq] at *; omega))))
  | (with_reducible refine i_new fun yp yhp => ?_)
  | ((with_reducible refine v_app (ds := ?yds) ?ye0 ?ye1 ?_); (case ye0 => (walk_at "y_look")); (case ye1 => (first | (simp only [List.length_append, List.length_cons, List.length_nil, List.length_map, sizeLine_eq] at *; omega))))
  | ((with_reducible refine i_tyL (ds := ?yds) ?ye0 ?_); (case ye0 => (walk_at "y_look")))
  | (with_reducible refine i_tyl ?_)
  | ((with_reducible refine v_subK (kvs := ?ykv) (k := ?yk) (d := ?yd) ?ye0 ?ye1 ?ye2 ?_); (case ye0 => (walk_at "y_look")); (case ye1 => rfl); (case ye2 => first | assumption | rfl))
  | ((with_reducible refine v_plusL (ds := ?yds) (es := ?yes) ?ye0 ?ye1 ?ye2 ?_); (case ye0 => first | rfl | (with_reducible refine lsD_ref (ds := ?yds2) ?yl0; walk_at "y_look")); (case ye1 => first | rfl | (with_reducible refine lsD_ref (ds := ?yds2) ?yl0; walk_at "y_look")); (case ye2 => (simp only [List.length_append, List.length_cons, List.length_nil, List.length_map, sizeLine_eq] at *; omega)))
  | ((with_reducible refine v_plusT ?ye0 ?_); (case ye0 => (simp only [List.length_append, List.length_cons, List.length_nil, List.length_map, sizeLine_eq] at *; omega)))
  | ((with_reducible refine i_rng1d ?ye0 ?_); (case ye0 => (constructor <;> omega)))
  | ((with_reducible refine v_len (n := ?yn) ?ye0 ?_); (case ye0 => first | (with_reducible refine lenD_ref (ds := ?yds) ?yl0; walk_at "y_look") | rfl))
  | ((with_reducible refine v_list (es := ?yes) ?ye0 ?_); (case ye0 => first | (with_reducible refine itD_ref (ds := ?yds) ?yl0; walk_at "y_look") | rfl))
  | ((with_reducible refine v_tuple (es := ?yes) ?ye0 ?_); (case ye0 => first | (with_reducible refine itD_ref (ds := ?yds) ?yl0; walk_at "y_look") | rfl))
  | ((with_reducible refine v_eqP ?ye0 ?ye1 fun yb => ?_); (case ye0 => walk_at "y_pl"); (case ye1 => walk_at "y_pl"))
  | (with_reducible refine b_emp ?_ ?_ <;> intro hc)
  | (with_reducible refine i_trul ?_)
  | (with_reducible refine i_trut ?_)
  | (with_reducible refine i_trub ?_)
  | ((with_reducible refine v_inT ?ye0 ?_); (case ye0 => exact ⟨rfl, rfl⟩))
  | (with_reducible refine b_var ?_ ?_ <;> intro hc)
  | ((with_reducible refine i_its (ds := ?yds) ?ye0 ?_); (case ye0 => rfl)))
local macro_rules | `(tactic| walk_at "y0") => `(tactic| repeat' (walk_at "y1"))
local macro_rules | `(tactic| walk_at "ys") => `(tactic| walk_at "y0")
local macro_rules | `(tactic| walk_at "y_nn") => `(tactic| first | assumption | exact (put_none (by assumption)).2 | exact (put_none (put_none (by assumption)).2).2 | exact (put_none (put_none (put_none (by assumption)).2).2).2)
local macro_rules | `(tactic| walk_at "y_kl1") => `(tactic| first | (with_reducible exact KL.merge) | ((with_reducible refine KL.put (n := ?ykn) ?ykk); (case ykk => walk_at "y_kl1")))
local macro_rules | `(tactic| walk_at "y_kl") => `(tactic| ((refine KL.lt (n := ?yn) ?yk1 ?yk2); (case yk1 => walk_at "y_kl1"); (case yk2 => first | decide | (simp; done))))
local macro_rules | `(tactic| walk_at "y_fr") => `(tactic| first | exact Fr.refl _ _ | assumption | ((refine Fr.put ?yf1 ?yf2); (case yf2 => simp); (case yf1 => walk_at "y_fr")) | ((refine Fr.drop ?yf1 ?yf2); (case yf2 => simp); (case yf1 => walk_at "y_fr")))
local macro_rules | `(tactic| walk_at "y_fin") => `(tactic| first | assumption | rfl | walk_at "y_look" | walk_at "y_pl" | walk_at "y_fr" | omega | walk_at "y_len" | (intros; omega))
local macro_rules | `(tactic| walk_at "y_take") => `(tactic| ((with_reducible refine i_take (t := ?yt) ?yl ?yo ?yb fun yr yt' yr0 yr1 yok => ?_); (case yl => walk_at "y_look"); (case yo => assumption); (case yb => (constructor <;> first | omega | (simp; omega)))))
local macro_rules | `(tactic| walk_at "y_pick") => `(tactic| first | ((with_reducible refine i_pick2 (k := 0) (t := ?yt) ?yl ?yo ?yb ?yP fun yd yt' yP ym yok => ?_); (case yl => walk_at "y_look"); (case yo => assumption); (case yb => (constructor <;> walk_at "y_len")); (case yP => walk_at "y_pl")) | ((with_reducible refine i_pick2 (k := 5) (t := ?yt) ?yl ?yo ?yb ?yP fun yd yt' yP ym yok => ?_); (case yl => walk_at "y_look"); (case yo => assumption); (case yb => (constructor <;> walk_at "y_len")); (case yP => walk_at "y_pl")))
local macro_rules | `(tactic| walk_at "y2") => `(tactic| first | walk_at "y1" | walk_at "y_take" | walk_at "y_pick" | (with_reducible refine i_disp fun yp yhp => ?_) | (with_reducible refine i_pcons ?_) | (with_reducible refine i_pnil ?_) | (with_reducible refine i_mut ?_) | ((with_reducible refine v_inT' ?ye0 ?ye1 fun yb => ?_); (case ye0 => walk_at "y_pl"); (case ye1 => walk_at "y_pl")) | ((with_reducible refine v_setK (kvs := ?ykv) (k := ?yk) ?ye0 ?ye1 ?ye2 ?_); (case ye0 => walk_at "y_look"); (case ye1 => rfl); (case ye2 => walk_at "y_kl")) | ((with_reducible refine i_mutd (ds := ?yds) ?ye0 ?_); (case ye0 => walk_at "y_look")) | ((with_reducible refine i_glst' ?ye0 ?_); (case ye0 => rfl)))
local macro_rules | `(tactic| walk_at "ys") => `(tactic| repeat' (walk_at "y2"))
local macro_rules | `(tactic| walk_at "yc") => `(tactic| first
  | ((with_reducible refine i_any (t := ?yt) ?yl ?yo ?yn ?yb ?yc fun yes yt' yP yE yok => ?_); (case yl => walk_at "y_look"); (case yo => assumption); (case yn => walk_at "y_pl"); (case yb => walk_at "y_len"); (case yc => constructor <;> omega))
  | ((with_reducible refine i_called (t := ?yt) (kvs := ?ykv) (ls := ?yls) (cs := ?ycs) (rs := ?yrs) (ks := ?yks) (ts := ?yts) ?yl ?yo ?yn ?yb ?yc ?yd fun yx yy yzs yt' yP1 yP2 yP3 yok => ?_); (case yb => assumption); (case yl => walk_at "y_look"); (case yo => assumption); (case yn => walk_at "y_look"); (case yc => assumption); (case yd => assumption))
  | ((with_reducible refine i_plain (t := ?yt) (kvs := ?ykv) (ls := ?yls) (cs := ?ycs) (rs := ?yrs) (ks := ?yks) (ts := ?yts) ?yl ?yo ?yn ?yb ?yd fun ys yr yt' yPR yok => ?_); (case yb => assumption); (case yl => walk_at "y_look"); (case yo => assumption); (case yn => walk_at "y_look"); (case yd => assumption)))
local macro_rules | `(tactic| walk_at "yc3") => `(tactic| first
  | walk_at "yc"
  | ((with_reducible refine i_shape (t := ?yt) ?yl ?yo ?yn ?yb ?yc fun yd yt' yP yok => ?_); (case yl => walk_at "y_look"); (case yo => assumption); (case yn => walk_at "y_pl"); (case yb => walk_at "y_len"); (case yc => constructor <;> omega))
  | ((with_reducible refine i_unk (t := ?yt) ?yl ?yo ?yn ?yb ?yc fun yu yf yi yt' yil yok => ?_); (case yc => assumption); (case yl => walk_at "y_look"); (case yo => assumption); (case yn => walk_at "y_pl"); (case yb => walk_at "y_len"))
  | ((with_reducible refine i_body2 (t := ?yt) (kvs := ?ykv) (ls := ?yls) (cs := ?ycs) (rs := ?yrs) (ks := ?yks) (ts := ?yts) ?yl ?yo ?yn ?yb ?yd ?ye fun yrw yt' yB yBl yok => ?_); (case yb => assumption); (case yl => walk_at "y_look"); (case yo => assumption); (case yn => walk_at "y_look"); (case yd => assumption); (case ye => (refine ⟨?_, ?_, ?_, ?_, ?_⟩ <;> omega))))
local macro_rules | `(tactic| walk_at "ys") => `(tactic| repeat' (first | walk_at "y2" | walk_at "yc3"))
/-! procedures -/
/-- of a procedure that is there already: its name, how many params, its locks -/
def RowC (d : D) : Prop := ∃ nm m us, d = .tup [nm, .int m, .tup us] ∧ Pl 0 nm ∧ 0 ≤ m ∧ m ≤ 100 ∧ PlL 0 us ∧ us.length ≤ 10
def Prc (d : D) : Prop := ∃ nm ps gs us rq en ls body, d = .tup [nm, .tup ps, gs, .tup us, rq, en, ls, .tup body] ∧ Pl 0 nm ∧ ps.length ≤ 3 ∧ PlL 0 us ∧ us.length ≤ 10 ∧ Rws 2 (Bw 2) body ∧ body.length ≤ 8
def spProc : DSp := fun ds M Q _ => ∃ a t nm names locks c cs, ds = [.ref a, nm, .lst names, .lst locks, .ref c, .int 8] ∧ M a = some (tkM t) ∧ t.ok ∧ Pl 0 nm ∧ PlL 0 names ∧ names.length ≤ 10 ∧ PlL 0 locks ∧ locks.length ≤ 10 ∧ M c = some (.lst cs) ∧ (∀ d ∈ cs, RowC d) ∧ cs.length ≤ 10 ∧ a ≠ c ∧ ∀ d t', Prc d → t'.ok → Q d (put M a (tkM t'))
theorem rows_end {rows : List D} {x : D} (h : Rws 2 (Bw 2) rows) (hx : Pl 0 x) : Rws 2 (Bw 2) (rows ++ [.tup [.str "return", x]]) := Bd.step h (Bd.plain' ⟨by decide +kernel, by decide +kernel, by decide +kernel, .cons (hx.mono (by omega)) .nil⟩)
theorem prc_mk {nm gs rq en ls : D} {ps us body : List D} (h1 : Pl 0 nm) (h2 : ps.length ≤ 3) (h3 : PlL 0 us) (h4 : us.length ≤ 10) (h5 : Rws 2 (Bw 2) body) (h6 : body.length ≤ 8) : Prc (.tup [nm, .tup ps, gs, .tup us, rq, en, ls, .tup body]) := ⟨_, _, _, _, _, _, _, _, rfl, h1, h2, h3, h4, h5, h6⟩
theorem rd_proc (ds : List D) (M : Mm) (Q : QD) (E : DX) (h : spProc ds M Q E) : r__law_proc spTake spShape spUnk spAny (spBody 2) spPick { nx := fun _ M' => less Q .non M', rt := less Q } (startD 16 ds) M := by
  obtain ⟨a, t, nm, names, locks, c, cs, rfl, hM, ok, hnm, hn, hnl, hk, hkl, hc, hcs, hcl, hac, k⟩ := h
  show r__law_proc _ _ _ _ _ _ _ [some (.ref a), some nm, some (.lst names), some (.lst locks), some (.ref c), some (.int 8), none, none, none, none, none, none, none, none, none, none] M
  unfold r__law_proc
  refine i_seq (i_asg ?_)
  refine split_at (fun d M' => ∃ ps t', d = .tup ps ∧ PlL 0 ps ∧ ps.length ≤ 3 ∧ t'.ok ∧ M' = put M a (tkM t')) ?_ ?_
  · intro K hK
    walk_at "ys"
    exact hK _ _ ⟨_, _, rfl, cut_pl (by walk_at "y_pl"), cut_len _ _ _, by assumption, rfl⟩
  rintro d M' ⟨ps, t1, rfl, hps, hpl, ok1, rfl⟩
  walk_at "y1"
  walk_at "y1"
  walk_at "y1"
  refine split_at (fun d M' => ∃ gs t', d = .tup gs ∧ (PlL 0 gs ∧ gs.length ≤ 1 ∧ (0 < gs.length → 0 < ps.length)) ∧ t'.ok ∧ M' = put M a (tkM t')) ?_ ?_
  · intro K hK
    walk_at "ys"
    · exact hK _ _ ⟨_, _, rfl, ⟨by walk_at "y_pl", by decide, fun _ => by assumption⟩, by assumption, put_put⟩
    · exact hK _ _ ⟨_, _, rfl, ⟨.nil, by decide, nofun⟩, by assumption, put_put⟩
    · exact hK _ _ ⟨_, _, rfl, ⟨.nil, by decide, nofun⟩, by assumption, rfl⟩
  rintro d M' ⟨gs, t2, rfl, ⟨hgs, hgl, hgp⟩, ok2, rfl⟩
  walk_at "y1"
  walk_at "y1"
  walk_at "y1"
  refine split_at (fun d M' => ∃ us t', d = .tup us ∧ PlL 0 us ∧ us.length ≤ 10 ∧ t'.ok ∧ M' = put M a (tkM t')) ?_ ?_
  · intro K hK
    walk_at "ys"
    rename_i p hp
    refine frz_draw (fun d => Pl 0 d) false put_same ok2 hp ?_ ?_ ?_
    · simp [sizeLine_eq]; omega
    · intro d hd t' M' R o hM' fr hp' kT kF
      have hdp := hk d hd
      walk_at "ys"
      · exact kT _ _ hdp (by assumption)
      · exact kF rfl _ (by assumption)
    · intro es t' M2 ep ed hP hle hal o'
      refine ⟨p, es, rfl, ep, ?_⟩
      rw [ed]
      walk_at "ys"
      exact hK _ _ ⟨_, _, rfl, hP, by omega, o', put_put⟩
  rintro d M' ⟨us, t3, rfl, hus, hul, ok3, rfl⟩
  walk_at "y1"
  walk_at "y1"
  walk_at "y1"
  refine split_at (fun d M' => ∃ o t' ls cs', d = .ref o ∧ M o = none ∧ o ≠ a ∧ t'.ok ∧ PlL 0 ls ∧ 0 < ls.length ∧ ls.length ≤ 3 ∧ (∀ d ∈ cs', CallP d) ∧ cs'.length ≤ 10 ∧ M' = put (put M a (tkM t')) o (.dct (mergeD [(.inr "locals", .lst ls), (.inr "calls", .lst cs')]))) ?_ ?_
  · intro K hK
    walk_at "ys"
    rename_i o ho r t4 r0 r1 ok4 p hp
    refine frz_drawG CallP false (t := t4) (by walk_at "y_look") ok4 hp ?_ ?_ ?_ ?_
    · simp [sizeLine_eq]; omega
    · intro d hd t' M' R o' hM' fr hp' kT kF
      obtain ⟨nm', m', us', rfl, c1, c2, c3, c4, c5⟩ := hcs d hd
      walk_at "ys"
      rename_i p2 hp2
      refine lc_word (fun i M'' => ∃ es bs, M'' = put M' p2 (.lst es) ∧ blsD es = some bs ∧ es.length ≤ i) ⟨[], [], rfl, rfl, Nat.le_refl _⟩ ?_ ?_
      · rintro i d M'' hd' ⟨es, bs, rfl, he, hl⟩
        have hdp := c4 d (List.mem_of_getElem? hd')
        have hi := (List.getElem?_eq_some_iff.mp hd').1
        walk_at "ys"
        refine ⟨es, put_same, by rw [sizeLine_eq]; omega, _, _, by rw [put_put], bls_app he, by simp; omega⟩
      · rintro M'' ⟨es, bs, rfl, he, hl⟩
        refine ⟨p2, es, rfl, put_same, ?_⟩
        rw [drop_put hp2]
        walk_at "ys"
        refine ⟨_, es, bs, rfl, rfl, he, ?_⟩
        walk_at "ys"
        · have := kT (.tup [nm', .int m']) t' ⟨nm', m', rfl, c1, c2, c3⟩ o'
          rw [put_id hM'] at this
          exact this
        · have := kF rfl t' o'
          rw [put_id hM'] at this
          exact this
    · intro es t' M2 ep ed hP hle hal o'
      refine ⟨p, es, rfl, ep, ?_⟩
      rw [ed]
      walk_at "ys"
      refine ⟨by walk_at "y_look", _, rfl, by simp, ?_⟩
      refine hK _ _ ⟨o, t', cut [.str "a", .str "b", .str "c"] none (some (1 + r)), es, rfl, by walk_at "y_nn", by walk_at "y_ne", o', cut_pl (by walk_at "y_pl"), cut_pos (by omega) (by decide), cut_len _ _ _, hP, by omega, ?_⟩
      funext b
      by_cases e1 : b = o
      · subst e1; simp [put]
      · by_cases e2 : b = a
        · subst e2; simp [put, e1]
        · simp [put, e1, e2]
    · intro t' es
      have hcp : c ≠ p := ne_none (m := .lst cs) (by walk_at "y_look") hp
      rw [put_ne hcp, put_ne hac.symm]
      walk_at "y_look"
  rintro d M' ⟨o, t4, ls, cs', rfl, ho, hoa, ok4, hls, hl0, hl3, hcs', hcl', rfl⟩
  have hao : a ≠ o := hoa.symm
  have hne : ∀ {x y : Str}, x ≠ y → (Sum.inr x : Key) ≠ .inr y := fun h e => h (Sum.inr.inj e)
  have n1 : ("locals" : Str) ≠ "told" := by decide +kernel
  have n2 : ("locals" : Str) ≠ "locks" := by decide +kernel
  have n3 : ("locals" : Str) ≠ "reads" := by decide +kernel
  have n4 : ("calls" : Str) ≠ "told" := by decide +kernel
  have n5 : ("calls" : Str) ≠ "locks" := by decide +kernel
  have n6 : ("calls" : Str) ≠ "reads" := by decide +kernel
  have n7 : ("reads" : Str) ≠ "told" := by decide +kernel
  have n8 : ("reads" : Str) ≠ "locks" := by decide +kernel
  have n9 : ("locks" : Str) ≠ "told" := by decide +kernel
  have ow : Own (putKD (putKD (putKD (mergeD [(.inr "locals", .lst ls), (.inr "calls", .lst cs')]) (.inr "reads") (.lst (ps ++ ls ++ names))) (.inr "locks") (.lst us)) (.inr "told") (.lst (ps ++ names ++ ls ++ gs))) ls cs' (ps ++ ls ++ names) us (ps ++ names ++ ls ++ gs) :=
    ⟨valD_ne (hne n1) (valD_ne (hne n2) (valD_ne (hne n3) rfl)), valD_ne (hne n4) (valD_ne (hne n5) (valD_ne (hne n6) rfl)), valD_ne (hne n7) (valD_ne (hne n8) valD_same), valD_ne (hne n9) valD_same, valD_same,
      hls, (hps.append hls).append hn, hus, ((hps.append hn).append hls).append hgs, fun d hd => by obtain ⟨nm, m, rfl, h1, h2, h3⟩ := hcs' d hd; walk_at "y_pl", hcs', ⟨hl0, by omega⟩, ⟨by simp; omega, by simp; omega⟩, by omega, by simp; omega, by omega⟩
  walk_at "ys"
  · rename_i hc0
    obtain ⟨x, r, rfl⟩ : ∃ x r, ps = x :: r := by
      have := hgp hc0
      cases ps with
      | nil => simp at this
      | cons x r => exact ⟨x, r, rfl⟩
    refine v_subT (d := x) (atI_nn (x :: r) 0) ?_
    walk_at "ys"
    rename_i rows t5 hrw hrl ok5 x0 tx hx0 hmx okx d t6 hd hm ok6
    simp only [List.mem_cons, List.not_mem_nil, or_false] at hm
    rcases hm with rfl | rfl
    · walk_at "ys"
      refine less_fr (L := [o]) (k _ _ (prc_mk hnm hpl hus hul (hrw.app Rws.nil) (by simp; omega)) ok6) ?_ ?_ (by simp [ho])
      · walk_at "y_look"
      · walk_at "y_fr"
    · walk_at "ys"
      refine less_fr (L := [o]) (k _ _ (prc_mk hnm hpl hus hul (rows_end hrw (by assumption)) (by simp; omega)) ok6) ?_ ?_ (by simp [ho])
      · walk_at "y_look"
      · walk_at "y_fr"
  · rename_i rows t5 hrw hrl ok5 x0 tx hx0 hmx okx d t6 hd hm ok6

    simp only [List.mem_cons, List.not_mem_nil, or_false] at hm
    rcases hm with rfl | rfl
    · walk_at "ys"
      refine less_fr (L := [o]) (k _ _ (prc_mk hnm hpl hus hul (hrw.app Rws.nil) (by simp; omega)) ok6) ?_ ?_ (by simp [ho])
      · walk_at "y_look"
      · walk_at "y_fr"
    · walk_at "ys"
      refine less_fr (L := [o]) (k _ _ (prc_mk hnm hpl hus hul (rows_end hrw (by assumption)) (by simp; omega)) ok6) ?_ ?_ (by simp [ho])
      · walk_at "y_look"
      · walk_at "y_fr"
end K15


set_option Elab.async false
set_option linter.all false
set_option maxRecDepth 100000
set_option maxHeartbeats 4000000
set_option pp.deepTerms false
set_option pp.maxSteps 300
/-! the readings of law k15: programs -/
namespace K15
open PySem PySem.Spec PyProof.Rows L2 Y YD
local macro_rules | `(tactic| walk_at "y_ne") => `(tactic| first | assumption | exact Ne.symm (by assumption) | ((refine ne_none (M := ?yM) (m := ?ymo) ?ym1 ?ym2); (case ym2 => assumption); (case ym1 => walk_at "y_look")) | ((refine Ne.symm (ne_none (M := ?yM) (m := ?ymo) ?ym1 ?ym2)); (case ym2 => assumption); (case ym1 => walk_at "y_look")) | ((refine ne_none (M := ?yM) (m := ?ymo) ?ym1 (put_none (M := ?yM) (a := ?yma) (m := ?ymo2) ?ym2).2); (case ym2 => assumption); (case ym1 => walk_at "y_look")) | ((refine Ne.symm (ne_none (M := ?yM) (m := ?ymo) ?ym1 (put_none (M := ?yM) (a := ?yma) (m := ?ymo2) ?ym2).2)); (case ym2 => assumption); (case ym1 => walk_at "y_look")))
local macro_rules | `(tactic| walk_at "y_look") => `(tactic| first | assumption | exact put_same | ((with_reducible refine Eq.trans (put_ne ?yn) ?_); (case yn => walk_at "y_ne"); (walk_at "y_look")) | ((with_reducible refine Eq.trans (drop_ne ?yn) ?_); (case yn => walk_at "y_ne"); (walk_at "y_look")))
local macro_rules | `(tactic| walk_at "y_pl") => `(tactic| first | assumption | exact PlL.nil | exact Pl.int _ | exact Pl.non | exact Pl.bl _ | exact Pl.str (by decide +kernel) | ((with_reducible refine PlL.cons ?yp1 ?yp2); (case yp1 => walk_at "y_pl"); (case yp2 => walk_at "y_pl")) | ((with_reducible refine PlL.append ?yp1 ?yp2); (case yp1 => walk_at "y_pl"); (case yp2 => walk_at "y_pl")) | ((with_reducible refine Pl.tup ?yp1); (case yp1 => walk_at "y_pl")) | ((with_reducible refine PlL.mono (j := ?yj) ?yp1 ?yp2); (case yp1 => assumption); (case yp2 => first | decide | omega)) | ((with_reducible refine Pl.mono (j := ?yj) ?yp1 ?yp2); (case yp1 => assumption); (case yp2 => first | decide | omega)))
local macro_rules | `(tactic| walk_at "y_len") => `(tactic| ((try simp only [List.length_append, List.length_cons, List.length_nil, List.length_map, sizeLine_eq] at *); omega))
local macro_rules | `(tactic| walk_at "y_rfl") => `(tactic| first | rfl | (simp only [atI_nn]; rfl))
local macro_rules | `(tactic| walk_at "y_at") => `(tactic| first | exact atI_nn _ 0 | rfl)
local macro_rules | `(tactic| walk_at "y_cond") => `(tactic| first
  | (show (0 : Int) < _; first | decide | assumption | omega)
  | (exact ⟨by first | decide | assumption | omega, by first | decide | assumption | omega⟩)
  | (exact Or.inl ⟨by first | decide | assumption | omega, by first | decide | assumption | omega⟩)
  | (exact Or.inr ⟨by first | decide | assumption | omega, by first | decide | assumption | omega⟩)
  | (exact ⟨by decide, by decide, by decide⟩))
local macro_rules | `(tactic| walk_at "y1") => `(tactic| first
  | (with_reducible first | refine i_seq ?_ | refine i_next ?_ | refine i_asg ?_ | refine i_ret ?_ | refine i_retN ?_ | refine i_drop ?_ | refine i_cont ?_ | refine i_break ?_ | refine i_ifs ?_ | refine i_if ?_ | refine i_and ?_ | refine i_or ?_ | refine i_not ?_ | refine i_test ?_ | refine i_tru ?_ | refine i_andV ?_ | refine i_orV ?_ | refine i_notV ?_ | refine i_bl ?_ | refine i_op ?_ | refine i_chain ?_ | refine i_c ?_ | refine i_cd ?_ | refine i_nil ?_ | refine i_cons ?_ | refine i_call ?_ | refine i_cb ?_ | refine i_tup ?_ | refine i_lst ?_ | refine i_lstM ?_ | refine i_dict ?_ | refine i_frz ?_ | refine i_name ?_ | refine i_gcons ?_ | refine i_gnil ?_ | refine i_gsub ?_ | refine i_par ?_ | refine i_par2 ?_ | refine i_un ?_ | refine i_int ?_ | refine i_slice ?_ | refine i_onone ?_ | refine i_osome ?_ | refine i_bm ?_ | refine i_bm0 ?_ | refine i_get1 ?_ | refine i_get2 ?_ | refine i_del ?_ | refine i_for ?_ | refine i_lc ?_ | refine i_dc ?_ | refine i_yes ?_ | refine i_it ?_ | refine i_rng1 ?_ | refine i_fld ?_ | refine i_sfld ?_ | refine i_meth ?_ | refine i_make ?_ | refine v_I0 ?_ | refine v_plusI ?_ | refine v_eqI ?_ | refine v_eqS ?_ | refine v_isN ?_ | refine v_int ?_ | refine v_abs ?_ | refine v_sliceT ?_ | refine v_sliceL ?_ | refine b_fx ?_ | refine b_tx ?_)
  | ((with_reducible refine i_var (d := ?yd) ?ye0 ?_); (case ye0 => rfl))
  | ((with_reducible refine i_gtup ?ye0 ?_); (case ye0 => rfl))
  | (with_reducible refine iteT ?_)
  | (with_reducible refine iteF ?_)
  | (with_reducible refine b_dec ?_ ?_ <;> intro hc)
  | (with_reducible refine b_ndec ?_ ?_ <;> intro hc)
  | ((with_reducible refine v_subT (d := ?yd) ?ye0 ?_); (case ye0 => rfl))
  | ((with_reducible refine v_subL (d := ?yd) ?ye0 ?_); (case ye0 => rfl))
  | ((with_reducible refine v_subM (ds := ?yds) (d := ?yd) ?ye0 ?ye1 ?_); (case ye0 => (walk_at "y_look")); (case ye1 => rfl))
  | ((with_reducible refine v_setL (ds := ?yds) (j := ?yj) ?ye0 ?ye1 ?_); (case ye0 => (walk_at "y_look")); (case ye1 => rfl))
  | ((with_reducible refine v_I ?ye0 ?_); (case ye0 => (walk_at "y_cond")))
  | ((with_reducible refine i_sz ?ye0 ?_); (case ye0 => (first | exact Nat.le_of_ble_eq_true rfl | (simp only [List.length_append, List.length_cons, List.length_nil, List.length_map, sizeLine_eq] at *; omega))))
  | (with_reducible refine i_new fun yp yhp => ?_)
  | ((with_reducible refine v_app (ds := ?yds) ?ye0 ?ye1 ?_); (case ye0 => (walk_at "y_look")); (case ye1 => (first | (simp only [List.length_append, List.length_cons, List.length_nil, List.length_map, sizeLine_eq] at *; omega))))
  | ((with_reducible refine i_tyL (ds := ?yds) ?ye0 ?_); (case ye0 => (walk_at "y_look")))
  | (with_reducible refine i_tyl ?_)
  | ((with_reducible refine v_subK (kvs := ?ykv) (k := ?yk) (d := ?yd) ?ye0 ?ye1 ?ye2 ?_); (case ye0 => (walk_at "y_look")); (case ye1 => rfl); (case ye2 => first | assumption | rfl))
  | ((with_reducible refine v_plusL (ds := ?yds) (es := ?yes) ?ye0 ?ye1 ?ye2 ?_); (case ye0 => first | rfl | (with_reducible refine lsD_ref (ds := ?yds2) ?yl0; walk_at "y_look")); (case ye1 => first | rfl | (with_reducible refine lsD_ref (ds := ?yds2) ?yl0; walk_at "y_look")); (case ye2 => (simp only [List.length_append, List.length_cons, List.length_nil, List.length_map, sizeLine_eq] at *; omega)))
  | ((with_reducible refine v_plusT ?ye0 ?_); (case ye0 => (simp only [List.length_append, List.length_cons, List.length_nil, List.length_map, sizeLine_eq] at *; omega)))
  | ((with_reducible refine i_rng1d ?ye0 ?_); (case ye0 => (constructor <;> omega)))
  | ((with_reducible refine v_len (n := ?yn) ?ye0 ?_); (case ye0 => first | (with_reducible refine lenD_ref (ds := ?yds) ?yl0; walk_at "y_look") | rfl))
  | ((with_reducible refine v_list (es := ?yes) ?ye0 ?_); (case ye0 => first | (with_reducible refine itD_ref (ds := ?yds) ?yl0; walk_at "y_look") | rfl))
  | ((with_reducible refine v_tuple (es := ?yes) ?ye0 ?_); (case ye0 => first | (with_reducible refine itD_ref (ds := ?yds) ?yl0; walk_at "y_look") | rfl))
  | ((with_reducible refine v_eqP ?ye0 ?ye1 fun yb => ?_); (case ye0 => walk_at "y_pl"); (case ye1 => walk_at "y_pl"))
  | (with_reducible refine b_emp ?_ ?_ <;> intro hc)
  | (with_reducible refine i_trul ?_)
  | (with_reducible refine i_trut ?_)
  | (with_reducible refine i_trub ?_)
  | ((with_reducible refine v_inT ?ye0 ?_); (case ye0 => exact ⟨rfl, rfl⟩))
  | (with_reducible refine b_var ?_ ?_ <;> intro hc)
  | ((with_reducible refine i_its (ds := ?yds) ?ye0 ?_); (case ye0 => rfl)))
local macro_rules | `(tactic| walk_at "y0") => `(tactic| repeat' (walk_at "y1"))
local macro_rules | `(tactic| walk_at "ys") => `(tactic| walk_at "y0")
local macro_rules | `(tactic| walk_at "y_nn") => `(tactic| first | assumption | exact (put_none (by assumption)).2 | exact (put_none (put_none (by assumption)).2).2 | exact (put_none (put_none (put_none (by assumption)).2).2).2)
local macro_rules | `(tactic| walk_at "y_kl1") => `(tactic| first | (with_reducible exact KL.merge) | ((with_reducible refine KL.put (n := ?ykn) ?ykk); (case ykk => walk_at "y_kl1")))
local macro_rules | `(tactic| walk_at "y_kl") => `(tactic| ((refine KL.lt (n := ?yn) ?yk1 ?yk2); (case yk1 => walk_at "y_kl1"); (case yk2 => first | decide | (simp; done))))
local macro_rules | `(tactic| walk_at "y_fr") => `(tactic| first | exact Fr.refl _ _ | assumption | ((refine Fr.put ?yf1 ?yf2); (case yf2 => simp); (case yf1 => walk_at "y_fr")) | ((refine Fr.drop ?yf1 ?yf2); (case yf2 => simp); (case yf1 => walk_at "y_fr")))
local macro_rules | `(tactic| walk_at "y_fin") => `(tactic| first | assumption | rfl | walk_at "y_look" | walk_at "y_pl" | walk_at "y_fr" | omega | walk_at "y_len" | (intros; omega))
local macro_rules | `(tactic| walk_at "y_take") => `(tactic| ((with_reducible refine i_take (t := ?yt) ?yl ?yo ?yb fun yr yt' yr0 yr1 yok => ?_); (case yl => walk_at "y_look"); (case yo => assumption); (case yb => (constructor <;> first | omega | (simp; omega)))))
local macro_rules | `(tactic| walk_at "y_pick") => `(tactic| first | ((with_reducible refine i_pick2 (k := 0) (t := ?yt) ?yl ?yo ?yb ?yP fun yd yt' yP ym yok => ?_); (case yl => walk_at "y_look"); (case yo => assumption); (case yb => (constructor <;> walk_at "y_len")); (case yP => walk_at "y_pl")) | ((with_reducible refine i_pick2 (k := 5) (t := ?yt) ?yl ?yo ?yb ?yP fun yd yt' yP ym yok => ?_); (case yl => walk_at "y_look"); (case yo => assumption); (case yb => (constructor <;> walk_at "y_len")); (case yP => walk_at "y_pl")))
local macro_rules | `(tactic| walk_at "y2") => `(tactic| first | walk_at "y1" | walk_at "y_take" | walk_at "y_pick" | (with_reducible refine i_disp fun yp yhp => ?_) | (with_reducible refine i_pcons ?_) | (with_reducible refine i_pnil ?_) | (with_reducible refine i_mut ?_) | ((with_reducible refine v_inT' ?ye0 ?ye1 fun yb => ?_); (case ye0 => walk_at "y_pl"); (case ye1 => walk_at "y_pl")) | ((with_reducible refine v_setK (kvs := ?ykv) (k := ?yk) ?ye0 ?ye1 ?ye2 ?_); (case ye0 => walk_at "y_look"); (case ye1 => rfl); (case ye2 => walk_at "y_kl")) | ((with_reducible refine i_mutd (ds := ?yds) ?ye0 ?_); (case ye0 => walk_at "y_look")) | ((with_reducible refine i_glst' ?ye0 ?_); (case ye0 => rfl)))
local macro_rules | `(tactic| walk_at "ys") => `(tactic| repeat' (walk_at "y2"))
local macro_rules | `(tactic| walk_at "yc") => `(tactic| first
  | ((with_reducible refine i_any (t := ?yt) ?yl ?yo ?yn ?yb ?yc fun yes yt' yP yE yok => ?_); (case yl => walk_at "y_look"); (case yo => assumption); (case yn => walk_at "y_pl"); (case yb => walk_at "y_len"); (case yc => constructor <;> omega))
  | ((with_reducible refine i_called (t := ?yt) (kvs := ?ykv) (ls := ?yls) (cs := ?ycs) (rs := ?yrs) (ks := ?yks) (ts := ?yts) ?yl ?yo ?yn ?yb ?yc ?yd fun yx yy yzs yt' yP1 yP2 yP3 yok => ?_); (case yb => assumption); (case yl => walk_at "y_look"); (case yo => assumption); (case yn => walk_at "y_look"); (case yc => assumption); (case yd => assumption))
  | ((with_reducible refine i_plain (t := ?yt) (kvs := ?ykv) (ls := ?yls) (cs := ?ycs) (rs := ?yrs) (ks := ?yks) (ts := ?yts) ?yl ?yo ?yn ?yb ?yd fun ys yr yt' yPR yok => ?_); (case yb => assumption); (case yl => walk_at "y_look"); (case yo => assumption); (case yn => walk_at "y_look"); (case yd => assumption)))
local macro_rules | `(tactic| walk_at "yc3") => `(tactic| first
  | walk_at "yc"
  | ((with_reducible refine i_shape (t := ?yt) ?yl ?yo ?yn ?yb ?yc fun yd yt' yP yok => ?_); (case yl => walk_at "y_look"); (case yo => assumption); (case yn => walk_at "y_pl"); (case yb => walk_at "y_len"); (case yc => constructor <;> omega))
  | ((with_reducible refine i_unk (t := ?yt) ?yl ?yo ?yn ?yb ?yc fun yu yf yi yt' yil yok => ?_); (case yc => assumption); (case yl => walk_at "y_look"); (case yo => assumption); (case yn => walk_at "y_pl"); (case yb => walk_at "y_len"))
  | ((with_reducible refine i_body2 (t := ?yt) (kvs := ?ykv) (ls := ?yls) (cs := ?ycs) (rs := ?yrs) (ks := ?yks) (ts := ?yts) ?yl ?yo ?yn ?yb ?yd ?ye fun yrw yt' yB yBl yok => ?_); (case yb => assumption); (case yl => walk_at "y_look"); (case yo => assumption); (case yn => walk_at "y_look"); (case yd => assumption); (case ye => (refine ⟨?_, ?_, ?_, ?_, ?_⟩ <;> omega))))
local macro_rules | `(tactic| walk_at "ys") => `(tactic| repeat' (first | walk_at "y2" | walk_at "yc3"))
theorem i_proc {a c : Addr} {t : Tk} {nm : D} {names locks cs : List D} {M : Mm} {Q : QD} {E : DX} (hM : M a = some (tkM t)) (ok : t.ok) (hnm : Pl 0 nm) (hn : PlL 0 names) (hnl : names.length ≤ 10) (hk : PlL 0 locks) (hkl : locks.length ≤ 10) (hc : M c = some (.lst cs)) (hcs : ∀ d ∈ cs, RowC d) (hcl : cs.length ≤ 10) (hac : a ≠ c) (h : ∀ d t', Prc d → t'.ok → Q d (put M a (tkM t'))) : spProc [.ref a, nm, .lst names, .lst locks, .ref c, .int 8] M Q E :=
  ⟨a, t, nm, names, locks, c, cs, rfl, hM, ok, hnm, hn, hnl, hk, hkl, hc, hcs, hcl, hac, h⟩
inductive PgI (M : Mm) (a p c : Addr) (names locks : List D) : Nat → Y.Env → Mm → Prop
  | mk {i : Nat} {M' : Mm} {t' : Tk} {ps cs : List D} {c6 c7 c8 : Option D} : M' a = some (tkM t') → M' p = some (.lst ps) → M' c = some (.lst cs) → t'.ok → (∀ d ∈ ps, Prc d) → (∀ d ∈ cs, RowC d) → ps.length ≤ i → cs.length ≤ i → Fr M M' [a, p, c] →
    PgI M a p c names locks i [some (.ref a), some (.int 8), some (.lst names), some (.lst locks), some (.ref p), some (.ref c), c6, c7, c8] M'
def spProg : DSp := fun ds M Q _ => ∃ a t, ds = [.ref a, .int 8] ∧ M a = some (tkM t) ∧ t.ok ∧ ∀ x y procs t', (∀ d ∈ procs, Prc d) → t'.ok → Q (.tup [x, y, .tup procs]) (put M a (tkM t'))
theorem mem_app1 {P : D → Prop} {ds : List D} {e : D} (h : ∀ d ∈ ds, P d) (he : P e) : ∀ d ∈ ds ++ [e], P d := fun d hd => by
  rcases List.mem_append.mp hd with z | z
  · exact h d z
  · rw [List.mem_singleton.mp z]; exact he
theorem rd_program (ds : List D) (M : Mm) (Q : QD) (E : DX) (h : spProg ds M Q E) : r__law_program spTake spProc spAny { nx := fun _ M' => less Q .non M', rt := less Q } (startD 9 ds) M := by
  obtain ⟨a, t, rfl, hM, ok, k⟩ := h
  show r__law_program _ _ _ _ [some (.ref a), some (.int 8), none, none, none, none, none, none, none] M
  unfold r__law_program
  walk_at "ys"
  rename_i r1 t1 q1 q2 ok1 r2 t2 q3 q4 ok2 p hp c hc r3 t3 q5 q6 ok3
  generalize hnm : cut [D.v (V.str (Str.ofString "g1")), D.v (V.str (Str.ofString "g2"))] none (some r1) = names
  generalize hlk : cut [D.v (V.str (Str.ofString "m1")), D.v (V.str (Str.ofString "m2"))] none (some r2) = locks
  have hn : PlL 0 names := by rw [← hnm]; exact cut_pl (by walk_at "y_pl")
  have hk : PlL 0 locks := by rw [← hlk]; exact cut_pl (by walk_at "y_pl")
  have hnl : names.length ≤ 2 := by rw [← hnm]; exact cut_len _ _ _
  have hkl : locks.length ≤ 2 := by rw [← hlk]; exact cut_len _ _ _
  have hp' : M p = none := by walk_at "y_nn"
  have hc1 := put_none hc
  have hc' : M c = none := by have := hc1.2; walk_at "y_nn"
  have hap := ne_none hM hp'
  have hac := ne_none hM hc'
  have hcp := hc1.1
  have hrl : (rngD 0 (1 + r3).toNat).length ≤ 3 := by simp [rngD]; omega
  refine for_word (PgI M a p c names locks) ?_ ?_ ?_
  · apply PgI.mk <;> first | walk_at "y_fin" | (intro d hd; cases hd)
  · rintro i d δ M' hd ⟨h1, h2, h3, ok, h4, h5, h6, h7, h8⟩
    have hi : i < 3 := Nat.lt_of_lt_of_le (List.getElem?_eq_some_iff.mp hd).1 hrl
    have hd' : d = .int (0 + (i : Nat)) := by
      simp only [rngD, List.getElem?_map, List.getElem?_range (show i < (1 + r3).toNat by have := (List.getElem?_eq_some_iff.mp hd).1; simpa [rngD] using this)] at hd
      exact (Option.some.inj hd).symm
    subst hd'
    walk_at "ys"
    have hz : PyData.strOk ((Str.ofString "p") ++ Str.ofString (toString (0 + (i : Int)))) = true ∧ ((Str.ofString "p").length + (Str.ofString (toString (0 + (i : Int)))).length) ≤ 100 ∧ (0 + (i : Int)).natAbs.log2 < 1920 := by
      have : i = 0 ∨ i = 1 ∨ i = 2 := by omega
      rcases this with rfl | rfl | rfl <;> decide +kernel
    refine ⟨_, rfl, hz.2.2, ?_⟩
    refine v_plusS (Nat.le_trans hz.2.1 (by decide)) ?_
    walk_at "ys"
    refine i_proc h1 ok (Pl.str hz.1) hn (by omega) hk (by omega) h3 h5 (by omega) hac fun d t'' hd ok' => ?_
    have hd2 := hd
    obtain ⟨nm, ps, gs, us, rq, en, ls, body, rfl, e1, e2, e3, e4, e5, e6⟩ := hd
    walk_at "ys"
    have hrow : RowC (.tup [nm, .int (ps.length : Nat), .tup us]) := ⟨_, _, _, rfl, e1, by omega, by omega, e3, e4⟩
    apply PgI.mk <;> first | assumption | exact mem_app1 h4 hd2 | exact mem_app1 h5 hrow | walk_at "y_look" | walk_at "y_len" | walk_at "y_fr"
  · rintro δ M' ⟨h1, h2, h3, ok, h4, h5, h6, h7, h8⟩
    walk_at "ys"
    rename_i p2 hp2
    have hap2 := ne_none h1 hp2
    have hpp2 := ne_none h2 hp2
    have hcp2 := ne_none h3 hp2
    refine frz_draw (fun _ => True) false h1 ok hp2 ?_ ?_ ?_
    · rw [sizeLine_eq]; omega
    · intro d hd t' M2 R o hM2 fr hpx kT kF
      walk_at "ys"
      exact kT _ _ trivial (by assumption)
    · intro es t' M2 ep ed hP hle hal o'
      refine ⟨p2, es, rfl, ep, ?_⟩
      rw [ed]
      walk_at "ys"
      refine less_fr (L := [p, c]) (k _ _ _ _ h4 o') ?_ ?_ (by simp [hp', hc'])
      · walk_at "y_look"
      · walk_at "y_fr"
end K15


set_option Elab.async false
set_option linter.all false
set_option maxRecDepth 100000
set_option maxHeartbeats 4000000
set_option pp.deepTerms false
set_option pp.maxSteps 300
/-! the readings of law k15: flat code -/
namespace K15
open PySem PySem.Spec PyProof.Rows L2 Y YD
local macro_rules | `(tactic| walk_at "y_ne") => `(tactic| first | assumption | exact Ne.symm (by assumption) | ((refine ne_none (M := ?yM) (m := ?ymo) ?ym1 ?ym2); (case ym2 => assumption); (case ym1 => walk_at "y_look")) | ((refine Ne.symm (ne_none (M := ?yM) (m := ?ymo) ?ym1 ?ym2)); (case ym2 => assumption); (case ym1 => walk_at "y_look")) | ((refine ne_none (M := ?yM) (m := ?ymo) ?ym1 (put_none (M := ?yM) (a := ?yma) (m := ?ymo2) ?ym2).2); (case ym2 => assumption); (case ym1 => walk_at "y_look")) | ((refine Ne.symm (ne_none (M := ?yM) (m := ?ymo) ?ym1 (put_none (M := ?yM) (a := ?yma) (m := ?ymo2) ?ym2).2)); (case ym2 => assumption); (case ym1 => walk_at "y_look")))
local macro_rules | `(tactic| walk_at "y_look") => `(tactic| first | assumption | exact put_same | ((with_reducible refine Eq.trans (put_ne ?yn) ?_); (case yn => walk_at "y_ne"); (walk_at "y_look")) | ((with_reducible refine Eq.trans (drop_ne ?yn) ?_); (case yn => walk_at "y_ne"); (walk_at "y_look")))
local macro_rules | `(tactic| walk_at "y_pl") => `(tactic| first | assumption | exact PlL.nil | exact Pl.int _ | exact Pl.non | exact Pl.bl _ | exact Pl.str (by decide +kernel) | ((with_reducible refine PlL.cons ?yp1 ?yp2); (case yp1 => walk_at "y_pl"); (case yp2 => walk_at "y_pl")) | ((with_reducible refine PlL.append ?yp1 ?yp2); (case yp1 => walk_at "y_pl"); (case yp2 => walk_at "y_pl")) | ((with_reducible refine Pl.tup ?yp1); (case yp1 => walk_at "y_pl")) | ((with_reducible refine PlL.mono (j := ?yj) ?yp1 ?yp2); (case yp1 => assumption); (case yp2 => first | decide | omega)) | ((with_reducible refine Pl.mono (j := ?yj) ?yp1 ?yp2); (case yp1 => assumption); (case yp2 => first | decide | omega)))
local macro_rules | `(tactic| walk_at "y_len") => `(tactic| ((try simp only [List.length_append, List.length_cons, List.length_nil, List.length_map, sizeLine_eq] at *); omega))
local macro_rules | `(tactic| walk_at "y_rfl") => `(tactic| first | rfl | (simp only [atI_nn]; rfl))
local macro_rules | `(tactic| walk_at "y_at") => `(tactic| first | exact atI_nn _ 0 | rfl)
local macro_rules | `(tactic| walk_at "y_cond") => `(tactic| first
  | (show (0 : Int) < _; first | decide | assumption | omega)
  | (exact ⟨by first | decide | assumption | omega, by first | decide | assumption | omega⟩)
  | (exact Or.inl ⟨by first | decide | assumption | omega, by first | decide | assumption | omega⟩)
  | (exact Or.inr ⟨by first | decide | assumption | omega, by first | decide | assumption | omega⟩)
  | (exact ⟨by decide, by decide, by decide⟩))
local macro_rules | `(tactic| walk_at "y1") => `(tactic| first
  | (with_reducible first | refine i_seq ?_ | refine i_next ?_ | refine i_asg ?_ | refine i_ret ?_ | refine i_retN ?_ | refine i_drop ?_ | refine i_cont ?_ | refine i_break ?_ | refine i_ifs ?_ | refine i_if ?_ | refine i_and ?_ | refine i_or ?_ | refine i_not ?_ | refine i_test ?_ | refine i_tru ?_ | refine i_andV ?_ | refine i_orV ?_ | refine i_notV ?_ | refine i_bl ?_ | refine i_op ?_ | refine i_chain ?_ | refine i_c ?_ | refine i_cd ?_ | refine i_nil ?_ | refine i_cons ?_ | refine i_call ?_ | refine i_cb ?_ | refine i_tup ?_ | refine i_lst ?_ | refine i_lstM ?_ | refine i_dict ?_ | refine i_frz ?_ | refine i_name ?_ | refine i_gcons ?_ | refine i_gnil ?_ | refine i_gsub ?_ | refine i_par ?_ | refine i_par2 ?_ | refine i_un ?_ | refine i_int ?_ | refine i_slice ?_ | refine i_onone ?_ | refine i_osome ?_ | refine i_bm ?_ | refine i_bm0 ?_ | refine i_get1 ?_ | refine i_get2 ?_ | refine i_del ?_ | refine i_for ?_ | refine i_lc ?_ | refine i_dc ?_ | refine i_yes ?_ | refine i_it ?_ | refine i_rng1 ?_ | refine i_fld ?_ | refine i_sfld ?_ | refine i_meth ?_ | refine i_make ?_ | refine v_I0 ?_ | refine v_plusI ?_ | refine v_eqI ?_ | refine v_eqS ?_ | refine v_isN ?_ | refine v_int ?_ | refine v_abs ?_ | refine v_sliceT ?_ | refine v_sliceL ?_ | refine b_fx ?_ | refine b_tx ?_)
  | ((with_reducible refine i_var (d := ?yd) ?ye0 ?_); (case ye0 => rfl))
  | ((with_reducible refine i_gtup ?ye0 ?_); (case ye0 => rfl))
  | (with_reducible refine iteT ?_)
  | (with_reducible refine iteF ?_)
  | (with_reducible refine b_dec ?_ ?_ <;> intro hc)
  | (with_reducible refine b_ndec ?_ ?_ <;> intro hc)
  | ((with_reducible refine v_subT (d := ?yd) ?ye0 ?_); (case ye0 => rfl))
  | ((with_reducible refine v_subL (d := ?yd) ?ye0 ?_); (case ye0 => rfl))
  | ((with_reducible refine v_subM (ds := ?yds) (d := ?yd) ?ye0 ?ye1 ?_); (case ye0 => (walk_at "y_look")); (case ye1 => rfl))
  | ((with_reducible refine v_setL (ds := ?yds) (j := ?yj) ?ye0 ?ye1 ?_); (case ye0 => (walk_at "y_look")); (case ye1 => rfl))
  | ((with_reducible refine v_I ?ye0 ?_); (case ye0 => (walk_at "y_cond")))
  | ((with_reducible refine i_sz ?ye0 ?_); (case ye0 => (first | exact Nat.le_of_ble_eq_true rfl | (simp only [List.length_append, List.length_cons, List.length_nil, List.length_map, sizeLine_eq] at *; omega))))
  | (with_reducible refine i_new fun yp yhp => ?_)
  | ((with_reducible refine v_app (ds := ?yds) ?ye0 ?ye1 ?_); (case ye0 => (walk_at "y_look")); (case ye1 => (first | (simp only [List.length_append, List.length_cons, List.length_nil, List.length_map, sizeLine_eq] at *; omega))))
  | ((with_reducible refine i_tyL (ds := ?yds) ?ye0 ?_); (case ye0 => (walk_at "y_look")))
  | (with_reducible refine i_tyl ?_)
  | ((with_reducible refine v_subK (kvs := ?ykv) (k := ?yk) (d := ?yd) ?ye0 ?ye1 ?ye2 ?_); (case ye0 => (walk_at "y_look")); (case ye1 => rfl); (case ye2 => first | assumption | rfl))
  | ((with_reducible refine v_plusL (ds := ?yds) (es := ?yes) ?ye0 ?ye1 ?ye2 ?_); (case ye0 => first | rfl | (with_reducible refine lsD_ref (ds := ?yds2) ?yl0; walk_at "y_look")); (case ye1 => first | rfl | (with_reducible refine lsD_ref (ds := ?yds2) ?yl0; walk_at "y_look")); (case ye2 => (simp only [List.length_append, List.length_cons, List.length_nil, List.length_map, sizeLine_eq] at *; omega)))
  | ((with_reducible refine v_plusT ?ye0 ?_); (case ye0 => (simp only [List.length_append, List.length_cons, List.length_nil, List.length_map, sizeLine_eq] at *; omega)))
  | ((with_reducible refine i_rng1d ?ye0 ?_); (case ye0 => (constructor <;> omega)))
  | ((with_reducible refine v_len (n := ?yn) ?ye0 ?_); (case ye0 => first | ((with_reducible refine lenD_ref (ds := ?yds) ?yl0); (case yl0 => walk_at "y_look")) | rfl))
  | ((with_reducible refine v_list (es := ?yes) ?ye0 ?_); (case ye0 => first | (with_reducible refine itD_ref (ds := ?yds) ?yl0; walk_at "y_look") | rfl))
  | ((with_reducible refine v_tuple (es := ?yes) ?ye0 ?_); (case ye0 => first | (with_reducible refine itD_ref (ds := ?yds) ?yl0; walk_at "y_look") | rfl))
  | ((with_reducible refine v_eqP ?ye0 ?ye1 fun yb => ?_); (case ye0 => walk_at "y_pl"); (case ye1 => walk_at "y_pl"))
  | (with_reducible refine b_emp ?_ ?_ <;> intro hc)
  | (with_reducible refine i_trul ?_)
  | (with_reducible refine i_trut ?_)
  | (with_reducible refine i_trub ?_)
  | ((with_reducible refine v_inT ?ye0 ?_); (case ye0 => exact ⟨rfl, rfl⟩))
  | (with_reducible refine b_var ?_ ?_ <;> intro hc)
  | ((with_reducible refine i_its (ds := ?yds) ?ye0 ?_); (case ye0 => rfl)))
local macro_rules | `(tactic| walk_at "y0") => `(tactic| repeat' (walk_at "y1"))
local macro_rules | `(tactic| walk_at "ys") => `(tactic| walk_at "y0")
local macro_rules | `(tactic| walk_at "y_nn") => `(tactic| first | assumption | exact (put_none (by assumption)).2 | exact (put_none (put_none (by assumption)).2).2 | exact (put_none (put_none (put_none (by assumption)).2).2).2)
local macro_rules | `(tactic| walk_at "y_kl1") => `(tactic| first | (with_reducible exact KL.merge) | ((with_reducible refine KL.put (n := ?ykn) ?ykk); (case ykk => walk_at "y_kl1")))
local macro_rules | `(tactic| walk_at "y_kl") => `(tactic| ((refine KL.lt (n := ?yn) ?yk1 ?yk2); (case yk1 => walk_at "y_kl1"); (case yk2 => first | decide | (simp; done))))
local macro_rules | `(tactic| walk_at "y_fr") => `(tactic| first | exact Fr.refl _ _ | assumption | ((refine Fr.put ?yf1 ?yf2); (case yf2 => simp); (case yf1 => walk_at "y_fr")) | ((refine Fr.drop ?yf1 ?yf2); (case yf2 => simp); (case yf1 => walk_at "y_fr")))
local macro_rules | `(tactic| walk_at "y_fin") => `(tactic| first | assumption | rfl | walk_at "y_look" | walk_at "y_pl" | walk_at "y_fr" | omega | walk_at "y_len" | (intros; omega))
local macro_rules | `(tactic| walk_at "y_take") => `(tactic| ((with_reducible refine i_take (t := ?yt) ?yl ?yo ?yb fun yr yt' yr0 yr1 yok => ?_); (case yl => walk_at "y_look"); (case yo => assumption); (case yb => (constructor <;> first | omega | (simp; omega)))))
local macro_rules | `(tactic| walk_at "y_pick") => `(tactic| first | ((with_reducible refine i_pick2 (k := 0) (t := ?yt) ?yl ?yo ?yb ?yP fun yd yt' yP ym yok => ?_); (case yl => walk_at "y_look"); (case yo => assumption); (case yb => (constructor <;> walk_at "y_len")); (case yP => walk_at "y_pl")) | ((with_reducible refine i_pick2 (k := 5) (t := ?yt) ?yl ?yo ?yb ?yP fun yd yt' yP ym yok => ?_); (case yl => walk_at "y_look"); (case yo => assumption); (case yb => (constructor <;> walk_at "y_len")); (case yP => walk_at "y_pl")))
local macro_rules | `(tactic| walk_at "y2") => `(tactic| first | walk_at "y1" | walk_at "y_take" | walk_at "y_pick" | (with_reducible refine i_disp fun yp yhp => ?_) | (with_reducible refine i_pcons ?_) | (with_reducible refine i_pnil ?_) | (with_reducible refine i_mut ?_) | ((with_reducible refine v_inT' ?ye0 ?ye1 fun yb => ?_); (case ye0 => walk_at "y_pl"); (case ye1 => walk_at "y_pl")) | ((with_reducible refine v_setK (kvs := ?ykv) (k := ?yk) ?ye0 ?ye1 ?ye2 ?_); (case ye0 => walk_at "y_look"); (case ye1 => rfl); (case ye2 => walk_at "y_kl")) | ((with_reducible refine i_mutd (ds := ?yds) ?ye0 ?_); (case ye0 => walk_at "y_look")) | ((with_reducible refine i_glst' ?ye0 ?_); (case ye0 => rfl)))
local macro_rules | `(tactic| walk_at "ys") => `(tactic| repeat' (walk_at "y2"))
def flatBody (s__law_flat : DSp) : DS := (dIfS (dTest (dOp (eqD false) (dOp subD (dVar 3) (dC (.int 0))) (dC (.str "if")))) (dSeq (dAsg (dCB cLen (dCons (dVar 1) (dNil))) (dgName 4)) (dSeq (dDrop (dBM "list" mAppend (dVar 1) (dCons (dC .non) (dNil)))) (dSeq (dDrop (dCall s__law_flat (dCons (dOp subD (dVar 3) (dC (.int 4))) (dCons (dVar 1) (dCons (dVar 2) (dNil)))))) (dSeq (dAsg (dCB cLen (dCons (dVar 1) (dNil))) (dgName 5)) (dSeq (dDrop (dBM "list" mAppend (dVar 1) (dCons (dC .non) (dNil)))) (dSeq (dDrop (dCall s__law_flat (dCons (dOp subD (dVar 3) (dC (.int 5))) (dCons (dVar 1) (dCons (dVar 2) (dNil)))))) (dSeq (dAsg (dTup (dCons (dC (.str "test")) (dCons (dOp subD (dVar 3) (dC (.int 1))) (dCons (dOp subD (dVar 3) (dC (.int 2))) (dCons (dOp subD (dVar 3) (dC (.int 3))) (dCons (dOp plusD (dVar 4) (dC (.int 1))) (dCons (dOp plusD (dVar 5) (dC (.int 1))) (dNil)))))))) (dgSub (dVar 1) (dVar 4))) (dAsg (dTup (dCons (dC (.str "go")) (dCons (dCB cLen (dCons (dVar 1) (dNil))) (dNil)))) (dgSub (dVar 1) (dVar 5)))))))))) (dIfS (dTest (dOp (eqD false) (dOp subD (dVar 3) (dC (.int 0))) (dC (.str "while")))) (dSeq (dAsg (dCB cLen (dCons (dVar 1) (dNil))) (dgName 6)) (dSeq (dDrop (dBM "list" mAppend (dVar 1) (dCons (dTup (dCons (dC (.str "head")) (dCons (dCB cLen (dCons (dVar 2) (dNil))) (dNil)))) (dNil)))) (dSeq (dDrop (dBM "list" mAppend (dVar 2) (dCons (dOp subD (dVar 3) (dC (.int 4))) (dNil)))) (dSeq (dDrop (dBM "list" mAppend (dVar 1) (dCons (dC .non) (dNil)))) (dSeq (dDrop (dCall s__law_flat (dCons (dOp subD (dVar 3) (dC (.int 5))) (dCons (dVar 1) (dCons (dVar 2) (dNil)))))) (dSeq (dDrop (dBM "list" mAppend (dVar 1) (dCons (dTup (dCons (dC (.str "go")) (dCons (dVar 6) (dNil)))) (dNil)))) (dAsg (dTup (dCons (dC (.str "test")) (dCons (dOp subD (dVar 3) (dC (.int 1))) (dCons (dOp subD (dVar 3) (dC (.int 2))) (dCons (dOp subD (dVar 3) (dC (.int 3))) (dCons (dOp plusD (dVar 6) (dC (.int 2))) (dCons (dCB cLen (dCons (dVar 1) (dNil))) (dNil)))))))) (dgSub (dVar 1) (dOp plusD (dVar 6) (dC (.int 1))))))))))) (dDrop (dBM "list" mAppend (dVar 1) (dCons (dVar 3) (dNil))))))
theorem flat_eq (s : DSp) : r__law_flat s = dFor (diIt (dVar 0)) (dgName 3) (flatBody s) := rfl
theorem fr_eq2 {M M' : Mm} {p q : Addr} {m n : MO} (h : Fr M M' [p, q]) (hpq : p ≠ q) (h1 : M' p = some m) (h2 : M' q = some n) : M' = put (put M p m) q n := by
  funext b
  by_cases e : b = q
  · subst e; rw [put_same, h2]
  · rw [put_ne e]
    by_cases e2 : b = p
    · subst e2; rw [put_same, h1]
    · rw [put_ne e2]; exact h b (by simp [e, e2])
theorem ixN_nn {n k : Nat} (h : k < n) : ixN n (k : Int) = some k := by
  unfold ixN
  simp [h]
def spFlat (n : Nat) : DSp := fun ds M Q _ => ∃ body p q R L Y Ls, ds = [.tup body, .ref p, .ref q] ∧ p ≠ q ∧ M p = some (.lst R) ∧ M q = some (.lst L) ∧ Em n body R.length L.length Y Ls ∧ R.length + Y.length ≤ 1000000 ∧ L.length + Ls.length ≤ 1000000 ∧ Q .non (put (put M p (.lst (R ++ Y))) q (.lst (L ++ Ls)))
inductive FlI (M : Mm) (p q : Addr) (R L : List D) (c0 : Option D) : Y.Env → Mm → Prop
  | mk {M' : Mm} {R' L' : List D} {c3 c4 c5 c6 : Option D} : M' p = some (.lst R') → M' q = some (.lst L') → R' = R → L' = L → Fr M M' [p, q] → FlI M p q R L c0 [c0, some (.ref p), some (.ref q), c3, c4, c5, c6] M'
theorem fr_trans {M M' M'' : Mm} {S : List Addr} (h : Fr M M' S) (h' : Fr M' M'' S) : Fr M M'' S := fun b hb => (h' b hb).trans (h b hb)
theorem set_mid {A B : List D} {x y : D} : (A ++ x :: B).set A.length y = A ++ y :: B := by simp
theorem flat_sets (R Y1 Y2 : List D) (a b : D) : (((R ++ [D.non] ++ Y1 ++ [D.non] ++ Y2).set R.length a).set (R ++ [D.non] ++ Y1).length b) = R ++ a :: (Y1 ++ b :: Y2) := by
  have e1 : R ++ [D.non] ++ Y1 ++ [D.non] ++ Y2 = R ++ D.non :: (Y1 ++ D.non :: Y2) := by simp
  have e2 : (R ++ [D.non] ++ Y1).length = (R ++ a :: Y1).length := by simp
  rw [e1, set_mid, e2, show R ++ a :: (Y1 ++ D.non :: Y2) = (R ++ a :: Y1) ++ D.non :: Y2 by simp, set_mid]
  simp
theorem flat_set1 (R Y1 : List D) (h a g : D) : ((R ++ [h] ++ [D.non] ++ Y1 ++ [g]).set (R.length + 1) a) = R ++ h :: a :: (Y1 ++ [g]) := by
  have e1 : R ++ [h] ++ [D.non] ++ Y1 ++ [g] = (R ++ [h]) ++ D.non :: (Y1 ++ [g]) := by simp
  have e2 : R.length + 1 = (R ++ [h]).length := by simp
  rw [e1, e2, set_mid]
  simp
theorem flat_for {n at_ lp : Nat} {body Y Ls : List D} (h : Em n body at_ lp Y Ls) : ∀ (s : DSp) (hs : ∀ ds M Q E, n ≠ 0 → spFlat (n - 1) ds M Q E → s ds M Q E) {E : DEnds} {M : Mm} {p q : Addr} {R L : List D} {c0 c3 c4 c5 c6 : Option D}, p ≠ q → M p = some (.lst R) → M q = some (.lst L) → R.length = at_ → L.length = lp → R.length + Y.length ≤ 1000000 → L.length + Ls.length ≤ 1000000 →
    (∀ δ' M', FlI M p q (R ++ Y) (L ++ Ls) c0 δ' M' → E.nx δ' M') → forD GT (dgName 3) (flatBody s) E body [c0, some (.ref p), some (.ref q), c3, c4, c5, c6] M := by
  induction h with
  | nil =>
    intro s hs E M p q R L c0 c3 c4 c5 c6 hpq hp hq hR hL lR lL k
    exact ⟨trivial, k _ _ (.mk hp hq (by simp) (by simp) (Fr.refl _ _))⟩
  | @plain n at_ lp sr r ds Y Ls hpr hem ih =>
    intro s hs E M p q R L c0 c3 c4 c5 c6 hpq hp hq hR hL lR lL k
    refine ⟨trivial, FlI M p q (R ++ [.tup (.str sr :: r)]) L c0, ?_, ?_⟩
    · rintro _ M' ⟨g1, g2, rfl, rfl, g3⟩
      refine ih s hs hpq g1 g2 (by simp [hR]) hL (by simp at lR ⊢; omega) lL fun δ' M'' hf => k δ' M'' ?_
      obtain ⟨f1, f2, f3, f4, f5⟩ := hf
      exact .mk f1 f2 (by simp [f3]) f4 (fr_trans g3 f5)
    · unfold flatBody
      refine i_name ?_
      have e0 : ∀ {Q : QD} {M : Mm}, Q (.str sr) M → subD (.tup (.str sr :: r)) (.v (.int 0)) M Q := fun h => v_subT (d := .str sr) (atI_nn _ 0) h
      walk_at "ys"
      refine e0 ?_
      walk_at "ys"
      · exact absurd (by assumption) hpr.1
      · refine e0 ?_
        walk_at "ys"
        · exact absurd (by assumption) hpr.2.1
        · apply FlI.mk <;> first | rfl | walk_at "y_look" | walk_at "y_fr"
  | @ite n at_ lp x y z b1 b2 ds Y1 L1 Y2 L2 Y Ls hx h1 h2 h3 i1 i2 ih =>
    intro s hs E M p q R L c0 c3 c4 c5 c6 hpq hp hq hR hL lR lL k
    simp only [List.length_append, List.length_cons] at lR lL
    refine ⟨trivial, FlI M p q (R ++ tst x y z (at_ + 1) (at_ + Y1.length + 2) :: (Y1 ++ go (at_ + Y1.length + Y2.length + 2) :: Y2)) (L ++ (L1 ++ L2)) c0, ?_, ?_⟩
    · rintro _ M' ⟨g1, g2, rfl, rfl, g3⟩
      refine ih s hs hpq g1 g2 (by simp; omega) (by simp; omega) (by simp; omega) (by simp; omega) fun δ' M'' hf => k δ' M'' ?_
      obtain ⟨f1, f2, f3, f4, f5⟩ := hf
      exact .mk f1 f2 (by simp [f3]) (by simp [f4]) (fr_trans g3 f5)
    · unfold flatBody
      walk_at "ys"
      · refine hs _ _ _ _ (by omega) ⟨b1, p, q, R ++ [D.non], L, Y1, L1, rfl, hpq, by walk_at "y_look", by walk_at "y_look", by simpa [hR, hL] using h1, by simp; omega, by omega, ?_⟩
        walk_at "ys"
        refine hs _ _ _ _ (by omega) ⟨b2, p, q, R ++ [D.non] ++ Y1 ++ [D.non], L ++ L1, Y2, L2, rfl, hpq, by walk_at "y_look", by walk_at "y_look", by
          have e1 : (R ++ [D.non] ++ Y1 ++ [D.non]).length = at_ + Y1.length + 2 := by simp; omega
          have e2 : (L ++ L1).length = lp + L1.length := by simp; omega
          rw [e1, e2]; exact h2, by simp; omega, by simp; omega, ?_⟩
        walk_at "ys"
        refine v_setL (ds := R ++ [D.non] ++ Y1 ++ [D.non] ++ Y2) (j := R.length) (by walk_at "y_look") (ixN_nn (by simp)) ?_
        walk_at "ys"
        refine v_setL (j := (R ++ [D.non] ++ Y1).length) put_same (ixN_nn (by first | (simp; done) | (simp; omega))) ?_
        have ea : ((R.length : Int) + 1) = ((at_ + 1 : Nat) : Int) := by omega
        have eb : (((R ++ [D.non] ++ Y1).length : Nat) : Int) + 1 = ((at_ + Y1.length + 2 : Nat) : Int) := by simp; omega
        apply FlI.mk
        · walk_at "y_look"
        · walk_at "y_look"
        · rw [flat_sets, ea, eb]
          congr 4
          simp
          omega
        · simp
        · walk_at "y_fr"
      · exact absurd rfl (by assumption)
      · exact absurd rfl (by assumption)
  | @wh n at_ lp x y z told b ds Y1 L1 Y Ls hx ht h1 h2 i1 ih =>
    intro s hs E M p q R L c0 c3 c4 c5 c6 hpq hp hq hR hL lR lL k
    simp only [List.length_append, List.length_cons] at lR lL
    refine ⟨trivial, FlI M p q (R ++ .tup [.str "head", .int lp] :: tst x y z (at_ + 2) (at_ + Y1.length + 3) :: (Y1 ++ [go at_])) (L ++ told :: L1) c0, ?_, ?_⟩
    · rintro _ M' ⟨g1, g2, rfl, rfl, g3⟩
      refine ih s hs hpq g1 g2 (by simp; omega) (by simp; omega) (by simp; omega) (by simp; omega) fun δ' M'' hf => k δ' M'' ?_
      obtain ⟨f1, f2, f3, f4, f5⟩ := hf
      exact .mk f1 f2 (by simp [f3]) (by simp [f4]) (fr_trans g3 f5)
    · unfold flatBody
      walk_at "ys"
      · exact absurd (by assumption) (show ¬ (Str.ofString "while") = Str.ofString "if" by decide +kernel)
      · refine hs _ _ _ _ (by omega) ⟨b, p, q, R ++ [D.tup [D.str "head", D.int (L.length : Nat)]] ++ [D.non], L ++ [told], Y1, L1, rfl, hpq, by walk_at "y_look", by walk_at "y_look", by
          have e1 : (R ++ [D.tup [.str "head", D.int (L.length : Nat)]] ++ [D.non]).length = at_ + 2 := by simp; omega
          have e2 : (L ++ [told]).length = lp + 1 := by simp; omega
          rw [e1, e2]; exact h1, by simp; omega, by simp; omega, ?_⟩
        walk_at "ys"
        refine v_setL (ds := R ++ [D.tup [D.str "head", D.int (L.length : Nat)]] ++ [D.non] ++ Y1 ++ [D.tup [D.str "go", D.int (R.length : Nat)]]) (j := R.length + 1) (by walk_at "y_look") (ixN_nn (n := (R ++ [D.tup [D.str "head", D.int (L.length : Nat)]] ++ [D.non] ++ Y1 ++ [D.tup [D.str "go", D.int (R.length : Nat)]]).length) (k := R.length + 1) (by simp)) ?_
        apply FlI.mk
        · walk_at "y_look"
        · walk_at "y_look"
        · rw [flat_set1]
          have ea : ((R.length : Int) + 2) = ((at_ + 2 : Nat) : Int) := by omega
          have eb : (((R ++ [D.tup [D.str "head", D.int (L.length : Nat)]] ++ [D.non] ++ Y1 ++ [D.tup [D.v (V.str "go"), D.int (R.length : Nat)]]).length : Nat) : Int) = ((at_ + Y1.length + 3 : Nat) : Int) := by simp; omega
          rw [eb, ea, hL, hR]
        · simp
        · walk_at "y_fr"
      · exact absurd rfl (by assumption)
theorem rd_flat (n : Nat) (s : DSp) (hs : ∀ ds M Q E, n ≠ 0 → spFlat (n - 1) ds M Q E → s ds M Q E) (ds : List D) (M : Mm) (Q : QD) (E : DX) (h : spFlat n ds M Q E) : r__law_flat s { nx := fun _ M' => less Q .non M', rt := less Q } (startD 7 ds) M := by
  obtain ⟨body, p, q, R, L, Y, Ls, rfl, hpq, hp, hq, hem, lR, lL, k⟩ := h
  rw [flat_eq]
  show dFor _ _ _ _ [some (.tup body), some (.ref p), some (.ref q), none, none, none, none] M
  walk_at "ys"
  refine flat_for hem s hs hpq hp hq rfl rfl lR lL fun δ' M' hf => ?_
  obtain ⟨f1, f2, f3, f4, f5⟩ := hf
  exact less_of k (fr_eq2 f5 hpq (by rw [f1, f3]) (by rw [f2, f4]))
def Code (n : Nat) (body Y Ls : List D) : Prop := Em n body 0 0 Y Ls ∧ Y.length ≤ 900000 ∧ Ls.length ≤ 900000
def spCode (n : Nat) : DSp := fun ds M Q _ => ∃ a1 a2 a3 a4 a5 a6 a7 body Y Ls, ds = [.tup [a1, a2, a3, a4, a5, a6, a7, .tup body]] ∧ Code n body Y Ls ∧ ∀ q, M q = none → Q (.tup [.lst (Y ++ [.tup [.str "return", .int 0]]), .ref q]) (put M q (.lst Ls))
theorem rd_code (n : Nat) (ds : List D) (M : Mm) (Q : QD) (E : DX) (h : spCode n ds M Q E) : r__law_code (spFlat n) { nx := fun _ M' => less Q .non M', rt := less Q } (startD 3 ds) M := by
  obtain ⟨a1, a2, a3, a4, a5, a6, a7, body, Y, Ls, rfl, ⟨hem, lR, lL⟩, k⟩ := h
  show r__law_code _ _ [some (.tup [a1, a2, a3, a4, a5, a6, a7, .tup body]), none, none] M
  unfold r__law_code
  walk_at "ys"
  rename_i p hp q hq
  have hq' := put_none hq
  have hpq : p ≠ q := hq'.1.symm
  refine ⟨body, p, q, [], [], Y, Ls, rfl, hpq, by walk_at "y_look", by walk_at "y_look", hem, by simp; omega, by simp; omega, ?_⟩
  walk_at "ys"
  exact less_fr (L := [p]) (k q hq'.2) (by walk_at "y_look") (by walk_at "y_fr") (by simp [hp])
theorem pll_app {k : Nat} {ds es : List D} (h : PlL k ds) (g : PlL k es) : PlL k (ds ++ es) := h.append g
theorem Em.pl {n at_ lp : Nat} {body Y Ls : List D} (h : Em n body at_ lp Y Ls) : PlL 6 Y ∧ PlL 5 Ls := by
  have h0 : ∀ {s : Str}, PyData.strOk s = true → Pl 5 (.str s) := fun e => Pl.str e
  induction h with
  | nil => exact ⟨.nil, .nil⟩
  | plain h _ ih => exact ⟨.cons (.tup (.cons (Pl.str h.2.2.1) h.2.2.2)) ih.1, ih.2⟩
  | ite hx _ _ _ i1 i2 i3 =>
    have hx' : PlL 5 _ := fun d hd => (hx d hd).mono (by omega)
    refine ⟨.cons (.tup (.cons (h0 (by decide +kernel)) (pll_app hx' (.cons (.int _) (.cons (.int _) .nil))))) (i1.1.append (.cons (.tup (.cons (h0 (by decide +kernel)) (.cons (.int _) .nil))) (i2.1.append i3.1))), i1.2.append (i2.2.append i3.2)⟩
  | wh hx ht _ _ i1 i2 =>
    have hx' : PlL 5 _ := fun d hd => (hx d hd).mono (by omega)
    refine ⟨.cons (.tup (.cons (h0 (by decide +kernel)) (.cons (.int _) .nil))) (.cons (.tup (.cons (h0 (by decide +kernel)) (pll_app hx' (.cons (.int _) (.cons (.int _) .nil))))) (i1.1.append (.cons (.tup (.cons (h0 (by decide +kernel)) (.cons (.int _) .nil))) i2.1))), .cons ht (i1.2.append i2.2)⟩
end K15


set_option Elab.async false
set_option linter.all false
set_option maxRecDepth 100000
set_option maxHeartbeats 4000000
set_option pp.deepTerms false
set_option pp.maxSteps 300
/-! the readings of law k15: the class Code -/
namespace K15
open PySem PySem.Spec PyProof.Rows L2 Y YD
local macro_rules | `(tactic| walk_at "y_ne") => `(tactic| first | assumption | exact Ne.symm (by assumption) | ((refine ne_none (M := ?yM) (m := ?ymo) ?ym1 ?ym2); (case ym2 => assumption); (case ym1 => walk_at "y_look")) | ((refine Ne.symm (ne_none (M := ?yM) (m := ?ymo) ?ym1 ?ym2)); (case ym2 => assumption); (case ym1 => walk_at "y_look")) | ((refine ne_none (M := ?yM) (m := ?ymo) ?ym1 (put_none (M := ?yM) (a := ?yma) (m := ?ymo2) ?ym2).2); (case ym2 => assumption); (case ym1 => walk_at "y_look")) | ((refine Ne.symm (ne_none (M := ?yM) (m := ?ymo) ?ym1 (put_none (M := ?yM) (a := ?yma) (m := ?ymo2) ?ym2).2)); (case ym2 => assumption); (case ym1 => walk_at "y_look")))
local macro_rules | `(tactic| walk_at "y_look") => `(tactic| first | assumption | exact put_same | ((with_reducible refine Eq.trans (put_ne ?yn) ?_); (case yn => walk_at "y_ne"); (walk_at "y_look")) | ((with_reducible refine Eq.trans (drop_ne ?yn) ?_); (case yn => walk_at "y_ne"); (walk_at "y_look")))
local macro_rules | `(tactic| walk_at "y_pl") => `(tactic| first | assumption | exact PlL.nil | exact Pl.int _ | exact Pl.non | exact Pl.bl _ | exact Pl.str (by decide +kernel) | ((with_reducible refine PlL.cons ?yp1 ?yp2); (case yp1 => walk_at "y_pl"); (case yp2 => walk_at "y_pl")) | ((with_reducible refine PlL.append ?yp1 ?yp2); (case yp1 => walk_at "y_pl"); (case yp2 => walk_at "y_pl")) | ((with_reducible refine Pl.tup ?yp1); (case yp1 => walk_at "y_pl")) | ((with_reducible refine PlL.mono (j := ?yj) ?yp1 ?yp2); (case yp1 => assumption); (case yp2 => first | decide | omega)) | ((with_reducible refine Pl.mono (j := ?yj) ?yp1 ?yp2); (case yp1 => assumption); (case yp2 => first | decide | omega)))
local macro_rules | `(tactic| walk_at "y_len") => `(tactic| ((try simp only [List.length_append, List.length_cons, List.length_nil, List.length_map, sizeLine_eq] at *); omega))
local macro_rules | `(tactic| walk_at "y_rfl") => `(tactic| first | rfl | (simp only [atI_nn]; rfl))
local macro_rules | `(tactic| walk_at "y_at") => `(tactic| first | exact atI_nn _ 0 | rfl)
local macro_rules | `(tactic| walk_at "y_cond") => `(tactic| first
  | (show (0 : Int) < _; first | decide | assumption | omega)
  | (exact ⟨by first | decide | assumption | omega, by first | decide | assumption | omega⟩)
  | (exact Or.inl ⟨by first | decide | assumption | omega, by first | decide | assumption | omega⟩)
  | (exact Or.inr ⟨by first | decide | assumption | omega, by first | decide | assumption | omega⟩)
  | (exact ⟨by decide, by decide, by decide⟩))
local macro_rules | `(tactic| walk_at "y1") => `(tactic| first
  | (with_reducible first | refine i_seq ?_ | refine i_next ?_ | refine i_asg ?_ | refine i_ret ?_ | refine i_retN ?_ | refine i_drop ?_ | refine i_cont ?_ | refine i_break ?_ | refine i_ifs ?_ | refine i_if ?_ | refine i_and ?_ | refine i_or ?_ | refine i_not ?_ | refine i_test ?_ | refine i_tru ?_ | refine i_andV ?_ | refine i_orV ?_ | refine i_notV ?_ | refine i_bl ?_ | refine i_op ?_ | refine i_chain ?_ | refine i_c ?_ | refine i_cd ?_ | refine i_nil ?_ | refine i_cons ?_ | refine i_call ?_ | refine i_cb ?_ | refine i_tup ?_ | refine i_lst ?_ | refine i_lstM ?_ | refine i_dict ?_ | refine i_frz ?_ | refine i_name ?_ | refine i_gcons ?_ | refine i_gnil ?_ | refine i_gsub ?_ | refine i_par ?_ | refine i_par2 ?_ | refine i_un ?_ | refine i_int ?_ | refine i_slice ?_ | refine i_onone ?_ | refine i_osome ?_ | refine i_bm ?_ | refine i_bm0 ?_ | refine i_get1 ?_ | refine i_get2 ?_ | refine i_del ?_ | refine i_for ?_ | refine i_lc ?_ | refine i_dc ?_ | refine i_yes ?_ | refine i_it ?_ | refine i_rng1 ?_ | refine i_fld ?_ | refine i_sfld ?_ | refine i_meth ?_ | refine i_make ?_ | refine v_I0 ?_ | refine v_plusI ?_ | refine v_eqI ?_ | refine v_eqS ?_ | refine v_isN ?_ | refine v_int ?_ | refine v_abs ?_ | refine v_sliceT ?_ | refine v_sliceL ?_ | refine b_fx ?_ | refine b_tx ?_)
  | ((with_reducible refine i_var (d := ?yd) ?ye0 ?_); (case ye0 => rfl))
  | ((with_reducible refine i_gtup ?ye0 ?_); (case ye0 => rfl))
  | (with_reducible refine iteT ?_)
  | (with_reducible refine iteF ?_)
  | (with_reducible refine b_dec ?_ ?_ <;> intro hc)
  | (with_reducible refine b_ndec ?_ ?_ <;> intro hc)
  | ((with_reducible refine v_subT (d := ?yd) ?ye0 ?_); (case ye0 => rfl))
  | ((with_reducible refine v_subL (d := ?yd) ?ye0 ?_); (case ye0 => rfl))
  | ((with_reducible refine v_subM (ds := ?yds) (d := ?yd) ?ye0 ?ye1 ?_); (case ye0 => (walk_at "y_look")); (case ye1 => rfl))
  | ((with_reducible refine v_setL (ds := ?yds) (j := ?yj) ?ye0 ?ye1 ?_); (case ye0 => (walk_at "y_look")); (case ye1 => rfl))
  | ((with_reducible refine v_I ?ye0 ?_); (case ye0 => (walk_at "y_cond")))
  | ((with_reducible refine i_sz ?ye0 ?_); (case ye0 => (first | exact Nat.le_of_ble_eq_true rfl | (simp only [List.length_append, List.length_cons, List.length_nil, List.length_map, sizeLine_eq] at *; omega))))
  | (with_reducible refine i_new fun yp yhp => ?_)
  | ((with_reducible refine v_app (ds := ?yds) ?ye0 ?ye1 ?_); (case ye0 => (walk_at "y_look")); (case ye1 => (first | (simp only [List.length_append, List.length_cons, List.length_nil, List.length_map, sizeLine_eq] at *; omega))))
  | ((with_reducible refine i_tyL (ds := ?yds) ?ye0 ?_); (case ye0 => (walk_at "y_look")))
  | (with_reducible refine i_tyl ?_)
  | ((with_reducible refine v_subK (kvs := ?ykv) (k := ?yk) (d := ?yd) ?ye0 ?ye1 ?ye2 ?_); (case ye0 => (walk_at "y_look")); (case ye1 => rfl); (case ye2 => first | assumption | rfl))
  | ((with_reducible refine v_plusL (ds := ?yds) (es := ?yes) ?ye0 ?ye1 ?ye2 ?_); (case ye0 => first | rfl | (with_reducible refine lsD_ref (ds := ?yds2) ?yl0; walk_at "y_look")); (case ye1 => first | rfl | (with_reducible refine lsD_ref (ds := ?yds2) ?yl0; walk_at "y_look")); (case ye2 => (simp only [List.length_append, List.length_cons, List.length_nil, List.length_map, sizeLine_eq] at *; omega)))
  | ((with_reducible refine v_plusT ?ye0 ?_); (case ye0 => (simp only [List.length_append, List.length_cons, List.length_nil, List.length_map, sizeLine_eq] at *; omega)))
  | ((with_reducible refine i_rng1d ?ye0 ?_); (case ye0 => (constructor <;> omega)))
  | ((with_reducible refine v_len (n := ?yn) ?ye0 ?_); (case ye0 => first | ((with_reducible refine lenD_ref (ds := ?yds) ?yl0); (case yl0 => walk_at "y_look")) | rfl))
  | ((with_reducible refine v_list (es := ?yes) ?ye0 ?_); (case ye0 => first | (with_reducible refine itD_ref (ds := ?yds) ?yl0; walk_at "y_look") | rfl))
  | ((with_reducible refine v_tuple (es := ?yes) ?ye0 ?_); (case ye0 => first | (with_reducible refine itD_ref (ds := ?yds) ?yl0; walk_at "y_look") | rfl))
  | ((with_reducible refine v_eqP ?ye0 ?ye1 fun yb => ?_); (case ye0 => walk_at "y_pl"); (case ye1 => walk_at "y_pl"))
  | (with_reducible refine b_emp ?_ ?_ <;> intro hc)
  | (with_reducible refine i_trul ?_)
  | (with_reducible refine i_trut ?_)
  | (with_reducible refine i_trub ?_)
  | ((with_reducible refine v_inT ?ye0 ?_); (case ye0 => exact ⟨rfl, rfl⟩))
  | (with_reducible refine b_var ?_ ?_ <;> intro hc)
  | ((with_reducible refine i_its (ds := ?yds) ?ye0 ?_); (case ye0 => rfl)))
local macro_rules | `(tactic| walk_at "y0") => `(tactic| repeat' (walk_at "y1"))
local macro_rules | `(tactic| walk_at "ys") => `(tactic| walk_at "y0")
local macro_rules | `(tactic| walk_at "y_nn") => `(tactic| first | assumption | exact (put_none (by assumption)).2 | exact (put_none (put_none (by assumption)).2).2 | exact (put_none (put_none (put_none (by assumption)).2).2).2)
local macro_rules | `(tactic| walk_at "y_kl1") => `(tactic| first | (with_reducible exact KL.merge) | ((with_reducible refine KL.put (n := ?ykn) ?ykk); (case ykk => walk_at "y_kl1")))
local macro_rules | `(tactic| walk_at "y_kl") => `(tactic| ((refine KL.lt (n := ?yn) ?yk1 ?yk2); (case yk1 => walk_at "y_kl1"); (case yk2 => first | decide | (simp; done))))
local macro_rules | `(tactic| walk_at "y_fr") => `(tactic| first | exact Fr.refl _ _ | assumption | ((refine Fr.put ?yf1 ?yf2); (case yf2 => simp); (case yf1 => walk_at "y_fr")) | ((refine Fr.drop ?yf1 ?yf2); (case yf2 => simp); (case yf1 => walk_at "y_fr")))
local macro_rules | `(tactic| walk_at "y_fin") => `(tactic| first | assumption | rfl | walk_at "y_look" | walk_at "y_pl" | walk_at "y_fr" | omega | walk_at "y_len" | (intros; omega))
local macro_rules | `(tactic| walk_at "y_take") => `(tactic| ((with_reducible refine i_take (t := ?yt) ?yl ?yo ?yb fun yr yt' yr0 yr1 yok => ?_); (case yl => walk_at "y_look"); (case yo => assumption); (case yb => (constructor <;> first | omega | (simp; omega)))))
local macro_rules | `(tactic| walk_at "y_pick") => `(tactic| first | ((with_reducible refine i_pick2 (k := 0) (t := ?yt) ?yl ?yo ?yb ?yP fun yd yt' yP ym yok => ?_); (case yl => walk_at "y_look"); (case yo => assumption); (case yb => (constructor <;> walk_at "y_len")); (case yP => walk_at "y_pl")) | ((with_reducible refine i_pick2 (k := 5) (t := ?yt) ?yl ?yo ?yb ?yP fun yd yt' yP ym yok => ?_); (case yl => walk_at "y_look"); (case yo => assumption); (case yb => (constructor <;> walk_at "y_len")); (case yP => walk_at "y_pl")))
local macro_rules | `(tactic| walk_at "y2") => `(tactic| first | walk_at "y1" | walk_at "y_take" | walk_at "y_pick" | (with_reducible refine i_disp fun yp yhp => ?_) | (with_reducible refine i_pcons ?_) | (with_reducible refine i_pnil ?_) | (with_reducible refine i_mut ?_) | ((with_reducible refine v_inT' ?ye0 ?ye1 fun yb => ?_); (case ye0 => walk_at "y_pl"); (case ye1 => walk_at "y_pl")) | ((with_reducible refine v_setK (kvs := ?ykv) (k := ?yk) ?ye0 ?ye1 ?ye2 ?_); (case ye0 => walk_at "y_look"); (case ye1 => rfl); (case ye2 => walk_at "y_kl")) | ((with_reducible refine i_mutd (ds := ?yds) ?ye0 ?_); (case ye0 => walk_at "y_look")) | ((with_reducible refine i_glst' ?ye0 ?_); (case ye0 => rfl)))
local macro_rules | `(tactic| walk_at "ys") => `(tactic| repeat' (walk_at "y2"))
theorem i_fldd {K : PySem.W.Frag} {f : Str} {o C dx : Addr} {fs : List (Str × D)} {d : D} {M : Mm} {P : D → Prop} (em : M o = some (.ins C dx fs)) (hc : Cls K C) (hn : NoAttr K C f) (hl : fs.lookup f = some d) (h : P d) : ∃ a C dx fs d, D.ref o = .ref a ∧ M a = some (.ins C dx fs) ∧ Cls K C ∧ NoAttr K C f ∧ fs.lookup f = some d ∧ P d := ⟨o, C, dx, fs, d, rfl, em, hc, hn, hl, h⟩
theorem i_methd {m : Str} {o C dx : Addr} {fs : List (Str × D)} {M : Mm} {P : Addr → Prop} (em : M o = some (.ins C dx fs)) (hl : fs.lookup m = none) (h : P o) : ∃ a dx fs, D.ref o = .ref a ∧ M a = some (.ins C dx fs) ∧ fs.lookup m = none ∧ P a := ⟨o, dx, fs, rfl, em, hl, h⟩
theorem i_sfldd {K : PySem.W.Frag} {f : Str} {o C dx : Addr} {fs : List (Str × D)} {M : Mm} {P : Addr → Addr → Addr → List (Str × D) → Prop} (em : M o = some (.ins C dx fs)) (hc : Cls K C) (hn : NoAttr K C f) (hl : fs.length < 1000) (h : P o C dx fs) : ∃ a C dx fs, D.ref o = .ref a ∧ M a = some (.ins C dx fs) ∧ Cls K C ∧ NoAttr K C f ∧ fs.length < 1000 ∧ P a C dx fs := ⟨o, C, dx, fs, rfl, em, hc, hn, hl, h⟩
local macro_rules | `(tactic| walk_at "y4") => `(tactic| first
  | walk_at "y2"
  | ((with_reducible refine i_fldd (C := ?yC) (dx := ?ydx) (fs := ?yfs) (d := ?yd) ?ye0 ?ye1 ?ye2 ?ye3 ?_); (case ye0 => walk_at "y_look"); (case ye1 => assumption); (case ye2 => assumption); (case ye3 => rfl))
  | ((with_reducible refine i_methd (dx := ?ydx) (fs := ?yfs) ?ye0 ?ye3 ?_); (case ye0 => walk_at "y_look"); (case ye3 => rfl))
  | ((with_reducible refine i_sfldd (C := ?yC) (dx := ?ydx) (fs := ?yfs) ?ye0 ?ye1 ?ye2 ?ye3 ?_); (case ye0 => walk_at "y_look"); (case ye1 => assumption); (case ye2 => assumption); (case ye3 => decide)))
local macro_rules | `(tactic| walk_at "ys") => `(tactic| repeat' (walk_at "y4"))
def Ob (M : Mm) (C o p q dx : Addr) : Prop := M o = some (.ins C dx [("rows", .ref p), ("loops", .ref q)])
def spTest (C : Addr) : DSp := fun ds M Q _ => ∃ o p q dx R w x y z r, ds = [.ref o, .tup (w :: x :: y :: z :: r)] ∧ Ob M C o p q dx ∧ M p = some (.lst R) ∧ R.length ≤ 1000000 ∧ Q (.int (R.length : Nat)) (put M p (.lst (R ++ [.tup [.str "test", x, y, z, .int 0, .int 0]])))
def spGoals (C : Addr) : DSp := fun ds M Q _ => ∃ o p q dx R k w x y z yes no, ds = [.ref o, .int (k : Nat), yes, no] ∧ Ob M C o p q dx ∧ M p = some (.lst R) ∧ R[k]? = some (.tup [w, x, y, z, .int 0, .int 0]) ∧ Q .non (put M p (.lst (R.set k (.tup [w, x, y, z, yes, no]))))
section
variable {K : PySem.W.Frag} {C : Addr} (hC : Cls K C) (n1 : NoAttr K C "rows") (n2 : NoAttr K C "loops")
include hC n1 n2
theorem rd_test (ds : List D) (M : Mm) (Q : QD) (E : DX) (h : spTest C ds M Q E) : r_Code__test K { nx := fun _ M' => less Q .non M', rt := less Q } (startD 2 ds) M := by
  obtain ⟨o, p, q, dx, R, w, x, y, z, r, rfl, ho, hp, hl, k⟩ := h
  unfold Ob at ho
  show r_Code__test _ _ [some (.ref o), some (.tup (w :: x :: y :: z :: r))] M
  unfold r_Code__test
  have hop : o ≠ p := fun e => by subst e; rw [hp] at ho; cases ho
  walk_at "ys"
  refine v_subT (d := x) (atI_nn _ 1) ?_
  walk_at "ys"
  refine v_subT (d := y) (atI_nn _ 2) ?_
  walk_at "ys"
  refine v_subT (d := z) (atI_nn _ 3) ?_
  walk_at "ys"
  have e : ∀ d : D, ((R ++ [d]).length : Int) - 1 = (R.length : Nat) := fun d => by simp
  rw [e]
  exact less_of k rfl
theorem rd_goals (ds : List D) (M : Mm) (Q : QD) (E : DX) (h : spGoals C ds M Q E) : r_Code__goals K { nx := fun _ M' => less Q .non M', rt := less Q } (startD 4 ds) M := by
  obtain ⟨o, p, q, dx, R, k, w, x, y, z, yes, no, rfl, ho, hp, hk, kk⟩ := h
  unfold Ob at ho
  show r_Code__goals _ _ [some (.ref o), some (.int (k : Nat)), some yes, some no] M
  unfold r_Code__goals
  have hop : o ≠ p := fun e => by subst e; rw [hp] at ho; cases ho
  walk_at "ys"
  refine v_subM (d := .tup [w, x, y, z, .int 0, .int 0]) hp (by rw [atI_nn]; exact hk) ?_
  walk_at "ys"
  rw [show cut [w, x, y, z, D.int 0, D.int 0] none (some 4) = [w, x, y, z] from rfl]
  walk_at "ys"
  refine v_setL (j := k) hp (ixN_nn (List.getElem?_eq_some_iff.mp hk).1) ?_
  exact less_of kk rfl
end
def blockBody (K : PySem.W.Frag) (C_Code : Addr) (s_Code__if : DSp) (s_Code__while : DSp) : DS := (dIfS (dTest (dOp (eqD false) (dOp subD (dVar 2) (dC (.int 0))) (dC (.str "if")))) (dDrop (dMeth C_Code "_if" s_Code__if (dVar 0) (dCons (dVar 2) (dNil)))) (dIfS (dTest (dOp (eqD false) (dOp subD (dVar 2) (dC (.int 0))) (dC (.str "while")))) (dDrop (dMeth C_Code "_while" s_Code__while (dVar 0) (dCons (dVar 2) (dNil)))) (dDrop (dBM "list" mAppend (dFld K "rows" (dVar 0)) (dCons (dVar 2) (dNil))))))
theorem block_eq (K : PySem.W.Frag) (C : Addr) (s1 s2 : DSp) : r_Code__block K C s1 s2 = dFor (diIt (dVar 1)) (dgName 2) (blockBody K C s1 s2) := rfl
def St2 (M : Mm) (C o p q dx : Addr) (R L : List D) : Prop := Ob M C o p q dx ∧ M p = some (.lst R) ∧ M q = some (.lst L) ∧ p ≠ q
def spIf (C : Addr) (n : Nat) : DSp := fun ds M Q _ => ∃ o p q dx R L x y z b1 b2 Y1 L1 Y2 L2, ds = [.ref o, .tup [.str "if", x, y, z, .tup b1, .tup b2]] ∧ St2 M C o p q dx R L ∧ Em n b1 (R.length + 1) L.length Y1 L1 ∧ Em n b2 (R.length + Y1.length + 2) (L.length + L1.length) Y2 L2 ∧ R.length + Y1.length + Y2.length + 2 ≤ 900000 ∧ L.length + L1.length + L2.length ≤ 900000 ∧
  Q .non (put (put M p (.lst (R ++ tst x y z (R.length + 1) (R.length + Y1.length + 2) :: (Y1 ++ go (R.length + Y1.length + Y2.length + 2) :: Y2)))) q (.lst (L ++ (L1 ++ L2))))
def spWhile (C : Addr) (n : Nat) : DSp := fun ds M Q _ => ∃ o p q dx R L x y z told b Y1 L1, ds = [.ref o, .tup [.str "while", x, y, z, told, .tup b]] ∧ St2 M C o p q dx R L ∧ Em n b (R.length + 2) (L.length + 1) Y1 L1 ∧ R.length + Y1.length + 3 ≤ 900000 ∧ L.length + L1.length + 1 ≤ 900000 ∧
  Q .non (put (put M p (.lst (R ++ .tup [.str "head", .int (L.length : Nat)] :: tst x y z (R.length + 2) (R.length + Y1.length + 3) :: (Y1 ++ [go R.length])))) q (.lst (L ++ told :: L1)))
def spBlock (C : Addr) (n : Nat) : DSp := fun ds M Q _ => ∃ o p q dx R L body Y Ls, ds = [.ref o, .tup body] ∧ St2 M C o p q dx R L ∧ Em n body R.length L.length Y Ls ∧ R.length + Y.length ≤ 900000 ∧ L.length + Ls.length ≤ 900000 ∧ Q .non (put (put M p (.lst (R ++ Y))) q (.lst (L ++ Ls)))
inductive BlI (M : Mm) (p q : Addr) (R L : List D) (c0 c1 : Option D) : Y.Env → Mm → Prop
  | mk {M' : Mm} {R' L' : List D} {c2 : Option D} : M' p = some (.lst R') → M' q = some (.lst L') → R' = R → L' = L → Fr M M' [p, q] → BlI M p q R L c0 c1 [c0, c1, c2] M'
section
variable {K : PySem.W.Frag} {C : Addr} (hC : Cls K C) (n1 : NoAttr K C "rows") (n2 : NoAttr K C "loops")
include hC n1 n2
theorem block_for {n at_ lp : Nat} {body Y Ls : List D} (h : Em n body at_ lp Y Ls) : ∀ (s1 s2 : DSp) (hs : ∀ ds M Q E, n ≠ 0 → spIf C (n - 1) ds M Q E → s1 ds M Q E) (hs2 : ∀ ds M Q E, n ≠ 0 → spWhile C (n - 1) ds M Q E → s2 ds M Q E) {E : DEnds} {M : Mm} {o p q dx : Addr} {R L : List D} {c1 c2 : Option D}, St2 M C o p q dx R L → R.length = at_ → L.length = lp → R.length + Y.length ≤ 900000 → L.length + Ls.length ≤ 900000 →
    (∀ δ' M', BlI M p q (R ++ Y) (L ++ Ls) (some (.ref o)) c1 δ' M' → E.nx δ' M') → forD GT (dgName 2) (blockBody K C s1 s2) E body [some (.ref o), c1, c2] M := by
  induction h with
  | nil =>
    intro s1 s2 hs hs2 E M o p q dx R L c1 c2 ⟨ho, hp, hq, hpq⟩ hR hL lR lL k
    exact ⟨trivial, k _ _ (.mk hp hq (by simp) (by simp) (Fr.refl _ _))⟩
  | @plain n at_ lp sr r ds Y Ls hpr hem ih =>
    intro s1 s2 hs hs2 E M o p q dx R L c1 c2 ⟨ho, hp, hq, hpq⟩ hR hL lR lL k
    unfold Ob at ho
    have hop : o ≠ p := fun e => by subst e; rw [hp] at ho; cases ho
    have hoq : o ≠ q := fun e => by subst e; rw [hq] at ho; cases ho
    refine ⟨trivial, BlI M p q (R ++ [.tup (.str sr :: r)]) L (some (.ref o)) c1, ?_, ?_⟩
    · rintro _ M' ⟨g1, g2, rfl, rfl, g3⟩
      refine ih s1 s2 hs hs2 (dx := dx) ⟨by unfold Ob; rw [g3 o (by simp [hop, hoq])]; exact ho, g1, g2, hpq⟩ (by simp [hR]) hL (by simp at lR ⊢; omega) lL fun δ' M'' hf => k δ' M'' ?_
      obtain ⟨f1, f2, f3, f4, f5⟩ := hf
      exact .mk f1 f2 (by simp [f3]) f4 (fr_trans g3 f5)
    · unfold blockBody
      refine i_name ?_
      have e0 : ∀ {Q : QD} {M : Mm}, Q (.str sr) M → subD (.tup (.str sr :: r)) (.v (.int 0)) M Q := fun h => v_subT (d := .str sr) (atI_nn _ 0) h
      walk_at "ys"
      refine e0 ?_
      walk_at "ys"
      · exact absurd (by assumption) hpr.1
      · refine e0 ?_
        walk_at "ys"
        · exact absurd (by assumption) hpr.2.1
        · apply BlI.mk <;> first | rfl | walk_at "y_look" | walk_at "y_fr"
  | @ite n at_ lp x y z b1 b2 ds Y1 L1 Y2 L2 Y Ls hx h1 h2 h3 i1 i2 ih =>
    intro s1 s2 hs hs2 E M o p q dx R L c1 c2 hst hR hL lR lL k
    have hst' := hst
    obtain ⟨ho, hp, hq, hpq⟩ := hst
    unfold Ob at ho
    have hop : o ≠ p := fun e => by subst e; rw [hp] at ho; cases ho
    have hoq : o ≠ q := fun e => by subst e; rw [hq] at ho; cases ho
    simp only [List.length_append, List.length_cons] at lR lL
    refine ⟨trivial, BlI M p q (R ++ tst x y z (at_ + 1) (at_ + Y1.length + 2) :: (Y1 ++ go (at_ + Y1.length + Y2.length + 2) :: Y2)) (L ++ (L1 ++ L2)) (some (.ref o)) c1, ?_, ?_⟩
    · rintro _ M' ⟨g1, g2, rfl, rfl, g3⟩
      refine ih s1 s2 hs hs2 (dx := dx) ⟨by unfold Ob; rw [g3 o (by simp [hop, hoq])]; exact ho, g1, g2, hpq⟩ (by simp; omega) (by simp; omega) (by simp; omega) (by simp; omega) fun δ' M'' hf => k δ' M'' ?_
      obtain ⟨f1, f2, f3, f4, f5⟩ := hf
      exact .mk f1 f2 (by simp [f3]) (by simp [f4]) (fr_trans g3 f5)
    · unfold blockBody
      subst hR hL
      walk_at "ys"
      · refine hs _ _ _ _ (by omega) ⟨o, p, q, dx, R, L, x, y, z, b1, b2, Y1, L1, Y2, L2, rfl, hst', h1, h2, by omega, by omega, ?_⟩
        walk_at "ys"
        apply BlI.mk <;> first | rfl | walk_at "y_look" | walk_at "y_fr"
      · exact absurd rfl (by assumption)
      · exact absurd rfl (by assumption)
  | @wh n at_ lp x y z told b ds Y1 L1 Y Ls hx ht h1 h2 i1 ih =>
    intro s1 s2 hs hs2 E M o p q dx R L c1 c2 hst hR hL lR lL k
    have hst' := hst
    obtain ⟨ho, hp, hq, hpq⟩ := hst
    unfold Ob at ho
    have hop : o ≠ p := fun e => by subst e; rw [hp] at ho; cases ho
    have hoq : o ≠ q := fun e => by subst e; rw [hq] at ho; cases ho
    simp only [List.length_append, List.length_cons] at lR lL
    refine ⟨trivial, BlI M p q (R ++ .tup [.str "head", .int lp] :: tst x y z (at_ + 2) (at_ + Y1.length + 3) :: (Y1 ++ [go at_])) (L ++ told :: L1) (some (.ref o)) c1, ?_, ?_⟩
    · rintro _ M' ⟨g1, g2, rfl, rfl, g3⟩
      refine ih s1 s2 hs hs2 (dx := dx) ⟨by unfold Ob; rw [g3 o (by simp [hop, hoq])]; exact ho, g1, g2, hpq⟩ (by simp; omega) (by simp; omega) (by simp; omega) (by simp; omega) fun δ' M'' hf => k δ' M'' ?_
      obtain ⟨f1, f2, f3, f4, f5⟩ := hf
      exact .mk f1 f2 (by simp [f3]) (by simp [f4]) (fr_trans g3 f5)
    · unfold blockBody
      subst hR hL
      walk_at "ys"
      · exact absurd (by assumption) (show ¬ (Str.ofString "while") = Str.ofString "if" by decide +kernel)
      · refine hs2 _ _ _ _ (by omega) ⟨o, p, q, dx, R, L, x, y, z, told, b, Y1, L1, rfl, hst', h1, by omega, by omega, ?_⟩
        walk_at "ys"
        apply BlI.mk <;> first | rfl | walk_at "y_look" | walk_at "y_fr"
      · exact absurd rfl (by assumption)
theorem rd_block (n : Nat) (s1 s2 : DSp) (hs : ∀ ds M Q E, n ≠ 0 → spIf C (n - 1) ds M Q E → s1 ds M Q E) (hs2 : ∀ ds M Q E, n ≠ 0 → spWhile C (n - 1) ds M Q E → s2 ds M Q E) (ds : List D) (M : Mm) (Q : QD) (E : DX) (h : spBlock C n ds M Q E) : r_Code__block K C s1 s2 { nx := fun _ M' => less Q .non M', rt := less Q } (startD 3 ds) M := by
  obtain ⟨o, p, q, dx, R, L, body, Y, Ls, rfl, hst, hem, lR, lL, k⟩ := h
  rw [block_eq]
  show dFor _ _ _ _ [some (.ref o), some (.tup body), none] M
  walk_at "ys"
  refine block_for hC n1 n2 hem s1 s2 hs hs2 hst rfl rfl lR lL fun δ' M' hf => ?_
  obtain ⟨f1, f2, f3, f4, f5⟩ := hf
  exact less_of k (fr_eq2 f5 hst.2.2.2 (by rw [f1, f3]) (by rw [f2, f4]))
end
end K15


set_option Elab.async false
set_option linter.all false
set_option maxRecDepth 100000
set_option maxHeartbeats 4000000
set_option pp.deepTerms false
set_option pp.maxSteps 300
/-! the readings of law k15: _if, _while, code_of -/
namespace K15
open PySem PySem.Spec PyProof.Rows L2 Y YD
local macro_rules | `(tactic| walk_at "y_ne") => `(tactic| first | assumption | exact Ne.symm (by assumption) | ((refine ne_none (M := ?yM) (m := ?ymo) ?ym1 ?ym2); (case ym2 => assumption); (case ym1 => walk_at "y_look")) | ((refine Ne.symm (ne_none (M := ?yM) (m := ?ymo) ?ym1 ?ym2)); (case ym2 => assumption); (case ym1 => walk_at "y_look")) | ((refine ne_none (M := ?yM) (m := ?ymo) ?ym1 (put_none (M := ?yM) (a := ?yma) (m := ?ymo2) ?ym2).2); (case ym2 => assumption); (case ym1 => walk_at "y_look")) | ((refine Ne.symm (ne_none (M := ?yM) (m := ?ymo) ?ym1 (put_none (M := ?yM) (a := ?yma) (m := ?ymo2) ?ym2).2)); (case ym2 => assumption); (case ym1 => walk_at "y_look")))
local macro_rules | `(tactic| walk_at "y_look") => `(tactic| first | assumption | exact put_same | ((with_reducible refine Eq.trans (put_ne ?yn) ?_); (case yn => walk_at "y_ne"); (walk_at "y_look")) | ((with_reducible refine Eq.trans (drop_ne ?yn) ?_); (case yn => walk_at "y_ne"); (walk_at "y_look")))
local macro_rules | `(tactic| walk_at "y_pl") => `(tactic| first | assumption | exact PlL.nil | exact Pl.int _ | exact Pl.non | exact Pl.bl _ | exact Pl.str (by decide +kernel) | ((with_reducible refine PlL.cons ?yp1 ?yp2); (case yp1 => walk_at "y_pl"); (case yp2 => walk_at "y_pl")) | ((with_reducible refine PlL.append ?yp1 ?yp2); (case yp1 => walk_at "y_pl"); (case yp2 => walk_at "y_pl")) | ((with_reducible refine Pl.tup ?yp1); (case yp1 => walk_at "y_pl")) | ((with_reducible refine PlL.mono (j := ?yj) ?yp1 ?yp2); (case yp1 => assumption); (case yp2 => first | decide | omega)) | ((with_reducible refine Pl.mono (j := ?yj) ?yp1 ?yp2); (case yp1 => assumption); (case yp2 => first | decide | omega)))
local macro_rules | `(tactic| walk_at "y_len") => `(tactic| ((try simp only [List.length_append, List.length_cons, List.length_nil, List.length_map, sizeLine_eq] at *); omega))
local macro_rules | `(tactic| walk_at "y_rfl") => `(tactic| first | rfl | (simp only [atI_nn]; rfl))
local macro_rules | `(tactic| walk_at "y_at") => `(tactic| first | exact atI_nn _ 0 | rfl)
local macro_rules | `(tactic| walk_at "y_cond") => `(tactic| first
  | (show (0 : Int) < _; first | decide | assumption | omega)
  | (exact ⟨by first | decide | assumption | omega, by first | decide | assumption | omega⟩)
  | (exact Or.inl ⟨by first | decide | assumption | omega, by first | decide | assumption | omega⟩)
  | (exact Or.inr ⟨by first | decide | assumption | omega, by first | decide | assumption | omega⟩)
  | (exact ⟨by decide, by decide, by decide⟩))
local macro_rules | `(tactic| walk_at "y1") => `(tactic| first
  | (with_reducible first | refine i_seq ?_ | refine i_next ?_ | refine i_asg ?_ | refine i_ret ?_ | refine i_retN ?_ | refine i_drop ?_ | refine i_cont ?_ | refine i_break ?_ | refine i_ifs ?_ | refine i_if ?_ | refine i_and ?_ | refine i_or ?_ | refine i_not ?_ | refine i_test ?_ | refine i_tru ?_ | refine i_andV ?_ | refine i_orV ?_ | refine i_notV ?_ | refine i_bl ?_ | refine i_op ?_ | refine i_chain ?_ | refine i_c ?_ | refine i_cd ?_ | refine i_nil ?_ | refine i_cons ?_ | refine i_call ?_ | refine i_cb ?_ | refine i_tup ?_ | refine i_lst ?_ | refine i_lstM ?_ | refine i_dict ?_ | refine i_frz ?_ | refine i_name ?_ | refine i_gcons ?_ | refine i_gnil ?_ | refine i_gsub ?_ | refine i_par ?_ | refine i_par2 ?_ | refine i_un ?_ | refine i_int ?_ | refine i_slice ?_ | refine i_onone ?_ | refine i_osome ?_ | refine i_bm ?_ | refine i_bm0 ?_ | refine i_get1 ?_ | refine i_get2 ?_ | refine i_del ?_ | refine i_for ?_ | refine i_lc ?_ | refine i_dc ?_ | refine i_yes ?_ | refine i_it ?_ | refine i_rng1 ?_ | refine i_fld ?_ | refine i_sfld ?_ | refine i_meth ?_ | refine i_make ?_ | refine v_I0 ?_ | refine v_plusI ?_ | refine v_eqI ?_ | refine v_eqS ?_ | refine v_isN ?_ | refine v_int ?_ | refine v_abs ?_ | refine v_sliceT ?_ | refine v_sliceL ?_ | refine b_fx ?_ | refine b_tx ?_)
  | ((with_reducible refine i_var (d := ?yd) ?ye0 ?_); (case ye0 => rfl))
  | ((with_reducible refine i_gtup ?ye0 ?_); (case ye0 => rfl))
  | (with_reducible refine iteT ?_)
  | (with_reducible refine iteF ?_)
  | (with_reducible refine b_dec ?_ ?_ <;> intro hc)
  | (with_reducible refine b_ndec ?_ ?_ <;> intro hc)
  | ((with_reducible refine v_subT (d := ?yd) ?ye0 ?_); (case ye0 => rfl))
  | ((with_reducible refine v_subL (d := ?yd) ?ye0 ?_); (case ye0 => rfl))
  | ((with_reducible refine v_subM (ds := ?yds) (d := ?yd) ?ye0 ?ye1 ?_); (case ye0 => (walk_at "y_look")); (case ye1 => rfl))
  | ((with_reducible refine v_setL (ds := ?yds) (j := ?yj) ?ye0 ?ye1 ?_); (case ye0 => (walk_at "y_look")); (case ye1 => rfl))
  | ((with_reducible refine v_I ?ye0 ?_); (case ye0 => (walk_at "y_cond")))
  | ((with_reducible refine i_sz ?ye0 ?_); (case ye0 => (first | exact Nat.le_of_ble_eq_true rfl | (simp only [List.length_append, List.length_cons, List.length_nil, List.length_map, sizeLine_eq] at *; omega))))
  | (with_reducible refine i_new fun yp yhp => ?_)
  | ((with_reducible refine v_app (ds := ?yds) ?ye0 ?ye1 ?_); (case ye0 => (walk_at "y_look")); (case ye1 => (first | (simp only [List.length_append, List.length_cons, List.length_nil, List.length_map, sizeLine_eq] at *; omega))))
  | ((with_reducible refine i_tyL (ds := ?yds) ?ye0 ?_); (case ye0 => (walk_at "y_look")))
  | (with_reducible refine i_tyl ?_)
  | ((with_reducible refine v_subK (kvs := ?ykv) (k := ?yk) (d := ?yd) ?ye0 ?ye1 ?ye2 ?_); (case ye0 => (walk_at "y_look")); (case ye1 => rfl); (case ye2 => first | assumption | rfl))
  | ((with_reducible refine v_plusL (ds := ?yds) (es := ?yes) ?ye0 ?ye1 ?ye2 ?_); (case ye0 => first | rfl | (with_reducible refine lsD_ref (ds := ?yds2) ?yl0; walk_at "y_look")); (case ye1 => first | rfl | (with_reducible refine lsD_ref (ds := ?yds2) ?yl0; walk_at "y_look")); (case ye2 => (simp only [List.length_append, List.length_cons, List.length_nil, List.length_map, sizeLine_eq] at *; omega)))
  | ((with_reducible refine v_plusT ?ye0 ?_); (case ye0 => (simp only [List.length_append, List.length_cons, List.length_nil, List.length_map, sizeLine_eq] at *; omega)))
  | ((with_reducible refine i_rng1d ?ye0 ?_); (case ye0 => (constructor <;> omega)))
  | ((with_reducible refine v_len (n := ?yn) ?ye0 ?_); (case ye0 => first | ((with_reducible refine lenD_ref (ds := ?yds) ?yl0); (case yl0 => walk_at "y_look")) | rfl))
  | ((with_reducible refine v_list (es := ?yes) ?ye0 ?_); (case ye0 => first | (with_reducible refine itD_ref (ds := ?yds) ?yl0; walk_at "y_look") | rfl))
  | ((with_reducible refine v_tuple (es := ?yes) ?ye0 ?_); (case ye0 => first | (with_reducible refine itD_ref (ds := ?yds) ?yl0; walk_at "y_look") | rfl))
  | ((with_reducible refine v_eqP ?ye0 ?ye1 fun yb => ?_); (case ye0 => walk_at "y_pl"); (case ye1 => walk_at "y_pl"))
  | (with_reducible refine b_emp ?_ ?_ <;> intro hc)
  | (with_reducible refine i_trul ?_)
  | (with_reducible refine i_trut ?_)
  | (with_reducible refine i_trub ?_)
  | ((with_reducible refine v_inT ?ye0 ?_); (case ye0 => exact ⟨rfl, rfl⟩))
  | (with_reducible refine b_var ?_ ?_ <;> intro hc)
  | ((with_reducible refine i_its (ds := ?yds) ?ye0 ?_); (case ye0 => rfl)))
local macro_rules | `(tactic| walk_at "y0") => `(tactic| repeat' (walk_at "y1"))
local macro_rules | `(tactic| walk_at "ys") => `(tactic| walk_at "y0")
local macro_rules | `(tactic| walk_at "y_nn") => `(tactic| first | assumption | exact (put_none (by assumption)).2 | exact (put_none (put_none (by assumption)).2).2 | exact (put_none (put_none (put_none (by assumption)).2).2).2)
local macro_rules | `(tactic| walk_at "y_kl1") => `(tactic| first | (with_reducible exact KL.merge) | ((with_reducible refine KL.put (n := ?ykn) ?ykk); (case ykk => walk_at "y_kl1")))
local macro_rules | `(tactic| walk_at "y_kl") => `(tactic| ((refine KL.lt (n := ?yn) ?yk1 ?yk2); (case yk1 => walk_at "y_kl1"); (case yk2 => first | decide | (simp; done))))
local macro_rules | `(tactic| walk_at "y_fr") => `(tactic| first | exact Fr.refl _ _ | assumption | ((refine Fr.put ?yf1 ?yf2); (case yf2 => simp); (case yf1 => walk_at "y_fr")) | ((refine Fr.drop ?yf1 ?yf2); (case yf2 => simp); (case yf1 => walk_at "y_fr")))
local macro_rules | `(tactic| walk_at "y_fin") => `(tactic| first | assumption | rfl | walk_at "y_look" | walk_at "y_pl" | walk_at "y_fr" | omega | walk_at "y_len" | (intros; omega))
local macro_rules | `(tactic| walk_at "y_take") => `(tactic| ((with_reducible refine i_take (t := ?yt) ?yl ?yo ?yb fun yr yt' yr0 yr1 yok => ?_); (case yl => walk_at "y_look"); (case yo => assumption); (case yb => (constructor <;> first | omega | (simp; omega)))))
local macro_rules | `(tactic| walk_at "y_pick") => `(tactic| first | ((with_reducible refine i_pick2 (k := 0) (t := ?yt) ?yl ?yo ?yb ?yP fun yd yt' yP ym yok => ?_); (case yl => walk_at "y_look"); (case yo => assumption); (case yb => (constructor <;> walk_at "y_len")); (case yP => walk_at "y_pl")) | ((with_reducible refine i_pick2 (k := 5) (t := ?yt) ?yl ?yo ?yb ?yP fun yd yt' yP ym yok => ?_); (case yl => walk_at "y_look"); (case yo => assumption); (case yb => (constructor <;> walk_at "y_len")); (case yP => walk_at "y_pl")))
local macro_rules | `(tactic| walk_at "y2") => `(tactic| first | walk_at "y1" | walk_at "y_take" | walk_at "y_pick" | (with_reducible refine i_disp fun yp yhp => ?_) | (with_reducible refine i_pcons ?_) | (with_reducible refine i_pnil ?_) | (with_reducible refine i_mut ?_) | ((with_reducible refine v_inT' ?ye0 ?ye1 fun yb => ?_); (case ye0 => walk_at "y_pl"); (case ye1 => walk_at "y_pl")) | ((with_reducible refine v_setK (kvs := ?ykv) (k := ?yk) ?ye0 ?ye1 ?ye2 ?_); (case ye0 => walk_at "y_look"); (case ye1 => rfl); (case ye2 => walk_at "y_kl")) | ((with_reducible refine i_mutd (ds := ?yds) ?ye0 ?_); (case ye0 => walk_at "y_look")) | ((with_reducible refine i_glst' ?ye0 ?_); (case ye0 => rfl)))
local macro_rules | `(tactic| walk_at "ys") => `(tactic| repeat' (walk_at "y2"))
local macro_rules | `(tactic| walk_at "y4") => `(tactic| first
  | walk_at "y2"
  | ((with_reducible refine i_fldd (C := ?yC) (dx := ?ydx) (fs := ?yfs) (d := ?yd) ?ye0 ?ye1 ?ye2 ?ye3 ?_); (case ye0 => walk_at "y_look"); (case ye1 => assumption); (case ye2 => assumption); (case ye3 => rfl))
  | ((with_reducible refine i_methd (dx := ?ydx) (fs := ?yfs) ?ye0 ?ye3 ?_); (case ye0 => walk_at "y_look"); (case ye3 => rfl))
  | ((with_reducible refine i_sfldd (C := ?yC) (dx := ?ydx) (fs := ?yfs) ?ye0 ?ye1 ?ye2 ?ye3 ?_); (case ye0 => walk_at "y_look"); (case ye1 => assumption); (case ye2 => assumption); (case ye3 => (first | decide | (simp; done) | (simp [putFD]; done)))))
local macro_rules | `(tactic| walk_at "ys") => `(tactic| repeat' (walk_at "y4"))
theorem if_sets (R Y1 Y2 : List D) (t g a b : D) : (((R ++ [t] ++ Y1 ++ [g] ++ Y2).set (R ++ [t] ++ Y1).length b).set R.length a) = R ++ a :: (Y1 ++ b :: Y2) := by
  have e1 : R ++ [t] ++ Y1 ++ [g] ++ Y2 = (R ++ [t] ++ Y1) ++ g :: Y2 := by simp
  have e2 : R ++ [t] ++ Y1 ++ b :: Y2 = R ++ t :: (Y1 ++ b :: Y2) := by simp
  rw [e1, set_mid, e2, set_mid]
theorem if_get (R Y1 Y2 : List D) (t g b : D) : ((R ++ [t] ++ Y1 ++ [g] ++ Y2).set (R ++ [t] ++ Y1).length b)[R.length]? = some t := by
  have e1 : R ++ [t] ++ Y1 ++ [g] ++ Y2 = (R ++ [t] ++ Y1) ++ g :: Y2 := by simp
  have e2 : R ++ [t] ++ Y1 ++ b :: Y2 = R ++ t :: (Y1 ++ b :: Y2) := by simp
  rw [e1, set_mid, e2]
  simp
theorem look_eq {M : Mm} {p : Addr} {R X : List D} (h : M p = some (.lst R)) (e : R = X) : M p = some (.lst X) := by rw [h, e]
theorem wh_sets (R Y1 : List D) (h t g a : D) : ((R ++ [h] ++ [t] ++ Y1 ++ [g]).set (R ++ [h]).length a) = R ++ h :: a :: (Y1 ++ [g]) := by
  have e1 : R ++ [h] ++ [t] ++ Y1 ++ [g] = (R ++ [h]) ++ t :: (Y1 ++ [g]) := by simp
  rw [e1, set_mid]
  simp
theorem wh_get (R Y1 : List D) (h t g : D) : (R ++ [h] ++ [t] ++ Y1 ++ [g])[(R ++ [h]).length]? = some t := by
  have e1 : R ++ [h] ++ [t] ++ Y1 ++ [g] = (R ++ [h]) ++ t :: (Y1 ++ [g]) := by simp
  rw [e1]
  simp
section
variable {K : PySem.W.Frag} {C : Addr} (hC : Cls K C) (n1 : NoAttr K C "rows") (n2 : NoAttr K C "loops")
include hC n1 n2
theorem rd_if (n : Nat) (ds : List D) (M : Mm) (Q : QD) (E : DX) (h : spIf C n ds M Q E) : r_Code__if K C (spTest C) (spBlock C n) (spGoals C) { nx := fun _ M' => less Q .non M', rt := less Q } (startD 4 ds) M := by
  obtain ⟨o, p, q, dx, R, L, x, y, z, b1, b2, Y1, L1, Y2, L2, rfl, ⟨ho, hp, hq, hpq⟩, h1, h2, lR, lL, k⟩ := h
  show r_Code__if _ _ _ _ _ _ [some (.ref o), some (.tup [.str "if", x, y, z, .tup b1, .tup b2]), none, none] M
  unfold r_Code__if
  unfold Ob at ho
  have hop : o ≠ p := fun e => by subst e; rw [hp] at ho; cases ho
  have hoq : o ≠ q := fun e => by subst e; rw [hq] at ho; cases ho
  walk_at "ys"
  refine ⟨o, p, q, dx, R, .str "if", x, y, z, [.tup b1, .tup b2], rfl, ho, hp, by omega, ?_⟩
  generalize ht : (D.tup [.str "test", x, y, z, .int 0, .int 0]) = t0
  walk_at "ys"
  refine ⟨o, p, q, dx, R ++ [t0], L, b1, Y1, L1, rfl, ⟨by unfold Ob; walk_at "y_look", by walk_at "y_look", by walk_at "y_look", hpq⟩, by simpa using h1, by simp; omega, by omega, ?_⟩
  walk_at "ys"
  refine ⟨o, p, q, dx, R ++ [t0] ++ Y1 ++ [.tup [.str "go", .int 0]], L ++ L1, b2, Y2, L2, rfl, ⟨by unfold Ob; walk_at "y_look", by walk_at "y_look", by walk_at "y_look", hpq⟩, by
    have e1 : (R ++ [t0] ++ Y1 ++ [D.tup [.str "go", .int 0]]).length = R.length + Y1.length + 2 := by simp; omega
    have e2 : (L ++ L1).length = L.length + L1.length := by simp
    rw [e1, e2]; exact h2, by simp; omega, by simp; omega, ?_⟩
  walk_at "ys"
  refine v_setL (j := (R ++ [t0] ++ Y1).length) (by walk_at "y_look") (ixN_nn (by first | (simp; done) | (simp; omega))) ?_
  walk_at "ys"
  refine ⟨o, p, q, dx, _, R.length, .str "test", x, y, z, _, _, rfl, by unfold Ob; walk_at "y_look", put_same, by rw [ht]; exact if_get _ _ _ _ _ _, ?_⟩
  walk_at "ys"
  refine less_of k (fr_eq2 (by walk_at "y_fr") hpq ?_ ?_)
  · refine look_eq (R := ?yR1) ?ea1 ?eb1
    case ea1 => walk_at "y_look"
    case eb1 =>
      rw [if_sets]
      simp [tst, go]
      omega
  · refine look_eq (R := ?yR2) ?ea2 ?eb2
    case ea2 => walk_at "y_look"
    case eb2 => simp
theorem rd_while (n : Nat) (ds : List D) (M : Mm) (Q : QD) (E : DX) (h : spWhile C n ds M Q E) : r_Code__while K C (spTest C) (spBlock C n) (spGoals C) { nx := fun _ M' => less Q .non M', rt := less Q } (startD 4 ds) M := by
  obtain ⟨o, p, q, dx, R, L, x, y, z, told, b, Y1, L1, rfl, ⟨ho, hp, hq, hpq⟩, h1, lR, lL, k⟩ := h
  show r_Code__while _ _ _ _ _ _ [some (.ref o), some (.tup [.str "while", x, y, z, told, .tup b]), none, none] M
  unfold r_Code__while
  unfold Ob at ho
  have hop : o ≠ p := fun e => by subst e; rw [hp] at ho; cases ho
  have hoq : o ≠ q := fun e => by subst e; rw [hq] at ho; cases ho
  walk_at "ys"
  refine ⟨o, p, q, dx, R ++ [.tup [.str "head", .int (L.length : Nat)]], .str "while", x, y, z, [told, .tup b], rfl, by unfold Ob; walk_at "y_look", by walk_at "y_look", by simp; omega, ?_⟩
  generalize ht : (D.tup [.str "test", x, y, z, .int 0, .int 0]) = t0
  walk_at "ys"
  refine ⟨o, p, q, dx, R ++ [.tup [.str "head", .int (L.length : Nat)]] ++ [t0], L ++ [told], b, Y1, L1, rfl, ⟨by unfold Ob; walk_at "y_look", by walk_at "y_look", by walk_at "y_look", hpq⟩, by
    have e1 : (R ++ [D.tup [.str "head", .int (L.length : Nat)]] ++ [t0]).length = R.length + 2 := by simp
    have e2 : (L ++ [told]).length = L.length + 1 := by simp
    rw [e1, e2]; exact h1, by simp; omega, by simp; omega, ?_⟩
  walk_at "ys"
  refine ⟨o, p, q, dx, _, (R ++ [D.tup [.str "head", .int (L.length : Nat)]]).length, .str "test", x, y, z, _, _, rfl, by unfold Ob; walk_at "y_look", put_same, by rw [ht]; exact wh_get _ _ _ _ _, ?_⟩
  walk_at "ys"
  refine less_of k (fr_eq2 (by walk_at "y_fr") hpq ?_ ?_)
  · refine look_eq (R := ?yR3) ?ea3 ?eb3
    case ea3 => walk_at "y_look"
    case eb3 =>
      rw [wh_sets]
      simp [tst, go]
      omega
  · refine look_eq (R := ?yR4) ?ea4 ?eb4
    case ea4 => walk_at "y_look"
    case eb4 => simp
def spInit (C : Addr) (n : Nat) : DSp := fun ds M Q _ => ∃ o dx body Y Ls, ds = [.ref o, .tup body] ∧ M o = some (.ins C dx []) ∧ Code n body Y Ls ∧ ∀ p q, M p = none → M q = none → p ≠ q → Q .non (put (put (put M o (.ins C dx [("rows", .ref p), ("loops", .ref q)])) p (.lst (Y ++ [.tup [.str "return", .int 0]]))) q (.lst Ls))
theorem rd_init (n : Nat) (ds : List D) (M : Mm) (Q : QD) (E : DX) (h : spInit C n ds M Q E) : r_Code___init__ K C (spBlock C n) { nx := fun _ M' => less Q .non M', rt := less Q } (startD 2 ds) M := by
  obtain ⟨o, dx, body, Y, Ls, rfl, ho, ⟨hem, lR, lL⟩, k⟩ := h
  show r_Code___init__ _ _ _ _ [some (.ref o), some (.tup body)] M
  unfold r_Code___init__
  walk_at "ys"
  rename_i p hp q hq
  have hq' := put_none hq
  have hop : o ≠ p := ne_none ho hp
  have hq'' : q ≠ p ∧ M q = none := by
    by_cases e : q = o
    · subst e; rw [put_same] at hq; cases hq
    · rw [put_ne e] at hq
      exact put_none hq
  have hoq : o ≠ q := ne_none ho hq''.2
  have hqp := hq''.1
  refine ⟨o, p, q, dx, [], [], body, Y, Ls, rfl, ⟨put_same, by walk_at "y_look", by walk_at "y_look", hq''.1.symm⟩, hem, by simp; omega, by simp; omega, ?_⟩
  have ef : putFD "loops" (D.ref q) (putFD "rows" (D.ref p) []) = ([("rows", D.ref p), ("loops", D.ref q)] : List (Str × D)) := rfl
  rw [ef]
  walk_at "ys"
  refine less_of (k p q hp hq''.2 hq''.1.symm) ?_
  funext b
  by_cases e1 : b = q
  · subst e1; simp [put, hqp]
  · by_cases e2 : b = p
    · subst e2; simp [put, e1]
    · by_cases e3 : b = o
      · subst e3; simp [put, e1, e2]
      · simp [put, e1, e2, e3]
def spCodeOf (n : Nat) : DSp := fun ds M Q _ => ∃ a1 a2 a3 a4 a5 a6 a7 body Y Ls, ds = [.tup [a1, a2, a3, a4, a5, a6, a7, .tup body]] ∧ Code n body Y Ls ∧ Q (.tup [.tup (Y ++ [.tup [.str "return", .int 0]]), .tup Ls]) M
theorem rd_code_of (n : Nat) (ds : List D) (M : Mm) (Q : QD) (E : DX) (h : spCodeOf n ds M Q E) : r_code_of K C (spInit C n) { nx := fun _ M' => less Q .non M', rt := less Q } (startD 2 ds) M := by
  obtain ⟨a1, a2, a3, a4, a5, a6, a7, body, Y, Ls, rfl, hc, k⟩ := h
  show r_code_of _ _ _ _ [some (.tup [a1, a2, a3, a4, a5, a6, a7, .tup body]), none] M
  unfold r_code_of
  walk_at "ys"
  intro o dx ho
  refine ⟨o, dx, body, Y, Ls, rfl, put_same, hc, fun p q hp hq hpq => ⟨rfl, ?_⟩⟩
  have hp' := put_none hp
  have hq' := put_none hq
  have hop : o ≠ p := hp'.1.symm
  have hoq : o ≠ q := hq'.1.symm
  walk_at "ys"
  refine less_fr0 (L := [o, p, q]) k (by walk_at "y_fr") (by simp [ho, hp'.2, hq'.2])
end
end K15


set_option Elab.async false
set_option linter.all false
set_option maxRecDepth 100000
set_option maxHeartbeats 4000000
set_option pp.deepTerms false
set_option pp.maxSteps 300
/-! the readings of law k15: the law -/
namespace K15
open PySem PySem.Spec PyProof.Rows L2 Y YD
local macro_rules | `(tactic| walk_at "y_ne") => `(tactic| first | assumption | exact Ne.symm (by assumption) | ((refine ne_none (M := ?yM) (m := ?ymo) ?ym1 ?ym2); (case ym2 => assumption); (case ym1 => walk_at "y_look")) | ((refine Ne.symm (ne_none (M := ?yM) (m := ?ymo) ?ym1 ?ym2)); (case ym2 => assumption); (case ym1 => walk_at "y_look")) | ((refine ne_none (M := ?yM) (m := ?ymo) ?ym1 (put_none (M := ?yM) (a := ?yma) (m := ?ymo2) ?ym2).2); (case ym2 => assumption); (case ym1 => walk_at "y_look")) | ((refine Ne.symm (ne_none (M := ?yM) (m := ?ymo) ?ym1 (put_none (M := ?yM) (a := ?yma) (m := ?ymo2) ?ym2).2)); (case ym2 => assumption); (case ym1 => walk_at "y_look")))
local macro_rules | `(tactic| walk_at "y_look") => `(tactic| first | assumption | exact put_same | ((with_reducible refine Eq.trans (put_ne ?yn) ?_); (case yn => walk_at "y_ne"); (walk_at "y_look")) | ((with_reducible refine Eq.trans (drop_ne ?yn) ?_); (case yn => walk_at "y_ne"); (walk_at "y_look")))
local macro_rules | `(tactic| walk_at "y_pl") => `(tactic| first | assumption | exact PlL.nil | exact Pl.int _ | exact Pl.non | exact Pl.bl _ | exact Pl.str (by decide +kernel) | ((with_reducible refine PlL.cons ?yp1 ?yp2); (case yp1 => walk_at "y_pl"); (case yp2 => walk_at "y_pl")) | ((with_reducible refine PlL.append ?yp1 ?yp2); (case yp1 => walk_at "y_pl"); (case yp2 => walk_at "y_pl")) | ((with_reducible refine Pl.tup ?yp1); (case yp1 => walk_at "y_pl")) | ((with_reducible refine PlL.mono (j := ?yj) ?yp1 ?yp2); (case yp1 => assumption); (case yp2 => first | decide | omega)) | ((with_reducible refine Pl.mono (j := ?yj) ?yp1 ?yp2); (case yp1 => assumption); (case yp2 => first | decide | omega)))
local macro_rules | `(tactic| walk_at "y_len") => `(tactic| ((try simp only [List.length_append, List.length_cons, List.length_nil, List.length_map, sizeLine_eq] at *); omega))
local macro_rules | `(tactic| walk_at "y_rfl") => `(tactic| first | rfl | (simp only [atI_nn]; rfl))
local macro_rules | `(tactic| walk_at "y_at") => `(tactic| first | exact atI_nn _ 0 | rfl)
local macro_rules | `(tactic| walk_at "y_cond") => `(tactic| first
  | (show (0 : Int) < _; first | decide | assumption | omega)
  | (exact ⟨by first | decide | assumption | omega, by first | decide | assumption | omega⟩)
  | (exact Or.inl ⟨by first | decide | assumption | omega, by first | decide | assumption | omega⟩)
  | (exact Or.inr ⟨by first | decide | assumption | omega, by first | decide | assumption | omega⟩)
  | (exact ⟨by decide, by decide, by decide⟩))
local macro_rules | `(tactic| walk_at "y1") => `(tactic| first
  | (with_reducible first | refine i_seq ?_ | refine i_next ?_ | refine i_asg ?_ | refine i_ret ?_ | refine i_retN ?_ | refine i_drop ?_ | refine i_cont ?_ | refine i_break ?_ | refine i_ifs ?_ | refine i_if ?_ | refine i_and ?_ | refine i_or ?_ | refine i_not ?_ | refine i_test ?_ | refine i_tru ?_ | refine i_andV ?_ | refine i_orV ?_ | refine i_notV ?_ | refine i_bl ?_ | refine i_op ?_ | refine i_chain ?_ | refine i_c ?_ | refine i_cd ?_ | refine i_nil ?_ | refine i_cons ?_ | refine i_call ?_ | refine i_cb ?_ | refine i_tup ?_ | refine i_lst ?_ | refine i_lstM ?_ | refine i_dict ?_ | refine i_frz ?_ | refine i_name ?_ | refine i_gcons ?_ | refine i_gnil ?_ | refine i_gsub ?_ | refine i_par ?_ | refine i_par2 ?_ | refine i_un ?_ | refine i_int ?_ | refine i_slice ?_ | refine i_onone ?_ | refine i_osome ?_ | refine i_bm ?_ | refine i_bm0 ?_ | refine i_get1 ?_ | refine i_get2 ?_ | refine i_del ?_ | refine i_for ?_ | refine i_lc ?_ | refine i_dc ?_ | refine i_yes ?_ | refine i_it ?_ | refine i_rng1 ?_ | refine i_fld ?_ | refine i_sfld ?_ | refine i_meth ?_ | refine i_make ?_ | refine v_I0 ?_ | refine v_plusI ?_ | refine v_eqI ?_ | refine v_eqS ?_ | refine v_isN ?_ | refine v_int ?_ | refine v_abs ?_ | refine v_sliceT ?_ | refine v_sliceL ?_ | refine b_fx ?_ | refine b_tx ?_)
  | ((with_reducible refine i_var (d := ?yd) ?ye0 ?_); (case ye0 => rfl))
  | ((with_reducible refine i_gtup ?ye0 ?_); (case ye0 => rfl))
  | (with_reducible refine iteT ?_)
  | (with_reducible refine iteF ?_)
  | (with_reducible refine b_dec ?_ ?_ <;> intro hc)
  | (with_reducible refine b_ndec ?_ ?_ <;> intro hc)
  | ((with_reducible refine v_subT (d := ?yd) ?ye0 ?_); (case ye0 => rfl))
  | ((with_reducible refine v_subL (d := ?yd) ?ye0 ?_); (case ye0 => rfl))
  | ((with_reducible refine v_subM (ds := ?yds) (d := ?yd) ?ye0 ?ye1 ?_); (case ye0 => (walk_at "y_look")); (case ye1 => rfl))
  | ((with_reducible refine v_setL (ds := ?yds) (j := ?yj) ?ye0 ?ye1 ?_); (case ye0 => (walk_at "y_look")); (case ye1 => rfl))
  | ((with_reducible refine v_I ?ye0 ?_); (case ye0 => (walk_at "y_cond")))
  | ((with_reducible refine i_sz ?ye0 ?_); (case ye0 => (first | exact Nat.le_of_ble_eq_true rfl | (simp only [List.length_append, List.length_cons, List.length_nil, List.length_map, sizeLine_eq] at *; omega))))
  | (with_reducible refine i_new fun yp yhp => ?_)
  | ((with_reducible refine v_app (ds := ?yds) ?ye0 ?ye1 ?_); (case ye0 => (walk_at "y_look")); (case ye1 => (first | (simp only [List.length_append, List.length_cons, List.length_nil, List.length_map, sizeLine_eq] at *; omega))))
  | ((with_reducible refine i_tyL (ds := ?yds) ?ye0 ?_); (case ye0 => (walk_at "y_look")))
  | (with_reducible refine i_tyl ?_)
  | ((with_reducible refine v_subK (kvs := ?ykv) (k := ?yk) (d := ?yd) ?ye0 ?ye1 ?ye2 ?_); (case ye0 => (walk_at "y_look")); (case ye1 => rfl); (case ye2 => first | assumption | rfl))
  | ((with_reducible refine v_plusL (ds := ?yds) (es := ?yes) ?ye0 ?ye1 ?ye2 ?_); (case ye0 => first | rfl | (with_reducible refine lsD_ref (ds := ?yds2) ?yl0; walk_at "y_look")); (case ye1 => first | rfl | (with_reducible refine lsD_ref (ds := ?yds2) ?yl0; walk_at "y_look")); (case ye2 => (simp only [List.length_append, List.length_cons, List.length_nil, List.length_map, sizeLine_eq] at *; omega)))
  | ((with_reducible refine v_plusT ?ye0 ?_); (case ye0 => (simp only [List.length_append, List.length_cons, List.length_nil, List.length_map, sizeLine_eq] at *; omega)))
  | ((with_reducible refine i_rng1d ?ye0 ?_); (case ye0 => (constructor <;> omega)))
  | ((with_reducible refine v_len (n := ?yn) ?ye0 ?_); (case ye0 => first | ((with_reducible refine lenD_ref (ds := ?yds) ?yl0); (case yl0 => walk_at "y_look")) | rfl))
  | ((with_reducible refine v_list (es := ?yes) ?ye0 ?_); (case ye0 => first | (with_reducible refine itD_ref (ds := ?yds) ?yl0; walk_at "y_look") | rfl))
  | ((with_reducible refine v_tuple (es := ?yes) ?ye0 ?_); (case ye0 => first | (with_reducible refine itD_ref (ds := ?yds) ?yl0; walk_at "y_look") | rfl))
  | ((with_reducible refine v_eqP ?ye0 ?ye1 fun yb => ?_); (case ye0 => walk_at "y_pl"); (case ye1 => walk_at "y_pl"))
  | (with_reducible refine b_emp ?_ ?_ <;> intro hc)
  | (with_reducible refine i_trul ?_)
  | (with_reducible refine i_trut ?_)
  | (with_reducible refine i_trub ?_)
  | ((with_reducible refine v_inT ?ye0 ?_); (case ye0 => exact ⟨rfl, rfl⟩))
  | (with_reducible refine b_var ?_ ?_ <;> intro hc)
  | ((with_reducible refine i_its (ds := ?yds) ?ye0 ?_); (case ye0 => rfl)))
local macro_rules | `(tactic| walk_at "y0") => `(tactic| repeat' (walk_at "y1"))
local macro_rules | `(tactic| walk_at "ys") => `(tactic| walk_at "y0")
local macro_rules | `(tactic| walk_at "y_nn") => `(tactic| first | assumption | exact (put_none (by assumption)).2 | exact (put_none (put_none (by assumption)).2).2 | exact (put_none (put_none (put_none (by assumption)).2).2).2)
local macro_rules | `(tactic| walk_at "y_kl1") => `(tactic| first | (with_reducible exact KL.merge) | ((with_reducible refine KL.put (n := ?ykn) ?ykk); (case ykk => walk_at "y_kl1")))
local macro_rules | `(tactic| walk_at "y_kl") => `(tactic| ((refine KL.lt (n := ?yn) ?yk1 ?yk2); (case yk1 => walk_at "y_kl1"); (case yk2 => first | decide | (simp; done))))
local macro_rules | `(tactic| walk_at "y_fr") => `(tactic| first | exact Fr.refl _ _ | assumption | ((refine Fr.put ?yf1 ?yf2); (case yf2 => simp); (case yf1 => walk_at "y_fr")) | ((refine Fr.drop ?yf1 ?yf2); (case yf2 => simp); (case yf1 => walk_at "y_fr")))
local macro_rules | `(tactic| walk_at "y_fin") => `(tactic| first | assumption | rfl | walk_at "y_look" | walk_at "y_pl" | walk_at "y_fr" | omega | walk_at "y_len" | (intros; omega))
local macro_rules | `(tactic| walk_at "y_take") => `(tactic| ((with_reducible refine i_take (t := ?yt) ?yl ?yo ?yb fun yr yt' yr0 yr1 yok => ?_); (case yl => walk_at "y_look"); (case yo => assumption); (case yb => (constructor <;> first | omega | (simp; omega)))))
local macro_rules | `(tactic| walk_at "y_pick") => `(tactic| first | ((with_reducible refine i_pick2 (k := 0) (t := ?yt) ?yl ?yo ?yb ?yP fun yd yt' yP ym yok => ?_); (case yl => walk_at "y_look"); (case yo => assumption); (case yb => (constructor <;> walk_at "y_len")); (case yP => walk_at "y_pl")) | ((with_reducible refine i_pick2 (k := 5) (t := ?yt) ?yl ?yo ?yb ?yP fun yd yt' yP ym yok => ?_); (case yl => walk_at "y_look"); (case yo => assumption); (case yb => (constructor <;> walk_at "y_len")); (case yP => walk_at "y_pl")))
local macro_rules | `(tactic| walk_at "y2") => `(tactic| first | walk_at "y1" | walk_at "y_take" | walk_at "y_pick" | (with_reducible refine i_disp fun yp yhp => ?_) | (with_reducible refine i_pcons ?_) | (with_reducible refine i_pnil ?_) | (with_reducible refine i_mut ?_) | ((with_reducible refine v_inT' ?ye0 ?ye1 fun yb => ?_); (case ye0 => walk_at "y_pl"); (case ye1 => walk_at "y_pl")) | ((with_reducible refine v_setK (kvs := ?ykv) (k := ?yk) ?ye0 ?ye1 ?ye2 ?_); (case ye0 => walk_at "y_look"); (case ye1 => rfl); (case ye2 => walk_at "y_kl")) | ((with_reducible refine i_mutd (ds := ?yds) ?ye0 ?_); (case ye0 => walk_at "y_look")) | ((with_reducible refine i_glst' ?ye0 ?_); (case ye0 => rfl)))
local macro_rules | `(tactic| walk_at "ys") => `(tactic| repeat' (walk_at "y2"))
def LB (d : D) : Prop := ∃ bd, d = .tup bd ∧ Bd 3 20000 bd
theorem Bd.code {bd : List D} (h : Bd 3 20000 bd) : ∃ Y Ls, Code 3 bd Y Ls := by
  obtain ⟨Y, Ls, h1, h2, h3⟩ := h 0 0
  exact ⟨Y, Ls, h1, by omega, by omega⟩
theorem v_eqR {ds : List D} {M : Mm} {Q : QD} (h : Pl 64 (.tup ds)) (q : Q (.bl false) M) : eqD true (.tup ds) (.tup ds) M Q := by
  show eqDeep true (.tup ds) (.tup ds) M Q
  have e : rsv (.tup ds) M = .tup ds := pl_rsv h
  refine ⟨by rw [e]; exact h.1, by rw [e]; exact h.1, by rw [e]; exact h.2, by rw [e]; exact h.2, ?_⟩
  rw [e, deq_refl _ h.1]
  exact q
theorem code_pl {bd Y Ls : List D} (h : Code 3 bd Y Ls) : Pl 64 (.tup [.tup (Y ++ [.tup [.str "return", .int 0]]), .tup Ls]) := by
  obtain ⟨h1, h2⟩ := h.1.pl
  have h0 : Pl 5 (.str "return") := Pl.str (by decide +kernel)
  have : PlL 6 (Y ++ [.tup [.str "return", .int 0]]) := h1.append (.cons (.tup (.cons h0 (.cons (.int _) .nil))) .nil)
  have h3 : Pl 7 (.tup Ls) := (Pl.tup h2).mono (by omega)
  exact (Pl.tup (.cons (.tup this) (.cons h3 .nil))).mono (by omega)
def spLaw : DSp := fun ds M Q _ => ∃ ns : List Int, ds = [.lst (ns.map D.int)] ∧ ∀ M', Q (.bl true) M'
inductive LwI (a : Addr) (s pr : D) : Nat → Y.Env → Mm → Prop
  | mk {i : Nat} {M' : Mm} {c3 c4 c5 c6 c7 c8 : Option D} : LwI a s pr i [some s, some (.ref a), some pr, c3, c4, c5, c6, c7, c8] M'
inductive LvI (a : Addr) (s pr p3 : D) : Nat → Y.Env → Mm → Prop
  | mk {i : Nat} {M' : Mm} {c4 c5 c6 c7 c8 : Option D} : LvI a s pr p3 i [some s, some (.ref a), some pr, some p3, c4, c5, c6, c7, c8] M'
theorem rd_law (ds : List D) (M : Mm) (Q : QD) (E : DX) (h : spLaw ds M Q E) : r_law spBegin spProg (spCode 3) (spCodeOf 3) { nx := fun _ M' => less Q .non M', rt := less Q } (startD 9 ds) M := by
  obtain ⟨ns, rfl, k⟩ := h
  show r_law _ _ _ _ _ [some (.lst (ns.map D.int)), none, none, none, none, none, none, none, none] M
  unfold r_law
  walk_at "ys"
  refine ⟨ns, rfl, fun a t ha ok => ?_⟩
  walk_at "ys"
  refine ⟨a, t, rfl, put_same, ok, fun x y procs t' hpr ok' => ?_⟩
  walk_at "ys"
  refine for_word (LwI a _ _) .mk ?_ ?_
  · rintro i d δ M' hd ⟨⟩
    obtain ⟨nm, ps, gs, us, rq, en, ls, body, rfl, e1, e2, e3, e4, e5, e6⟩ := hpr d (List.mem_of_getElem? hd)
    have hb : Bd 2 2500 body := e5.bd.mono (by have := Nat.mul_le_mul_right (Bw 2) e6; have e : 8 * Bw 2 = 2456 := rfl; omega)
    have hb3 : Bd 3 20000 body := hb.up.mono (by omega)
    obtain ⟨Y, Ls, hc⟩ := hb3.code
    walk_at "ys"
    refine ⟨nm, .tup ps, gs, .tup us, rq, en, ls, body, Y, Ls, rfl, hc, fun q hq => ?_⟩
    walk_at "ys"
    refine ⟨nm, .tup ps, gs, .tup us, rq, en, ls, body, Y, Ls, rfl, hc, ?_⟩
    walk_at "ys"
    refine v_eqR (code_pl hc) ?_
    walk_at "ys"
    have hP : ∀ d ∈ ([.tup (cut body (some 1) none), .tup (body ++ body), .tup [.tup [.str "if", .str "==", .int 0, .int 0, .tup body, .tup body]], .tup [.tup [.str "while", .str "<", .str "a", .int 3, .non, .tup body]]] : List D), LB d := by
      have hcut : Rws 2 (Bw 2) (cut body (some 1) none) := fun r hr => e5 r (cut_mem hr)
      have hcl := cut_len body (some 1) none
      have g : ∀ m, m ≤ 16 → m * Bw 2 ≤ 5000 := fun m hm => by have := Nat.mul_le_mul_right (Bw 2) hm; have e : 16 * Bw 2 = 4912 := rfl; omega
      intro d hd
      simp only [List.mem_cons, List.not_mem_nil, or_false] at hd
      rcases hd with rfl | rfl | rfl | rfl
      · exact ⟨_, rfl, (hcut.bd.up).mono (Nat.le_trans (g _ (by omega)) (by omega))⟩
      · exact ⟨_, rfl, ((e5.app e5).bd.up).mono (Nat.le_trans (g _ (by simp; omega)) (by omega))⟩
      · exact ⟨_, rfl, (Bd.ite (.cons (Pl.str (by decide +kernel)) (.cons (.int _) (.cons (.int _) .nil))) hb hb).mono (by omega)⟩
      · exact ⟨_, rfl, (Bd.wh (.cons (Pl.str (by decide +kernel)) (.cons (Pl.str (by decide +kernel)) (.cons (.int _) .nil))) .non hb).mono (by omega)⟩
    refine for_word (LvI a _ _ _) .mk ?_ ?_
    · rintro j d δ M2 hd2 ⟨⟩
      obtain ⟨bd, rfl, hbd⟩ := hP d (List.mem_of_getElem? hd2)
      obtain ⟨Y2, Ls2, hc2⟩ := hbd.code
      walk_at "ys"
      rw [show cut [nm, D.tup ps, gs, D.tup us, rq, en, ls, D.tup body] none (some 7) = [nm, .tup ps, gs, .tup us, rq, en, ls] from rfl]
      walk_at "ys"
      refine ⟨nm, .tup ps, gs, .tup us, rq, en, ls, bd, Y2, Ls2, rfl, hc2, fun q hq => ?_⟩
      walk_at "ys"
      refine ⟨nm, .tup ps, gs, .tup us, rq, en, ls, bd, Y2, Ls2, rfl, hc2, ?_⟩
      walk_at "ys"
      refine v_eqR (code_pl hc2) ?_
      walk_at "ys"
      refine ⟨_, _, _, true, rfl, rfl, rfl, ?_⟩
      walk_at "ys"
      all_goals first | exact LvI.mk | exact absurd (by assumption) (by decide)
    · rintro δ M2 ⟨⟩
      exact .mk
  · rintro δ M' ⟨⟩
    walk_at "ys"
    exact less_of (k _) rfl
end K15


set_option Elab.async false
set_option linter.all false
set_option maxRecDepth 100000
set_option maxHeartbeats 4000000
/-! the join of law k15, printed by join15.py -/
namespace K15
open PySem PySem.Spec PyProof.Rows L2 Y YD
theorem fn_false {P : Program} {w : World} {K : PySem.W.Frag} {mg : Str → Option Value} {base : Heap} {CX : CXT} {k : Nat} {f : Addr} {fd : FuncData} {ps : List Str} : FnOk P w K mg base CX k f fd ps (spOf K fun _ _ _ _ => False) :=
  ⟨fun _ _ _ _ ⟨_, _, _, _, _, _, _, h, _⟩ => h.elim, fun _ _ _ _ _ _ _ _ _ _ _ _ _ ⟨_, _, _, _, _, _, _, h, _⟩ => h.elim⟩
section
variable {P : Program} {w : World} {K : PySem.W.Frag} {mg : Str → Option Value} {base : Heap}
theorem ok_all (T : Txt K mg) {f_Code___init__ : Addr} {C : Addr} (hC : Cls K C) (n1 : NoAttr K C "rows") (n2 : NoAttr K C "loops") (mk : Mk K C f_Code___init__) (gC : mg "Code" = some (.ref C))
    {f__law_begin : Addr} {fd__law_begin : FuncData}
    (F__law_begin : Fun K "_law_begin" "_law_begin" st__law_begin f__law_begin fd__law_begin)
    (b__law_begin : L2.Binds K fd__law_begin ["script"] [])
    (g__law_begin : mg "_law_begin" = some (.ref f__law_begin)) (q__law_begin : PySem.W.keepIn K (.ref f__law_begin) = true)
    {f__law_take : Addr} {fd__law_take : FuncData}
    (F__law_take : Fun K "_law_take" "_law_take" st__law_take f__law_take fd__law_take)
    (b__law_take : L2.Binds K fd__law_take ["d", "many"] [])
    (g__law_take : mg "_law_take" = some (.ref f__law_take)) (q__law_take : PySem.W.keepIn K (.ref f__law_take) = true)
    {f__law_pick : Addr} {fd__law_pick : FuncData}
    (F__law_pick : Fun K "_law_pick" "_law_pick" st__law_pick f__law_pick fd__law_pick)
    (b__law_pick : L2.Binds K fd__law_pick ["d", "menu"] [])
    (g__law_pick : mg "_law_pick" = some (.ref f__law_pick)) (q__law_pick : PySem.W.keepIn K (.ref f__law_pick) = true)
    {f__law_shape_over : Addr} {fd__law_shape_over : FuncData}
    (F__law_shape_over : Fun K "_law_shape_over" "_law_shape_over" st__law_shape_over f__law_shape_over fd__law_shape_over)
    (b__law_shape_over : L2.Binds K fd__law_shape_over ["d", "names", "most"] [])
    (g__law_shape_over : mg "_law_shape_over" = some (.ref f__law_shape_over)) (q__law_shape_over : PySem.W.keepIn K (.ref f__law_shape_over) = true)
    {f__law_with_unknown : Addr} {fd__law_with_unknown : FuncData}
    (F__law_with_unknown : Fun K "_law_with_unknown" "_law_with_unknown" st__law_with_unknown f__law_with_unknown fd__law_with_unknown)
    (b__law_with_unknown : L2.Binds K fd__law_with_unknown ["d", "names", "shape"] [])
    (g__law_with_unknown : mg "_law_with_unknown" = some (.ref f__law_with_unknown)) (q__law_with_unknown : PySem.W.keepIn K (.ref f__law_with_unknown) = true)
    {f__law_any : Addr} {fd__law_any : FuncData}
    (F__law_any : Fun K "_law_any" "_law_any" st__law_any f__law_any fd__law_any)
    (b__law_any : L2.Binds K fd__law_any ["d", "names", "most"] [])
    (g__law_any : mg "_law_any" = some (.ref f__law_any)) (q__law_any : PySem.W.keepIn K (.ref f__law_any) = true)
    {f__law_called : Addr} {fd__law_called : FuncData}
    (F__law_called : Fun K "_law_called" "_law_called" st__law_called f__law_called fd__law_called)
    (b__law_called : L2.Binds K fd__law_called ["d", "own"] [])
    (g__law_called : mg "_law_called" = some (.ref f__law_called)) (q__law_called : PySem.W.keepIn K (.ref f__law_called) = true)
    {f__law_plain : Addr} {fd__law_plain : FuncData}
    (F__law_plain : Fun K "_law_plain" "_law_plain" st__law_plain f__law_plain fd__law_plain)
    (b__law_plain : L2.Binds K fd__law_plain ["d", "own"] [])
    (g__law_plain : mg "_law_plain" = some (.ref f__law_plain)) (q__law_plain : PySem.W.keepIn K (.ref f__law_plain) = true)
    {f__law_body : Addr} {fd__law_body : FuncData}
    (F__law_body : Fun K "_law_body" "_law_body" st__law_body f__law_body fd__law_body)
    (b__law_body : L2.Binds K fd__law_body ["d", "own", "depth", "many"] [])
    (g__law_body : mg "_law_body" = some (.ref f__law_body)) (q__law_body : PySem.W.keepIn K (.ref f__law_body) = true)
    {f__law_proc : Addr} {fd__law_proc : FuncData}
    (F__law_proc : Fun K "_law_proc" "_law_proc" st__law_proc f__law_proc fd__law_proc)
    (b__law_proc : L2.Binds K fd__law_proc ["d", "name", "names", "locks", "calls", "size"] [])
    (g__law_proc : mg "_law_proc" = some (.ref f__law_proc)) (q__law_proc : PySem.W.keepIn K (.ref f__law_proc) = true)
    {f__law_program : Addr} {fd__law_program : FuncData}
    (F__law_program : Fun K "_law_program" "_law_program" st__law_program f__law_program fd__law_program)
    (b__law_program : L2.Binds K fd__law_program ["d", "size"] [])
    (g__law_program : mg "_law_program" = some (.ref f__law_program)) (q__law_program : PySem.W.keepIn K (.ref f__law_program) = true)
    {f__law_flat : Addr} {fd__law_flat : FuncData}
    (F__law_flat : Fun K "_law_flat" "_law_flat" st__law_flat f__law_flat fd__law_flat)
    (b__law_flat : L2.Binds K fd__law_flat ["body", "rows", "loops"] [])
    (g__law_flat : mg "_law_flat" = some (.ref f__law_flat)) (q__law_flat : PySem.W.keepIn K (.ref f__law_flat) = true)
    {f__law_code : Addr} {fd__law_code : FuncData}
    (F__law_code : Fun K "_law_code" "_law_code" st__law_code f__law_code fd__law_code)
    (b__law_code : L2.Binds K fd__law_code ["proc"] [])
    (g__law_code : mg "_law_code" = some (.ref f__law_code)) (q__law_code : PySem.W.keepIn K (.ref f__law_code) = true)
    {f_Code__block : Addr} {fd_Code__block : FuncData}
    (F_Code__block : Fun K "_block" "Code._block" st_Code__block f_Code__block fd_Code__block)
    (b_Code__block : L2.Binds K fd_Code__block ["self", "body"] [])
    (m_Code__block : Meth K C "_block" f_Code__block)
    {f_Code__test : Addr} {fd_Code__test : FuncData}
    (F_Code__test : Fun K "_test" "Code._test" st_Code__test f_Code__test fd_Code__test)
    (b_Code__test : L2.Binds K fd_Code__test ["self", "row"] [])
    (m_Code__test : Meth K C "_test" f_Code__test)
    {f_Code__goals : Addr} {fd_Code__goals : FuncData}
    (F_Code__goals : Fun K "_goals" "Code._goals" st_Code__goals f_Code__goals fd_Code__goals)
    (b_Code__goals : L2.Binds K fd_Code__goals ["self", "at", "yes", "no"] [])
    (m_Code__goals : Meth K C "_goals" f_Code__goals)
    {f_Code__if : Addr} {fd_Code__if : FuncData}
    (F_Code__if : Fun K "_if" "Code._if" st_Code__if f_Code__if fd_Code__if)
    (b_Code__if : L2.Binds K fd_Code__if ["self", "row"] [])
    (m_Code__if : Meth K C "_if" f_Code__if)
    {f_Code__while : Addr} {fd_Code__while : FuncData}
    (F_Code__while : Fun K "_while" "Code._while" st_Code__while f_Code__while fd_Code__while)
    (b_Code__while : L2.Binds K fd_Code__while ["self", "row"] [])
    (m_Code__while : Meth K C "_while" f_Code__while)
    {fd_Code___init__ : FuncData}
    (F_Code___init__ : Fun K "__init__" "Code.__init__" st_Code___init__ f_Code___init__ fd_Code___init__)
    (b_Code___init__ : L2.Binds K fd_Code___init__ ["self", "body"] [])
    (m_Code___init__ : Meth K C "__init__" f_Code___init__)
    {f_code_of : Addr} {fd_code_of : FuncData}
    (F_code_of : Fun K "code_of" "code_of" st_code_of f_code_of fd_code_of)
    (b_code_of : L2.Binds K fd_code_of ["proc"] [])
    (g_code_of : mg "code_of" = some (.ref f_code_of)) (q_code_of : PySem.W.keepIn K (.ref f_code_of) = true)
    {f_law : Addr} {fd_law : FuncData}
    (F_law : Fun K "law" "law" st_law f_law fd_law)
    (b_law : L2.Binds K fd_law ["script"] [])
    (g_law : mg "law" = some (.ref f_law)) (q_law : PySem.W.keepIn K (.ref f_law) = true)
    : FnOk P w K mg base CX0 11 f_law fd_law ["script"] (spOf K spLaw) := by
  have o_begin : FnOk P w K mg base CX0 1 f__law_begin fd__law_begin ["script"] (spOf K spBegin) := okD (k := 0) F__law_begin sc__law_begin (fun ds M Q E h => by obtain ⟨_, rfl, _⟩ := h; rfl) fun cdv A outer s0 H E hr => ⟨_, t__law_begin T hr , fun ds M Q E h => rd_begin ds M Q E h⟩
  have c_begin : Cal P w K mg base CX0 1 "_law_begin" ["script"] spBegin := ⟨⟨f__law_begin, fd__law_begin, g__law_begin, q__law_begin, b__law_begin, o_begin⟩⟩
  have o_take : FnOk P w K mg base CX0 1 f__law_take fd__law_take ["d", "many"] (spOf K spTake) := okD (k := 0) F__law_take sc__law_take (fun ds M Q E h => by obtain ⟨_, _, _, rfl, _⟩ := h; rfl) fun cdv A outer s0 H E hr => ⟨_, t__law_take T hr , fun ds M Q E h => rd_take ds M Q E h⟩
  have c_take : Cal P w K mg base CX0 1 "_law_take" ["d", "many"] spTake := ⟨⟨f__law_take, fd__law_take, g__law_take, q__law_take, b__law_take, o_take⟩⟩
  have o_pick : FnOk P w K mg base CX0 2 f__law_pick fd__law_pick ["d", "menu"] (spOf K spPick) := okD (k := 1) F__law_pick sc__law_pick (fun ds M Q E h => by obtain ⟨_, _, _, rfl, _⟩ := h; rfl) fun cdv A outer s0 H E hr => ⟨_, t__law_pick T hr c_take (by decide), fun ds M Q E h => rd_pick ds M Q E h⟩
  have c_pick : Cal P w K mg base CX0 2 "_law_pick" ["d", "menu"] spPick := ⟨⟨f__law_pick, fd__law_pick, g__law_pick, q__law_pick, b__law_pick, o_pick⟩⟩
  have o_shape : FnOk P w K mg base CX0 3 f__law_shape_over fd__law_shape_over ["d", "names", "most"] (spOf K spShape) := okD (k := 2) F__law_shape_over sc__law_shape_over (fun ds M Q E h => by obtain ⟨_, _, _, _, rfl, _⟩ := h; rfl) fun cdv A outer s0 H E hr => ⟨_, t__law_shape_over T hr c_take (by decide) c_pick (by decide), fun ds M Q E h => rd_shape ds M Q E h⟩
  have c_shape : Cal P w K mg base CX0 3 "_law_shape_over" ["d", "names", "most"] spShape := ⟨⟨f__law_shape_over, fd__law_shape_over, g__law_shape_over, q__law_shape_over, b__law_shape_over, o_shape⟩⟩
  have o_unk : FnOk P w K mg base CX0 3 f__law_with_unknown fd__law_with_unknown ["d", "names", "shape"] (spOf K spUnk) := okD (k := 2) F__law_with_unknown sc__law_with_unknown (fun ds M Q E h => by obtain ⟨_, _, _, _, rfl, _⟩ := h; rfl) fun cdv A outer s0 H E hr => ⟨_, t__law_with_unknown T hr c_take (by decide) c_pick (by decide), fun ds M Q E h => rd_unk ds M Q E h⟩
  have c_unk : Cal P w K mg base CX0 3 "_law_with_unknown" ["d", "names", "shape"] spUnk := ⟨⟨f__law_with_unknown, fd__law_with_unknown, g__law_with_unknown, q__law_with_unknown, b__law_with_unknown, o_unk⟩⟩
  have o_any : FnOk P w K mg base CX0 4 f__law_any fd__law_any ["d", "names", "most"] (spOf K spAny) := okD (k := 3) F__law_any sc__law_any (fun ds M Q E h => by obtain ⟨_, _, _, _, rfl, _⟩ := h; rfl) fun cdv A outer s0 H E hr => ⟨_, t__law_any T hr c_take (by decide) c_shape (by decide) c_unk (by decide), fun ds M Q E h => rd_any ds M Q E h⟩
  have c_any : Cal P w K mg base CX0 4 "_law_any" ["d", "names", "most"] spAny := ⟨⟨f__law_any, fd__law_any, g__law_any, q__law_any, b__law_any, o_any⟩⟩
  have o_called : FnOk P w K mg base CX0 3 f__law_called fd__law_called ["d", "own"] (spOf K spCalled) := okD (k := 2) F__law_called sc__law_called (fun ds M Q E h => by obtain ⟨_, _, _, _, _, _, _, _, _, rfl, _⟩ := h; rfl) fun cdv A outer s0 H E hr => ⟨_, t__law_called T hr c_pick (by decide), fun ds M Q E h => rd_called ds M Q E h⟩
  have c_called : Cal P w K mg base CX0 3 "_law_called" ["d", "own"] spCalled := ⟨⟨f__law_called, fd__law_called, g__law_called, q__law_called, b__law_called, o_called⟩⟩
  have o_plain : FnOk P w K mg base CX0 3 f__law_plain fd__law_plain ["d", "own"] (spOf K spPlain) := okD (k := 2) F__law_plain sc__law_plain (fun ds M Q E h => by obtain ⟨_, _, _, _, _, _, _, _, _, rfl, _⟩ := h; rfl) fun cdv A outer s0 H E hr => ⟨_, t__law_plain T hr c_pick (by decide) c_take (by decide), fun ds M Q E h => rd_plain ds M Q E h⟩
  have c_plain : Cal P w K mg base CX0 3 "_law_plain" ["d", "own"] spPlain := ⟨⟨f__law_plain, fd__law_plain, g__law_plain, q__law_plain, b__law_plain, o_plain⟩⟩
  have o_body0 : FnOk P w K mg base CX0 5 f__law_body fd__law_body ["d", "own", "depth", "many"] (spOf K (spBody 0)) := okD (k := 4) F__law_body sc__law_body (fun ds M Q E h => by obtain ⟨_, _, _, _, _, _, _, _, _, _, _, rfl, _⟩ := h; rfl) fun cdv A outer s0 H E hr => ⟨_, t__law_body T hr c_take (by decide) c_pick (by decide) ((⟨⟨f__law_body, fd__law_body, g__law_body, q__law_body, b__law_body, fn_false⟩⟩ : Cal P w K mg base CX0 0 "_law_body" ["d", "own", "depth", "many"] _)) (Nat.zero_le _) c_any (by decide) c_called (by decide) c_plain (by decide), fun ds M Q E h => rd_body 0 _ (fun _ _ _ _ h _ => absurd rfl h) ds M Q E h⟩
  have c_body0 : Cal P w K mg base CX0 5 "_law_body" ["d", "own", "depth", "many"] (spBody 0) := ⟨⟨f__law_body, fd__law_body, g__law_body, q__law_body, b__law_body, o_body0⟩⟩
  have o_body1 : FnOk P w K mg base CX0 6 f__law_body fd__law_body ["d", "own", "depth", "many"] (spOf K (spBody 1)) := okD (k := 5) F__law_body sc__law_body (fun ds M Q E h => by obtain ⟨_, _, _, _, _, _, _, _, _, _, _, rfl, _⟩ := h; rfl) fun cdv A outer s0 H E hr => ⟨_, t__law_body T hr c_take (by decide) c_pick (by decide) c_body0 (by decide) c_any (by decide) c_called (by decide) c_plain (by decide), fun ds M Q E h => rd_body 1 _ (fun _ _ _ _ _ h => h) ds M Q E h⟩
  have c_body1 : Cal P w K mg base CX0 6 "_law_body" ["d", "own", "depth", "many"] (spBody 1) := ⟨⟨f__law_body, fd__law_body, g__law_body, q__law_body, b__law_body, o_body1⟩⟩
  have o_body2 : FnOk P w K mg base CX0 7 f__law_body fd__law_body ["d", "own", "depth", "many"] (spOf K (spBody 2)) := okD (k := 6) F__law_body sc__law_body (fun ds M Q E h => by obtain ⟨_, _, _, _, _, _, _, _, _, _, _, rfl, _⟩ := h; rfl) fun cdv A outer s0 H E hr => ⟨_, t__law_body T hr c_take (by decide) c_pick (by decide) c_body1 (by decide) c_any (by decide) c_called (by decide) c_plain (by decide), fun ds M Q E h => rd_body 2 _ (fun _ _ _ _ _ h => h) ds M Q E h⟩
  have c_body2 : Cal P w K mg base CX0 7 "_law_body" ["d", "own", "depth", "many"] (spBody 2) := ⟨⟨f__law_body, fd__law_body, g__law_body, q__law_body, b__law_body, o_body2⟩⟩
  have o_proc : FnOk P w K mg base CX0 8 f__law_proc fd__law_proc ["d", "name", "names", "locks", "calls", "size"] (spOf K spProc) := okD (k := 7) F__law_proc sc__law_proc (fun ds M Q E h => by obtain ⟨_, _, _, _, _, _, _, rfl, _⟩ := h; rfl) fun cdv A outer s0 H E hr => ⟨_, t__law_proc T hr c_take (by decide) c_shape (by decide) c_unk (by decide) c_any (by decide) c_body2 (by decide) c_pick (by decide), fun ds M Q E h => rd_proc ds M Q E h⟩
  have c_proc : Cal P w K mg base CX0 8 "_law_proc" ["d", "name", "names", "locks", "calls", "size"] spProc := ⟨⟨f__law_proc, fd__law_proc, g__law_proc, q__law_proc, b__law_proc, o_proc⟩⟩
  have o_program : FnOk P w K mg base CX0 9 f__law_program fd__law_program ["d", "size"] (spOf K spProg) := okD (k := 8) F__law_program sc__law_program (fun ds M Q E h => by obtain ⟨_, _, rfl, _⟩ := h; rfl) fun cdv A outer s0 H E hr => ⟨_, t__law_program T hr c_take (by decide) c_proc (by decide) c_any (by decide), fun ds M Q E h => rd_program ds M Q E h⟩
  have c_program : Cal P w K mg base CX0 9 "_law_program" ["d", "size"] spProg := ⟨⟨f__law_program, fd__law_program, g__law_program, q__law_program, b__law_program, o_program⟩⟩
  have o_flat0 : FnOk P w K mg base CX0 1 f__law_flat fd__law_flat ["body", "rows", "loops"] (spOf K (spFlat 0)) := okD (k := 0) F__law_flat sc__law_flat (fun ds M Q E h => by obtain ⟨_, _, _, _, _, _, _, rfl, _⟩ := h; rfl) fun cdv A outer s0 H E hr => ⟨_, t__law_flat T hr ((⟨⟨f__law_flat, fd__law_flat, g__law_flat, q__law_flat, b__law_flat, fn_false⟩⟩ : Cal P w K mg base CX0 0 "_law_flat" ["body", "rows", "loops"] _)) (Nat.zero_le _), fun ds M Q E h => rd_flat 0 _ (fun _ _ _ _ h _ => absurd rfl h) ds M Q E h⟩
  have c_flat0 : Cal P w K mg base CX0 1 "_law_flat" ["body", "rows", "loops"] (spFlat 0) := ⟨⟨f__law_flat, fd__law_flat, g__law_flat, q__law_flat, b__law_flat, o_flat0⟩⟩
  have o_flat1 : FnOk P w K mg base CX0 2 f__law_flat fd__law_flat ["body", "rows", "loops"] (spOf K (spFlat 1)) := okD (k := 1) F__law_flat sc__law_flat (fun ds M Q E h => by obtain ⟨_, _, _, _, _, _, _, rfl, _⟩ := h; rfl) fun cdv A outer s0 H E hr => ⟨_, t__law_flat T hr c_flat0 (by decide), fun ds M Q E h => rd_flat 1 _ (fun _ _ _ _ _ h => h) ds M Q E h⟩
  have c_flat1 : Cal P w K mg base CX0 2 "_law_flat" ["body", "rows", "loops"] (spFlat 1) := ⟨⟨f__law_flat, fd__law_flat, g__law_flat, q__law_flat, b__law_flat, o_flat1⟩⟩
  have o_flat2 : FnOk P w K mg base CX0 3 f__law_flat fd__law_flat ["body", "rows", "loops"] (spOf K (spFlat 2)) := okD (k := 2) F__law_flat sc__law_flat (fun ds M Q E h => by obtain ⟨_, _, _, _, _, _, _, rfl, _⟩ := h; rfl) fun cdv A outer s0 H E hr => ⟨_, t__law_flat T hr c_flat1 (by decide), fun ds M Q E h => rd_flat 2 _ (fun _ _ _ _ _ h => h) ds M Q E h⟩
  have c_flat2 : Cal P w K mg base CX0 3 "_law_flat" ["body", "rows", "loops"] (spFlat 2) := ⟨⟨f__law_flat, fd__law_flat, g__law_flat, q__law_flat, b__law_flat, o_flat2⟩⟩
  have o_flat3 : FnOk P w K mg base CX0 4 f__law_flat fd__law_flat ["body", "rows", "loops"] (spOf K (spFlat 3)) := okD (k := 3) F__law_flat sc__law_flat (fun ds M Q E h => by obtain ⟨_, _, _, _, _, _, _, rfl, _⟩ := h; rfl) fun cdv A outer s0 H E hr => ⟨_, t__law_flat T hr c_flat2 (by decide), fun ds M Q E h => rd_flat 3 _ (fun _ _ _ _ _ h => h) ds M Q E h⟩
  have c_flat3 : Cal P w K mg base CX0 4 "_law_flat" ["body", "rows", "loops"] (spFlat 3) := ⟨⟨f__law_flat, fd__law_flat, g__law_flat, q__law_flat, b__law_flat, o_flat3⟩⟩
  have o_code : FnOk P w K mg base CX0 5 f__law_code fd__law_code ["proc"] (spOf K (spCode 3)) := okD (k := 4) F__law_code sc__law_code (fun ds M Q E h => by obtain ⟨_, _, _, _, _, _, _, _, _, _, rfl, _⟩ := h; rfl) fun cdv A outer s0 H E hr => ⟨_, t__law_code T hr c_flat3 (by decide), fun ds M Q E h => rd_code 3 ds M Q E h⟩
  have c_code : Cal P w K mg base CX0 5 "_law_code" ["proc"] (spCode 3) := ⟨⟨f__law_code, fd__law_code, g__law_code, q__law_code, b__law_code, o_code⟩⟩
  have o_test : FnOk P w K mg base CX0 1 f_Code__test fd_Code__test ["self", "row"] (spOf K (spTest C)) := okD (k := 0) F_Code__test sc_Code__test (fun ds M Q E h => by obtain ⟨_, _, _, _, _, _, _, _, _, _, rfl, _⟩ := h; rfl) fun cdv A outer s0 H E hr => ⟨_, t_Code__test T hr , fun ds M Q E h => rd_test hC n1 n2  ds M Q E h⟩
  have c_test : Mcal P w K mg base CX0 1 C "_test" ["self", "row"] (spTest C) := ⟨⟨f_Code__test, fd_Code__test, m_Code__test, b_Code__test, o_test⟩⟩
  have o_goals : FnOk P w K mg base CX0 1 f_Code__goals fd_Code__goals ["self", "at", "yes", "no"] (spOf K (spGoals C)) := okD (k := 0) F_Code__goals sc_Code__goals (fun ds M Q E h => by obtain ⟨_, _, _, _, _, _, _, _, _, _, _, _, rfl, _⟩ := h; rfl) fun cdv A outer s0 H E hr => ⟨_, t_Code__goals T hr , fun ds M Q E h => rd_goals hC n1 n2  ds M Q E h⟩
  have c_goals : Mcal P w K mg base CX0 1 C "_goals" ["self", "at", "yes", "no"] (spGoals C) := ⟨⟨f_Code__goals, fd_Code__goals, m_Code__goals, b_Code__goals, o_goals⟩⟩
  have o_block0 : FnOk P w K mg base CX0 1 f_Code__block fd_Code__block ["self", "body"] (spOf K (spBlock C 0)) := okD (k := 0) F_Code__block sc_Code__block (fun ds M Q E h => by obtain ⟨_, _, _, _, _, _, _, _, _, rfl, _⟩ := h; rfl) fun cdv A outer s0 H E hr => ⟨_, t_Code__block T hr hC ((⟨⟨f_Code__if, fd_Code__if, m_Code__if, b_Code__if, fn_false⟩⟩ : Mcal P w K mg base CX0 0 C "_if" ["self", "row"] _)) (Nat.zero_le _) ((⟨⟨f_Code__while, fd_Code__while, m_Code__while, b_Code__while, fn_false⟩⟩ : Mcal P w K mg base CX0 0 C "_while" ["self", "row"] _)) (Nat.zero_le _), fun ds M Q E h => rd_block hC n1 n2 0 _ _ (fun _ _ _ _ h _ => absurd rfl h) (fun _ _ _ _ h _ => absurd rfl h) ds M Q E h⟩
  have c_block0 : Mcal P w K mg base CX0 1 C "_block" ["self", "body"] (spBlock C 0) := ⟨⟨f_Code__block, fd_Code__block, m_Code__block, b_Code__block, o_block0⟩⟩
  have o_if0 : FnOk P w K mg base CX0 2 f_Code__if fd_Code__if ["self", "row"] (spOf K (spIf C 0)) := okD (k := 1) F_Code__if sc_Code__if (fun ds M Q E h => by obtain ⟨_, _, _, _, _, _, _, _, _, _, _, _, _, _, _, rfl, _⟩ := h; rfl) fun cdv A outer s0 H E hr => ⟨_, t_Code__if T hr hC c_test (by decide) c_block0 (by decide) c_goals (by decide), fun ds M Q E h => rd_if hC n1 n2 0 ds M Q E h⟩
  have c_if0 : Mcal P w K mg base CX0 2 C "_if" ["self", "row"] (spIf C 0) := ⟨⟨f_Code__if, fd_Code__if, m_Code__if, b_Code__if, o_if0⟩⟩
  have o_while0 : FnOk P w K mg base CX0 2 f_Code__while fd_Code__while ["self", "row"] (spOf K (spWhile C 0)) := okD (k := 1) F_Code__while sc_Code__while (fun ds M Q E h => by obtain ⟨_, _, _, _, _, _, _, _, _, _, _, _, _, rfl, _⟩ := h; rfl) fun cdv A outer s0 H E hr => ⟨_, t_Code__while T hr hC c_test (by decide) c_block0 (by decide) c_goals (by decide), fun ds M Q E h => rd_while hC n1 n2 0 ds M Q E h⟩
  have c_while0 : Mcal P w K mg base CX0 2 C "_while" ["self", "row"] (spWhile C 0) := ⟨⟨f_Code__while, fd_Code__while, m_Code__while, b_Code__while, o_while0⟩⟩
  have o_block1 : FnOk P w K mg base CX0 3 f_Code__block fd_Code__block ["self", "body"] (spOf K (spBlock C 1)) := okD (k := 2) F_Code__block sc_Code__block (fun ds M Q E h => by obtain ⟨_, _, _, _, _, _, _, _, _, rfl, _⟩ := h; rfl) fun cdv A outer s0 H E hr => ⟨_, t_Code__block T hr hC c_if0 (by decide) c_while0 (by decide), fun ds M Q E h => rd_block hC n1 n2 1 _ _ (fun _ _ _ _ _ h => h) (fun _ _ _ _ _ h => h) ds M Q E h⟩
  have c_block1 : Mcal P w K mg base CX0 3 C "_block" ["self", "body"] (spBlock C 1) := ⟨⟨f_Code__block, fd_Code__block, m_Code__block, b_Code__block, o_block1⟩⟩
  have o_if1 : FnOk P w K mg base CX0 4 f_Code__if fd_Code__if ["self", "row"] (spOf K (spIf C 1)) := okD (k := 3) F_Code__if sc_Code__if (fun ds M Q E h => by obtain ⟨_, _, _, _, _, _, _, _, _, _, _, _, _, _, _, rfl, _⟩ := h; rfl) fun cdv A outer s0 H E hr => ⟨_, t_Code__if T hr hC c_test (by decide) c_block1 (by decide) c_goals (by decide), fun ds M Q E h => rd_if hC n1 n2 1 ds M Q E h⟩
  have c_if1 : Mcal P w K mg base CX0 4 C "_if" ["self", "row"] (spIf C 1) := ⟨⟨f_Code__if, fd_Code__if, m_Code__if, b_Code__if, o_if1⟩⟩
  have o_while1 : FnOk P w K mg base CX0 4 f_Code__while fd_Code__while ["self", "row"] (spOf K (spWhile C 1)) := okD (k := 3) F_Code__while sc_Code__while (fun ds M Q E h => by obtain ⟨_, _, _, _, _, _, _, _, _, _, _, _, _, rfl, _⟩ := h; rfl) fun cdv A outer s0 H E hr => ⟨_, t_Code__while T hr hC c_test (by decide) c_block1 (by decide) c_goals (by decide), fun ds M Q E h => rd_while hC n1 n2 1 ds M Q E h⟩
  have c_while1 : Mcal P w K mg base CX0 4 C "_while" ["self", "row"] (spWhile C 1) := ⟨⟨f_Code__while, fd_Code__while, m_Code__while, b_Code__while, o_while1⟩⟩
  have o_block2 : FnOk P w K mg base CX0 5 f_Code__block fd_Code__block ["self", "body"] (spOf K (spBlock C 2)) := okD (k := 4) F_Code__block sc_Code__block (fun ds M Q E h => by obtain ⟨_, _, _, _, _, _, _, _, _, rfl, _⟩ := h; rfl) fun cdv A outer s0 H E hr => ⟨_, t_Code__block T hr hC c_if1 (by decide) c_while1 (by decide), fun ds M Q E h => rd_block hC n1 n2 2 _ _ (fun _ _ _ _ _ h => h) (fun _ _ _ _ _ h => h) ds M Q E h⟩
  have c_block2 : Mcal P w K mg base CX0 5 C "_block" ["self", "body"] (spBlock C 2) := ⟨⟨f_Code__block, fd_Code__block, m_Code__block, b_Code__block, o_block2⟩⟩
  have o_if2 : FnOk P w K mg base CX0 6 f_Code__if fd_Code__if ["self", "row"] (spOf K (spIf C 2)) := okD (k := 5) F_Code__if sc_Code__if (fun ds M Q E h => by obtain ⟨_, _, _, _, _, _, _, _, _, _, _, _, _, _, _, rfl, _⟩ := h; rfl) fun cdv A outer s0 H E hr => ⟨_, t_Code__if T hr hC c_test (by decide) c_block2 (by decide) c_goals (by decide), fun ds M Q E h => rd_if hC n1 n2 2 ds M Q E h⟩
  have c_if2 : Mcal P w K mg base CX0 6 C "_if" ["self", "row"] (spIf C 2) := ⟨⟨f_Code__if, fd_Code__if, m_Code__if, b_Code__if, o_if2⟩⟩
  have o_while2 : FnOk P w K mg base CX0 6 f_Code__while fd_Code__while ["self", "row"] (spOf K (spWhile C 2)) := okD (k := 5) F_Code__while sc_Code__while (fun ds M Q E h => by obtain ⟨_, _, _, _, _, _, _, _, _, _, _, _, _, rfl, _⟩ := h; rfl) fun cdv A outer s0 H E hr => ⟨_, t_Code__while T hr hC c_test (by decide) c_block2 (by decide) c_goals (by decide), fun ds M Q E h => rd_while hC n1 n2 2 ds M Q E h⟩
  have c_while2 : Mcal P w K mg base CX0 6 C "_while" ["self", "row"] (spWhile C 2) := ⟨⟨f_Code__while, fd_Code__while, m_Code__while, b_Code__while, o_while2⟩⟩
  have o_block3 : FnOk P w K mg base CX0 7 f_Code__block fd_Code__block ["self", "body"] (spOf K (spBlock C 3)) := okD (k := 6) F_Code__block sc_Code__block (fun ds M Q E h => by obtain ⟨_, _, _, _, _, _, _, _, _, rfl, _⟩ := h; rfl) fun cdv A outer s0 H E hr => ⟨_, t_Code__block T hr hC c_if2 (by decide) c_while2 (by decide), fun ds M Q E h => rd_block hC n1 n2 3 _ _ (fun _ _ _ _ _ h => h) (fun _ _ _ _ _ h => h) ds M Q E h⟩
  have c_block3 : Mcal P w K mg base CX0 7 C "_block" ["self", "body"] (spBlock C 3) := ⟨⟨f_Code__block, fd_Code__block, m_Code__block, b_Code__block, o_block3⟩⟩
  have o_init : FnOk P w K mg base CX0 8 f_Code___init__ fd_Code___init__ ["self", "body"] (spOf K (spInit C 3)) := okD (k := 7) F_Code___init__ sc_Code___init__ (fun ds M Q E h => by obtain ⟨_, _, _, _, _, rfl, _⟩ := h; rfl) fun cdv A outer s0 H E hr => ⟨_, t_Code___init__ T hr hC c_block3 (by decide), fun ds M Q E h => rd_init hC n1 n2 3 ds M Q E h⟩
  have c_init : Kcal P w K mg base CX0 8 "Code" C ["self", "body"] (spInit C 3) := ⟨⟨f_Code___init__, fd_Code___init__, mk, gC, b_Code___init__, o_init⟩⟩
  have o_code_of : FnOk P w K mg base CX0 10 f_code_of fd_code_of ["proc"] (spOf K (spCodeOf 3)) := okD (k := 9) F_code_of sc_code_of (fun ds M Q E h => by obtain ⟨_, _, _, _, _, _, _, _, _, _, rfl, _⟩ := h; rfl) fun cdv A outer s0 H E hr => ⟨_, t_code_of T hr c_init (by decide), fun ds M Q E h => rd_code_of hC n1 n2 3 ds M Q E h⟩
  have c_code_of : Cal P w K mg base CX0 10 "code_of" ["proc"] (spCodeOf 3) := ⟨⟨f_code_of, fd_code_of, g_code_of, q_code_of, b_code_of, o_code_of⟩⟩
  have o_law : FnOk P w K mg base CX0 11 f_law fd_law ["script"] (spOf K spLaw) := okD (k := 10) F_law sc_law (fun ds M Q E h => by obtain ⟨_, rfl, _⟩ := h; rfl) fun cdv A outer s0 H E hr => ⟨_, t_law T hr c_begin (by decide) c_program (by decide) c_code (by decide) c_code_of (by decide), fun ds M Q E h => rd_law ds M Q E h⟩
  exact o_law
end
theorem all_mk {l : PySem.W.OpenLaw} {w : World} {K : PySem.W.Frag} {h : Heap} {mg : Str → Option Value} {fa C : Addr} (X : K.In h) (G : h.Ns mainGlobals mg) (hfa : mg "law" = some (.ref fa))
    {f__law_begin f__law_take f__law_pick f__law_shape_over f__law_with_unknown f__law_any f__law_called f__law_plain f__law_body f__law_proc f__law_program f__law_flat f__law_code f_Code__block f_Code__test f_Code__goals f_Code__if f_Code__while f_Code___init__ f_code_of f_law : Addr} {od__law_begin an__law_begin od__law_take an__law_take od__law_pick an__law_pick od__law_shape_over an__law_shape_over od__law_with_unknown an__law_with_unknown od__law_any an__law_any od__law_called an__law_called od__law_plain an__law_plain od__law_body an__law_body od__law_proc an__law_proc od__law_program an__law_program od__law_flat an__law_flat od__law_code an__law_code od_Code__block an_Code__block od_Code__test an_Code__test od_Code__goals an_Code__goals od_Code__if an_Code__if od_Code__while an_Code__while od_Code___init__ an_Code___init__ od_code_of an_code_of od_law an_law : Option Addr} {sl__law_begin sl__law_take sl__law_pick sl__law_shape_over sl__law_with_unknown sl__law_any sl__law_called sl__law_plain sl__law_body sl__law_proc sl__law_program sl__law_flat sl__law_code sl_Code__block sl_Code__test sl_Code__goals sl_Code__if sl_Code__while sl_Code___init__ sl_code_of sl_law : Array (Option Value)} {oc__law_begin kV__law_begin dc__law_begin pm__law_begin cd__law_begin ct__law_begin oc__law_take kV__law_take dc__law_take pm__law_take cd__law_take ct__law_take oc__law_pick kV__law_pick dc__law_pick pm__law_pick cd__law_pick ct__law_pick oc__law_shape_over kV__law_shape_over dc__law_shape_over pm__law_shape_over cd__law_shape_over ct__law_shape_over oc__law_with_unknown kV__law_with_unknown dc__law_with_unknown pm__law_with_unknown cd__law_with_unknown ct__law_with_unknown oc__law_any kV__law_any dc__law_any pm__law_any cd__law_any ct__law_any oc__law_called kV__law_called dc__law_called pm__law_called cd__law_called ct__law_called oc__law_plain kV__law_plain dc__law_plain pm__law_plain cd__law_plain ct__law_plain oc__law_body kV__law_body dc__law_body pm__law_body cd__law_body ct__law_body oc__law_proc kV__law_proc dc__law_proc pm__law_proc cd__law_proc ct__law_proc oc__law_program kV__law_program dc__law_program pm__law_program cd__law_program ct__law_program oc__law_flat kV__law_flat dc__law_flat pm__law_flat cd__law_flat ct__law_flat oc__law_code kV__law_code dc__law_code pm__law_code cd__law_code ct__law_code oc_Code__block kV_Code__block dc_Code__block pm_Code__block cd_Code__block ct_Code__block oc_Code__test kV_Code__test dc_Code__test pm_Code__test cd_Code__test ct_Code__test oc_Code__goals kV_Code__goals dc_Code__goals pm_Code__goals cd_Code__goals ct_Code__goals oc_Code__if kV_Code__if dc_Code__if pm_Code__if cd_Code__if ct_Code__if oc_Code__while kV_Code__while dc_Code__while pm_Code__while cd_Code__while ct_Code__while oc_Code___init__ kV_Code___init__ dc_Code___init__ pm_Code___init__ cd_Code___init__ ct_Code___init__ oc_code_of kV_code_of dc_code_of pm_code_of cd_code_of ct_code_of oc_law kV_law dc_law pm_law cd_law ct_law : Value}
    (aC : PySem.W.nsIn K mainGlobals "Code" = some (some (.ref C)))
    (a__law_begin : PySem.W.nsIn K mainGlobals "_law_begin" = some (some (.ref f__law_begin)))
    (l__law_begin : K.lookup f__law_begin = some ⟨oc__law_begin, od__law_begin, .func (PySem.W.fnOf "_law_begin" "_law_begin" (defArgs st__law_begin) (defBody st__law_begin) (defScope st__law_begin) .none kV__law_begin dc__law_begin pm__law_begin an__law_begin cd__law_begin ct__law_begin), sl__law_begin⟩)
    (c__law_begin : PySem.W.codeIn K cd__law_begin "_law_begin" = true) (k__law_begin : PySem.W.keepIn K (.ref f__law_begin) = true)
    (a__law_take : PySem.W.nsIn K mainGlobals "_law_take" = some (some (.ref f__law_take)))
    (l__law_take : K.lookup f__law_take = some ⟨oc__law_take, od__law_take, .func (PySem.W.fnOf "_law_take" "_law_take" (defArgs st__law_take) (defBody st__law_take) (defScope st__law_take) .none kV__law_take dc__law_take pm__law_take an__law_take cd__law_take ct__law_take), sl__law_take⟩)
    (c__law_take : PySem.W.codeIn K cd__law_take "_law_take" = true) (k__law_take : PySem.W.keepIn K (.ref f__law_take) = true)
    (a__law_pick : PySem.W.nsIn K mainGlobals "_law_pick" = some (some (.ref f__law_pick)))
    (l__law_pick : K.lookup f__law_pick = some ⟨oc__law_pick, od__law_pick, .func (PySem.W.fnOf "_law_pick" "_law_pick" (defArgs st__law_pick) (defBody st__law_pick) (defScope st__law_pick) .none kV__law_pick dc__law_pick pm__law_pick an__law_pick cd__law_pick ct__law_pick), sl__law_pick⟩)
    (c__law_pick : PySem.W.codeIn K cd__law_pick "_law_pick" = true) (k__law_pick : PySem.W.keepIn K (.ref f__law_pick) = true)
    (a__law_shape_over : PySem.W.nsIn K mainGlobals "_law_shape_over" = some (some (.ref f__law_shape_over)))
    (l__law_shape_over : K.lookup f__law_shape_over = some ⟨oc__law_shape_over, od__law_shape_over, .func (PySem.W.fnOf "_law_shape_over" "_law_shape_over" (defArgs st__law_shape_over) (defBody st__law_shape_over) (defScope st__law_shape_over) .none kV__law_shape_over dc__law_shape_over pm__law_shape_over an__law_shape_over cd__law_shape_over ct__law_shape_over), sl__law_shape_over⟩)
    (c__law_shape_over : PySem.W.codeIn K cd__law_shape_over "_law_shape_over" = true) (k__law_shape_over : PySem.W.keepIn K (.ref f__law_shape_over) = true)
    (a__law_with_unknown : PySem.W.nsIn K mainGlobals "_law_with_unknown" = some (some (.ref f__law_with_unknown)))
    (l__law_with_unknown : K.lookup f__law_with_unknown = some ⟨oc__law_with_unknown, od__law_with_unknown, .func (PySem.W.fnOf "_law_with_unknown" "_law_with_unknown" (defArgs st__law_with_unknown) (defBody st__law_with_unknown) (defScope st__law_with_unknown) .none kV__law_with_unknown dc__law_with_unknown pm__law_with_unknown an__law_with_unknown cd__law_with_unknown ct__law_with_unknown), sl__law_with_unknown⟩)
    (c__law_with_unknown : PySem.W.codeIn K cd__law_with_unknown "_law_with_unknown" = true) (k__law_with_unknown : PySem.W.keepIn K (.ref f__law_with_unknown) = true)
    (a__law_any : PySem.W.nsIn K mainGlobals "_law_any" = some (some (.ref f__law_any)))
    (l__law_any : K.lookup f__law_any = some ⟨oc__law_any, od__law_any, .func (PySem.W.fnOf "_law_any" "_law_any" (defArgs st__law_any) (defBody st__law_any) (defScope st__law_any) .none kV__law_any dc__law_any pm__law_any an__law_any cd__law_any ct__law_any), sl__law_any⟩)
    (c__law_any : PySem.W.codeIn K cd__law_any "_law_any" = true) (k__law_any : PySem.W.keepIn K (.ref f__law_any) = true)
    (a__law_called : PySem.W.nsIn K mainGlobals "_law_called" = some (some (.ref f__law_called)))
    (l__law_called : K.lookup f__law_called = some ⟨oc__law_called, od__law_called, .func (PySem.W.fnOf "_law_called" "_law_called" (defArgs st__law_called) (defBody st__law_called) (defScope st__law_called) .none kV__law_called dc__law_called pm__law_called an__law_called cd__law_called ct__law_called), sl__law_called⟩)
    (c__law_called : PySem.W.codeIn K cd__law_called "_law_called" = true) (k__law_called : PySem.W.keepIn K (.ref f__law_called) = true)
    (a__law_plain : PySem.W.nsIn K mainGlobals "_law_plain" = some (some (.ref f__law_plain)))
    (l__law_plain : K.lookup f__law_plain = some ⟨oc__law_plain, od__law_plain, .func (PySem.W.fnOf "_law_plain" "_law_plain" (defArgs st__law_plain) (defBody st__law_plain) (defScope st__law_plain) .none kV__law_plain dc__law_plain pm__law_plain an__law_plain cd__law_plain ct__law_plain), sl__law_plain⟩)
    (c__law_plain : PySem.W.codeIn K cd__law_plain "_law_plain" = true) (k__law_plain : PySem.W.keepIn K (.ref f__law_plain) = true)
    (a__law_body : PySem.W.nsIn K mainGlobals "_law_body" = some (some (.ref f__law_body)))
    (l__law_body : K.lookup f__law_body = some ⟨oc__law_body, od__law_body, .func (PySem.W.fnOf "_law_body" "_law_body" (defArgs st__law_body) (defBody st__law_body) (defScope st__law_body) .none kV__law_body dc__law_body pm__law_body an__law_body cd__law_body ct__law_body), sl__law_body⟩)
    (c__law_body : PySem.W.codeIn K cd__law_body "_law_body" = true) (k__law_body : PySem.W.keepIn K (.ref f__law_body) = true)
    (a__law_proc : PySem.W.nsIn K mainGlobals "_law_proc" = some (some (.ref f__law_proc)))
    (l__law_proc : K.lookup f__law_proc = some ⟨oc__law_proc, od__law_proc, .func (PySem.W.fnOf "_law_proc" "_law_proc" (defArgs st__law_proc) (defBody st__law_proc) (defScope st__law_proc) .none kV__law_proc dc__law_proc pm__law_proc an__law_proc cd__law_proc ct__law_proc), sl__law_proc⟩)
    (c__law_proc : PySem.W.codeIn K cd__law_proc "_law_proc" = true) (k__law_proc : PySem.W.keepIn K (.ref f__law_proc) = true)
    (a__law_program : PySem.W.nsIn K mainGlobals "_law_program" = some (some (.ref f__law_program)))
    (l__law_program : K.lookup f__law_program = some ⟨oc__law_program, od__law_program, .func (PySem.W.fnOf "_law_program" "_law_program" (defArgs st__law_program) (defBody st__law_program) (defScope st__law_program) .none kV__law_program dc__law_program pm__law_program an__law_program cd__law_program ct__law_program), sl__law_program⟩)
    (c__law_program : PySem.W.codeIn K cd__law_program "_law_program" = true) (k__law_program : PySem.W.keepIn K (.ref f__law_program) = true)
    (a__law_flat : PySem.W.nsIn K mainGlobals "_law_flat" = some (some (.ref f__law_flat)))
    (l__law_flat : K.lookup f__law_flat = some ⟨oc__law_flat, od__law_flat, .func (PySem.W.fnOf "_law_flat" "_law_flat" (defArgs st__law_flat) (defBody st__law_flat) (defScope st__law_flat) .none kV__law_flat dc__law_flat pm__law_flat an__law_flat cd__law_flat ct__law_flat), sl__law_flat⟩)
    (c__law_flat : PySem.W.codeIn K cd__law_flat "_law_flat" = true) (k__law_flat : PySem.W.keepIn K (.ref f__law_flat) = true)
    (a__law_code : PySem.W.nsIn K mainGlobals "_law_code" = some (some (.ref f__law_code)))
    (l__law_code : K.lookup f__law_code = some ⟨oc__law_code, od__law_code, .func (PySem.W.fnOf "_law_code" "_law_code" (defArgs st__law_code) (defBody st__law_code) (defScope st__law_code) .none kV__law_code dc__law_code pm__law_code an__law_code cd__law_code ct__law_code), sl__law_code⟩)
    (c__law_code : PySem.W.codeIn K cd__law_code "_law_code" = true) (k__law_code : PySem.W.keepIn K (.ref f__law_code) = true)
    (a_Code__block : PySem.W.findIn K (.ref C) "_block" = some (some (.ref f_Code__block))) (i_Code__block : PySem.W.isFn K (.ref f_Code__block) = true)
    (l_Code__block : K.lookup f_Code__block = some ⟨oc_Code__block, od_Code__block, .func (PySem.W.fnOf "_block" "Code._block" (defArgs st_Code__block) (defBody st_Code__block) (defScope st_Code__block) .none kV_Code__block dc_Code__block pm_Code__block an_Code__block cd_Code__block ct_Code__block), sl_Code__block⟩)
    (c_Code__block : PySem.W.codeIn K cd_Code__block "Code._block" = true) (k_Code__block : PySem.W.keepIn K (.ref f_Code__block) = true)
    (a_Code__test : PySem.W.findIn K (.ref C) "_test" = some (some (.ref f_Code__test))) (i_Code__test : PySem.W.isFn K (.ref f_Code__test) = true)
    (l_Code__test : K.lookup f_Code__test = some ⟨oc_Code__test, od_Code__test, .func (PySem.W.fnOf "_test" "Code._test" (defArgs st_Code__test) (defBody st_Code__test) (defScope st_Code__test) .none kV_Code__test dc_Code__test pm_Code__test an_Code__test cd_Code__test ct_Code__test), sl_Code__test⟩)
    (c_Code__test : PySem.W.codeIn K cd_Code__test "Code._test" = true) (k_Code__test : PySem.W.keepIn K (.ref f_Code__test) = true)
    (a_Code__goals : PySem.W.findIn K (.ref C) "_goals" = some (some (.ref f_Code__goals))) (i_Code__goals : PySem.W.isFn K (.ref f_Code__goals) = true)
    (l_Code__goals : K.lookup f_Code__goals = some ⟨oc_Code__goals, od_Code__goals, .func (PySem.W.fnOf "_goals" "Code._goals" (defArgs st_Code__goals) (defBody st_Code__goals) (defScope st_Code__goals) .none kV_Code__goals dc_Code__goals pm_Code__goals an_Code__goals cd_Code__goals ct_Code__goals), sl_Code__goals⟩)
    (c_Code__goals : PySem.W.codeIn K cd_Code__goals "Code._goals" = true) (k_Code__goals : PySem.W.keepIn K (.ref f_Code__goals) = true)
    (a_Code__if : PySem.W.findIn K (.ref C) "_if" = some (some (.ref f_Code__if))) (i_Code__if : PySem.W.isFn K (.ref f_Code__if) = true)
    (l_Code__if : K.lookup f_Code__if = some ⟨oc_Code__if, od_Code__if, .func (PySem.W.fnOf "_if" "Code._if" (defArgs st_Code__if) (defBody st_Code__if) (defScope st_Code__if) .none kV_Code__if dc_Code__if pm_Code__if an_Code__if cd_Code__if ct_Code__if), sl_Code__if⟩)
    (c_Code__if : PySem.W.codeIn K cd_Code__if "Code._if" = true) (k_Code__if : PySem.W.keepIn K (.ref f_Code__if) = true)
    (a_Code__while : PySem.W.findIn K (.ref C) "_while" = some (some (.ref f_Code__while))) (i_Code__while : PySem.W.isFn K (.ref f_Code__while) = true)
    (l_Code__while : K.lookup f_Code__while = some ⟨oc_Code__while, od_Code__while, .func (PySem.W.fnOf "_while" "Code._while" (defArgs st_Code__while) (defBody st_Code__while) (defScope st_Code__while) .none kV_Code__while dc_Code__while pm_Code__while an_Code__while cd_Code__while ct_Code__while), sl_Code__while⟩)
    (c_Code__while : PySem.W.codeIn K cd_Code__while "Code._while" = true) (k_Code__while : PySem.W.keepIn K (.ref f_Code__while) = true)
    (a_Code___init__ : PySem.W.findIn K (.ref C) "__init__" = some (some (.ref f_Code___init__))) (i_Code___init__ : PySem.W.isFn K (.ref f_Code___init__) = true)
    (l_Code___init__ : K.lookup f_Code___init__ = some ⟨oc_Code___init__, od_Code___init__, .func (PySem.W.fnOf "__init__" "Code.__init__" (defArgs st_Code___init__) (defBody st_Code___init__) (defScope st_Code___init__) .none kV_Code___init__ dc_Code___init__ pm_Code___init__ an_Code___init__ cd_Code___init__ ct_Code___init__), sl_Code___init__⟩)
    (c_Code___init__ : PySem.W.codeIn K cd_Code___init__ "Code.__init__" = true) (k_Code___init__ : PySem.W.keepIn K (.ref f_Code___init__) = true)
    (a_code_of : PySem.W.nsIn K mainGlobals "code_of" = some (some (.ref f_code_of)))
    (l_code_of : K.lookup f_code_of = some ⟨oc_code_of, od_code_of, .func (PySem.W.fnOf "code_of" "code_of" (defArgs st_code_of) (defBody st_code_of) (defScope st_code_of) .none kV_code_of dc_code_of pm_code_of an_code_of cd_code_of ct_code_of), sl_code_of⟩)
    (c_code_of : PySem.W.codeIn K cd_code_of "code_of" = true) (k_code_of : PySem.W.keepIn K (.ref f_code_of) = true)
    (a_law : PySem.W.nsIn K mainGlobals "law" = some (some (.ref f_law)))
    (l_law : K.lookup f_law = some ⟨oc_law, od_law, .func (PySem.W.fnOf "law" "law" (defArgs st_law) (defBody st_law) (defScope st_law) .none kV_law dc_law pm_law an_law cd_law ct_law), sl_law⟩)
    (c_law : PySem.W.codeIn K cd_law "law" = true) (k_law : PySem.W.keepIn K (.ref f_law) = true)
    (pg : PySem.W.plainGet K C Str.empty = true) (hd : PySem.W.hasDictIn K C = true) (po : PySem.W.plainOver K C = true) (sa : PySem.W.findIn K (.ref C) "__setattr__" = some (some (.builtin "object.__setattr__"))) (mk : PySem.W.makesIn K C = true) (kc : PySem.W.keepIn K (.ref C) = true) (nR : PySem.W.findIn K (.ref C) "rows" = some none) (nL : PySem.W.findIn K (.ref C) "loops" = some none)
    (z_abs : PySem.W.nsIn K mainGlobals "abs" = some none)
    (z_all : PySem.W.nsIn K mainGlobals "all" = some none)
    (z_int : PySem.W.nsIn K mainGlobals "int" = some none)
    (z_isinstance : PySem.W.nsIn K mainGlobals "isinstance" = some none)
    (z_len : PySem.W.nsIn K mainGlobals "len" = some none)
    (z_list : PySem.W.nsIn K mainGlobals "list" = some none)
    (z_range : PySem.W.nsIn K mainGlobals "range" = some none)
    (z_str : PySem.W.nsIn K mainGlobals "str" = some none)
    (z_tuple : PySem.W.nsIn K mainGlobals "tuple" = some none)
    : ∃ fd : FuncData, (∀ (s : Shared) (v : Value), BindsTo s fd ⟨[v], []⟩ [("script", v)]) ∧ ∀ base : Heap, K.In base → base.Ns mainGlobals mg → FnOk l.prog w K mg base CX0 11 fa fd ["script"] (spOf K spLaw) := by
  have e := hfa.symm.trans (PySem.W.mg_of X G a_law)
  cases e
  have T : Txt K mg := ⟨PySem.W.mg_none_of X G z_abs, PySem.W.mg_none_of X G z_all, PySem.W.mg_none_of X G z_int, PySem.W.mg_none_of X G z_isinstance, PySem.W.mg_none_of X G z_len, PySem.W.mg_none_of X G z_list, PySem.W.mg_none_of X G z_range, PySem.W.mg_none_of X G z_str, PySem.W.mg_none_of X G z_tuple⟩
  have F__law_begin := fun_mk (st := st__law_begin) l__law_begin c__law_begin k__law_begin
  have b__law_begin := F__law_begin.binds (ps := ["script"]) fun _ _ _ _ _ _ us hl => match us, hl with | [_], _ => rfl
  have F__law_take := fun_mk (st := st__law_take) l__law_take c__law_take k__law_take
  have b__law_take := F__law_take.binds (ps := ["d", "many"]) fun _ _ _ _ _ _ us hl => match us, hl with | [_, _], _ => rfl
  have F__law_pick := fun_mk (st := st__law_pick) l__law_pick c__law_pick k__law_pick
  have b__law_pick := F__law_pick.binds (ps := ["d", "menu"]) fun _ _ _ _ _ _ us hl => match us, hl with | [_, _], _ => rfl
  have F__law_shape_over := fun_mk (st := st__law_shape_over) l__law_shape_over c__law_shape_over k__law_shape_over
  have b__law_shape_over := F__law_shape_over.binds (ps := ["d", "names", "most"]) fun _ _ _ _ _ _ us hl => match us, hl with | [_, _, _], _ => rfl
  have F__law_with_unknown := fun_mk (st := st__law_with_unknown) l__law_with_unknown c__law_with_unknown k__law_with_unknown
  have b__law_with_unknown := F__law_with_unknown.binds (ps := ["d", "names", "shape"]) fun _ _ _ _ _ _ us hl => match us, hl with | [_, _, _], _ => rfl
  have F__law_any := fun_mk (st := st__law_any) l__law_any c__law_any k__law_any
  have b__law_any := F__law_any.binds (ps := ["d", "names", "most"]) fun _ _ _ _ _ _ us hl => match us, hl with | [_, _, _], _ => rfl
  have F__law_called := fun_mk (st := st__law_called) l__law_called c__law_called k__law_called
  have b__law_called := F__law_called.binds (ps := ["d", "own"]) fun _ _ _ _ _ _ us hl => match us, hl with | [_, _], _ => rfl
  have F__law_plain := fun_mk (st := st__law_plain) l__law_plain c__law_plain k__law_plain
  have b__law_plain := F__law_plain.binds (ps := ["d", "own"]) fun _ _ _ _ _ _ us hl => match us, hl with | [_, _], _ => rfl
  have F__law_body := fun_mk (st := st__law_body) l__law_body c__law_body k__law_body
  have b__law_body := F__law_body.binds (ps := ["d", "own", "depth", "many"]) fun _ _ _ _ _ _ us hl => match us, hl with | [_, _, _, _], _ => rfl
  have F__law_proc := fun_mk (st := st__law_proc) l__law_proc c__law_proc k__law_proc
  have b__law_proc := F__law_proc.binds (ps := ["d", "name", "names", "locks", "calls", "size"]) fun _ _ _ _ _ _ us hl => match us, hl with | [_, _, _, _, _, _], _ => rfl
  have F__law_program := fun_mk (st := st__law_program) l__law_program c__law_program k__law_program
  have b__law_program := F__law_program.binds (ps := ["d", "size"]) fun _ _ _ _ _ _ us hl => match us, hl with | [_, _], _ => rfl
  have F__law_flat := fun_mk (st := st__law_flat) l__law_flat c__law_flat k__law_flat
  have b__law_flat := F__law_flat.binds (ps := ["body", "rows", "loops"]) fun _ _ _ _ _ _ us hl => match us, hl with | [_, _, _], _ => rfl
  have F__law_code := fun_mk (st := st__law_code) l__law_code c__law_code k__law_code
  have b__law_code := F__law_code.binds (ps := ["proc"]) fun _ _ _ _ _ _ us hl => match us, hl with | [_], _ => rfl
  have F_Code__block := fun_mk (st := st_Code__block) l_Code__block c_Code__block k_Code__block
  have b_Code__block := F_Code__block.binds (ps := ["self", "body"]) fun _ _ _ _ _ _ us hl => match us, hl with | [_, _], _ => rfl
  have F_Code__test := fun_mk (st := st_Code__test) l_Code__test c_Code__test k_Code__test
  have b_Code__test := F_Code__test.binds (ps := ["self", "row"]) fun _ _ _ _ _ _ us hl => match us, hl with | [_, _], _ => rfl
  have F_Code__goals := fun_mk (st := st_Code__goals) l_Code__goals c_Code__goals k_Code__goals
  have b_Code__goals := F_Code__goals.binds (ps := ["self", "at", "yes", "no"]) fun _ _ _ _ _ _ us hl => match us, hl with | [_, _, _, _], _ => rfl
  have F_Code__if := fun_mk (st := st_Code__if) l_Code__if c_Code__if k_Code__if
  have b_Code__if := F_Code__if.binds (ps := ["self", "row"]) fun _ _ _ _ _ _ us hl => match us, hl with | [_, _], _ => rfl
  have F_Code__while := fun_mk (st := st_Code__while) l_Code__while c_Code__while k_Code__while
  have b_Code__while := F_Code__while.binds (ps := ["self", "row"]) fun _ _ _ _ _ _ us hl => match us, hl with | [_, _], _ => rfl
  have F_Code___init__ := fun_mk (st := st_Code___init__) l_Code___init__ c_Code___init__ k_Code___init__
  have b_Code___init__ := F_Code___init__.binds (ps := ["self", "body"]) fun _ _ _ _ _ _ us hl => match us, hl with | [_, _], _ => rfl
  have F_code_of := fun_mk (st := st_code_of) l_code_of c_code_of k_code_of
  have b_code_of := F_code_of.binds (ps := ["proc"]) fun _ _ _ _ _ _ us hl => match us, hl with | [_], _ => rfl
  have F_law := fun_mk (st := st_law) l_law c_law k_law
  have b_law := F_law.binds (ps := ["script"]) fun _ _ _ _ _ _ us hl => match us, hl with | [_], _ => rfl
  exact ⟨PySem.W.fnOf "law" "law" (defArgs st_law) (defBody st_law) (defScope st_law) .none kV_law dc_law pm_law an_law cd_law ct_law, fun s v => .of_eq rfl, fun base _ _ => ok_all T ⟨pg, hd, po, sa⟩ nR nL ⟨mk, a_Code___init__, i_Code___init__, kc⟩ (PySem.W.mg_of X G aC) F__law_begin b__law_begin (PySem.W.mg_of X G a__law_begin) k__law_begin F__law_take b__law_take (PySem.W.mg_of X G a__law_take) k__law_take F__law_pick b__law_pick (PySem.W.mg_of X G a__law_pick) k__law_pick F__law_shape_over b__law_shape_over (PySem.W.mg_of X G a__law_shape_over) k__law_shape_over F__law_with_unknown b__law_with_unknown (PySem.W.mg_of X G a__law_with_unknown) k__law_with_unknown F__law_any b__law_any (PySem.W.mg_of X G a__law_any) k__law_any F__law_called b__law_called (PySem.W.mg_of X G a__law_called) k__law_called F__law_plain b__law_plain (PySem.W.mg_of X G a__law_plain) k__law_plain F__law_body b__law_body (PySem.W.mg_of X G a__law_body) k__law_body F__law_proc b__law_proc (PySem.W.mg_of X G a__law_proc) k__law_proc F__law_program b__law_program (PySem.W.mg_of X G a__law_program) k__law_program F__law_flat b__law_flat (PySem.W.mg_of X G a__law_flat) k__law_flat F__law_code b__law_code (PySem.W.mg_of X G a__law_code) k__law_code F_Code__block b_Code__block ⟨a_Code__block, i_Code__block, k_Code__block⟩ F_Code__test b_Code__test ⟨a_Code__test, i_Code__test, k_Code__test⟩ F_Code__goals b_Code__goals ⟨a_Code__goals, i_Code__goals, k_Code__goals⟩ F_Code__if b_Code__if ⟨a_Code__if, i_Code__if, k_Code__if⟩ F_Code__while b_Code__while ⟨a_Code__while, i_Code__while, k_Code__while⟩ F_Code___init__ b_Code___init__ ⟨a_Code___init__, i_Code___init__, k_Code___init__⟩ F_code_of b_code_of (PySem.W.mg_of X G a_code_of) k_code_of F_law b_law (PySem.W.mg_of X G a_law) k_law⟩
theorem lst_rep {K : PySem.W.Frag} {F : Hp} : ∀ ns : List Int, RepL K F (ns.map V.int) (ns.map D.int)
  | [] => .nil
  | n :: ns => .cons (.v _) (lst_rep ns)
theorem room11 : Room 11 callerA := ⟨rfl, by decide, by decide⟩
theorem hsp {K : PySem.W.Frag} (H : Hp) (a : Addr) (ns : List Int) (hS : SqL K H a (ns.map V.int)) : spOf K spLaw [.ref a] H (fun v _ => v = .bl true) fun _ _ _ => False := by
  refine ⟨H, fun _ => none, [.lst (ns.map D.int)], fun d _ => d = .bl true, noX, ⟨Le.refl H, ?_⟩, .cons (.lst hS (lst_rep ns)) .nil, ⟨ns, rfl, fun _ => rfl⟩, ?_, ?_⟩
  · intro a m h; cases h
  · rintro v H' ⟨_, _, _, _, _, r, e⟩
    subst e
    cases r
    rfl
  · rintro _ _ _ ⟨_, _, _, _, _, _, e⟩
    exact e
theorem walk {l : PySem.W.OpenLaw} {q : Program} {loose : List Str} {XP : (Str → Option Value) → Heap → Prop} {YP : World → Heap → Prop} {d : DefRec} {K : Params → PySem.W.Frag} (hn : l.most = some 63) (hdf : d.params.defaults = [])
    (hY : ∀ (w : World) (h : Heap), YP w h → (K w.params).In h)
    (F : ∀ (w : World) (mg : Str → Option Value) (fa : Addr) (h : Heap), (K w.params).In h → h.Ns mainGlobals mg → mg d.name = some (.ref fa) →
      ∃ fd : FuncData, (∀ (s : Shared) (u : Value), BindsTo s fd ⟨[u], []⟩ [("script", u)]) ∧ ∀ base : Heap, (K w.params).In base → base.Ns mainGlobals mg → FnOk l.prog w (K w.params) mg base CX0 11 fa fd ["script"] (spOf (K w.params) spLaw)) :
    PySem.W.WalkO q loose XP YP l.row.toRowW d [] (fun f vs => PySem.call f vs) :=
  L2.walk_of (n := 63) (k := 11) (x := "script") (CX := fun _ => CX0) (sp := fun w => spOf (K w.params) spLaw) hn (by decide) hdf room11 hY F
    (fun w H a ns hl _ hS => hsp H a ns hS) fun _ _ _ _ _ z => z
end K15


set_option Elab.async false
set_option maxRecDepth 100000
open PySem PySem.W PyProof.Rows in
set_option maxRecDepth 100000 in
set_option maxHeartbeats 0 in
theorem PySem.Challenge.cw_eachcellheld_k15_code_holds : PySem.Challenge.rw_eachcellheld_k15_code.Holds := by
  w_on; o_law; k_head; (case hw => w_witness2)
  k_fill
  refine K15.walk (l := PySem.Challenge.rw_eachcellheld_k15_code) rfl rfl (fun w h Y => PySem.W.kIn_of Y) ?F
  case F =>
    intro w mg fa h KX G hmg
    refine' K15.all_mk KX G hmg ?aC ?a__law_begin ?l__law_begin ?c__law_begin ?k__law_begin ?a__law_take ?l__law_take ?c__law_take ?k__law_take ?a__law_pick ?l__law_pick ?c__law_pick ?k__law_pick ?a__law_shape_over ?l__law_shape_over ?c__law_shape_over ?k__law_shape_over ?a__law_with_unknown ?l__law_with_unknown ?c__law_with_unknown ?k__law_with_unknown ?a__law_any ?l__law_any ?c__law_any ?k__law_any ?a__law_called ?l__law_called ?c__law_called ?k__law_called ?a__law_plain ?l__law_plain ?c__law_plain ?k__law_plain ?a__law_body ?l__law_body ?c__law_body ?k__law_body ?a__law_proc ?l__law_proc ?c__law_proc ?k__law_proc ?a__law_program ?l__law_program ?c__law_program ?k__law_program ?a__law_flat ?l__law_flat ?c__law_flat ?k__law_flat ?a__law_code ?l__law_code ?c__law_code ?k__law_code ?a_Code__block ?i_Code__block ?l_Code__block ?c_Code__block ?k_Code__block ?a_Code__test ?i_Code__test ?l_Code__test ?c_Code__test ?k_Code__test ?a_Code__goals ?i_Code__goals ?l_Code__goals ?c_Code__goals ?k_Code__goals ?a_Code__if ?i_Code__if ?l_Code__if ?c_Code__if ?k_Code__if ?a_Code__while ?i_Code__while ?l_Code__while ?c_Code__while ?k_Code__while ?a_Code___init__ ?i_Code___init__ ?l_Code___init__ ?c_Code___init__ ?k_Code___init__ ?a_code_of ?l_code_of ?c_code_of ?k_code_of ?a_law ?l_law ?c_law ?k_law ?pg ?hd ?po ?sa ?mk ?kc ?nR ?nL ?z_abs ?z_all ?z_int ?z_isinstance ?z_len ?z_list ?z_range ?z_str ?z_tuple
    (case aC => k_is)
    (case a__law_begin => k_is)
    (case l__law_begin => k_is)
    (case c__law_begin => k_is)
    (case k__law_begin => k_is)
    (case a__law_take => k_is)
    (case l__law_take => k_is)
    (case c__law_take => k_is)
    (case k__law_take => k_is)
    (case a__law_pick => k_is)
    (case l__law_pick => k_is)
    (case c__law_pick => k_is)
    (case k__law_pick => k_is)
    (case a__law_shape_over => k_is)
    (case l__law_shape_over => k_is)
    (case c__law_shape_over => k_is)
    (case k__law_shape_over => k_is)
    (case a__law_with_unknown => k_is)
    (case l__law_with_unknown => k_is)
    (case c__law_with_unknown => k_is)
    (case k__law_with_unknown => k_is)
    (case a__law_any => k_is)
    (case l__law_any => k_is)
    (case c__law_any => k_is)
    (case k__law_any => k_is)
    (case a__law_called => k_is)
    (case l__law_called => k_is)
    (case c__law_called => k_is)
    (case k__law_called => k_is)
    (case a__law_plain => k_is)
    (case l__law_plain => k_is)
    (case c__law_plain => k_is)
    (case k__law_plain => k_is)
    (case a__law_body => k_is)
    (case l__law_body => k_is)
    (case c__law_body => k_is)
    (case k__law_body => k_is)
    (case a__law_proc => k_is)
    (case l__law_proc => k_is)
    (case c__law_proc => k_is)
    (case k__law_proc => k_is)
    (case a__law_program => k_is)
    (case l__law_program => k_is)
    (case c__law_program => k_is)
    (case k__law_program => k_is)
    (case a__law_flat => k_is)
    (case l__law_flat => k_is)
    (case c__law_flat => k_is)
    (case k__law_flat => k_is)
    (case a__law_code => k_is)
    (case l__law_code => k_is)
    (case c__law_code => k_is)
    (case k__law_code => k_is)
    (case a_Code__block => k_is)
    (case i_Code__block => k_is)
    (case l_Code__block => k_is)
    (case c_Code__block => k_is)
    (case k_Code__block => k_is)
    (case a_Code__test => k_is)
    (case i_Code__test => k_is)
    (case l_Code__test => k_is)
    (case c_Code__test => k_is)
    (case k_Code__test => k_is)
    (case a_Code__goals => k_is)
    (case i_Code__goals => k_is)
    (case l_Code__goals => k_is)
    (case c_Code__goals => k_is)
    (case k_Code__goals => k_is)
    (case a_Code__if => k_is)
    (case i_Code__if => k_is)
    (case l_Code__if => k_is)
    (case c_Code__if => k_is)
    (case k_Code__if => k_is)
    (case a_Code__while => k_is)
    (case i_Code__while => k_is)
    (case l_Code__while => k_is)
    (case c_Code__while => k_is)
    (case k_Code__while => k_is)
    (case a_Code___init__ => k_is)
    (case i_Code___init__ => k_is)
    (case l_Code___init__ => k_is)
    (case c_Code___init__ => k_is)
    (case k_Code___init__ => k_is)
    (case a_code_of => k_is)
    (case l_code_of => k_is)
    (case c_code_of => k_is)
    (case k_code_of => k_is)
    (case a_law => k_is)
    (case l_law => k_is)
    (case c_law => k_is)
    (case k_law => k_is)
    (case pg => k_is)
    (case hd => k_is)
    (case po => k_is)
    (case sa => k_is)
    (case mk => k_is)
    (case kc => k_is)
    (case nR => k_is)
    (case nL => k_is)
    (case z_abs => k_is)
    (case z_all => k_is)
    (case z_int => k_is)
    (case z_isinstance => k_is)
    (case z_len => k_is)
    (case z_list => k_is)
    (case z_range => k_is)
    (case z_str => k_is)
    (case z_tuple => k_is)


