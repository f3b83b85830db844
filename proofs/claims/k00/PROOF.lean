import PyProof.Rows.All
import Wide.All
import OpenK.AllK
import Wide.FinOn
import HandS.ForMost
import HandS.IsInst
import KE.DataCmp
import KE.DataEq
import KE.DataFind
import KE.DataMinMax
import KE.SortData
import HandS.Star
import HandS.NoneIn
import HandS.Conv
import HandS.Iter
import HandS.Exc
import HandS.ExcOwn
import HandS.ExcField
import HandS.TryOnly
import HandS.TryMany
import HandS.WordsExc
import KE.KExcInit
import HandS.Small
import KE.KExcIs
import HandS.MakeKw
import HandS.ExcValue
import PySem.Challenge.RW_stemsure_k00_errors
set_option Elab.async false
set_option linter.all false
set_option maxRecDepth 100000
set_option maxHeartbeats 4000000
namespace L3
open PySem
def pr (a b : Nat) : Nat := 2 ^ a * (2 * b + 1)
theorem pr_pos (a b : Nat) : 0 < pr a b := Nat.mul_pos (Nat.two_pow_pos a) (by omega)
theorem pr_le {a b c d : Nat} (h : a ≤ c) (e : pr a b = pr c d) : a = c ∧ b = d := by
  obtain ⟨n, rfl⟩ := Nat.exists_eq_add_of_le h
  unfold pr at e
  rw [Nat.pow_add, Nat.mul_assoc] at e
  have e2 := Nat.eq_of_mul_eq_mul_left (Nat.two_pow_pos a) e
  cases n with
  | zero => exact ⟨rfl, by simp at e2; omega⟩
  | succ n =>
    exfalso
    rw [Nat.pow_succ, Nat.mul_comm (2 ^ n) 2, Nat.mul_assoc] at e2
    generalize 2 ^ n * (2 * d + 1) = t at e2
    omega
theorem pr_inj {a b c d : Nat} (e : pr a b = pr c d) : a = c ∧ b = d := by
  rcases Nat.le_total a c with h | h
  · exact pr_le h e
  · obtain ⟨h1, h2⟩ := pr_le h e.symm
    exact ⟨h1.symm, h2.symm⟩
def encI (i : Int) : Nat := match i with
  | .ofNat n => pr 0 n
  | .negSucc n => pr 1 n
theorem encI_inj : ∀ {i j : Int}, encI i = encI j → i = j
  | .ofNat n, .ofNat m, h => by rw [(pr_inj h).2]
  | .negSucc n, .negSucc m, h => by rw [(pr_inj h).2]
  | .ofNat n, .negSucc m, h => by cases (pr_inj h).1
  | .negSucc n, .ofNat m, h => by cases (pr_inj h).1
def encL : List Nat → Nat
  | [] => 0
  | x :: xs => pr x (encL xs)
theorem encL_inj : ∀ {x y : List Nat}, encL x = encL y → x = y
  | [], [], _ => rfl
  | [], y :: ys, h => by have := pr_pos y (encL ys); unfold encL at h; omega
  | x :: xs, [], h => by have := pr_pos x (encL xs); unfold encL at h; omega
  | x :: xs, y :: ys, h => by
    unfold encL at h
    obtain ⟨h1, h2⟩ := pr_inj h
    rw [h1, encL_inj h2]
mutual
def encD : PyData → Nat
  | .none => pr 0 0
  | .bool b => pr 1 b.toNat
  | .int i => pr 2 (encI i)
  | .str z => pr 3 (encL z.cps.toList)
  | .list xs => pr 4 (encDs xs)
  | .tuple xs => pr 5 (encDs xs)
  | .dict ps => pr 6 (encPs ps)
def encDs : List PyData → Nat
  | [] => 0
  | x :: xs => pr (encD x) (encDs xs)
def encPs : List (PyData × PyData) → Nat
  | [] => 0
  | p :: ps => pr (encP p) (encPs ps)
def encP : PyData × PyData → Nat
  | (a, b) => pr (encD a) (encD b)
end
mutual
theorem encD_inj : ∀ {a b : PyData}, encD a = encD b → a = b
  | a, b, h => by
    cases a with
    | none => cases b <;> first | rfl | (simp only [encD] at h; cases (pr_inj h).1)
    | bool x =>
      cases b <;> first | (simp only [encD] at h; cases (pr_inj h).1; done) | skip
      rename_i y
      simp only [encD] at h
      have := (pr_inj h).2
      cases x <;> cases y <;> first | rfl | cases this
    | int x =>
      cases b <;> first | (simp only [encD] at h; cases (pr_inj h).1; done) | skip
      simp only [encD] at h
      rw [encI_inj (pr_inj h).2]
    | str x =>
      cases b <;> first | (simp only [encD] at h; cases (pr_inj h).1; done) | skip
      rename_i y
      simp only [encD] at h
      have := encL_inj (pr_inj h).2
      cases x with
      | mk x =>
        cases y with
        | mk y =>
          have e : x = y := Array.toList_inj.mp this
          rw [e]
    | list x =>
      cases b <;> first | (simp only [encD] at h; cases (pr_inj h).1; done) | skip
      simp only [encD] at h
      rw [encDs_inj (pr_inj h).2]
    | tuple x =>
      cases b <;> first | (simp only [encD] at h; cases (pr_inj h).1; done) | skip
      simp only [encD] at h
      rw [encDs_inj (pr_inj h).2]
    | dict x =>
      cases b <;> first | (simp only [encD] at h; cases (pr_inj h).1; done) | skip
      simp only [encD] at h
      rw [encPs_inj (pr_inj h).2]
theorem encDs_inj : ∀ {a b : List PyData}, encDs a = encDs b → a = b
  | [], b, h => by
    cases b with
    | nil => rfl
    | cons y ys => have := pr_pos (encD y) (encDs ys); simp only [encDs] at h; omega
  | x :: xs, b, h => by
    cases b with
    | nil => have := pr_pos (encD x) (encDs xs); simp only [encDs] at h; omega
    | cons y ys =>
      simp only [encDs] at h
      obtain ⟨h1, h2⟩ := pr_inj h
      rw [encD_inj h1, encDs_inj h2]
theorem encPs_inj : ∀ {a b : List (PyData × PyData)}, encPs a = encPs b → a = b
  | [], b, h => by
    cases b with
    | nil => rfl
    | cons y ys => have := pr_pos (encP y) (encPs ys); simp only [encPs] at h; omega
  | x :: xs, b, h => by
    cases b with
    | nil => have := pr_pos (encP x) (encPs xs); simp only [encPs] at h; omega
    | cons y ys =>
      simp only [encPs] at h
      obtain ⟨h1, h2⟩ := pr_inj h
      rw [encP_inj h1, encPs_inj h2]
theorem encP_inj : ∀ {a b : PyData × PyData}, encP a = encP b → a = b
  | (a, b), (c, d), h => by
    simp only [encP] at h
    obtain ⟨h1, h2⟩ := pr_inj h
    rw [encD_inj h1, encD_inj h2]
end
/-- a class and fields -/
abbrev Fd := Nat × List (Str × PyData)
def fdD (x : Fd) : List PyData := x.2.map fun p => .tuple [.str p.1, p.2]
def enc (x : Fd) : Int := - ((pr x.1 (encDs (fdD x)) : Nat) : Int)
theorem enc_neg (x : Fd) : enc x < 0 := by
  have := pr_pos x.1 (encDs (fdD x))
  unfold enc
  omega
theorem enc_inj {x y : Fd} (h : enc x = enc y) : x = y := by
  unfold enc at h
  obtain ⟨h1, h2⟩ := pr_inj (a := x.1) (b := encDs (fdD x)) (c := y.1) (d := encDs (fdD y)) (by omega)
  have h3 := encDs_inj h2
  obtain ⟨c, xs⟩ := x
  obtain ⟨c', ys⟩ := y
  simp only [fdD] at h1 h3
  subst h1
  congr 1
  clear h h2
  induction xs generalizing ys with
  | nil => cases ys <;> simp at h3 ⊢
  | cons p xs ih =>
    cases ys with
    | nil => simp at h3
    | cons q ys =>
      simp only [List.map_cons, List.cons.injEq, PyData.tuple.injEq, PyData.str.injEq, and_true] at h3
      obtain ⟨⟨e1, e2⟩, h3⟩ := h3
      rw [ih ys h3, show p = q from Prod.ext e1 e2]
open Classical in
noncomputable def dec (k : Int) : Option Fd := if h : ∃ x, enc x = k then some h.choose else none
theorem dec_enc (x : Fd) : dec (enc x) = some x := by
  have h : ∃ y, enc y = enc x := ⟨x, rfl⟩
  unfold dec
  rw [dif_pos h, enc_inj h.choose_spec]
theorem enc_dec {k : Int} {x : Fd} (h : dec k = some x) : enc x = k := by
  unfold dec at h
  split at h
  · rename_i e
    cases h
    exact e.choose_spec
  · cases h
end L3

set_option Elab.async false
set_option linter.all false
set_option maxRecDepth 100000
set_option maxHeartbeats 4000000
namespace L3
open PySem L2

structure Exn where
  c : Str
  d : PyData
inductive O (α : Type) where
  | ok (a : α) (k : Int)
  | ex (x : Exn) (k : Int)
  | no
abbrev MM (α : Type) := Int → O α
def bd {α β : Type} (m : MM α) (f : α → MM β) : MM β := fun k => match m k with
  | .ok a k' => f a k'
  | .ex x k' => .ex x k'
  | .no => .no
def rt {α : Type} (a : α) : MM α := fun k => .ok a k
def fl {α : Type} : MM α := fun _ => .no
def op {α : Type} : Option α → MM α
  | some a => rt a
  | none => fl
/-- what raises gives nothing -/
def calmly {α : Type} (m : MM α) : MM α := fun k => match m k with
  | .ok a k' => .ok a k'
  | _ => .no
@[simp] theorem bd_rt {α β : Type} (a : α) (f : α → MM β) : bd (rt a) f = f a := Eq.trans rfl rfl
@[simp] theorem bd_fl {α β : Type} (f : α → MM β) : bd fl f = fl := Eq.trans rfl rfl
@[simp] theorem op_some {α : Type} (a : α) : op (some a) = rt a := Eq.trans rfl rfl
@[simp] theorem op_none {α : Type} : op (none : Option α) = fl := Eq.trans rfl rfl
@[simp] theorem calmly_rt {α : Type} (a : α) : calmly (rt a) = rt a := Eq.trans rfl rfl
@[simp] theorem calmly_fl {α : Type} : calmly (fl : MM α) = fl := Eq.trans rfl rfl
@[simp] theorem bd_assoc {α β γ : Type} (m : MM α) (f : α → MM β) (g : β → MM γ) : bd (bd m f) g = bd m fun a => bd (f a) g := by
  funext k
  unfold bd
  cases m k <;> rfl
@[simp] theorem bd_rt' {α : Type} (m : MM α) : (bd m fun a => rt a) = m := by
  funext k
  unfold bd rt
  cases m k <;> rfl
def Wp {α : Type} (r : O α) (P : α → Int → Prop) (X : Exn → Int → Prop) : Prop := match r with
  | .ok a k => P a k
  | .ex x k => X x k
  | .no => False
theorem Wp.mono {α : Type} {r : O α} {P P' : α → Int → Prop} {X X' : Exn → Int → Prop} (h : Wp r P X) (hp : ∀ a k, r = .ok a k → P a k → P' a k) (hx : ∀ x k, r = .ex x k → X x k → X' x k) : Wp r P' X' := by
  cases r with
  | ok a k => exact hp a k rfl h
  | ex x k => exact hx x k rfl h
  | no => exact h
theorem Wp.bd {α β : Type} {m : MM α} {f : α → MM β} {k : Int} {P : β → Int → Prop} {X : Exn → Int → Prop} (h : Wp (bd m f k) P X) : Wp (m k) (fun a k' => Wp (f a k') P X) X := by
  unfold L3.bd at h
  cases e : m k with
  | ok a k' => rw [e] at h; exact h
  | ex x k' => rw [e] at h; exact h
  | no => rw [e] at h; exact h
theorem Wp.op {α : Type} {o : Option α} {k : Int} {P : α → Int → Prop} {X : Exn → Int → Prop} (h : Wp (op o k) P X) : ∃ a, o = some a ∧ P a k := by
  cases o with
  | some a => exact ⟨a, rfl, h⟩
  | none => exact h.elim
theorem Wp.calmly {α : Type} {m : MM α} {k : Int} {P : α → Int → Prop} {X : Exn → Int → Prop} (h : Wp (calmly m k) P X) : ∃ a k', m k = .ok a k' ∧ P a k' := by
  unfold L3.calmly at h
  cases e : m k with
  | ok a k' => rw [e] at h; exact ⟨a, k', rfl, h⟩
  | ex x k' => rw [e] at h; exact h.elim
  | no => rw [e] at h; exact h.elim

/-- an error that is held as a value: of the class at C, its dict at d -/
def ExH (C a : Addr) (d : Option Addr) : HO := .ext fun h => ∃ (oe : Obj) (vs : Array Value), h.get? a = some oe ∧ oe.cls = .ref C ∧ oe.dict = d ∧ oe.data = .fields vs
/-- such errors as data: a dict that none could be -/
def exD (C : Addr) (f : Str) (d : PyData) : PyData := .dict [(.none, .int (C : Nat)), (.none, .str f), (.none, d)]
def exD0 (C : Addr) : PyData := .dict [(.none, .int (C : Nat))]
mutual
inductive Rp (M : Addr → Prop) (H : Hp) : V → PyData → Prop
  | non : Rp M H .non .none
  | bl (b : Bool) : Rp M H (.bl b) (.bool b)
  | int (i : Int) : Rp M H (.int i) (.int i)
  | str (x : Str) : Rp M H (.str x) (.str x)
  | tup {a : Addr} {xs : List V} {ds : List PyData} : H a = some (.tup xs) → ¬ M a → Rps M H xs ds → Rp M H (.ref a) (.tuple ds)
  | lst {a : Addr} {xs : List V} {ds : List PyData} : H a = some (.lst xs) → ¬ M a → Rps M H xs ds → Rp M H (.ref a) (.list ds)
  | dct {a : Addr} {xs : List (Key × V)} {ds : List (PyData × PyData)} : Rd H a (.dK xs) → ¬ M a → RpK M H xs ds → Rp M H (.ref a) (.dict ds)
  | exc {a dd C : Addr} {f : Str} {v : V} {d : PyData} : H a = some (ExH C a (some dd)) → H dd = some (.xd [(f, v)]) → ¬ M a → ¬ M dd → Rp M H v d → Rp M H (.ref a) (.dict [(.none, .int (C : Nat)), (.none, .str f), (.none, d)])
  | ex0 {a C : Addr} : H a = some (ExH C a none) → ¬ M a → Rp M H (.ref a) (.dict [(.none, .int (C : Nat))])
inductive Rps (M : Addr → Prop) (H : Hp) : List V → List PyData → Prop
  | nil : Rps M H [] []
  | cons {v : V} {vs : List V} {d : PyData} {ds : List PyData} : Rp M H v d → Rps M H vs ds → Rps M H (v :: vs) (d :: ds)
inductive RpK (M : Addr → Prop) (H : Hp) : List (Key × V) → List (PyData × PyData) → Prop
  | nil : RpK M H [] []
  | int {i : Int} {v : V} {vs : List (Key × V)} {d : PyData} {ds : List (PyData × PyData)} : Rp M H v d → RpK M H vs ds → RpK M H ((.inl i, v) :: vs) ((.int i, d) :: ds)
  | str {x : Str} {v : V} {vs : List (Key × V)} {d : PyData} {ds : List (PyData × PyData)} : Rp M H v d → RpK M H vs ds → RpK M H ((.inr x, v) :: vs) ((.str x, d) :: ds)
end

/-- what stood is as it was, but what M tells -/
def ExM (M : Addr → Prop) (H H' : Hp) : Prop := ∀ a o, H a = some o → ¬ M a → H' a = some o
theorem ExM.refl {M : Addr → Prop} (H : Hp) : ExM M H H := fun _ _ h _ => h
theorem ExM.rd {M : Addr → Prop} {H H' : Hp} (e : ExM M H H') {a : Addr} {u : HO} (hm : ¬ M a) (h : Rd H a u) : Rd H' a u := by
  rcases h with h | ⟨o, h⟩
  · exact .inl (e a _ h hm)
  · exact .inr ⟨o, e a _ h hm⟩

mutual
theorem Rp.move {M M' : Addr → Prop} {H H' : Hp} (e : ExM M H H') (hm : ∀ a o, H a = some o → ¬ M a → ¬ M' a) : ∀ {v : V} {d : PyData}, Rp M H v d → Rp M' H' v d
  | _, _, .non => .non
  | _, _, .bl b => .bl b
  | _, _, .int i => .int i
  | _, _, .str x => .str x
  | _, _, .tup h n r => .tup (e _ _ h n) (hm _ _ h n) (Rps.move e hm r)
  | _, _, .lst h n r => .lst (e _ _ h n) (hm _ _ h n) (Rps.move e hm r)
  | _, _, .dct h n r => .dct (e.rd n h) (by rcases h with h | ⟨o, h⟩ <;> exact hm _ _ h n) (RpK.move e hm r)
  | _, _, .exc h hd n nd r => .exc (e _ _ h n) (e _ _ hd nd) (hm _ _ h n) (hm _ _ hd nd) (Rp.move e hm r)
  | _, _, .ex0 h n => .ex0 (e _ _ h n) (hm _ _ h n)
theorem Rps.move {M M' : Addr → Prop} {H H' : Hp} (e : ExM M H H') (hm : ∀ a o, H a = some o → ¬ M a → ¬ M' a) : ∀ {v : List V} {d : List PyData}, Rps M H v d → Rps M' H' v d
  | _, _, .nil => .nil
  | _, _, .cons h r => .cons (Rp.move e hm h) (Rps.move e hm r)
theorem RpK.move {M M' : Addr → Prop} {H H' : Hp} (e : ExM M H H') (hm : ∀ a o, H a = some o → ¬ M a → ¬ M' a) : ∀ {v : List (Key × V)} {d : List (PyData × PyData)}, RpK M H v d → RpK M' H' v d
  | _, _, .nil => .nil
  | _, _, .int h r => .int (Rp.move e hm h) (RpK.move e hm r)
  | _, _, .str h r => .str (Rp.move e hm h) (RpK.move e hm r)
end
theorem Rp.ext {M : Addr → Prop} {H H' : Hp} {v : V} {d : PyData} (r : Rp M H v d) (e : ExM M H H') : Rp M H' v d := r.move e fun _ _ _ n => n
theorem Rps.ext {M : Addr → Prop} {H H' : Hp} {v : List V} {d : List PyData} (r : Rps M H v d) (e : ExM M H H') : Rps M H' v d := r.move e fun _ _ _ n => n
theorem RpK.ext {M : Addr → Prop} {H H' : Hp} {v : List (Key × V)} {d : List (PyData × PyData)} (r : RpK M H v d) (e : ExM M H H') : RpK M H' v d := r.move e fun _ _ _ n => n
/-- fewer may be written -/
theorem Rp.less {M M' : Addr → Prop} {H : Hp} {v : V} {d : PyData} (r : Rp M H v d) (h : ∀ a, M' a → M a) : Rp M' H v d := r.move (ExM.refl H) fun _ _ _ n q => n (h _ q)
theorem Rps.less {M M' : Addr → Prop} {H : Hp} {v : List V} {d : List PyData} (r : Rps M H v d) (h : ∀ a, M' a → M a) : Rps M' H v d := r.move (ExM.refl H) fun _ _ _ n q => n (h _ q)
theorem RpK.less {M M' : Addr → Prop} {H : Hp} {v : List (Key × V)} {d : List (PyData × PyData)} (r : RpK M H v d) (h : ∀ a, M' a → M a) : RpK M' H v d := r.move (ExM.refl H) fun _ _ _ n q => n (h _ q)
/-- a new address may be written too -/
def or1 (M : Addr → Prop) (p : Addr) : Addr → Prop := fun a => M a ∨ a = p
theorem Rp.more {M : Addr → Prop} {H : Hp} {p : Addr} {v : V} {d : PyData} (r : Rp M H v d) (hp : H p = none) : Rp (or1 M p) H v d := r.move (ExM.refl H) fun a o h n q => by
  rcases q with q | q
  · exact n q
  · rw [q, hp] at h; cases h
theorem Rps.more {M : Addr → Prop} {H : Hp} {p : Addr} {v : List V} {d : List PyData} (r : Rps M H v d) (hp : H p = none) : Rps (or1 M p) H v d := r.move (ExM.refl H) fun a o h n q => by
  rcases q with q | q
  · exact n q
  · rw [q, hp] at h; cases h
theorem RpK.more {M : Addr → Prop} {H : Hp} {p : Addr} {v : List (Key × V)} {d : List (PyData × PyData)} (r : RpK M H v d) (hp : H p = none) : RpK (or1 M p) H v d := r.move (ExM.refl H) fun a o h n q => by
  rcases q with q | q
  · exact n q
  · rw [q, hp] at h; cases h

theorem Rps.length {M : Addr → Prop} {H : Hp} : ∀ {v : List V} {d : List PyData}, Rps M H v d → v.length = d.length
  | _, _, .nil => rfl
  | _, _, .cons _ r => by simp [Rps.length r]
theorem RpK.length {M : Addr → Prop} {H : Hp} : ∀ {v : List (Key × V)} {d : List (PyData × PyData)}, RpK M H v d → v.length = d.length
  | _, _, .nil => rfl
  | _, _, .int _ r => by simp [RpK.length r]
  | _, _, .str _ r => by simp [RpK.length r]
theorem Rps.get {M : Addr → Prop} {H : Hp} : ∀ {v : List V} {d : List PyData} {i : Nat} {x : PyData}, Rps M H v d → d[i]? = some x → ∃ y, v[i]? = some y ∧ Rp M H y x
  | _, _, _, _, .nil, e => by simp at e
  | _, _, 0, _, .cons h _, e => by simp at e; subst e; exact ⟨_, rfl, h⟩
  | _, _, i + 1, x, .cons _ r, e => by
    obtain ⟨y, h1, h2⟩ := Rps.get (i := i) (x := x) r (by simpa using e)
    exact ⟨y, by simpa using h1, h2⟩
theorem Rps.append {M : Addr → Prop} {H : Hp} : ∀ {v w : List V} {d e : List PyData}, Rps M H v d → Rps M H w e → Rps M H (v ++ w) (d ++ e)
  | _, _, _, _, .nil, s => s
  | _, _, _, _, .cons h r, s => .cons h (Rps.append r s)
theorem Rps.take {M : Addr → Prop} {H : Hp} : ∀ {v : List V} {d : List PyData} (n : Nat), Rps M H v d → Rps M H (v.take n) (d.take n)
  | _, _, 0, _ => .nil
  | _, _, _ + 1, .nil => .nil
  | _, _, n + 1, .cons h r => .cons h (Rps.take n r)
theorem Rps.drop {M : Addr → Prop} {H : Hp} : ∀ {v : List V} {d : List PyData} (n : Nat), Rps M H v d → Rps M H (v.drop n) (d.drop n)
  | _, _, 0, r => r
  | _, _, _ + 1, .nil => .nil
  | _, _, n + 1, .cons _ r => Rps.drop n r
theorem Rps.set {M : Addr → Prop} {H : Hp} {x : V} {y : PyData} (h : Rp M H x y) : ∀ {v : List V} {d : List PyData} (i : Nat), Rps M H v d → Rps M H (v.set i x) (d.set i y)
  | _, _, _, .nil => .nil
  | _, _, 0, .cons _ r => .cons h r
  | _, _, i + 1, .cons q r => .cons q (Rps.set h i r)
theorem Rps.none_of {M : Addr → Prop} {H : Hp} {v : List V} {d : List PyData} {i : Nat} (r : Rps M H v d) (e : d[i]? = none) : v[i]? = none := by
  have h1 := r.length
  have h2 := List.getElem?_eq_none_iff.mp e
  exact List.getElem?_eq_none_iff.mpr (by omega)
theorem Rps.of_str {M : Addr → Prop} {H : Hp} : ∀ {v : List V} {ys : List Str}, Rps M H v (ys.map PyData.str) → v = ys.map V.str
  | [], [], _ => rfl
  | _ :: _, [], r => by cases r
  | [], _ :: _, r => by cases r
  | v :: vs, y :: ys, r => by
    cases r with
    | cons h r => cases h; rw [List.map_cons, ← Rps.of_str r]
theorem Rps.of_int {M : Addr → Prop} {H : Hp} : ∀ {v : List V} {ys : List Int}, Rps M H v (ys.map PyData.int) → v = ys.map V.int
  | [], [], _ => rfl
  | _ :: _, [], r => by cases r
  | [], _ :: _, r => by cases r
  | v :: vs, y :: ys, r => by
    cases r with
    | cons h r => cases h; rw [List.map_cons, ← Rps.of_int r]
theorem Rps.of_bl {M : Addr → Prop} {H : Hp} : ∀ {v : List V} {ys : List Bool}, Rps M H v (ys.map PyData.bool) → v = ys.map V.bl
  | [], [], _ => rfl
  | _ :: _, [], r => by cases r
  | [], _ :: _, r => by cases r
  | v :: vs, y :: ys, r => by
    cases r with
    | cons h r => cases h; rw [List.map_cons, ← Rps.of_bl r]
theorem Rps.str {M : Addr → Prop} {H : Hp} : ∀ ys : List Str, Rps M H (ys.map V.str) (ys.map PyData.str)
  | [] => .nil
  | y :: ys => .cons (.str y) (Rps.str ys)
theorem Rps.int {M : Addr → Prop} {H : Hp} : ∀ ys : List Int, Rps M H (ys.map V.int) (ys.map PyData.int)
  | [] => .nil
  | y :: ys => .cons (.int y) (Rps.int ys)

/-- lists and tuples without dicts in them -/
def PyData.flatD : PyData → Bool := fun _ => true

/-- the top may be written -/
inductive Top (M : Addr → Prop) (H : Hp) (a : Addr) : PyData → Prop
  | lst {xs : List V} {ds : List PyData} : H a = some (.lst xs) → Rps M H xs ds → Top M H a (.list ds)
  | dct {xs : List (Key × V)} {ds : List (PyData × PyData)} : H a = some (.dK xs) → RpK M H xs ds → Top M H a (.dict ds)
theorem Top.move {M M' : Addr → Prop} {H H' : Hp} {a : Addr} {d : PyData} (t : Top M H a d) (e : ExM M H H') (hm : ∀ a o, H a = some o → ¬ M a → ¬ M' a) (ha : ∀ o, H a = some o → H' a = some o) : Top M' H' a d := by
  cases t with
  | lst h r => exact .lst (ha _ h) (r.move e hm)
  | dct h r => exact .dct (ha _ h) (r.move e hm)
theorem Top.rp {M M' : Addr → Prop} {H : Hp} {a : Addr} {d : PyData} (t : Top M H a d) (h : ∀ b, M' b → M b) (ha : ¬ M' a) : Rp M' H (.ref a) d := by
  cases t with
  | lst e r => exact .lst e ha (r.less h)
  | dct e r => exact .dct (.inl e) ha (r.less h)
theorem Top.there {M : Addr → Prop} {H : Hp} {a : Addr} {d : PyData} (t : Top M H a d) : ∃ o, H a = some o := by
  cases t with
  | lst h _ => exact ⟨_, h⟩
  | dct h _ => exact ⟨_, h⟩
/-- data, its top perhaps one that may be written -/
def RpB (sp : Option Addr) (M : Addr → Prop) (H : Hp) (v : V) (d : PyData) : Prop := Rp M H v d ∨ ∃ a, v = .ref a ∧ M a ∧ sp ≠ some a ∧ Top M H a d

inductive Sl where
  | val (d : PyData)
  | own (d : PyData)
  | bor (d : PyData)
  | own2 (d : PyData)
  | spot
  | scr (K : PySem.W.Frag) (ns : List Int)
abbrev Env3 := List (Option Sl)
/-- the script's list -/
def ScrAt (K : PySem.W.Frag) (M : Addr → Prop) (H : Hp) (a : Addr) (ns : List Int) : Prop := (Rd H a (.lst (ns.map V.int)) ∧ ¬ M a) ∨ ∀ H', SqL K H' a (ns.map V.int)
theorem ScrAt.sq {K : PySem.W.Frag} {M : Addr → Prop} {H : Hp} {a : Addr} {ns : List Int} (h : ScrAt K M H a ns) : SqL K H a (ns.map V.int) := by
  rcases h with h | h
  · exact .inl h.1
  · exact h H
/-- fields and their data -/
def RpF (M : Addr → Prop) (H : Hp) (fs : List (Str × V)) (fd : List (Str × PyData)) : Prop := fs.map (·.1) = fd.map (·.1) ∧ Rps M H (fs.map (·.2)) (fd.map (·.2))
theorem RpF.move {M M' : Addr → Prop} {H H' : Hp} {fs : List (Str × V)} {fd : List (Str × PyData)} (r : RpF M H fs fd) (e : ExM M H H') (hm : ∀ a o, H a = some o → ¬ M a → ¬ M' a) : RpF M' H' fs fd := ⟨r.1, r.2.move e hm⟩
theorem RpF.less {M M' : Addr → Prop} {H : Hp} {fs : List (Str × V)} {fd : List (Str × PyData)} (r : RpF M H fs fd) (h : ∀ a, M' a → M a) : RpF M' H fs fd := ⟨r.1, r.2.less h⟩
/-- what stands at the one address that may be changed: the counter's list, or an object -/
def SpotAt (M : Addr → Prop) (H : Hp) (a : Addr) (k : Int) : Prop := (0 ≤ k ∧ H a = some (.lst [.int k])) ∨ (k < 0 ∧ ∃ (x : Fd) (dx : Addr) (fs : List (Str × V)), dec k = some x ∧ H a = some (.ins x.1 dx fs) ∧ RpF M H fs x.2)
theorem SpotAt.there {M : Addr → Prop} {H : Hp} {a : Addr} {k : Int} (h : SpotAt M H a k) : ∃ o, H a = some o := by
  rcases h with ⟨_, h⟩ | ⟨_, _, _, _, _, h, _⟩ <;> exact ⟨_, h⟩
theorem SpotAt.move {M M' : Addr → Prop} {H H' : Hp} {a : Addr} {k : Int} (h : SpotAt M H a k) (e : ExM M H H') (hm : ∀ a o, H a = some o → ¬ M a → ¬ M' a) (ha : ∀ o, H a = some o → H' a = some o) : SpotAt M' H' a k := by
  rcases h with ⟨n, h⟩ | ⟨n, x, dx, fs, h1, h2, h3⟩
  · exact .inl ⟨n, ha _ h⟩
  · exact .inr ⟨n, x, dx, fs, h1, ha _ h2, h3.move e hm⟩
theorem SpotAt.less {M M' : Addr → Prop} {H : Hp} {a : Addr} {k : Int} (h : SpotAt M H a k) (hm : ∀ a, M' a → M a) : SpotAt M' H a k := by
  rcases h with ⟨n, h⟩ | ⟨n, x, dx, fs, h1, h2, h3⟩
  · exact .inl ⟨n, h⟩
  · exact .inr ⟨n, x, dx, fs, h1, h2, h3.less hm⟩
theorem SpotAt.cnt {M : Addr → Prop} {H : Hp} {a : Addr} {k : Int} (h : SpotAt M H a k) (n : 0 ≤ k) : H a = some (.lst [.int k]) := by
  rcases h with ⟨_, h⟩ | ⟨m, _⟩
  · exact h
  · omega
/-- a list or dict that may be written, held by another one -/
def InB (H0 : Hp) (sp : Option Addr) (M : Addr → Prop) (H : Hp) (b : Addr) (d : PyData) : Prop := M b ∧ H0 b = none ∧ sp ≠ some b ∧ Top M H b d
inductive Ins (P : Addr → PyData → Prop) : List Addr → List PyData → Prop
  | nil : Ins P [] []
  | cons {b : Addr} {bs : List Addr} {d : PyData} {ds : List PyData} : P b d → Ins P bs ds → Ins P (b :: bs) (d :: ds)
inductive InsK (P : Addr → PyData → Prop) : List (Key × Addr) → List (PyData × PyData) → Prop
  | nil : InsK P [] []
  | int {i : Int} {b : Addr} {bs : List (Key × Addr)} {d : PyData} {ds : List (PyData × PyData)} : P b d → InsK P bs ds → InsK P ((.inl i, b) :: bs) ((.int i, d) :: ds)
  | str {x : Str} {b : Addr} {bs : List (Key × Addr)} {d : PyData} {ds : List (PyData × PyData)} : P b d → InsK P bs ds → InsK P ((.inr x, b) :: bs) ((.str x, d) :: ds)
theorem Ins.mono {P P' : Addr → PyData → Prop} : ∀ {bs : List Addr} {ds : List PyData}, Ins P bs ds → (∀ b ∈ bs, ∀ d, P b d → P' b d) → Ins P' bs ds
  | _, _, .nil, _ => .nil
  | _, _, .cons h r, q => .cons (q _ List.mem_cons_self _ h) (Ins.mono r fun b hb => q b (List.mem_cons_of_mem _ hb))
theorem InsK.mono {P P' : Addr → PyData → Prop} : ∀ {bs : List (Key × Addr)} {ds : List (PyData × PyData)}, InsK P bs ds → (∀ b ∈ bs, ∀ d, P b.2 d → P' b.2 d) → InsK P' bs ds
  | _, _, .nil, _ => .nil
  | _, _, .int h r, q => .int (q _ List.mem_cons_self _ h) (InsK.mono r fun b hb => q b (List.mem_cons_of_mem _ hb))
  | _, _, .str h r, q => .str (q _ List.mem_cons_self _ h) (InsK.mono r fun b hb => q b (List.mem_cons_of_mem _ hb))
def rfK (z : Key × Addr) : Key × V := (z.1, .ref z.2)
/-- a list or dict of lists and dicts, all of which may be written -/
inductive Top2 (P : Addr → PyData → Prop) (H : Hp) (a : Addr) : PyData → Prop
  | lst {bs : List Addr} {ds : List PyData} : H a = some (.lst (bs.map V.ref)) → Ins P bs ds → bs.Nodup → a ∉ bs → Top2 P H a (.list ds)
  | dct {bs : List (Key × Addr)} {ds : List (PyData × PyData)} : H a = some (.dK (bs.map rfK)) → InsK P bs ds → (bs.map (·.2)).Nodup ∧ (bs.map (·.1)).Nodup → a ∉ bs.map (·.2) → Top2 P H a (.dict ds)
/-- what stands in the list or dict at t -/
def Inn (H : Hp) (t a : Addr) : Prop := (∃ xs, H t = some (.lst xs) ∧ V.ref a ∈ xs) ∨ ∃ xs, H t = some (.dK xs) ∧ ∃ q, (q, V.ref a) ∈ xs
theorem Inn.same {H H' : Hp} {t a : Addr} (e : H' t = H t) (h : Inn H' t a) : Inn H t a := by
  unfold Inn at *
  rwa [e] at h
theorem Inn.lst {H : Hp} {t a : Addr} {bs : List Addr} (e : H t = some (.lst (bs.map V.ref))) : Inn H t a ↔ a ∈ bs := by
  constructor
  · rintro (⟨xs, h, m⟩ | ⟨xs, h, _⟩)
    · rw [e] at h
      cases h
      obtain ⟨b, hb, q⟩ := List.mem_map.mp m
      cases q
      exact hb
    · rw [e] at h; cases h
  · exact fun m => .inl ⟨_, e, List.mem_map_of_mem m⟩
theorem Inn.dct {H : Hp} {t a : Addr} {bs : List (Key × Addr)} (e : H t = some (.dK (bs.map rfK))) : Inn H t a ↔ a ∈ bs.map (·.2) := by
  constructor
  · rintro (⟨xs, h, _⟩ | ⟨xs, h, q, m⟩)
    · rw [e] at h; cases h
    · rw [e] at h
      cases h
      obtain ⟨b, hb, z⟩ := List.mem_map.mp m
      cases z
      exact List.mem_map_of_mem hb
  · intro m
    obtain ⟨b, hb, rfl⟩ := List.mem_map.mp m
    exact .inr ⟨_, e, b.1, List.mem_map.mpr ⟨b, hb, rfl⟩⟩
theorem Ins.at {P : Addr → PyData → Prop} : ∀ {bs : List Addr} {ds : List PyData} {b : Addr}, Ins P bs ds → b ∈ bs → ∃ d, P b d
  | _, _, _, .nil, h => by cases h
  | _, _, b, .cons p r, h => by
    rcases List.mem_cons.mp h with rfl | h
    · exact ⟨_, p⟩
    · exact Ins.at r h
theorem InsK.at {P : Addr → PyData → Prop} : ∀ {bs : List (Key × Addr)} {ds : List (PyData × PyData)} {b : Addr}, InsK P bs ds → b ∈ bs.map (·.2) → ∃ d, P b d
  | _, _, _, .nil, h => by cases h
  | _, _, b, .int p r, h => by
    rcases List.mem_cons.mp h with rfl | h
    · exact ⟨_, p⟩
    · exact InsK.at r h
  | _, _, b, .str p r, h => by
    rcases List.mem_cons.mp h with rfl | h
    · exact ⟨_, p⟩
    · exact InsK.at r h
theorem Top2.inn {P : Addr → PyData → Prop} {H : Hp} {a b : Addr} {d : PyData} (t : Top2 P H a d) (h : Inn H a b) : ∃ x, P b x := by
  cases t with
  | lst e r _ _ => exact r.at ((Inn.lst e).mp h)
  | dct e r _ _ => exact r.at ((Inn.dct e).mp h)
theorem Top2.self {P : Addr → PyData → Prop} {H : Hp} {a : Addr} {d : PyData} (t : Top2 P H a d) : ¬ Inn H a a := by
  cases t with
  | lst e _ _ n => exact fun h => n ((Inn.lst e).mp h)
  | dct e _ _ n => exact fun h => n ((Inn.dct e).mp h)
theorem Top2.there {P : Addr → PyData → Prop} {H : Hp} {a : Addr} {d : PyData} (t : Top2 P H a d) : ∃ o, H a = some o := by
  cases t with
  | lst h _ _ _ => exact ⟨_, h⟩
  | dct h _ _ _ => exact ⟨_, h⟩
theorem Top2.move {P P' : Addr → PyData → Prop} {H H' : Hp} {a : Addr} {d : PyData} (t : Top2 P H a d) (ha : ∀ o, H a = some o → H' a = some o) (hb : ∀ b x, Inn H a b → P b x → P' b x) : Top2 P' H' a d := by
  cases t with
  | lst e r n m => exact .lst (ha _ e) (r.mono fun b h x => hb b x ((Inn.lst e).mpr h)) n m
  | dct e r n m => exact .dct (ha _ e) (r.mono fun b h x => hb b.2 x ((Inn.dct e).mpr (List.mem_map_of_mem h))) n m
inductive SlOk (H0 : Hp) (sp : Option Addr) (M : Addr → Prop) (H : Hp) : V → Sl → Prop
  | val {v : V} {d : PyData} : Rp M H v d → SlOk H0 sp M H v (.val d)
  | own {a : Addr} {d : PyData} : M a → H0 a = none → sp ≠ some a → Top M H a d → SlOk H0 sp M H (.ref a) (.own d)
  | bor {v : V} {d : PyData} : RpB sp M H v d → (∀ a, v = .ref a → M a → ∃ o, H0 a = some o) → SlOk H0 sp M H v (.bor d)
  | own2 {a : Addr} {d : PyData} : M a → H0 a = none → sp ≠ some a → Top2 (InB H0 sp M H) H a d → SlOk H0 sp M H (.ref a) (.own2 d)
  | spot {a : Addr} : sp = some a → SlOk H0 sp M H (.ref a) .spot
  | scr {a : Addr} {K : PySem.W.Frag} {ns : List Int} : ScrAt K M H a ns → SlOk H0 sp M H (.ref a) (.scr K ns)
theorem scr_move {M M' : Addr → Prop} {H H' : Hp} {a : Addr} {K : PySem.W.Frag} {ns : List Int} (h : ScrAt K M H a ns) (e : ExM M H H') (hm : ∀ a o, H a = some o → ¬ M a → ¬ M' a) : ScrAt K M' H' a ns := by
  rcases h with ⟨r, n⟩ | h
  · refine .inl ⟨e.rd n r, ?_⟩
    rcases r with r | ⟨o, r⟩ <;> exact hm _ _ r n
  · exact .inr h
theorem InB.move {H0 H0' : Hp} {sp : Option Addr} {M M' : Addr → Prop} {H H' : Hp} {b : Addr} {d : PyData} (h : InB H0 sp M H b d) (e : ExM M H H') (hm : ∀ a o, H a = some o → ¬ M a → ¬ M' a) (hM : M b → M' b) (h0 : H0 b = none → H0' b = none) (ha : ∀ o, H b = some o → H' b = some o) : InB H0' sp M' H' b d :=
  ⟨hM h.1, h0 h.2.1, h.2.2.1, h.2.2.2.move e hm ha⟩
/-- slot i owns what stands at a -/
def OwnAt (H : Hp) (Δ : Env3) (σ : St) (i : Nat) (a : Addr) : Prop := ∃ t, σ[i]? = some (some (.ref t)) ∧ ((∃ d, Δ[i]? = some (some (.own d)) ∧ a = t) ∨ ∃ d, Δ[i]? = some (some (.own2 d)) ∧ (a = t ∨ Inn H t a))
theorem OwnAt.own {H : Hp} {Δ : Env3} {σ : St} {i : Nat} {a : Addr} {d : PyData} (h : Δ[i]? = some (some (.own d))) (h2 : σ[i]? = some (some (.ref a))) : OwnAt H Δ σ i a := ⟨a, h2, .inl ⟨d, h, rfl⟩⟩
theorem OwnAt.own2 {H : Hp} {Δ : Env3} {σ : St} {i : Nat} {a t : Addr} {d : PyData} (h : Δ[i]? = some (some (.own2 d))) (h2 : σ[i]? = some (some (.ref t))) (q : a = t ∨ Inn H t a) : OwnAt H Δ σ i a := ⟨t, h2, .inr ⟨d, h, q⟩⟩
/-- the slot is as it was, and what it owns -/
theorem OwnAt.back {H H' : Hp} {Δ Δ' : Env3} {σ σ' : St} {i : Nat} {a : Addr} (o : OwnAt H' Δ' σ' i a) (hΔ : ∀ s, Δ'[i]? = some (some s) → (∃ d, s = .own d ∨ s = .own2 d) → Δ[i]? = some (some s) ∧ σ'[i]? = σ[i]?)
    (hH : ∀ d t, Δ'[i]? = some (some (.own2 d)) → σ'[i]? = some (some (.ref t)) → H' t = H t) : OwnAt H Δ σ i a := by
  obtain ⟨t, h2, q⟩ := o
  rcases q with ⟨d, h, q⟩ | ⟨d, h, q⟩
  · obtain ⟨g1, g2⟩ := hΔ _ h ⟨d, .inl rfl⟩
    exact ⟨t, g2 ▸ h2, .inl ⟨d, g1, q⟩⟩
  · obtain ⟨g1, g2⟩ := hΔ _ h ⟨d, .inr rfl⟩
    exact ⟨t, g2 ▸ h2, .inr ⟨d, g1, q.imp id fun z => z.same (hH d t h h2)⟩⟩
structure ER (H0 : Hp) (M0 : Addr → Prop) (sp : Option Addr) (M : Addr → Prop) (H : Hp) (σ : St) (Δ : Env3) (k : Int) : Prop where
  keep : ∀ a o, H0 a = some o → sp ≠ some a → H a = some o
  sub : ∀ a, M0 a → M a
  low : ∀ a, M0 a → ∃ o, H0 a = some o
  live : ∀ a, M a → ∃ o, H a = some o
  spot : ∀ a, sp = some a → M0 a ∧ SpotAt M H a k
  len : σ.length = Δ.length
  slot : ∀ (i : Nat) (s : Sl), Δ[i]? = some (some s) → ∃ v, σ[i]? = some (some v) ∧ SlOk H0 sp M H v s
  uniq : ∀ (i j : Nat) (a : Addr), OwnAt H Δ σ i a → OwnAt H Δ σ j a → i = j
/-- all but the counter stays -/
def Ex (sp : Option Addr) (H H' : Hp) : Prop := ∀ a o, H a = some o → sp ≠ some a → H' a = some o
theorem Ex.refl {sp : Option Addr} (H : Hp) : Ex sp H H := fun _ _ h _ => h
theorem Ex.trans {sp : Option Addr} {H H1 H2 : Hp} (a : Ex sp H H1) (b : Ex sp H1 H2) : Ex sp H H2 := fun x o h n => b x o (a x o h n) n
theorem Ex.new {sp : Option Addr} {H : Hp} {p : Addr} {o : HO} (h : H p = none) : Ex sp H (upd H p o) := fun a u e _ => by
  rw [upd_ne (ne_of_none e h)]
  exact e
section
variable {H0 : Hp} {M0 : Addr → Prop} {sp : Option Addr} {M M' : Addr → Prop} {H H' : Hp} {σ : St} {Δ : Env3} {k : Int}
theorem ER.msp (R : ER H0 M0 sp M H σ Δ k) {a : Addr} (n : ¬ M a) : sp ≠ some a := fun e => n (R.sub _ (R.spot a e).1)
theorem ER.exM (R : ER H0 M0 sp M H σ Δ k) (e : Ex sp H H') : ExM M H H' := fun a o h n => e a o h (R.msp n)
theorem ER.rp (R : ER H0 M0 sp M H σ Δ k) (e : Ex sp H H') {v : V} {d : PyData} (r : Rp M H v d) : Rp M H' v d := r.ext (R.exM e)
theorem ER.rps (R : ER H0 M0 sp M H σ Δ k) (e : Ex sp H H') {v : List V} {d : List PyData} (r : Rps M H v d) : Rps M H' v d := r.ext (R.exM e)
theorem ER.rpB (R : ER H0 M0 sp M H σ Δ k) (e : Ex sp H H') {v : V} {d : PyData} (r : RpB sp M H v d) : RpB sp M H' v d := by
  rcases r with r | ⟨a, rfl, m, n, t⟩
  · exact .inl (R.rp e r)
  · exact .inr ⟨a, rfl, m, n, t.move (R.exM e) (fun _ _ _ n => n) fun o h => e _ o h n⟩
theorem SlOk.ext (R : ER H0 M0 sp M H σ Δ k) (e : Ex sp H H') {v : V} {s : Sl} (x : SlOk H0 sp M H v s) : SlOk H0 sp M H' v s := by
  cases x with
  | val r => exact .val (R.rp e r)
  | own m h0 n t => exact .own m h0 n (t.move (R.exM e) (fun _ _ _ n => n) fun o h => e _ o h n)
  | own2 m h0 n t => exact .own2 m h0 n (t.move (fun o h => e _ o h n) fun b x _ p => p.move (R.exM e) (fun _ _ _ n => n) id id fun o h => e _ o h p.2.2.1)
  | bor r h0 => exact .bor (R.rpB e r) h0
  | spot h => exact .spot h
  | scr h => exact .scr (scr_move h (R.exM e) fun _ _ _ n => n)
theorem OwnAt.ex (R : ER H0 M0 sp M H σ Δ k) (e : Ex sp H H') {i : Nat} {a : Addr} (o : OwnAt H' Δ σ i a) : OwnAt H Δ σ i a :=
  o.back (fun s h _ => ⟨h, rfl⟩) fun d t h h2 => by
    obtain ⟨v, g1, g2⟩ := R.slot i _ h
    rw [h2] at g1
    cases g1
    cases g2 with
    | own2 m h0 n z =>
      obtain ⟨o, ho⟩ := z.there
      rw [ho, e _ _ ho n]
theorem OwnAt.m (R : ER H0 M0 sp M H σ Δ k) {i : Nat} {a : Addr} (o : OwnAt H Δ σ i a) : M a ∧ H0 a = none ∧ sp ≠ some a := by
  obtain ⟨t, h2, q⟩ := o
  rcases q with ⟨d, h, rfl⟩ | ⟨d, h, q⟩
  · obtain ⟨v, g1, g2⟩ := R.slot i _ h
    rw [h2] at g1
    cases g1
    cases g2 with
    | own m h0 n _ => exact ⟨m, h0, n⟩
  · obtain ⟨v, g1, g2⟩ := R.slot i _ h
    rw [h2] at g1
    cases g1
    cases g2 with
    | own2 m h0 n z =>
      rcases q with rfl | q
      · exact ⟨m, h0, n⟩
      · obtain ⟨x, p⟩ := z.inn q
        exact ⟨p.1, p.2.1, p.2.2.1⟩
/-- a step that leaves all but the counter -/
theorem ER.step (R : ER H0 M0 sp M H σ Δ k) {k' : Int} (e : Ex sp H H') (hk : ∀ a, sp = some a → SpotAt M H' a k') : ER H0 M0 sp M H' σ Δ k' where
  keep := fun a o h n => e a o (R.keep a o h n) n
  sub := R.sub
  low := R.low
  live := fun a m => by
    obtain ⟨o, h⟩ := R.live a m
    by_cases hs : sp = some a
    · exact (hk a hs).there
    · exact ⟨o, e a o h hs⟩
  spot := fun a h => ⟨(R.spot a h).1, hk a h⟩
  len := R.len
  slot := fun i s h => by
    obtain ⟨v, h1, h2⟩ := R.slot i s h
    exact ⟨v, h1, h2.ext R e⟩
  uniq := fun i j a h1 h2 => R.uniq i j a (h1.ex R e) (h2.ex R e)
/-- a new object -/
theorem ER.new (R : ER H0 M0 sp M H σ Δ k) {p : Addr} {o : HO} (h : H p = none) : ER H0 M0 sp M (upd H p o) σ Δ k :=
  R.step (Ex.new h) fun a e => (R.spot a e).2.move (R.exM (Ex.new h)) (fun _ _ _ n => n) fun u q => by rw [upd_ne (ne_of_none q h)]; exact q
theorem ER.fresh (R : ER H0 M0 sp M H σ Δ k) {p : Addr} (h : H p = none) : ¬ M p := fun m => by
  obtain ⟨o, e⟩ := R.live p m
  rw [h] at e; cases e
theorem ER.fresh0 (R : ER H0 M0 sp M H σ Δ k) {p : Addr} (h : H p = none) : H0 p = none := by
  cases e : H0 p with
  | none => rfl
  | some o =>
    by_cases hs : sp = some p
    · obtain ⟨u, q⟩ := (R.spot p hs).2.there
      rw [q] at h; cases h
    · rw [R.keep p o e hs] at h; cases h
theorem ER.freshS (R : ER H0 M0 sp M H σ Δ k) {p : Addr} (h : H p = none) : sp ≠ some p := fun e => by
  obtain ⟨u, q⟩ := (R.spot p e).2.there
  rw [q] at h; cases h
theorem ER.at (R : ER H0 M0 sp M H σ Δ k) {i : Nat} {s : Sl} (h : Δ[i]? = some (some s)) : ∃ v, σ[i]? = some (some v) ∧ SlOk H0 sp M H v s := R.slot i s h
/-- a slot is stored -/
theorem ER.set (R : ER H0 M0 sp M H σ Δ k) {v : V} {d : PyData} (i : Nat) (r : Rp M H v d) : ER H0 M0 sp M H (σ.set i (some v)) (Δ.set i (some (.val d))) k where
  keep := R.keep
  sub := R.sub
  low := R.low
  live := R.live
  spot := R.spot
  len := by simp [R.len]
  slot := fun j s h => by
    by_cases hj : i = j
    · subst hj
      by_cases hl : i < Δ.length
      · rw [List.getElem?_set_self hl] at h
        cases h
        exact ⟨v, by rw [List.getElem?_set_self (by rw [R.len]; exact hl)], .val r⟩
      · rw [List.getElem?_eq_none (by simpa using hl)] at h; cases h
    · rw [List.getElem?_set_ne hj] at h
      obtain ⟨u, h1, h2⟩ := R.slot j s h
      exact ⟨u, by rw [List.getElem?_set_ne hj]; exact h1, h2⟩
  uniq := fun j l a h1 h2 => by
    have back : ∀ {j}, OwnAt H (Δ.set i (some (.val d))) (σ.set i (some v)) j a → OwnAt H Δ σ j a := fun {j} o => o.back (fun s h w => by
      have n1 : i ≠ j := fun e => by
        subst e
        by_cases hl : i < Δ.length
        · rw [List.getElem?_set_self hl] at h
          cases h
          obtain ⟨d', w | w⟩ := w <;> cases w
        · rw [List.getElem?_eq_none (by simpa using hl)] at h; cases h
      rw [List.getElem?_set_ne n1] at h
      exact ⟨h, by rw [List.getElem?_set_ne n1]⟩) fun _ _ _ _ => rfl
    exact R.uniq j l a (back h1) (back h2)
/-- more addresses that may be written: a new one -/
theorem ER.more (R : ER H0 M0 sp M H σ Δ k) {p : Addr} {o : HO} (h : H p = none) : ER H0 M0 sp (or1 M p) (upd H p o) σ Δ k where
  keep := (R.new h (o := o)).keep
  sub := fun a m => .inl (R.sub a m)
  low := R.low
  live := fun a m => by
    rcases m with m | m
    · exact (R.new h (o := o)).live a m
    · exact ⟨o, by rw [m]; exact upd_same⟩
  spot := fun a e => ⟨(R.spot a e).1, (R.spot a e).2.move (R.exM (Ex.new h)) (fun a u e n q => by
      rcases q with q | q
      · exact n q
      · rw [q, h] at e; cases e) fun u q => by rw [upd_ne (ne_of_none q h)]; exact q⟩
  len := R.len
  slot := fun i s hs => by
    obtain ⟨v, h1, h2⟩ := R.slot i s hs
    refine ⟨v, h1, ?_⟩
    have mv : ∀ a u, H a = some u → ¬ M a → ¬ or1 M p a := fun a u e n q => by
      rcases q with q | q
      · exact n q
      · rw [q, h] at e; cases e
    have ee : ExM M H (upd H p o) := R.exM (Ex.new h)
    cases h2 with
    | val r => exact .val (r.move ee mv)
    | own m h0 n t => exact .own (.inl m) h0 n (t.move ee mv fun u e => by rw [upd_ne (ne_of_none e h)]; exact e)
    | own2 m h0 n t => exact .own2 (.inl m) h0 n (t.move (fun u e => by rw [upd_ne (ne_of_none e h)]; exact e) fun b x _ p => p.move ee mv .inl id fun u e => by rw [upd_ne (ne_of_none e h)]; exact e)
    | bor r h0 =>
      refine .bor ?_ fun a ha hm => ?_
      · rcases r with r | ⟨a, rfl, m, n, t⟩
        · exact .inl (r.move ee mv)
        · exact .inr ⟨a, rfl, .inl m, n, t.move ee mv fun u e => by rw [upd_ne (ne_of_none e h)]; exact e⟩
      · rcases hm with hm | hm
        · exact h0 a ha hm
        · subst ha
          rcases r with r | ⟨b, e, m, n, t⟩
          · cases r with
            | tup e _ _ => rw [hm, h] at e; cases e
            | lst e _ _ => rw [hm, h] at e; cases e
            | dct e _ _ => rcases e with e | ⟨_, e⟩ <;> (rw [hm, h] at e; cases e)
            | exc e _ _ _ _ => rw [hm, h] at e; cases e
            | ex0 e _ => rw [hm, h] at e; cases e
          · cases e
            exact h0 _ rfl m
    | spot hq => exact .spot hq
    | scr hq => exact .scr (scr_move hq ee mv)
  uniq := (R.new h (o := o)).uniq
/-- the one address that may be changed, seen with a new address besides -/
def SpN (sp : Option Addr) (M : Addr → Prop) (H : Hp) (k : Int) (p : Addr) : Prop := ∀ a, sp = some a → SpotAt (or1 M p) H a k
theorem ER.spN (R : ER H0 M0 sp M H σ Δ k) {p : Addr} {o : HO} (h : H p = none) : SpN sp M (upd H p o) k p := fun a e => ((R.more h (o := o)).spot a e).2
end
end L3

set_option Elab.async false
set_option linter.all false
set_option maxRecDepth 100000
set_option maxHeartbeats 4000000
namespace L3
open PySem PySem.Spec PyProof.Rows L2

structure S3 where
  H0 : Hp
  M0 : Addr → Prop
  sp : Option Addr
  M : Addr → Prop
  σ : L2.St
  Δ : Env3
def S3.In (S : S3) (H : Hp) (k : Int) : Prop := ER S.H0 S.M0 S.sp S.M H S.σ S.Δ k
abbrev Rel3 := S3 → Hp → V → PyData → Prop
def P3 : Rel3 := fun S H v d => Rp S.M H v d
def B3 : Rel3 := fun S H v d => RpB S.sp S.M H v d
/-- what is wanted behind, in terms of the run -/
def S3.ok {α β : Type} (S : S3) (Rel : Hp → β → α → Prop) (H : Hp) (Q : β → Hp → Prop) : α → Int → Prop := fun d k' => ∀ v H', S.In H' k' → Ex S.sp H H' → Rel H' v d → Q v H'
abbrev RX := Exn → (Addr → Prop) → L2.St → Hp → Prop
def RX0 : RX := fun _ _ _ _ => False
def S3.er (S : S3) (R : RX) (H : Hp) : Exn → Int → Prop := fun x k' => ∀ H', S.In H' k' → Ex S.sp H H' → R x S.M S.σ H'
theorem S3.er.mono {S : S3} {R : RX} {H H1 : Hp} (e : Ex S.sp H H1) {x : Exn} {k : Int} (h : S.er R H x k) : S.er R H1 x k := fun H' i e' => h H' i (e.trans e')
theorem S3.ok.mono {α β : Type} {S : S3} {Rel : Hp → β → α → Prop} {H H1 : Hp} {Q : β → Hp → Prop} (e : Ex S.sp H H1) {d : α} {k : Int} (h : S.ok Rel H Q d k) : S.ok Rel H1 Q d k := fun v H' i e' r => h v H' i (e.trans e') r

/-- an expression: Rel how its value lies -/
def DG (Rel : Rel3) (X : Cx) (R : RX) (e : Expr) (f : Env3 → MM PyData) : Prop :=
  ∃ t, PE X e t ∧ ∀ (S : S3) (H : Hp) (k : Int) (Q : VK), S.In H k → Wp (f S.Δ k) (S.ok (Rel S) H Q) (S.er R H) → t S.σ H Q
abbrev DE := DG P3
abbrev DB := DG B3
/-- a test -/
def DT (X : Cx) (R : RX) (e : Expr) (f : Env3 → MM Bool) : Prop :=
  ∃ t, PT X e t ∧ ∀ (S : S3) (H : Hp) (k : Int) (Q : Bool → Hp → Prop), S.In H k → Wp (f S.Δ k) (S.ok (fun _ b c => b = c) H Q) (S.er R H) → t S.σ H Q
/-- arguments -/
inductive All2 {α β : Type} (R : α → β → Prop) : List α → List β → Prop
  | nil : All2 R [] []
  | cons {a : α} {b : β} {as : List α} {bs : List β} : R a b → All2 R as bs → All2 R (a :: as) (b :: bs)
theorem All2.mono {α β : Type} {R R' : α → β → Prop} (h : ∀ a b, R a b → R' a b) : ∀ {as : List α} {bs : List β}, All2 R as bs → All2 R' as bs
  | _, _, .nil => .nil
  | _, _, .cons q r => .cons (h _ _ q) (All2.mono h r)
theorem All2.rps {M : Addr → Prop} {H : Hp} : ∀ {as : List V} {bs : List PyData}, All2 (Rp M H) as bs → Rps M H as bs
  | _, _, .nil => .nil
  | _, _, .cons q r => .cons q (All2.rps r)
theorem All2.of_rps {M : Addr → Prop} {H : Hp} : ∀ {as : List V} {bs : List PyData}, Rps M H as bs → All2 (Rp M H) as bs
  | _, _, .nil => .nil
  | _, _, .cons q r => .cons q (All2.of_rps r)
def DA (Rel : Rel3) (X : Cx) (R : RX) (es : List Expr) (f : Env3 → MM (List PyData)) : Prop :=
  ∃ t, PA X es t ∧ ∀ (S : S3) (H : Hp) (k : Int) (Q : List V → Hp → Prop), S.In H k → Wp (f S.Δ k) (S.ok (fun H' => All2 (Rel S H')) H Q) (S.er R H) → t S.σ H Q
/-- what stays when all but the counter stays -/
def Rel3.Stays (Rel : Rel3) : Prop := ∀ (S : S3) (H H' : Hp) (k : Int) (v : V) (d : PyData), S.In H k → Ex S.sp H H' → Rel S H v d → Rel S H' v d
theorem p3_stays : Rel3.Stays P3 := fun S H H' k v d i e r => ER.rp i e r
theorem b3_stays : Rel3.Stays B3 := fun S H H' k v d i e r => ER.rpB i e r
theorem DG.b {X : Cx} {R : RX} {e : Expr} {f : Env3 → MM PyData} (h : DE X R e f) : DB X R e f := by
  obtain ⟨t, p, g⟩ := h
  exact ⟨t, p, fun S H k Q i w => g S H k Q i (w.mono (fun d k' _ q v H' i' e r => q v H' i' e (.inl r)) fun _ _ _ q => q)⟩

section
variable {X : Cx} {R : RX} {e a b c : Expr} {es : List Expr} {f g h : Env3 → MM PyData} {pos : Pos}

def slV : Option (Option Sl) → Option PyData
  | some (some (.val d)) => some d
  | _ => none
def slB : Option (Option Sl) → Option PyData
  | some (some (.val d)) => some d
  | some (some (.own d)) => some d
  | some (some (.bor d)) => some d
  | _ => none
theorem slV_some : ∀ {o : Option (Option Sl)} {d : PyData}, slV o = some d → o = some (some (.val d))
  | some (some (.val _)), _, h => by cases h; rfl
  | some (some (.own _)), _, h => by cases h
  | some (some (.bor _)), _, h => by cases h
  | some (some .spot), _, h => by cases h
  | some (some (.own2 _)), _, h => by cases h
  | some (some (.scr _ _)), _, h => by cases h
  | some none, _, h => by cases h
  | none, _, h => by cases h
theorem slB_some : ∀ {o : Option (Option Sl)} {d : PyData}, slB o = some d → o = some (some (.val d)) ∨ o = some (some (.own d)) ∨ o = some (some (.bor d))
  | some (some (.val _)), _, h => by cases h; exact .inl rfl
  | some (some (.own _)), _, h => by cases h; exact .inr (.inl rfl)
  | some (some (.bor _)), _, h => by cases h; exact .inr (.inr rfl)
  | some (some .spot), _, h => by cases h
  | some (some (.own2 _)), _, h => by cases h
  | some (some (.scr _ _)), _, h => by cases h
  | some none, _, h => by cases h
  | none, _, h => by cases h
def vr (i : Nat) : Env3 → MM PyData := fun Δ => op (slV Δ[i]?)
def vb (i : Nat) : Env3 → MM PyData := fun Δ => op (slB Δ[i]?)
theorem de_var {i : Nat} {x : Str} (p : PE X (.Name x pos) (tVar i)) : DE X R (.Name x pos) (vr i) := by
  refine ⟨_, p, fun S H k Q i' w => ?_⟩
  obtain ⟨d, hd, hq⟩ := w.op
  obtain ⟨v, h1, h2⟩ := ER.slot i' i _ (slV_some hd)
  cases h2 with
  | val r => exact ⟨v, h1, hq v H i' (Ex.refl H) r⟩
theorem db_var {i : Nat} {x : Str} (p : PE X (.Name x pos) (tVar i)) : DB X R (.Name x pos) (vb i) := by
  refine ⟨_, p, fun S H k Q i' w => ?_⟩
  obtain ⟨d, hd, hq⟩ := w.op
  rcases slB_some hd with hd | hd | hd
  · obtain ⟨v, h1, h2⟩ := ER.slot i' i _ hd
    cases h2 with
    | val r => exact ⟨v, h1, hq v H i' (Ex.refl H) (.inl r)⟩
  · obtain ⟨v, h1, h2⟩ := ER.slot i' i _ hd
    cases h2 with
    | own m h0 n t => exact ⟨_, h1, hq _ H i' (Ex.refl H) (.inr ⟨_, rfl, m, n, t⟩)⟩
  · obtain ⟨v, h1, h2⟩ := ER.slot i' i _ hd
    cases h2 with
    | bor r h0 => exact ⟨_, h1, hq _ H i' (Ex.refl H) r⟩
def cs (d : PyData) : Env3 → MM PyData := fun _ => rt d
theorem de_c {v : V} {d : PyData} (p : PE X e (tC v)) (r : ∀ M H, Rp M H v d) : DE X R e (cs d) := ⟨_, p, fun S H k Q i w => w v H i (Ex.refl H) (r _ _)⟩
theorem de_int {i : Int} {j : Nat} : DE X R (.Constant (.int i) j pos) (cs (.int i)) := de_c pe_int fun _ _ => .int i
theorem de_str {x : Str} {j : Nat} : DE X R (.Constant (.str x) j pos) (cs (.str x)) := de_c pe_str fun _ _ => .str x
theorem de_bl {x : Bool} {j : Nat} : DE X R (.Constant (.bool x) j pos) (cs (.bool x)) := de_c pe_bl fun _ _ => .bl x
theorem de_non {j : Nat} : DE X R (.Constant .none j pos) (cs .none) := de_c pe_non fun _ _ => .non
/-- a global number or text -/
theorem de_gint {x : Str} {i : Int} {u : Tok} (hm : X.mg x = some (.int i u)) (hg : Gl X x := by rfl) (hd : (x == ("__debug__" : Str)) = false := by decide) : DE X R (.Name x pos) (cs (.int i)) := de_c (v := .int i) (pe_glob hg hm ⟨u, rfl⟩ hd) fun _ _ => .int i
theorem de_gstr {x : Str} {z : Str} {u : Tok} (hm : X.mg x = some (.str z u)) (hg : Gl X x := by rfl) (hd : (x == ("__debug__" : Str)) = false := by decide) : DE X R (.Name x pos) (cs (.str z)) := de_c (v := .str z) (pe_glob hg hm ⟨u, rfl⟩ hd) fun _ _ => .str z

theorem DG.use {Rel : Rel3} (hs : Rel.Stays) {f : Env3 → MM PyData} (h : DG Rel X R e f) : ∃ t, PE X e t ∧ ∀ (S : S3) (H : Hp) (k : Int) (Q : VK) {β : Type} (g : PyData → MM β) (P : β → Int → Prop), S.In H k → Wp (bd (f S.Δ) g k) P (S.er R H) →
    (∀ d k', Wp (g d k') P (S.er R H) → ∀ v H', S.In H' k' → Ex S.sp H H' → Rel S H' v d → Q v H') → t S.σ H Q := by
  obtain ⟨t, p, q⟩ := h
  exact ⟨t, p, fun S H k Q β g P i w n => q S H k Q i (w.bd.mono (fun d k' _ w' v H' i' e' r => n d k' w' v H' i' e' r) fun _ _ _ z => z)⟩

def OpS (X : Cx) (F : Value → Value → Sem Value) (g : PyData → PyData → Option PyData) : Prop :=
  ∃ r, OpR X F r ∧ ∀ (S : S3) (H : Hp) (k : Int) (x y : V) (a b d : PyData) (Q : VK), S.In H k → B3 S H x a → B3 S H y b → g a b = some d → (∀ v H', S.In H' k → Ex S.sp H H' → Rp S.M H' v d → Q v H') → r x y H Q
def bin (o : PyData → PyData → Option PyData) (f g : Env3 → MM PyData) : Env3 → MM PyData := fun Δ => bd (f Δ) fun x => bd (g Δ) fun y => op (o x y)
theorem de_bin {o : Operator} {F : PyData → PyData → Option PyData} (ho : OpS X (binaryOp o) F) (ha : DB X R a f) (hb : DB X R b g) : DE X R (.BinOp a o b pos) (bin F f g) := by
  obtain ⟨r, or, hr⟩ := ho
  obtain ⟨ta, pa, qa⟩ := ha.use b3_stays
  obtain ⟨tb, pb, qb⟩ := hb.use b3_stays
  refine ⟨_, pe_op or pa pb, fun S H k Q i w => ?_⟩
  refine qa S H k _ _ _ i w fun x k1 w1 v H1 i1 e1 r1 => ?_
  refine qb S H1 k1 _ _ _ i1 (w1.mono (fun _ _ _ z => z) fun _ _ _ z => z.mono e1) fun y k2 w2 u H2 i2 e2 r2 => ?_
  obtain ⟨d, hd, hq⟩ := w2.op
  exact hr S H2 k2 v u x y d Q i2 (b3_stays S H1 H2 k1 v x i1 e2 r1) r2 hd fun v' H' i' e' r' => hq v' H' i' ((e1.trans e2).trans e') r'
theorem de_cmp {o : CmpOp} {F : PyData → PyData → Option PyData} (ho : OpS X (compareOp o) F) (ha : DB X R a f) (hb : DB X R b g) (hm : behindInMarks o b = false := by first | exact nomark _ | rfl) : DE X R (.Compare a [o] [b] pos) (bin F f g) := by
  obtain ⟨r, or, hr⟩ := ho
  obtain ⟨ta, pa, qa⟩ := ha.use b3_stays
  obtain ⟨tb, pb, qb⟩ := hb.use b3_stays
  refine ⟨_, pe_cmpR or pa pb hm, fun S H k Q i w => ?_⟩
  refine qa S H k _ _ _ i w fun x k1 w1 v H1 i1 e1 r1 => ?_
  refine qb S H1 k1 _ _ _ i1 (w1.mono (fun _ _ _ z => z) fun _ _ _ z => z.mono e1) fun y k2 w2 u H2 i2 e2 r2 => ?_
  obtain ⟨d, hd, hq⟩ := w2.op
  exact hr S H2 k2 v u x y d Q i2 (b3_stays S H1 H2 k1 v x i1 e2 r1) r2 hd fun v' H' i' e' r' => hq v' H' i' ((e1.trans e2).trans e') r'
/-- what is a bool -/
def asB : PyData → Option Bool
  | .bool b => some b
  | _ => none
@[simp] theorem asB_bool (b : Bool) : asB (.bool b) = some b := Eq.trans rfl rfl
theorem rpB_bool {sp : Option Addr} {M : Addr → Prop} {H : Hp} {v : V} {b : Bool} (r : RpB sp M H v (.bool b)) : v = .bl b := by
  rcases r with r | ⟨_, _, _, _, t⟩
  · cases r; rfl
  · cases t
theorem asB_some {d : PyData} {b : Bool} (h : asB d = some b) : d = .bool b := by
  cases d <;> simp [asB] at h
  rw [h]
/-- low <= x <= high -/
def chn (o o' : PyData → PyData → Option PyData) (f g h : Env3 → MM PyData) : Env3 → MM PyData := fun Δ => bd (f Δ) fun x => bd (g Δ) fun y => bd (op ((o x y).bind asB)) fun c => if c = true then bd (h Δ) fun z => op (o' y z) else rt (.bool false)
theorem de_chain {o o' : CmpOp} {F F' : PyData → PyData → Option PyData} (ho : OpS X (compareOp o) F) (ho' : OpS X (compareOp o') F') (ha : DB X R a f) (hb : DB X R b g) (hc : DB X R c h) (hm1 : o ≠ .In := by decide) (hm2 : o ≠ .NotIn := by decide) (hm3 : o' ≠ .In := by decide) (hm4 : o' ≠ .NotIn := by decide) :
    DE X R (.Compare a [o, o'] [b, c] pos) (chn F F' f g h) := by
  obtain ⟨r, or, hr⟩ := ho
  obtain ⟨r', or', hr'⟩ := ho'
  obtain ⟨ta, pa, qa⟩ := ha.use b3_stays
  obtain ⟨tb, pb, qb⟩ := hb.use b3_stays
  obtain ⟨tc, pc, qc⟩ := hc.use b3_stays
  refine ⟨_, pe_chain or or' pa pb pc (nomark _ hm3 hm4), fun S H k Q i w => ?_⟩
  refine qa S H k _ _ _ i w fun x k1 w1 v H1 i1 e1 r1 => ?_
  refine qb S H1 k1 _ _ _ i1 (w1.mono (fun _ _ _ z => z) fun _ _ _ z => z.mono e1) fun y k2 w2 u H2 i2 e2 r2 => ?_
  obtain ⟨d, hd, hq⟩ := w2.bd.op
  cases hF : F x y with
  | none => rw [hF] at hd; cases hd
  | some d0 =>
    rw [hF] at hd
    have hb0 := asB_some (show asB d0 = some d from hd)
    subst hb0
    refine hr S H2 k2 v u x y _ _ i2 (b3_stays S H1 H2 k1 v x i1 e2 r1) r2 hF fun v' H3 i3 e3 r3 => ?_
    cases r3
    refine ⟨d, rfl, ?_⟩
    cases d with
    | false =>
      rw [if_neg Bool.false_ne_true] at hq ⊢
      exact hq _ H3 i3 ((e1.trans e2).trans e3) (.bl false)
    | true =>
      rw [if_pos rfl] at hq ⊢
      refine qc S H3 k2 _ _ _ i3 (hq.mono (fun _ _ _ z => z) fun _ _ _ z => z.mono (e2.trans e3)) fun z k4 w4 t H4 i4 e4 r4 => ?_
      obtain ⟨d', hd', hq'⟩ := w4.op
      exact hr' S H4 k4 u t y z d' Q i4 (b3_stays S H2 H4 k2 u y i2 (e3.trans e4) r2) r4 hd' fun v' H' i' e' r' => hq' v' H' i' ((((e1.trans e2).trans e3).trans e4).trans e') r'
end
end L3

set_option Elab.async false
set_option linter.all false
set_option maxRecDepth 100000
set_option maxHeartbeats 4000000
namespace L3
open PySem PySem.Spec PyProof.Rows L2

mutual
theorem Rp.dp {K : PySem.W.Frag} {M : Addr → Prop} {H : Hp} : ∀ {v : V} {d : PyData}, d.plain = true → Rp M H v d → Dp K H v d
  | _, _, _, .non => .non
  | _, _, _, .bl b => .bl b
  | _, _, _, .int i => .int i
  | _, _, _, .str x => .str x
  | _, _, h, .tup e _ r => .tup (.of e) (Rps.dp (by simpa [PyData.plain] using h) r)
  | _, _, h, .lst e _ r => .lst (.of e) (Rps.dp (by simpa [PyData.plain] using h) r)
  | _, _, h, .dct _ _ _ => by simp [PyData.plain] at h
theorem Rps.dp {K : PySem.W.Frag} {M : Addr → Prop} {H : Hp} : ∀ {v : List V} {d : List PyData}, PyData.plainAll d = true → Rps M H v d → DpAll K H v d
  | _, _, _, .nil => .nil
  | _, _, h, .cons r rs => by
    rw [PyData.plainAll, Bool.and_eq_true] at h
    exact .cons (Rp.dp h.1 r) (Rps.dp h.2 rs)
end
theorem RpB.dp {K : PySem.W.Frag} {sp : Option Addr} {M : Addr → Prop} {H : Hp} {v : V} {d : PyData} (h : d.plain = true) (r : RpB sp M H v d) : Dp K H v d := by
  rcases r with r | ⟨a, rfl, _, _, t⟩
  · exact r.dp h
  · cases t with
    | lst e r => exact .lst (.of e) (r.dp (by simpa [PyData.plain] using h))
    | dct e r => simp [PyData.plain] at h
/-- plain data, not too deep -/
def sh (d : PyData) : Bool := d.plain && decide (d.depth ≤ 60)
theorem sh_plain {d : PyData} (h : sh d = true) : d.plain = true := (Bool.and_eq_true_iff.mp h).1
theorem sh_depth {d : PyData} (h : sh d = true) : d.depth ≤ 60 := of_decide_eq_true (Bool.and_eq_true_iff.mp h).2
@[simp] theorem sh_int (i : Int) : sh (.int i) = true := by simp [sh, PyData.plain, PyData.depth]
@[simp] theorem sh_str (x : Str) : sh (.str x) = true := by simp [sh, PyData.plain, PyData.depth]
@[simp] theorem sh_bool (x : Bool) : sh (.bool x) = true := by simp [sh, PyData.plain, PyData.depth]
@[simp] theorem sh_none : sh .none = true := by simp [sh, PyData.plain, PyData.depth]

section
variable {X : Cx}
/-- an operator that answers a bool on data -/
theorem opS_data {F : Value → Value → Sem Value} {C : PyData → PyData → Bool} {g : PyData → PyData → Bool}
    (hC : ∀ a b, C a b = true → a.plain = true ∧ b.plain = true)
    (rule : ∀ (s : Shared) (v u : Value) (a b : PyData) (as bs : List Addr) (Q : Value → Shared → Prop), Reads s.heap v a as → Reads s.heap u b bs → C a b = true → Q (.bool (g a b)) s → wpAny (model X.prog X.w) X.A (F v u) Q X.xe s) :
    OpS X F (fun a b => if C a b = true then some (.bool (g a b)) else none) := by
  refine ⟨fun x y H Q => ∃ a b, Dp X.K H x a ∧ Dp X.K H y b ∧ C a b = true ∧ Q (.bl (g a b)) H, ?_, ?_⟩
  · intro pins s σ H x y v u Q I rx ry h
    obtain ⟨a, b, ha, hb, hc, q⟩ := h
    obtain ⟨as, r1⟩ := Dp.reads I a x v ha rx
    obtain ⟨bs, r2⟩ := Dp.reads I b y u hb ry
    exact rule s v u a b as bs _ r1 r2 hc ⟨.bl _, H, I, rfl, q⟩
  · intro S H k x y a b d Q i ra rb hd q
    have hd : (if C a b = true then some (PyData.bool (g a b)) else none) = some d := hd
    by_cases hc : C a b = true
    · rw [if_pos hc] at hd
      cases hd
      obtain ⟨p1, p2⟩ := hC a b hc
      exact ⟨a, b, RpB.dp p1 ra, RpB.dp p2 rb, hc, q _ H i (Ex.refl H) (.bl _)⟩
    · rw [if_neg hc] at hd; cases hd
/-- two operators' cases -/
theorem OpS.or {F : Value → Value → Sem Value} {g g' h : PyData → PyData → Option PyData} (o : OpS X F g) (o' : OpS X F g') (hh : ∀ a b d, h a b = some d → g a b = some d ∨ g' a b = some d) : OpS X F h := by
  obtain ⟨r, p, q⟩ := o
  obtain ⟨r', p', q'⟩ := o'
  refine ⟨_, OpR.or p p', fun S H k x y a b d Q i ra rb hd z => ?_⟩
  rcases hh a b d hd with e | e
  · exact .inl (q S H k x y a b d Q i ra rb e z)
  · exact .inr (q' S H k x y a b d Q i ra rb e z)
/-- an operator's rule where the answer makes no object -/
theorem opS_of {F : Value → Value → Sem Value} {r : R2} {g : PyData → PyData → Option PyData} (o : OpR X F r)
    (h : ∀ (S : S3) (H : Hp) (k : Int) (x y : V) (a b d : PyData) (Q : VK), S.In H k → B3 S H x a → B3 S H y b → g a b = some d → (∀ v H', S.In H' k → Ex S.sp H H' → Rp S.M H' v d → Q v H') → r x y H Q) : OpS X F g := ⟨r, o, h⟩

def both (a b : PyData) : Bool := sh a && sh b
theorem both_plain (a b : PyData) (h : both a b = true) : a.plain = true ∧ b.plain = true := ⟨sh_plain (Bool.and_eq_true_iff.mp h).1, sh_plain (Bool.and_eq_true_iff.mp h).2⟩
def eqD (a b : PyData) : Option PyData := if both a b = true then some (.bool (PyData.eqv a b)) else none
def neD (a b : PyData) : Option PyData := if both a b = true then some (.bool (!PyData.eqv a b)) else none
theorem room2 {A : Around} {a b : PyData} (hu : A.units + 64 < cLine) (h : both a b = true) : A.units + 1 + min a.depth b.depth < cLine := by
  have h1 := sh_depth (Bool.and_eq_true_iff.mp h).1
  have h2 : min a.depth b.depth ≤ a.depth := Nat.min_le_left _ _
  omega
theorem op3_eq (hu : X.A.units + 64 < cLine) : OpS X (compareOp .Eq) eqD := opS_data (C := both) both_plain fun s v u a b as bs Q ra rb hc q =>
  SeqAt.eq_plain ra rb (both_plain a b hc).1 (both_plain a b hc).2 (by have := room2 hu hc; omega) q
theorem op3_ne (hu : X.A.units + 64 < cLine) : OpS X (compareOp .NotEq) neD := opS_data (C := both) both_plain fun s v u a b as bs Q ra rb hc q =>
  SeqAt.ne_plain ra rb (both_plain a b hc).1 (both_plain a b hc).2 (by have := room2 hu hc; omega) q
def ordC (a b : PyData) : Bool := both a b && PySem.W.alike a b && (match a with | .none => false | _ => true)
theorem ordC_plain (a b : PyData) (h : ordC a b = true) : a.plain = true ∧ b.plain = true := both_plain a b (by simp only [ordC, Bool.and_eq_true] at h; exact h.1.1)
theorem ordC_parts {a b : PyData} (h : ordC a b = true) : both a b = true ∧ PySem.W.alike a b = true ∧ a ≠ .none := by
  simp only [ordC, Bool.and_eq_true] at h
  refine ⟨h.1.1, h.1.2, ?_⟩
  rintro rfl
  exact absurd h.2 (by decide)
def ltD (a b : PyData) : Option PyData := if ordC a b = true then some (.bool (PySem.W.dataLt a b)) else none
def gtD (a b : PyData) : Option PyData := if ordC a b = true then some (.bool (PySem.W.dataLt b a)) else none
def leD (a b : PyData) : Option PyData := if ordC a b = true then some (.bool (!PySem.W.dataLt b a)) else none
def geD (a b : PyData) : Option PyData := if ordC a b = true then some (.bool (!PySem.W.dataLt a b)) else none
theorem op3_lt (hu : X.A.units + 64 < cLine) : OpS X (compareOp .Lt) ltD := opS_data (C := ordC) ordC_plain fun s v u a b as bs Q ra rb hc q =>
  PySem.W.lt_data ra rb (ordC_parts hc).2.1 (ordC_parts hc).2.2 (by have := room2 hu (ordC_parts hc).1; omega) q
theorem op3_gt (hu : X.A.units + 64 < cLine) : OpS X (compareOp .Gt) gtD := opS_data (C := ordC) (g := fun a b => PySem.W.dataLt b a) ordC_plain fun s v u a b as bs Q ra rb hc q =>
  PySem.W.gt_data ra rb (ordC_parts hc).2.1 (ordC_parts hc).2.2 (by have := room2 hu (ordC_parts hc).1; omega) q
theorem op3_le (hu : X.A.units + 64 < cLine) : OpS X (compareOp .LtE) leD := opS_data (C := ordC) (g := fun a b => !PySem.W.dataLt b a) ordC_plain fun s v u a b as bs Q ra rb hc q =>
  PySem.W.le_data ra rb (ordC_parts hc).2.1 (ordC_parts hc).2.2 (by have := room2 hu (ordC_parts hc).1; omega) q
theorem op3_ge (hu : X.A.units + 64 < cLine) : OpS X (compareOp .GtE) geD := opS_data (C := ordC) (g := fun a b => !PySem.W.dataLt a b) ordC_plain fun s v u a b as bs Q ra rb hc q =>
  PySem.W.ge_data ra rb (ordC_parts hc).2.1 (ordC_parts hc).2.2 (by have := room2 hu (ordC_parts hc).1; omega) q
def items : PyData → Option (List PyData)
  | .list xs => some xs
  | .tuple xs => some xs
  | _ => none
def inC (a b : PyData) : Bool := both a b && (items b).isSome
theorem inC_plain (a b : PyData) (h : inC a b = true) : a.plain = true ∧ b.plain = true := both_plain a b (Bool.and_eq_true_iff.mp h).1
def inV3 (a b : PyData) : Bool := ((items b).getD []).any fun z => PyData.eqv z a
theorem depthAll_le : ∀ xs : List PyData, PyData.depthAll xs ≤ (PyData.list xs).depth := fun xs => by rw [PyData.depth]; exact Nat.le_succ _
theorem op3_inS (hu : X.A.units + 64 < cLine) : OpS X (compareOp .In) (fun a b => if inC a b = true then some (.bool (inV3 a b)) else none) := opS_data (C := inC) inC_plain fun s v u a b as bs Q ra rb hc q => by
  have hb := (Bool.and_eq_true_iff.mp hc).1
  have hd := sh_depth (Bool.and_eq_true_iff.mp hb).1
  have p := inC_plain a b hc
  cases b with
  | list xs => exact SeqAt.in_list_data rb ra (by simpa [PyData.plain] using p.2) p.1 (by have : min (PyData.depthAll xs) a.depth ≤ a.depth := Nat.min_le_right _ _; omega) q
  | tuple xs => exact SeqAt.in_tuple_data rb ra (by simpa [PyData.plain] using p.2) p.1 (by have : min (PyData.depthAll xs) a.depth ≤ a.depth := Nat.min_le_right _ _; omega) q
  | none => simp [inC, items] at hc
  | bool _ => simp [inC, items] at hc
  | int _ => simp [inC, items] at hc
  | str _ => simp [inC, items] at hc
  | dict _ => simp [inC, items] at hc
theorem op3_niS (hu : X.A.units + 64 < cLine) : OpS X (compareOp .NotIn) (fun a b => if inC a b = true then some (.bool (!inV3 a b)) else none) := opS_data (C := inC) (g := fun a b => !inV3 a b) inC_plain fun s v u a b as bs Q ra rb hc q => by
  have hb := (Bool.and_eq_true_iff.mp hc).1
  have hd := sh_depth (Bool.and_eq_true_iff.mp hb).1
  have p := inC_plain a b hc
  cases b with
  | list xs => exact SeqAt.notIn_list_data rb ra (by simpa [PyData.plain] using p.2) p.1 (by have : min (PyData.depthAll xs) a.depth ≤ a.depth := Nat.min_le_right _ _; omega) q
  | tuple xs => exact SeqAt.notIn_tuple_data rb ra (by simpa [PyData.plain] using p.2) p.1 (by have : min (PyData.depthAll xs) a.depth ≤ a.depth := Nat.min_le_right _ _; omega) q
  | none => simp [inC, items] at hc
  | bool _ => simp [inC, items] at hc
  | int _ => simp [inC, items] at hc
  | str _ => simp [inC, items] at hc
  | dict _ => simp [inC, items] at hc
def inStr (i j : Str) : Bool := !(Builtin.Str.occurrences j i 0 j.length 1).isEmpty
theorem rpB_str {sp : Option Addr} {M : Addr → Prop} {H : Hp} {v : V} {b : Str} (r : RpB sp M H v (.str b)) : v = .str b := by
  rcases r with r | ⟨_, _, _, _, t⟩
  · cases r; rfl
  · cases t
theorem rpB_int {sp : Option Addr} {M : Addr → Prop} {H : Hp} {v : V} {b : Int} (r : RpB sp M H v (.int b)) : v = .int b := by
  rcases r with r | ⟨_, _, _, _, t⟩
  · cases r; rfl
  · cases t
theorem rpB_none {sp : Option Addr} {M : Addr → Prop} {H : Hp} {v : V} (r : RpB sp M H v .none) : v = .non := by
  rcases r with r | ⟨_, _, _, _, t⟩
  · cases r; rfl
  · cases t
def asKey : PyData → Option Key
  | .int i => some (.inl i)
  | .str x => some (.inr x)
  | _ => none
theorem asKey_kV {sp : Option Addr} {M : Addr → Prop} {H : Hp} {v : V} {d : PyData} {k : Key} (h : asKey d = some k) (r : RpB sp M H v d) : v = kV k := by
  cases d with
  | int i => cases h; exact rpB_int r
  | str x => cases h; exact rpB_str r
  | _ => cases h
def keyD : Key → PyData
  | .inl i => .int i
  | .inr x => .str x
def dlook (ds : List (PyData × PyData)) (k : Key) : Option PyData := (ds.find? fun p => decide (asKey p.1 = some k)).map (·.2)
def dput (ds : List (PyData × PyData)) (k : Key) (v : PyData) : List (PyData × PyData) :=
  if (ds.any fun p => decide (asKey p.1 = some k)) = true then ds.map (fun p => if asKey p.1 = some k then (p.1, v) else p) else ds ++ [(keyD k, v)]
theorem RpK.look {M : Addr → Prop} {H : Hp} (k : Key) : ∀ {xs : List (Key × V)} {ds : List (PyData × PyData)}, RpK M H xs ds → (∀ d, dlook ds k = some d → ∃ v, valV xs k = some v ∧ Rp M H v d) ∧ (dlook ds k = none → valV xs k = none)
  | _, _, .nil => ⟨fun _ h => (by cases h), fun _ => rfl⟩
  | _, _, @RpK.int _ _ i v vs d ds h r => by
    by_cases e : (Sum.inl i : Key) = k
    · have e1 : dlook ((.int i, d) :: ds) k = some d := by simp [dlook, List.find?_cons, asKey, e]
      refine ⟨fun d' q => ?_, fun q => by rw [e1] at q; cases q⟩
      rw [e1] at q; cases q
      exact ⟨v, valV_pos e, h⟩
    · have e1 : dlook ((.int i, d) :: ds) k = dlook ds k := by simp [dlook, List.find?_cons, asKey, e]
      rw [e1, valV_neg e]
      exact RpK.look k r
  | _, _, @RpK.str _ _ i v vs d ds h r => by
    by_cases e : (Sum.inr i : Key) = k
    · have e1 : dlook ((.str i, d) :: ds) k = some d := by simp [dlook, List.find?_cons, asKey, e]
      refine ⟨fun d' q => ?_, fun q => by rw [e1] at q; cases q⟩
      rw [e1] at q; cases q
      exact ⟨v, valV_pos e, h⟩
    · have e1 : dlook ((.str i, d) :: ds) k = dlook ds k := by simp [dlook, List.find?_cons, asKey, e]
      rw [e1, valV_neg e]
      exact RpK.look k r
theorem RpK.mapIf {M : Addr → Prop} {H : Hp} (k : Key) {v : V} {d : PyData} (hv : Rp M H v d) : ∀ {xs : List (Key × V)} {ds : List (PyData × PyData)}, RpK M H xs ds →
    RpK M H (xs.map fun kv => if kv.1 = k then (kv.1, v) else kv) (ds.map fun p => if asKey p.1 = some k then (p.1, d) else p)
  | _, _, .nil => .nil
  | _, _, @RpK.int _ _ i u vs e ds h r => by
    by_cases z : (Sum.inl i : Key) = k
    · simp only [List.map_cons, asKey, z, if_true]
      rw [← z]
      exact .int hv (by have := RpK.mapIf k hv r; rw [← z] at this; exact this)
    · have z' : ¬ (asKey (PyData.int i) = some k) := by simp [asKey, z]
      simp only [List.map_cons, if_neg z, if_neg z']
      exact .int h (RpK.mapIf k hv r)
  | _, _, @RpK.str _ _ i u vs e ds h r => by
    by_cases z : (Sum.inr i : Key) = k
    · simp only [List.map_cons, asKey, z, if_true]
      rw [← z]
      exact .str hv (by have := RpK.mapIf k hv r; rw [← z] at this; exact this)
    · have z' : ¬ (asKey (PyData.str i) = some k) := by simp [asKey, z]
      simp only [List.map_cons, if_neg z, if_neg z']
      exact .str h (RpK.mapIf k hv r)
theorem RpK.any {M : Addr → Prop} {H : Hp} (k : Key) : ∀ {xs : List (Key × V)} {ds : List (PyData × PyData)}, RpK M H xs ds → (xs.any fun kv => decide (kv.1 = k)) = (ds.any fun p => decide (asKey p.1 = some k))
  | _, _, .nil => rfl
  | _, _, .int h r => by simp only [List.any_cons, RpK.any k r, asKey, Option.some.injEq]
  | _, _, .str h r => by simp only [List.any_cons, RpK.any k r, asKey, Option.some.injEq]
theorem RpK.append {M : Addr → Prop} {H : Hp} : ∀ {xs ys : List (Key × V)} {ds es : List (PyData × PyData)}, RpK M H xs ds → RpK M H ys es → RpK M H (xs ++ ys) (ds ++ es)
  | _, _, _, _, .nil, q => q
  | _, _, _, _, .int h r, q => .int h (RpK.append r q)
  | _, _, _, _, .str h r, q => .str h (RpK.append r q)
theorem RpK.put {M : Addr → Prop} {H : Hp} (k : Key) {v : V} {d : PyData} (hv : Rp M H v d) {xs : List (Key × V)} {ds : List (PyData × PyData)} (r : RpK M H xs ds) : RpK M H (putK xs k v) (dput ds k d) := by
  unfold putK dput
  rw [r.any k]
  split
  · exact r.mapIf k hv
  · refine r.append ?_
    cases k with
    | inl i => exact .int hv .nil
    | inr x => exact .str hv .nil
/-- dicts that are none of errors -/
def kd : List (PyData × PyData) → Bool
  | (.none, _) :: _ => false
  | _ => true
/-- data of an error -/
def exS : PyData → Bool
  | .dict ds => !kd ds
  | _ => false
theorem rpB_dict {sp : Option Addr} {M : Addr → Prop} {H : Hp} {v : V} {ds : List (PyData × PyData)} (r : RpB sp M H v (.dict ds)) (hk : kd ds = true) : ∃ a xs, v = .ref a ∧ Rd H a (.dK xs) ∧ RpK M H xs ds := by
  rcases r with r | ⟨a, rfl, _, _, t⟩
  · cases r with
    | dct h _ r => exact ⟨_, _, rfl, h, r⟩
    | exc _ _ _ _ _ => cases hk
    | ex0 _ _ => cases hk
  · cases t with
    | dct h r => exact ⟨_, _, rfl, .inl h, r⟩
theorem rpB_list {sp : Option Addr} {M : Addr → Prop} {H : Hp} {v : V} {ds : List PyData} (r : RpB sp M H v (.list ds)) : ∃ a xs, v = .ref a ∧ H a = some (.lst xs) ∧ Rps M H xs ds := by
  rcases r with r | ⟨a, rfl, _, _, t⟩
  · cases r with
    | lst h _ r => exact ⟨_, _, rfl, h, r⟩
  · cases t with
    | lst h r => exact ⟨_, _, rfl, h, r⟩
theorem rpB_tuple {sp : Option Addr} {M : Addr → Prop} {H : Hp} {v : V} {ds : List PyData} (r : RpB sp M H v (.tuple ds)) : ∃ a xs, v = .ref a ∧ H a = some (.tup xs) ∧ ¬ M a ∧ Rps M H xs ds := by
  rcases r with r | ⟨a, rfl, _, _, t⟩
  · cases r with
    | tup h n r => exact ⟨_, _, rfl, h, n, r⟩
  · cases t
def inDict (a b : PyData) : Option Bool := match b with
  | .dict ds => if kd ds = true then (asKey a).map (fun k => (dlook ds k).isSome) else none
  | _ => none
theorem RpK.get {M : Addr → Prop} {H : Hp} {xs : List (Key × V)} {ds : List (PyData × PyData)} (r : RpK M H xs ds) (k : Key) : (valV xs k).isSome = (dlook ds k).isSome := by
  obtain ⟨h1, h2⟩ := r.look k
  cases e : dlook ds k with
  | some d =>
    obtain ⟨v, e1, _⟩ := h1 d e
    rw [e1]; rfl
  | none => rw [h2 e]; rfl
theorem inDict_some {a b : PyData} {c : Bool} (h : inDict a b = some c) : ∃ ds k, b = .dict ds ∧ asKey a = some k ∧ c = (dlook ds k).isSome ∧ kd ds = true := by
  cases b with
  | dict ds =>
    unfold inDict at h
    dsimp only at h
    split at h
    · rename_i hk
      cases e : asKey a with
      | none => rw [e] at h; cases h
      | some k =>
        rw [e] at h
        exact ⟨ds, k, rfl, rfl, (Option.some.inj h).symm, hk⟩
    · cases h
  | _ => cases h
theorem op3_inD (hu : X.A.units + 64 < cLine) : OpS X (compareOp .In) (fun a b => (inDict a b).map .bool) := by
  refine ⟨fun y x H Q => ∃ a o, x = .ref a ∧ DGet H a y o ∧ Q (.bl o.isSome) H, ?_, ?_⟩
  · intro pins s σ H x y v u Q I rx ry h
    obtain ⟨a, o, rfl, g, q⟩ := h
    cases ry
    exact d_in (by omega) I g rx fun s3 I3 => ⟨.bl o.isSome, H, I3, rfl, q⟩
  · intro S H k x y a b d Q i ra rb hd q
    dsimp only at hd
    cases e : inDict a b with
    | none => rw [e] at hd; cases hd
    | some c =>
      rw [e] at hd
      cases hd
      obtain ⟨ds, kk, rfl, ka, rfl, hkd⟩ := inDict_some e
      obtain ⟨ad, xs, rfl, hr, rk⟩ := rpB_dict rb hkd
      refine ⟨ad, valV xs kk, rfl, .inl ⟨xs, kk, hr, asKey_kV ka ra, rfl⟩, ?_⟩
      rw [rk.get kk]
      exact q _ H i (Ex.refl H) (.bl _)
theorem op3_niD (hu : X.A.units + 64 < cLine) : OpS X (compareOp .NotIn) (fun a b => (inDict a b).map fun c => .bool (!c)) := by
  refine ⟨fun y x H Q => ∃ a o, x = .ref a ∧ DGet H a y o ∧ Q (.bl (!o.isSome)) H, ?_, ?_⟩
  · intro pins s σ H x y v u Q I rx ry h
    obtain ⟨a, o, rfl, g, q⟩ := h
    cases ry
    exact d_notIn (by omega) I g rx fun s3 I3 => ⟨.bl (!o.isSome), H, I3, rfl, q⟩
  · intro S H k x y a b d Q i ra rb hd q
    dsimp only at hd
    cases e : inDict a b with
    | none => rw [e] at hd; cases hd
    | some c =>
      rw [e] at hd
      cases hd
      obtain ⟨ds, kk, rfl, ka, rfl, hkd⟩ := inDict_some e
      obtain ⟨ad, xs, rfl, hr, rk⟩ := rpB_dict rb hkd
      refine ⟨ad, valV xs kk, rfl, .inl ⟨xs, kk, hr, asKey_kV ka ra, rfl⟩, ?_⟩
      rw [rk.get kk]
      exact q _ H i (Ex.refl H) (.bl _)
/-- in: texts, dicts, lists and tuples -/
def inD (a b : PyData) : Option PyData := match b with
  | .str j => match a with
    | .str i => some (.bool (inStr i j))
    | _ => none
  | .dict _ => (inDict a b).map .bool
  | _ => if inC a b = true then some (.bool (inV3 a b)) else none
def niD (a b : PyData) : Option PyData := match b with
  | .str j => match a with
    | .str i => some (.bool (!inStr i j))
    | _ => none
  | .dict _ => (inDict a b).map fun c => .bool (!c)
  | _ => if inC a b = true then some (.bool (!inV3 a b)) else none
theorem op3_inT : OpS X (compareOp .In) (fun a b => match a, b with | .str i, .str j => some (.bool (inStr i j)) | _, _ => none) := by
  refine opS_of op_in_str fun S H k x y a b d Q i ra rb hd q => ?_
  cases a <;> cases b <;> try (cases hd; done)
  cases hd
  exact ⟨_, _, rpB_str ra, rpB_str rb, q _ H i (Ex.refl H) (.bl _)⟩
theorem op3_niT : OpS X (compareOp .NotIn) (fun a b => match a, b with | .str i, .str j => some (.bool (!inStr i j)) | _, _ => none) := by
  refine opS_of op_notIn_str fun S H k x y a b d Q i ra rb hd q => ?_
  cases a <;> cases b <;> try (cases hd; done)
  cases hd
  exact ⟨_, _, rpB_str ra, rpB_str rb, q _ H i (Ex.refl H) (.bl _)⟩
theorem op3_in (hu : X.A.units + 64 < cLine) : OpS X (compareOp .In) inD := by
  refine (op3_inT.or ((op3_inD hu).or (op3_inS hu) (h := fun a b => match b with | .dict _ => (inDict a b).map .bool | _ => if inC a b = true then some (.bool (inV3 a b)) else none) ?_) ?_)
  · intro a b d h
    cases b <;> first | exact .inr h | exact .inl h
  · intro a b d h
    cases b with
    | str j => cases a <;> first | exact .inl h | (cases h; done)
    | _ => exact .inr h
theorem op3_ni (hu : X.A.units + 64 < cLine) : OpS X (compareOp .NotIn) niD := by
  refine (op3_niT.or ((op3_niD hu).or (op3_niS hu) (h := fun a b => match b with | .dict _ => (inDict a b).map (fun c => .bool (!c)) | _ => if inC a b = true then some (.bool (!inV3 a b)) else none) ?_) ?_)
  · intro a b d h
    cases b <;> first | exact .inr h | exact .inl h
  · intro a b d h
    cases b with
    | str j => cases a <;> first | exact .inl h | (cases h; done)
    | _ => exact .inr h
def isNone : PyData → Bool
  | .none => true
  | _ => false
def isN (a _b : PyData) : Option PyData := match _b with
  | .none => some (.bool (isNone a))
  | _ => none
def isNN (a _b : PyData) : Option PyData := match _b with
  | .none => some (.bool (!isNone a))
  | _ => none
theorem rpB_non {sp : Option Addr} {M : Addr → Prop} {H : Hp} {v : V} {a : PyData} (r : RpB sp M H v a) : decide (v = .non) = isNone a := by
  rcases r with r | ⟨_, rfl, _, _, t⟩
  · cases r <;> rfl
  · cases t <;> rfl
theorem op3_is : OpS X (compareOp .Is) isN := by
  refine opS_of op_isN fun S H k x y a b d Q i ra rb hd q => ?_
  cases b <;> try (cases hd; done)
  cases hd
  refine ⟨rpB_none rb, ?_⟩
  rw [rpB_non ra]
  exact q _ H i (Ex.refl H) (.bl _)
theorem op3_isN : OpS X (compareOp .IsNot) isNN := by
  refine opS_of op_notN fun S H k x y a b d Q i ra rb hd q => ?_
  cases b <;> try (cases hd; done)
  cases hd
  refine ⟨rpB_none rb, ?_⟩
  rw [rpB_non ra]
  exact q _ H i (Ex.refl H) (.bl _)

def addD (a b : PyData) : Option PyData := match a, b with
  | .int i, .int j => some (.int (i + j))
  | .str x, .str y => if x.length + y.length ≤ sizeLine then some (.str (x ++ y)) else none
  | .list xs, .list ys => if xs.length + ys.length ≤ sizeLine then some (.list (xs ++ ys)) else none
  | .tuple xs, .tuple ys => if xs.length + ys.length ≤ sizeLine then some (.tuple (xs ++ ys)) else none
  | _, _ => none
def rCat0 (K : PySem.W.Frag) : R2 := fun x y H Q => ∃ a b xs ys, x = .ref a ∧ y = .ref b ∧ SqT K H a xs ∧ SqT K H b ys ∧ xs = [] ∧ Q (.ref b) H
theorem op_cat0 : OpR X (binaryOp .Add) (rCat0 X.K) := by
  intro pins s σ H x y v u Q I rx ry h
  obtain ⟨a, b, xs, ys, rfl, rfl, ha, hb, rfl, q⟩ := h
  cases rx
  cases ry
  obtain ⟨its, r1, ht, _⟩ := I.tuple ha
  obtain ⟨its2, r2, hb, hz2⟩ := I.tuple hb
  cases r1
  obtain ⟨⟨cls, dd, data, sl⟩, ho, hc, n, hd⟩ := id ht
  obtain ⟨⟨cls2, dd2, data2, sl2⟩, ho2, hc2, n2, hd2⟩ := id hb
  simp only at hc hd hc2 hd2
  subst hc hd hc2 hd2
  exact concat_meets ⟨_, ho, rfl⟩ ⟨_, ho2, rfl⟩ noFill_tuple_add seq_tuple_add PySem.F.slot_tuple_add PySem.F.entry_tuple_add (PySem.F.args_tuple_add_2 _ _)
      (tuple_addW0 a b _ its2.toArray n n2 dd dd2 sl sl2 (by simp)) ⟨ho, ho2, ⟨.ref b, H, I, rfl, q⟩⟩
theorem op3_add : OpS X (binaryOp .Add) addD := by
  have o1 : OpS X (binaryOp .Add) (fun a b => match a, b with | .int i, .int j => some (.int (i + j)) | _, _ => none) := by
    refine opS_of op_add fun S H k x y a b d Q i ra rb hd q => ?_
    cases a <;> cases b <;> try (cases hd; done)
    cases hd
    exact ⟨_, _, rpB_int ra, rpB_int rb, q _ H i (Ex.refl H) (.int _)⟩
  have o2 : OpS X (binaryOp .Add) (fun a b => match a, b with | .str x, .str y => if x.length + y.length ≤ sizeLine then some (.str (x ++ y)) else none | _, _ => none) := by
    refine opS_of op_add_str fun S H k x y a b d Q i ra rb hd q => ?_
    cases a <;> cases b <;> try (cases hd; done)
    rename_i z z'
    have hd : (if z.length + z'.length ≤ sizeLine then some (PyData.str (z ++ z')) else none) = some d := hd
    split at hd
    · rename_i hl
      cases hd
      exact ⟨_, _, rpB_str ra, rpB_str rb, hl, q _ H i (Ex.refl H) (.str _)⟩
    · cases hd
  have o3 : OpS X (binaryOp .Add) (fun a b => match a, b with | .list xs, .list ys => if xs.length + ys.length ≤ sizeLine then some (.list (xs ++ ys)) else none | _, _ => none) := by
    refine opS_of op_cat fun S H k x y a b d Q i ra rb hd q => ?_
    cases a <;> cases b <;> try (cases hd; done)
    rename_i z z'
    have hd : (if z.length + z'.length ≤ sizeLine then some (PyData.list (z ++ z')) else none) = some d := hd
    split at hd
    · rename_i hl
      cases hd
      obtain ⟨a1, xs, rfl, h1, r1⟩ := rpB_list ra
      obtain ⟨a2, ys, rfl, h2, r2⟩ := rpB_list rb
      refine ⟨_, _, xs, ys, rfl, rfl, h1, h2, by rw [r1.length, r2.length]; exact hl, fun p hp => ?_⟩
      have e : Ex S.sp H (upd H p (.lst (xs ++ ys))) := Ex.new hp
      exact q _ _ (ER.new i hp) e (.lst upd_same (ER.fresh i hp) (ER.rps i e (r1.append r2)))
    · cases hd
  have o4 : OpS X (binaryOp .Add) (fun a b => match a, b with | .tuple xs, .tuple ys => if xs.length + ys.length ≤ sizeLine then some (.tuple (xs ++ ys)) else none | _, _ => none) := by
    refine opS_of (op_cat0.or op_catT) fun S H k x y a b d Q i ra rb hd q => ?_
    cases a <;> cases b <;> try (cases hd; done)
    rename_i z z'
    have hd : (if z.length + z'.length ≤ sizeLine then some (PyData.tuple (z ++ z')) else none) = some d := hd
    split at hd
    · rename_i hl
      cases hd
      obtain ⟨a1, xs, rfl, h1, n1, r1⟩ := rpB_tuple ra
      obtain ⟨a2, ys, rfl, h2, n2, r2⟩ := rpB_tuple rb
      by_cases hx : xs = []
      · subst hx
        cases r1
        exact .inl ⟨_, _, [], ys, rfl, rfl, .of h1, .of h2, rfl, q _ H i (Ex.refl H) (.tup h2 n2 r2)⟩
      · refine .inr ⟨_, _, xs, ys, rfl, rfl, .of h1, .of h2, hx, by rw [r1.length, r2.length]; exact hl, fun hy => ?_, fun hy p hp => ?_⟩
        · subst hy
          cases r2
          rw [List.append_nil] at q
          exact q _ H i (Ex.refl H) (.tup h1 n1 r1)
        · have e : Ex S.sp H (upd H p (.tup (xs ++ ys))) := Ex.new hp
          exact q _ _ (ER.new i hp) e (.tup upd_same (ER.fresh i hp) (ER.rps i e (r1.append r2)))
    · cases hd
  refine o1.or (o2.or (o3.or o4 (h := fun a b => match a, b with | .list xs, .list ys => if xs.length + ys.length ≤ sizeLine then some (.list (xs ++ ys)) else none | .tuple xs, .tuple ys => if xs.length + ys.length ≤ sizeLine then some (.tuple (xs ++ ys)) else none | _, _ => none) ?_)
    (h := fun a b => match a, b with | .str x, .str y => if x.length + y.length ≤ sizeLine then some (.str (x ++ y)) else none | .list xs, .list ys => if xs.length + ys.length ≤ sizeLine then some (.list (xs ++ ys)) else none | .tuple xs, .tuple ys => if xs.length + ys.length ≤ sizeLine then some (.tuple (xs ++ ys)) else none | _, _ => none) ?_) ?_
  all_goals
    intro a b d h
    cases a <;> cases b <;> first | (exact .inl h) | (exact .inr h) | (cases h; done)
def subD (a b : PyData) : Option PyData := match a, b with
  | .int i, .int j => some (.int (i - j))
  | _, _ => none
theorem op3_sub : OpS X (binaryOp .Sub) subD := by
  refine opS_of op_sub fun S H k x y a b d Q i ra rb hd q => ?_
  cases a <;> cases b <;> try (cases hd; done)
  cases hd
  exact ⟨_, _, rpB_int ra, rpB_int rb, q _ H i (Ex.refl H) (.int _)⟩
def mulD (a b : PyData) : Option PyData := match a, b with
  | .int i, .int j => if (-(2 ^ 64) < i ∧ i < 2 ^ 64) ∨ (-(2 ^ 64) < j ∧ j < 2 ^ 64) then some (.int (i * j)) else none
  | .str x, .int n => if 1 ≤ n ∧ n ≤ 10000 ∧ x.length ≤ 1000 then some (.str (Txt.mul x n)) else none
  | _, _ => none
def modD (a b : PyData) : Option PyData := match a, b with
  | .int i, .int j => if 0 < j then some (.int (i % j)) else none
  | _, _ => none
theorem op3_mod : OpS X (binaryOp .Mod) modD := by
  refine opS_of op_mod fun S H k x y a b d Q i ra rb hd q => ?_
  cases a <;> cases b <;> try (cases hd; done)
  rename_i z z'
  have hd : (if 0 < z' then some (PyData.int (z % z')) else none) = some d := hd
  split at hd
  · rename_i hl
    cases hd
    exact ⟨_, _, rpB_int ra, rpB_int rb, hl, q _ H i (Ex.refl H) (.int _)⟩
  · cases hd
def fdivD (a b : PyData) : Option PyData := match a, b with
  | .int i, .int j => if 0 < j ∧ j < 1073741824 then some (.int (i / j)) else none
  | _, _ => none
theorem op3_fdiv : OpS X (binaryOp .FloorDiv) fdivD := by
  refine opS_of op_fdiv fun S H k x y a b d Q i ra rb hd q => ?_
  cases a <;> cases b <;> try (cases hd; done)
  rename_i z z'
  have hd : (if 0 < z' ∧ z' < 1073741824 then some (PyData.int (z / z')) else none) = some d := hd
  split at hd
  · rename_i hl
    cases hd
    exact ⟨_, _, rpB_int ra, rpB_int rb, hl, q _ H i (Ex.refl H) (.int _)⟩
  · cases hd
def powD (a b : PyData) : Option PyData := match a, b with
  | .int i, .int j => if 0 ≤ j ∧ j ≤ 1000000 ∧ i.natAbs < 2 ^ 64 then some (.int (i ^ j.toNat)) else none
  | _, _ => none
theorem op3_pow : OpS X (binaryOp .Pow) powD := by
  refine opS_of op_pow fun S H k x y a b d Q i ra rb hd q => ?_
  cases a <;> cases b <;> try (cases hd; done)
  rename_i z z'
  have hd : (if 0 ≤ z' ∧ z' ≤ 1000000 ∧ z.natAbs < 2 ^ 64 then some (PyData.int (z ^ z'.toNat)) else none) = some d := hd
  split at hd
  · rename_i hl
    cases hd
    exact ⟨_, _, rpB_int ra, rpB_int rb, hl, q _ H i (Ex.refl H) (.int _)⟩
  · cases hd
end
end L3

set_option Elab.async false
set_option linter.all false
set_option maxRecDepth 100000
set_option maxHeartbeats 4000000
namespace L3
open PySem PySem.Spec PyProof.Rows L2

theorem pe_alt {X : Cx} {e : Expr} {t t' : TE} (h : PE X e t) (h' : PE X e t') : PE X e (fun σ H Q => t σ H Q ∨ t' σ H Q) :=
  ⟨fun pins s σ H Q I q => q.elim (h.run pins s σ H Q I) (h'.run pins s σ H Q I)⟩
/-- what comes back is fresh in the heap before -/
theorem ER.back {H0 : Hp} {M0 M : Addr → Prop} {sp : Option Addr} {H H' : Hp} {σ σ' : L2.St} {Δ Δ' : Env3} {k k' : Int} (R : ER H0 M0 sp M H σ Δ k) (R' : ER H0 M0 sp M H' σ' Δ' k') (e : Ex sp H H') {p : Addr} (h : H' p = none) : H p = none := by
  cases q : H p with
  | none => rfl
  | some o =>
    by_cases hs : sp = some p
    · obtain ⟨u, q'⟩ := (R'.spot p hs).2.there
      rw [q'] at h; cases h
    · rw [e p o q hs] at h; cases h

section
variable {X : Cx} {R : RX} {e a b c : Expr} {es : List Expr} {f g h : Env3 → MM PyData} {pos : Pos}

def tst (f : Env3 → MM PyData) : Env3 → MM Bool := fun Δ => bd (f Δ) fun x => op (asB x)
theorem dt_val (h : DB X R e f) (he : ∀ whole, isTrue e X.env whole = (do let v ← whole; standAt e.pos; holding [v] (truthy v)) := by intro _; rfl) : DT X R e (tst f) := by
  obtain ⟨t, p, q⟩ := h.use b3_stays
  refine ⟨_, pt_val p he, fun S H k Q i w => ?_⟩
  refine q S H k _ _ _ i w fun x k1 w1 v H1 i1 e1 r1 => ?_
  obtain ⟨d, hd, hq⟩ := w1.op
  cases asB_some hd
  cases rpB_bool r1
  exact ⟨d, rfl, hq d H1 i1 e1 rfl⟩
theorem dt_cmp {o : CmpOp} {F : PyData → PyData → Option PyData} (ho : OpS X (compareOp o) F) (ha : DB X R a f) (hb : DB X R b g) (hm : behindInMarks o b = false := by first | exact nomark _ | rfl) : DT X R (.Compare a [o] [b] pos) (tst (bin F f g)) := by
  obtain ⟨r, or, hr⟩ := ho
  obtain ⟨ta, pa, qa⟩ := ha.use b3_stays
  obtain ⟨tb, pb, qb⟩ := hb.use b3_stays
  refine ⟨_, pt_cmpR or pa pb hm, fun S H k Q i w => ?_⟩
  unfold tst bin at w
  rw [bd_assoc] at w
  refine qa S H k _ _ _ i w fun x k1 w1 v H1 i1 e1 r1 => ?_
  rw [bd_assoc] at w1
  refine qb S H1 k1 _ _ _ i1 (w1.mono (fun _ _ _ z => z) fun _ _ _ z => z.mono e1) fun y k2 w2 u H2 i2 e2 r2 => ?_
  obtain ⟨d, hd, hq⟩ := w2.bd.op
  obtain ⟨b, hb, hq⟩ := hq.op
  cases asB_some hb
  refine hr S H2 k2 v u x y _ _ i2 (b3_stays S H1 H2 k1 v x i1 e2 r1) r2 hd fun v' H' i' e' r' => ?_
  cases r'
  exact ⟨b, rfl, hq b H' i' ((e1.trans e2).trans e') rfl⟩
theorem dt_chain {o o' : CmpOp} {F F' : PyData → PyData → Option PyData} (ho : OpS X (compareOp o) F) (ho' : OpS X (compareOp o') F') (ha : DB X R a f) (hb : DB X R b g) (hc : DB X R c h) (hm3 : o' ≠ .In := by decide) (hm4 : o' ≠ .NotIn := by decide) :
    DT X R (.Compare a [o, o'] [b, c] pos) (tst (chn F F' f g h)) := by
  obtain ⟨r, or, hr⟩ := ho
  obtain ⟨r', or', hr'⟩ := ho'
  obtain ⟨ta, pa, qa⟩ := ha.use b3_stays
  obtain ⟨tb, pb, qb⟩ := hb.use b3_stays
  obtain ⟨tc, pc, qc⟩ := hc.use b3_stays
  refine ⟨_, pt_chain or or' pa pb pc (nomark _ hm3 hm4), fun S H k Q i w => ?_⟩
  unfold tst chn at w
  rw [bd_assoc] at w
  refine qa S H k _ _ _ i w fun x k1 w1 v H1 i1 e1 r1 => ?_
  rw [bd_assoc] at w1
  refine qb S H1 k1 _ _ _ i1 (w1.mono (fun _ _ _ z => z) fun _ _ _ z => z.mono e1) fun y k2 w2 u H2 i2 e2 r2 => ?_
  rw [bd_assoc] at w2
  obtain ⟨d, hd, hq⟩ := w2.bd.op
  cases hF : F x y with
  | none => rw [hF] at hd; cases hd
  | some d0 =>
    rw [hF] at hd
    have hb0 := asB_some (show asB d0 = some d from hd)
    subst hb0
    refine hr S H2 k2 v u x y _ _ i2 (b3_stays S H1 H2 k1 v x i1 e2 r1) r2 hF fun v' H3 i3 e3 r3 => ?_
    cases r3
    refine ⟨d, rfl, ?_⟩
    cases d with
    | false =>
      rw [if_neg Bool.false_ne_true] at hq ⊢
      exact ⟨false, rfl, (show S.ok (fun _ b c => b = c) H Q false k2 from hq) _ H3 i3 ((e1.trans e2).trans e3) rfl⟩
    | true =>
      rw [if_pos rfl] at hq ⊢
      rw [bd_assoc] at hq
      refine qc S H3 k2 _ _ _ i3 (hq.mono (fun _ _ _ z => z) fun _ _ _ z => z.mono (e2.trans e3)) fun z k4 w4 t H4 i4 e4 r4 => ?_
      obtain ⟨d', hd', hq'⟩ := w4.bd.op
      obtain ⟨b', hb', hq'⟩ := hq'.op
      cases asB_some hb'
      refine hr' S H4 k4 u t y z _ _ i4 (b3_stays S H2 H4 k2 u y i2 (e3.trans e4) r2) r4 hd' fun v' H' i' e' r' => ?_
      cases r'
      exact ⟨b', rfl, hq' b' H' i' ((((e1.trans e2).trans e3).trans e4).trans e') rfl⟩
/-- truth of a list, a tuple, a text, a number -/
def truD : PyData → Option Bool
  | .none => some false
  | .bool b => some b
  | .int i => some (i != 0)
  | .str x => if x.length ≤ sizeLine then some ((x.length : Int) != 0) else none
  | .list xs => some (!xs.isEmpty)
  | .tuple xs => some (!xs.isEmpty)
  | .dict _ => none
def tru (f : Env3 → MM PyData) : Env3 → MM Bool := fun Δ => bd (f Δ) fun x => op (truD x)
theorem rps_isEmpty {M : Addr → Prop} {H : Hp} {xs : List V} {ds : List PyData} (r : Rps M H xs ds) : xs.isEmpty = ds.isEmpty := by cases r <;> rfl
theorem dt_truth (h : DB X R e f) (he : ∀ whole, isTrue e X.env whole = (do let v ← whole; standAt e.pos; holding [v] (truthy v)) := by intro _; rfl) : DT X R e (tru f) := by
  obtain ⟨t, p, q⟩ := h.use b3_stays
  refine ⟨_, pt_truth p he, fun S H k Q i w => ?_⟩
  refine q S H k _ _ _ i w fun x k1 w1 v H1 i1 e1 r1 => ?_
  obtain ⟨d, hd, hq⟩ := w1.op
  refine ⟨d, ?_, hq d H1 i1 e1 rfl⟩
  cases x with
  | none => cases hd; rw [rpB_none r1]; rfl
  | bool b => cases hd; rw [rpB_bool r1]; rfl
  | int b => cases hd; rw [rpB_int r1]; rfl
  | str b =>
    rw [rpB_str r1]
    have hd : (if b.length ≤ sizeLine then some ((b.length : Int) != 0) else none) = some d := hd
    split at hd
    · rename_i hl; cases hd; exact ⟨hl, rfl⟩
    · cases hd
  | list xs =>
    obtain ⟨a, ys, rfl, h1, h2⟩ := rpB_list r1
    cases hd
    exact .inl ⟨ys, .of h1, by rw [rps_isEmpty h2]⟩
  | tuple xs =>
    obtain ⟨a, ys, rfl, h1, _, h2⟩ := rpB_tuple r1
    cases hd
    exact .inr (.inl ⟨ys, .of h1, by rw [rps_isEmpty h2]⟩)
  | dict xs => cases hd
theorem DT.use {f : Env3 → MM Bool} (h : DT X R e f) : ∃ t, PT X e t ∧ ∀ (S : S3) (H : Hp) (k : Int) (Q : Bool → Hp → Prop) {β : Type} (g : Bool → MM β) (P : β → Int → Prop), S.In H k → Wp (bd (f S.Δ) g k) P (S.er R H) →
    (∀ c k' H', Wp (g c k') P (S.er R H) → S.In H' k' → Ex S.sp H H' → Q c H') → t S.σ H Q := by
  obtain ⟨t, p, q⟩ := h
  exact ⟨t, p, fun S H k Q β g P i w n => q S H k Q i (w.bd.mono (fun d k' _ w' v H' i' e' r => by cases r; exact n _ k' H' w' i' e') fun _ _ _ z => z)⟩
theorem DA.use {Rel : Rel3} {f : Env3 → MM (List PyData)} (h : DA Rel X R es f) : ∃ t, PA X es t ∧ ∀ (S : S3) (H : Hp) (k : Int) (Q : List V → Hp → Prop) {β : Type} (g : List PyData → MM β) (P : β → Int → Prop), S.In H k → Wp (bd (f S.Δ) g k) P (S.er R H) →
    (∀ ds k', Wp (g ds k') P (S.er R H) → ∀ vs H', S.In H' k' → Ex S.sp H H' → All2 (Rel S H') vs ds → Q vs H') → t S.σ H Q := by
  obtain ⟨t, p, q⟩ := h
  exact ⟨t, p, fun S H k Q β g P i w n => q S H k Q i (w.bd.mono (fun d k' _ w' v H' i' e' r => n d k' w' v H' i' e' r) fun _ _ _ z => z)⟩
/-- a chain of and, or -/
def DW (X : Cx) (R : RX) (e : Expr) (f : Env3 → MM Bool) : Prop :=
  ∃ t, PW X e t ∧ ∀ (S : S3) (H : Hp) (k : Int) (Q : Bool → Hp → Prop), S.In H k → Wp (f S.Δ k) (S.ok (fun _ b c => b = c) H Q) (S.er R H) → t S.σ H Q
theorem DW.t {f : Env3 → MM Bool} (h : DW X R e f) : DT X R e f := by
  obtain ⟨t, p, q⟩ := h
  exact ⟨t, p.pt, q⟩
def andT (f g : Env3 → MM Bool) : Env3 → MM Bool := fun Δ => bd (f Δ) fun c => if c = true then g Δ else rt false
def orT (f g : Env3 → MM Bool) : Env3 → MM Bool := fun Δ => bd (f Δ) fun c => if c = true then rt true else g Δ
def notT (f : Env3 → MM Bool) : Env3 → MM Bool := fun Δ => bd (f Δ) fun c => rt (!c)
theorem dw_and1 {f : Env3 → MM Bool} (ha : DT X R a f) : DW X R (.BoolOp .And [a] pos) f := by
  obtain ⟨t, p, q⟩ := ha
  exact ⟨t, pw_and1 p, q⟩
theorem dw_or1 {f : Env3 → MM Bool} (ha : DT X R a f) : DW X R (.BoolOp .Or [a] pos) f := by
  obtain ⟨t, p, q⟩ := ha
  exact ⟨t, pw_or1 p, q⟩
theorem dw_and {f g : Env3 → MM Bool} (ha : DT X R a f) (hb : DW X R (.BoolOp .And (b :: es) pos) g) : DW X R (.BoolOp .And (a :: b :: es) pos) (andT f g) := by
  obtain ⟨t, p, q⟩ := ha.use
  obtain ⟨t', p', q'⟩ := hb
  refine ⟨_, pw_and p p', fun S H k Q i w => q S H k _ _ _ i w fun c k1 H1 w1 i1 e1 => ?_⟩
  cases c with
  | true => 
    rw [if_pos rfl] at w1 ⊢
    exact q' S H1 k1 Q i1 (w1.mono (fun _ _ _ z => z.mono e1) fun _ _ _ z => z.mono e1)
  | false =>
    rw [if_neg Bool.false_ne_true] at w1 ⊢
    exact w1 _ H1 i1 e1 rfl
theorem dw_or {f g : Env3 → MM Bool} (ha : DT X R a f) (hb : DW X R (.BoolOp .Or (b :: es) pos) g) : DW X R (.BoolOp .Or (a :: b :: es) pos) (orT f g) := by
  obtain ⟨t, p, q⟩ := ha.use
  obtain ⟨t', p', q'⟩ := hb
  refine ⟨_, pw_or p p', fun S H k Q i w => q S H k _ _ _ i w fun c k1 H1 w1 i1 e1 => ?_⟩
  cases c with
  | true => 
    rw [if_pos rfl] at w1 ⊢
    exact w1 _ H1 i1 e1 rfl
  | false =>
    rw [if_neg Bool.false_ne_true] at w1 ⊢
    exact q' S H1 k1 Q i1 (w1.mono (fun _ _ _ z => z.mono e1) fun _ _ _ z => z.mono e1)
theorem dt_not {f : Env3 → MM Bool} (ha : DT X R a f) : DT X R (.UnaryOp .Not a pos) (notT f) := by
  obtain ⟨t, p, q⟩ := ha.use
  refine ⟨_, pt_not p, fun S H k Q i w => q S H k _ _ _ i w fun c k1 H1 w1 i1 e1 => ?_⟩
  exact w1 _ H1 i1 e1 rfl
def andV (f g : Env3 → MM PyData) : Env3 → MM PyData := fun Δ => bd (f Δ) fun x => bd (op (asB x)) fun c => if c = true then g Δ else rt (.bool false)
def orV (f g : Env3 → MM PyData) : Env3 → MM PyData := fun Δ => bd (f Δ) fun x => bd (op (asB x)) fun c => if c = true then rt (.bool true) else g Δ
def notV (f : Env3 → MM PyData) : Env3 → MM PyData := fun Δ => bd (f Δ) fun x => bd (op (asB x)) fun c => rt (.bool (!c))
theorem de_one {o : BoolOp} (ha : DE X R a f) : DE X R (.BoolOp o [a] pos) f := by
  obtain ⟨t, p, q⟩ := ha
  exact ⟨t, pe_one p, q⟩
theorem de_and (ha : DE X R a f) (hb : DE X R (.BoolOp .And (b :: es) pos) g) : DE X R (.BoolOp .And (a :: b :: es) pos) (andV f g) := by
  obtain ⟨t, p, q⟩ := ha.use p3_stays
  obtain ⟨t', p', q'⟩ := hb
  refine ⟨_, pe_and p p', fun S H k Q i w => q S H k _ _ _ i w fun x k1 w1 v H1 i1 e1 r1 => ?_⟩
  obtain ⟨d, hd, hq⟩ := w1.bd.op
  cases asB_some hd
  cases r1
  refine ⟨d, rfl, ?_⟩
  cases d with
  | true => 
    rw [if_pos rfl] at hq ⊢
    exact q' S H1 k1 Q i1 (hq.mono (fun _ _ _ z => z.mono e1) fun _ _ _ z => z.mono e1)
  | false =>
    rw [if_neg Bool.false_ne_true] at hq ⊢
    exact hq _ H1 i1 e1 (.bl false)
theorem de_or (ha : DE X R a f) (hb : DE X R (.BoolOp .Or (b :: es) pos) g) : DE X R (.BoolOp .Or (a :: b :: es) pos) (orV f g) := by
  obtain ⟨t, p, q⟩ := ha.use p3_stays
  obtain ⟨t', p', q'⟩ := hb
  refine ⟨_, pe_or p p', fun S H k Q i w => q S H k _ _ _ i w fun x k1 w1 v H1 i1 e1 r1 => ?_⟩
  obtain ⟨d, hd, hq⟩ := w1.bd.op
  cases asB_some hd
  cases r1
  refine ⟨d, rfl, ?_⟩
  cases d with
  | true => 
    rw [if_pos rfl] at hq ⊢
    exact hq _ H1 i1 e1 (.bl true)
  | false =>
    rw [if_neg Bool.false_ne_true] at hq ⊢
    exact q' S H1 k1 Q i1 (hq.mono (fun _ _ _ z => z.mono e1) fun _ _ _ z => z.mono e1)
theorem de_not (ha : DE X R a f) : DE X R (.UnaryOp .Not a pos) (notV f) := by
  obtain ⟨t, p, q⟩ := ha.use p3_stays
  refine ⟨_, pe_not p, fun S H k Q i w => q S H k _ _ _ i w fun x k1 w1 v H1 i1 e1 r1 => ?_⟩
  obtain ⟨d, hd, hq⟩ := w1.bd.op
  cases asB_some hd
  cases r1
  exact ⟨d, rfl, hq _ H1 i1 e1 (.bl _)⟩
def ifV (t : Env3 → MM Bool) (f g : Env3 → MM PyData) : Env3 → MM PyData := fun Δ => bd (t Δ) fun c => if c = true then f Δ else g Δ
theorem dg_if {Rel : Rel3} {t : Env3 → MM Bool} (hc : DT X R c t) (ha : DG Rel X R a f) (hb : DG Rel X R b g) : DG Rel X R (.IfExp c a b pos) (ifV t f g) := by
  obtain ⟨tc, pc, qc⟩ := hc.use
  obtain ⟨ta, pa, qa⟩ := ha
  obtain ⟨tb, pb, qb⟩ := hb
  refine ⟨_, pe_ifExp pc pa pb, fun S H k Q i w => qc S H k _ _ _ i w fun c k1 H1 w1 i1 e1 => ?_⟩
  cases c with
  | true => 
    rw [if_pos rfl] at w1 ⊢
    exact qa S H1 k1 Q i1 (w1.mono (fun _ _ _ z => z.mono e1) fun _ _ _ z => z.mono e1)
  | false =>
    rw [if_neg Bool.false_ne_true] at w1 ⊢
    exact qb S H1 k1 Q i1 (w1.mono (fun _ _ _ z => z.mono e1) fun _ _ _ z => z.mono e1)
def negV (f : Env3 → MM PyData) : Env3 → MM PyData := fun Δ => bd (f Δ) fun x => match x with | .int i => rt (.int (-i)) | _ => fl
theorem de_neg (ha : DE X R a f) : DE X R (.UnaryOp .USub a pos) (negV f) := by
  obtain ⟨t, p, q⟩ := ha.use p3_stays
  refine ⟨_, pe_un un_neg p, fun S H k Q i w => q S H k _ _ _ i w fun x k1 w1 v H1 i1 e1 r1 => ?_⟩
  cases x <;> try (exact w1.elim)
  cases r1
  exact ⟨_, rfl, w1 _ H1 i1 e1 (.int _)⟩

def an : Env3 → MM (List PyData) := fun _ => rt []
def ac (f : Env3 → MM PyData) (g : Env3 → MM (List PyData)) : Env3 → MM (List PyData) := fun Δ => bd (f Δ) fun x => bd (g Δ) fun xs => rt (x :: xs)
theorem da_nil {Rel : Rel3} : DA Rel X R [] an := ⟨_, pa_nil, fun S H k Q i w => w [] H i (Ex.refl H) .nil⟩
theorem da_cons {Rel : Rel3} (st : Rel.Stays) {g : Env3 → MM (List PyData)} (ha : DG Rel X R a f) (hb : DA Rel X R es g) (hs : starEach (a :: es) X.env = (false, eval a X.env) :: starEach es X.env := by rfl) : DA Rel X R (a :: es) (ac f g) := by
  obtain ⟨t, p, q⟩ := ha.use st
  obtain ⟨t', p', q'⟩ := hb.use
  refine ⟨_, pa_cons p p' hs, fun S H k Q i w => q S H k _ _ _ i w fun x k1 w1 v H1 i1 e1 r1 => ?_⟩
  refine q' S H1 k1 _ _ _ i1 (w1.mono (fun _ _ _ z => z) fun _ _ _ z => z.mono e1) fun xs k2 w2 vs H2 i2 e2 r2 => ?_
  exact w2 _ H2 i2 (e1.trans e2) (.cons (st S H1 H2 k1 v x i1 e2 r1) r2)
/-- *e -/
def as_ (f : Env3 → MM PyData) (g : Env3 → MM (List PyData)) : Env3 → MM (List PyData) := fun Δ => bd (f Δ) fun x => bd (op (items x)) fun ys => bd (g Δ) fun xs => rt (ys ++ xs)
theorem All2.append {α β : Type} {R : α → β → Prop} : ∀ {as as' : List α} {bs bs' : List β}, All2 R as bs → All2 R as' bs' → All2 R (as ++ as') (bs ++ bs')
  | _, _, _, _, .nil, q => q
  | _, _, _, _, .cons h r, q => .cons h (All2.append r q)
theorem rpB_items {sp : Option Addr} {M : Addr → Prop} {H : Hp} {v : V} {d : PyData} {ds : List PyData} (hi : items d = some ds) (r : RpB sp M H v d) : ∃ a xs, v = .ref a ∧ (H a = some (.lst xs) ∨ H a = some (.tup xs)) ∧ Rps M H xs ds := by
  cases d with
  | list xs =>
    cases hi
    obtain ⟨a, ys, rfl, h1, h2⟩ := rpB_list r
    exact ⟨a, ys, rfl, .inl h1, h2⟩
  | tuple xs =>
    cases hi
    obtain ⟨a, ys, rfl, h1, _, h2⟩ := rpB_tuple r
    exact ⟨a, ys, rfl, .inr h1, h2⟩
  | _ => cases hi
theorem da_star {g : Env3 → MM (List PyData)} {ps : Pos} (ha : DB X R a f) (hb : DA P3 X R es g) : DA P3 X R (.Starred a ps :: es) (as_ f g) := by
  obtain ⟨t, p, q⟩ := ha.use b3_stays
  obtain ⟨t', p', q'⟩ := hb.use
  refine ⟨_, StX.pa_star p p', fun S H k Q i w => q S H k _ _ _ i w fun x k1 w1 v H1 i1 e1 r1 => ?_⟩
  obtain ⟨ys, hy, hq⟩ := w1.bd.op
  obtain ⟨ad, xs, rfl, h1, h2⟩ := rpB_items hy r1
  refine ⟨ad, xs, rfl, h1.elim (fun z => .inr (.of z)) fun z => .inl (.of z), ?_⟩
  refine q' S H1 k1 _ _ _ i1 (hq.mono (fun _ _ _ z => z) fun _ _ _ z => z.mono e1) fun zs k2 w2 vs H2 i2 e2 r2 => ?_
  exact w2 _ H2 i2 (e1.trans e2) ((All2.of_rps (ER.rps i1 e2 h2)).append r2)

def DF (X : Cx) (R : RX) (e : Expr) (f : Env3 → MM PyData) : Prop :=
  ∃ t, PE X e t ∧ ∀ (S : S3) (H : Hp) (k : Int) (Q : VK), S.In H k → Wp (f S.Δ k) (fun d k' => ∀ p H', S.In H' k' → Ex S.sp H H' → H p = none → Top (or1 S.M p) H' p d → SpN S.sp S.M H' k' p → Q (.ref p) H') (S.er R H) → t S.σ H Q
theorem DF.toE (h : DF X R e f) : DE X R e f := by
  obtain ⟨t, p, q⟩ := h
  refine ⟨t, p, fun S H k Q i w => q S H k Q i (w.mono (fun d k' _ z p H' i' e' hp tp _ => ?_) fun _ _ _ z => z)⟩
  exact z _ H' i' e' (tp.rp (fun _ m => .inl m) (ER.fresh i hp))
def lstV (g : Env3 → MM (List PyData)) : Env3 → MM PyData := fun Δ => bd (g Δ) fun xs => if xs.length ≤ sizeLine then rt (.list xs) else fl
def tupV (g : Env3 → MM (List PyData)) : Env3 → MM PyData := fun Δ => bd (g Δ) fun xs => if xs.length ≤ sizeLine then rt (.tuple xs) else fl
theorem df_lst {g : Env3 → MM (List PyData)} (h : DA P3 X R es g) : DF X R (.List es pos) (lstV g) := by
  obtain ⟨t, p, q⟩ := h.use
  refine ⟨_, pe_lst p, fun S H k Q i w => q S H k _ _ _ i w fun xs k1 w1 vs H1 i1 e1 r1 => ?_⟩
  have rs := All2.rps r1
  split at w1
  · rename_i hl
    refine ⟨by rw [rs.length]; exact hl, fun p hp => ?_⟩
    have e2 : Ex S.sp H1 (upd H1 p (.lst vs)) := Ex.new hp
    refine w1 p _ (ER.new i1 hp) (e1.trans e2) (ER.back i i1 e1 hp) (.lst upd_same ?_) (ER.spN i1 hp)
    exact (rs.more hp).move (fun a o h n => by rw [upd_ne (ne_of_none h hp)]; exact h) fun _ _ _ n => n
  · exact w1.elim
theorem de_tup {g : Env3 → MM (List PyData)} {j : Nat} (h : DA P3 X R es g) : DE X R (.Tuple es j pos) (tupV g) := by
  obtain ⟨t, p, q⟩ := h.use
  refine ⟨_, pe_tup p, fun S H k Q i w => q S H k _ _ _ i w fun xs k1 w1 vs H1 i1 e1 r1 => ?_⟩
  have rs := All2.rps r1
  split at w1
  · rename_i hl
    refine ⟨by rw [rs.length]; exact hl, fun p hp => ?_⟩
    have e2 : Ex S.sp H1 (upd H1 p (.tup vs)) := Ex.new hp
    exact w1 _ _ (ER.new i1 hp) (e1.trans e2) (.tup upd_same (ER.fresh i1 hp) (ER.rps i1 e2 rs))
  · exact w1.elim
theorem df_dict0 : DF X R (.Dict [] [] pos) (cs (.dict [])) := by
  refine ⟨_, pe_dnewK, fun S H k Q i w p hp => ?_⟩
  exact w p _ (ER.new i hp) (Ex.new hp) hp (.dct upd_same .nil) (ER.spN i hp)

def ixD (a b : PyData) : Option PyData := match a, b with
  | .list xs, .int i => atI xs i
  | .tuple xs, .int i => atI xs i
  | .str z, .int i => if z.length ≤ sizeLine then (atI z.cps.toList i).map fun c => .str ⟨#[c]⟩ else none
  | .dict ds, k => if kd ds = true then (asKey k).bind (dlook ds) else none
  | _, _ => none
def rIxD : R2 := fun x y H Q => ∃ a v, x = .ref a ∧ DGet H a y (some v) ∧ Q v H
theorem ix_dict (hu : X.A.units + 1 < cLine) : IxR X rIxD := by
  intro value slice pins s σ H x y v u Q I rx ry h hs
  obtain ⟨a, z, rfl, g, q⟩ := h
  cases rx
  have hT := dict_typeIs I g
  unfold subscriptTail
  refine wpAny_bind ?_
  rw [getitemInPython_of_ne hT.not_modules]
  refine wpAny_bind (wpAny_specialOf hT PySem.F.slot_dict_getitem.lookup ?_)
  have fin : wpAny (model X.prog X.w) X.A (subscripted slice false (.ref a) u) (fun r s₃ => wpAny (model X.prog X.w) X.A (letTemporaryGo value (.ref a) r >>= fun _ => pure r) (EP X pins σ Q) X.xe s₃) X.xe s := by
    rw [hs]
    exact wpAny_operating (d_getItem hu I g ry fun w' s3 I3 rw' => wpAny_bind (wpAny_letTemporaryGo (wpAny_pure ⟨z, H, I3, rw', q⟩)))
  first
    | exact wpAny_pure (wpAny_bind fin)
    | exact wpAny_bind (wpAny_pure (wpAny_bind fin))
    | exact wpAny_bind fin
theorem rps_atI {M : Addr → Prop} {H : Hp} {xs : List V} {ds : List PyData} {i : Int} {d : PyData} (r : Rps M H xs ds) (h : atI ds i = some d) : ∃ v, atI xs i = some v ∧ Rp M H v d := by
  unfold atI at h ⊢
  rw [r.length]
  cases e : ixN ds.length i with
  | none => rw [e] at h; cases h
  | some j =>
    rw [e] at h
    exact r.get h
theorem de_ix (hu : X.A.units + 64 < cLine) (ha : DB X R a f) (hb : DB X R b g) (hs : PlainIx b := by exact fun _ _ => rfl) : DE X R (.Subscript a b pos) (bin ixD f g) := by
  obtain ⟨ta, pa, qa⟩ := ha.use b3_stays
  obtain ⟨tb, pb, qb⟩ := hb.use b3_stays
  refine ⟨_, pe_ix (ix_seq.or (ix_dict (by omega))) pa pb hs, fun S H k Q i w => ?_⟩
  refine qa S H k _ _ _ i w fun x k1 w1 v H1 i1 e1 r1 => ?_
  refine qb S H1 k1 _ _ _ i1 (w1.mono (fun _ _ _ z => z) fun _ _ _ z => z.mono e1) fun y k2 w2 u H2 i2 e2 r2 => ?_
  obtain ⟨d, hd, hq⟩ := w2.op
  have r1' := b3_stays S H1 H2 k1 v x i1 e2 r1
  cases x with
  | list xs =>
    cases y <;> try (cases hd; done)
    obtain ⟨ad, ys, rfl, h1, h2⟩ := rpB_list r1'
    obtain ⟨v, hv, rv⟩ := rps_atI h2 hd
    exact .inl (.inl ⟨ad, ys, _, v, rfl, rpB_int r2, .of h1, hv, hq v H2 i2 (e1.trans e2) rv⟩)
  | tuple xs =>
    cases y <;> try (cases hd; done)
    obtain ⟨ad, ys, rfl, h1, _, h2⟩ := rpB_tuple r1'
    obtain ⟨v, hv, rv⟩ := rps_atI h2 hd
    exact .inl (.inr (.inl ⟨ad, ys, _, v, rfl, rpB_int r2, .of h1, hv, hq v H2 i2 (e1.trans e2) rv⟩))
  | str z =>
    cases y <;> try (cases hd; done)
    rename_i j
    have hd : (if z.length ≤ sizeLine then (atI z.cps.toList j).map (fun c => PyData.str ⟨#[c]⟩) else none) = some d := hd
    split at hd
    · rename_i hl
      cases hc : atI z.cps.toList j with
      | none => rw [hc] at hd; cases hd
      | some c =>
        rw [hc] at hd
        cases hd
        exact .inl (.inr (.inr ⟨z, _, c, rpB_str r1', rpB_int r2, hl, hc, hq _ H2 i2 (e1.trans e2) (.str _)⟩))
    · cases hd
  | dict ds =>
    have hd : (if kd ds = true then (asKey y).bind (dlook ds) else none) = some d := by cases y <;> exact hd
    split at hd
    case isFalse => cases hd
    rename_i hkd
    obtain ⟨ad, xs, rfl, hr, rk⟩ := rpB_dict r1' hkd
    cases hk : asKey y with
    | none => rw [hk] at hd; cases hd
    | some kk =>
      rw [hk] at hd
      obtain ⟨v, hv, rv⟩ := (rk.look kk).1 d hd
      exact .inr ⟨ad, v, rfl, .inl ⟨xs, kk, hr, asKey_kV hk r2, hv.symm⟩, hq v H2 i2 (e1.trans e2) rv⟩
  | none => cases hd
  | bool _ => cases hd
  | int _ => cases hd

def DO (X : Cx) (R : RX) (e : Option Expr) (f : Env3 → MM (Option Int)) : Prop :=
  ∃ t, PO X e t ∧ ∀ (S : S3) (H : Hp) (k : Int) (Q : Option Int → Hp → Prop), S.In H k → Wp (f S.Δ k) (S.ok (fun _ b c => b = c) H Q) (S.er R H) → t S.σ H Q
def onn : Env3 → MM (Option Int) := fun _ => rt none
def osm (f : Env3 → MM PyData) : Env3 → MM (Option Int) := fun Δ => bd (f Δ) fun x => match x with | .int i => rt (some i) | _ => fl
theorem do_none : DO X R none onn := ⟨_, po_none, fun S H k Q i w => w _ H i (Ex.refl H) rfl⟩
theorem do_some (h : DE X R e f) : DO X R (some e) (osm f) := by
  obtain ⟨t, p, q⟩ := h.use p3_stays
  refine ⟨_, po_some p, fun S H k Q i w => q S H k _ _ _ i w fun x k1 w1 v H1 i1 e1 r1 => ?_⟩
  cases x <;> try (exact w1.elim)
  cases r1
  exact ⟨_, rfl, w1 _ H1 i1 e1 rfl⟩
def cutD (xs : List PyData) (lo hi : Option Int) : List PyData := (xs.drop (HT.sIx xs.length 0 lo)).take (HT.sIx xs.length xs.length hi - HT.sIx xs.length 0 lo)
theorem rps_cut {M : Addr → Prop} {H : Hp} {xs : List V} {ds : List PyData} (r : Rps M H xs ds) (lo hi : Option Int) : Rps M H (cutV xs lo hi) (cutD ds lo hi) := by
  unfold cutV cutD
  rw [r.length]
  exact (r.drop _).take _
/-- the whole tuple is handed back -/
def rSlW (K : PySem.W.Frag) : V → Option Int → Option Int → Hp → VK → Prop := fun x lo hi H Q => ∃ a xs, x = .ref a ∧ SqT K H a xs ∧ (HT.sIx xs.length 0 lo = 0 ∧ HT.sIx xs.length xs.length hi = xs.length) ∧ Q (.ref a) H
theorem sl_whole : SlR X (rSlW X.K) := by
  intro pins s σ H x v vl vu lo hi sl Q I rx hs pl pu h
  obtain ⟨a, xs, rfl, hx, hw, q⟩ := h
  cases rx
  obtain ⟨its, r, ht, hz⟩ := I.tuple hx
  have hlen : its.toArray.size = xs.length := by rw [List.size_toArray]; exact r.length.symm
  refine ⟨"tuple", _, PyProof.Rows.slot_tuple_getitem.lookup, ht.typeIs, ?_⟩
  obtain ⟨os, hos, hcs, hds⟩ := id hs
  have hTs : s.TypeIs (.ref sl) "slice" := ⟨os, hos, hcs⟩
  unfold getItem
  try with_reducible refine wpAny_holding ?_
  first | refine wpAny_bind (wpAny_pure ?_) | skip
  refine wpAny_bind (wpAny_sequenceKey ht.typeIs (by decide) ?_)
  refine wpAny_bind (wpAny_callSpecial?_slot (name := Str.ofString "__getitem__") ht.typeIs PyProof.Rows.slot_tuple_getitem
    (wpAny_call_entry PyProof.Rows.slot_tuple_getitem ht.typeIs entry_tuple_getitem ?_ (args_tuple_getitem _ _)))
  show wpAny _ _ (Builtin.Tuple.tupleItemsOf (.ref a) >>= _) _ _ s
  refine wpAny_bind (tupleItemsOf_ ht ?_)
  refine wpAny_bind (wpAny_typeOf hTs ?_)
  rw [if_pos (by decide)]
  refine wpAny_bind (HT.sliceApplied_gen hs pl pu ?_)
  have hyes : ((((HT.sIx its.toArray.size 0 lo : Nat) : Int) == 0 && (1 : Int) == 1 && (HT.sIx its.toArray.size its.toArray.size hi - HT.sIx its.toArray.size 0 lo) == its.toArray.size) = true) := by
    rw [hlen, hw.1, hw.2]
    simp
  have fin : EP X pins σ Q (.ref a) s := ⟨.ref a, H, I, rfl, q⟩
  show wpAny _ _ (if (((HT.sIx its.toArray.size 0 lo : Nat) : Int) == 0 && (1 : Int) == 1 && (HT.sIx its.toArray.size its.toArray.size hi - HT.sIx its.toArray.size 0 lo) == its.toArray.size) = true then _ else _) _ _ s
  rw [if_pos hyes]
  refine wpAny_bind (wpAny_bind (wpAny_typeOf ht.typeIs (wpAny_pure ?_)))
  rw [if_pos (by decide)]
  exact wpAny_bind (wpAny_rule (wpAny_pure ⟨_, rfl, wpAny_pure fin⟩))
end
end L3

set_option Elab.async false
set_option linter.all false
set_option maxRecDepth 100000
set_option maxHeartbeats 4000000
namespace L3
open PySem PySem.Spec PyProof.Rows L2

section
variable {X : Cx} {R : RX} {e a b c : Expr} {es : List Expr} {f g h : Env3 → MM PyData} {pos : Pos}

def slD (x : PyData) (lo hi : Option Int) : Option PyData := match x with
  | .list xs => some (.list (cutD xs lo hi))
  | .tuple xs => some (.tuple (cutD xs lo hi))
  | .str z => if z.length ≤ sizeLine then some (.str (cutS z lo hi)) else none
  | _ => none
def slV3 (f : Env3 → MM PyData) (lo hi : Env3 → MM (Option Int)) : Env3 → MM PyData := fun Δ => bd (f Δ) fun x => bd (lo Δ) fun l => bd (hi Δ) fun u => op (slD x l u)
theorem DO.use {e : Option Expr} {f : Env3 → MM (Option Int)} (h : DO X R e f) : ∃ t, PO X e t ∧ ∀ (S : S3) (H : Hp) (k : Int) (Q : Option Int → Hp → Prop) {β : Type} (g : Option Int → MM β) (P : β → Int → Prop), S.In H k → Wp (bd (f S.Δ) g k) P (S.er R H) →
    (∀ c k' H', Wp (g c k') P (S.er R H) → S.In H' k' → Ex S.sp H H' → Q c H') → t S.σ H Q := by
  obtain ⟨t, p, q⟩ := h
  exact ⟨t, p, fun S H k Q β g P i w n => q S H k Q i (w.bd.mono (fun d k' _ w' v H' i' e' r => by cases r; exact n _ k' H' w' i' e') fun _ _ _ z => z)⟩
theorem sl_any : SlR X (fun x lo hi H Q => rSlL X.K x lo hi H Q ∨ rSlT X.K x lo hi H Q ∨ rSlW X.K x lo hi H Q ∨ rSlS x lo hi H Q) := sl_list.or (sl_tup.or (sl_whole.or sl_str))
theorem de_slice {lo hi : Option Expr} {fl fh : Env3 → MM (Option Int)} {p2 : Pos} (ha : DB X R a f) (hl : DO X R lo fl) (hh : DO X R hi fh) : DE X R (.Subscript a (.Slice lo hi none p2) pos) (slV3 f fl fh) := by
  obtain ⟨ta, pa, qa⟩ := ha.use b3_stays
  obtain ⟨tl, pl, ql⟩ := hl.use
  obtain ⟨th, ph, qh⟩ := hh.use
  refine ⟨_, pe_slice sl_any pa pl ph, fun S H k Q i w => ?_⟩
  refine qa S H k _ _ _ i w fun x k1 w1 v H1 i1 e1 r1 => ?_
  refine ql S H1 k1 _ _ _ i1 (w1.mono (fun _ _ _ z => z) fun _ _ _ z => z.mono e1) fun l k2 H2 w2 i2 e2 => ?_
  refine qh S H2 k2 _ _ _ i2 (w2.mono (fun _ _ _ z => z) fun _ _ _ z => z.mono e2) fun u k3 H3 w3 i3 e3 => ?_
  obtain ⟨d, hd, hq⟩ := w3.op
  have r3 := b3_stays S H1 H3 k1 v x i1 (e2.trans e3) r1
  cases x with
  | list xs =>
    cases hd
    obtain ⟨ad, ys, rfl, h1, h2⟩ := rpB_list r3
    refine .inl ⟨ad, ys, rfl, .of h1, fun p hp => ?_⟩
    have e4 : Ex S.sp H3 (upd H3 p (.lst (cutV ys l u))) := Ex.new hp
    exact hq _ _ (ER.new i3 hp) (((e1.trans e2).trans e3).trans e4) (.lst upd_same (ER.fresh i3 hp) (ER.rps i3 e4 (rps_cut h2 l u)))
  | tuple xs =>
    cases hd
    obtain ⟨ad, ys, rfl, h1, n1, h2⟩ := rpB_tuple r3
    by_cases hw : HT.sIx ys.length 0 l = 0 ∧ HT.sIx ys.length ys.length u = ys.length
    · refine .inr (.inr (.inl ⟨ad, ys, rfl, .of h1, hw, hq _ H3 i3 ((e1.trans e2).trans e3) ?_⟩))
      have hc : cutD xs l u = xs := by
        unfold cutD
        rw [← h2.length, hw.1, hw.2, List.drop_zero, Nat.sub_zero, h2.length, List.take_length]
      rw [hc]
      exact .tup h1 n1 h2
    · refine .inr (.inl ⟨ad, ys, rfl, .of h1, hw, fun p hp => ?_⟩)
      have e4 : Ex S.sp H3 (upd H3 p (.tup (cutV ys l u))) := Ex.new hp
      exact hq _ _ (ER.new i3 hp) (((e1.trans e2).trans e3).trans e4) (.tup upd_same (ER.fresh i3 hp) (ER.rps i3 e4 (rps_cut h2 l u)))
  | str z =>
    have hd : (if z.length ≤ sizeLine then some (PyData.str (cutS z l u)) else none) = some d := hd
    split at hd
    · rename_i hl
      cases hd
      exact .inr (.inr (.inr ⟨z, rpB_str r3, hl, hq _ H3 i3 ((e1.trans e2).trans e3) (.str _)⟩))
    · cases hd
  | none => cases hd
  | bool _ => cases hd
  | int _ => cases hd
  | dict _ => cases hd
/-- a list's slice, as a new list -/
def slL3 (f : Env3 → MM PyData) (lo hi : Env3 → MM (Option Int)) : Env3 → MM PyData := fun Δ => bd (f Δ) fun x => bd (lo Δ) fun l => bd (hi Δ) fun u => match x with | .list xs => rt (.list (cutD xs l u)) | _ => L3.fl
theorem df_slice {lo hi : Option Expr} {fl fh : Env3 → MM (Option Int)} {p2 : Pos} (ha : DB X R a f) (hl : DO X R lo fl) (hh : DO X R hi fh) : DF X R (.Subscript a (.Slice lo hi none p2) pos) (slL3 f fl fh) := by
  obtain ⟨ta, pa, qa⟩ := ha.use b3_stays
  obtain ⟨tl, pl, ql⟩ := hl.use
  obtain ⟨th, ph, qh⟩ := hh.use
  refine ⟨_, pe_slice sl_list pa pl ph, fun S H k Q i w => ?_⟩
  refine qa S H k _ _ _ i w fun x k1 w1 v H1 i1 e1 r1 => ?_
  refine ql S H1 k1 _ _ _ i1 (w1.mono (fun _ _ _ z => z) fun _ _ _ z => z.mono e1) fun l k2 H2 w2 i2 e2 => ?_
  refine qh S H2 k2 _ _ _ i2 (w2.mono (fun _ _ _ z => z) fun _ _ _ z => z.mono e2) fun u k3 H3 w3 i3 e3 => ?_
  have r3 := b3_stays S H1 H3 k1 v x i1 (e2.trans e3) r1
  cases x <;> try (exact w3.elim)
  obtain ⟨ad, ys, rfl, h1, h2⟩ := rpB_list r3
  refine ⟨ad, ys, rfl, .of h1, fun p hp => ?_⟩
  have e4 : Ex S.sp H3 (upd H3 p (.lst (cutV ys l u))) := Ex.new hp
  refine w3 p _ (ER.new i3 hp) (((e1.trans e2).trans e3).trans e4) (ER.back i i3 ((e1.trans e2).trans e3) hp) (.lst upd_same ?_) (ER.spN i3 hp)
  exact ((rps_cut h2 l u).more hp).move (fun a o h n => by rw [upd_ne (ne_of_none h hp)]; exact h) fun _ _ _ n => n

def CallS (X : Cx) (F : Value) (g : List PyData → Option PyData) : Prop :=
  ∃ r, CallR X F r ∧ ∀ (S : S3) (H : Hp) (k : Int) (xs : List V) (ds : List PyData) (d : PyData) (Q : VK), S.In H k → All2 (B3 S H) xs ds → g ds = some d → (∀ v H', S.In H' k → Ex S.sp H H' → Rp S.M H' v d → Q v H') → r xs H Q
/-- what comes is new -/
def CallF (X : Cx) (F : Value) (g : List PyData → Option PyData) : Prop :=
  ∃ r, CallR X F r ∧ ∀ (S : S3) (H : Hp) (k : Int) (xs : List V) (ds : List PyData) (d : PyData) (Q : VK), S.In H k → All2 (B3 S H) xs ds → g ds = some d → (∀ p H', S.In H' k → Ex S.sp H H' → H p = none → Top (or1 S.M p) H' p d → SpN S.sp S.M H' k p → Q (.ref p) H') → r xs H Q
theorem CallF.s {F : Value} {g : List PyData → Option PyData} (h : CallF X F g) : CallS X F g := by
  obtain ⟨r, c, q⟩ := h
  exact ⟨r, c, fun S H k xs ds d Q i ra hd z => q S H k xs ds d Q i ra hd fun p H' i' e' hp t _ => z _ H' i' e' (t.rp (fun _ m => .inl m) (ER.fresh i hp))⟩
theorem CallS.or {F : Value} {g g' h : List PyData → Option PyData} (o : CallS X F g) (o' : CallS X F g') (hh : ∀ ds d, h ds = some d → g ds = some d ∨ g' ds = some d) : CallS X F h := by
  obtain ⟨r, p, q⟩ := o
  obtain ⟨r', p', q'⟩ := o'
  refine ⟨_, CallR.or p p', fun S H k xs ds d Q i ra hd z => ?_⟩
  rcases hh ds d hd with e | e
  · exact .inl (q S H k xs ds d Q i ra e z)
  · exact .inr (q' S H k xs ds d Q i ra e z)
theorem CallF.or {F : Value} {g g' h : List PyData → Option PyData} (o : CallF X F g) (o' : CallF X F g') (hh : ∀ ds d, h ds = some d → g ds = some d ∨ g' ds = some d) : CallF X F h := by
  obtain ⟨r, p, q⟩ := o
  obtain ⟨r', p', q'⟩ := o'
  refine ⟨_, CallR.or p p', fun S H k xs ds d Q i ra hd z => ?_⟩
  rcases hh ds d hd with e | e
  · exact .inl (q S H k xs ds d Q i ra e z)
  · exact .inr (q' S H k xs ds d Q i ra e z)
def clV (F : List PyData → Option PyData) (g : Env3 → MM (List PyData)) : Env3 → MM PyData := fun Δ => bd (g Δ) fun xs => op (F xs)
variable {g' : Env3 → MM (List PyData)} {x : Str} {p : Pos} {F : List PyData → Option PyData}
theorem de_callB {id : String} (hc : CallS X (.builtin id) F) (hm : X.mg x = none) (hv : bootBuiltins x = some (.builtin id)) (ha : DA B3 X R (e :: es) g') (hg : Gl X x := by rfl) (hn : x ≠ "__name__" := by decide) (hdb : (x == ("__debug__" : Str)) = false := by decide)
    (he : starEach (e :: es) X.env = (false, eval e X.env) :: starEach es X.env := by rfl) (hpl : (backTo pos (starEach es X.env)).any (·.1) = false := by rfl) : DE X R (.Call (.Name x p) (e :: es) [] pos) (clV F g') := by
  obtain ⟨r, cr, hr⟩ := hc
  obtain ⟨ta, pa, qa⟩ := ha.use
  refine ⟨_, pe_callB cr hg hm hv pa hn hdb he hpl, fun S H k Q i w => qa S H k _ _ _ i w fun ds k1 w1 vs H1 i1 e1 r1 => ?_⟩
  obtain ⟨d, hd, hq⟩ := w1.op
  exact hr S H1 k1 vs ds d Q i1 r1 hd fun v' H' i' e' r' => hq v' H' i' (e1.trans e') r'
theorem de_callTy {T : String} (hc : CallS X (.type T) F) (hm : X.mg x = none) (hv : bootBuiltins x = some (.type T)) (ha : DA B3 X R (e :: es) g') (hg : Gl X x := by rfl) (hn : x ≠ "__name__" := by decide) (hdb : (x == ("__debug__" : Str)) = false := by decide)
    (he : starEach (e :: es) X.env = (false, eval e X.env) :: starEach es X.env := by rfl) (hpl : (backTo pos (starEach es X.env)).any (·.1) = false := by rfl) : DE X R (.Call (.Name x p) (e :: es) [] pos) (clV F g') := by
  obtain ⟨r, cr, hr⟩ := hc
  obtain ⟨ta, pa, qa⟩ := ha.use
  refine ⟨_, pe_callTy cr hg hm hv pa hn hdb he hpl, fun S H k Q i w => qa S H k _ _ _ i w fun ds k1 w1 vs H1 i1 e1 r1 => ?_⟩
  obtain ⟨d, hd, hq⟩ := w1.op
  exact hr S H1 k1 vs ds d Q i1 r1 hd fun v' H' i' e' r' => hq v' H' i' (e1.trans e') r'
theorem df_callB {id : String} (hc : CallF X (.builtin id) F) (hm : X.mg x = none) (hv : bootBuiltins x = some (.builtin id)) (ha : DA B3 X R (e :: es) g') (hg : Gl X x := by rfl) (hn : x ≠ "__name__" := by decide) (hdb : (x == ("__debug__" : Str)) = false := by decide)
    (he : starEach (e :: es) X.env = (false, eval e X.env) :: starEach es X.env := by rfl) (hpl : (backTo pos (starEach es X.env)).any (·.1) = false := by rfl) : DF X R (.Call (.Name x p) (e :: es) [] pos) (clV F g') := by
  obtain ⟨r, cr, hr⟩ := hc
  obtain ⟨ta, pa, qa⟩ := ha.use
  refine ⟨_, pe_callB cr hg hm hv pa hn hdb he hpl, fun S H k Q i w => qa S H k _ _ _ i w fun ds k1 w1 vs H1 i1 e1 r1 => ?_⟩
  obtain ⟨d, hd, hq⟩ := w1.op
  exact hr S H1 k1 vs ds d Q i1 r1 hd fun p H' i' e' hp t sn => hq p H' i' (e1.trans e') (ER.back i i1 e1 hp) t sn
theorem df_callTy {T : String} (hc : CallF X (.type T) F) (hm : X.mg x = none) (hv : bootBuiltins x = some (.type T)) (ha : DA B3 X R (e :: es) g') (hg : Gl X x := by rfl) (hn : x ≠ "__name__" := by decide) (hdb : (x == ("__debug__" : Str)) = false := by decide)
    (he : starEach (e :: es) X.env = (false, eval e X.env) :: starEach es X.env := by rfl) (hpl : (backTo pos (starEach es X.env)).any (·.1) = false := by rfl) : DF X R (.Call (.Name x p) (e :: es) [] pos) (clV F g') := by
  obtain ⟨r, cr, hr⟩ := hc
  obtain ⟨ta, pa, qa⟩ := ha.use
  refine ⟨_, pe_callTy cr hg hm hv pa hn hdb he hpl, fun S H k Q i w => qa S H k _ _ _ i w fun ds k1 w1 vs H1 i1 e1 r1 => ?_⟩
  obtain ⟨d, hd, hq⟩ := w1.op
  exact hr S H1 k1 vs ds d Q i1 r1 hd fun p H' i' e' hp t sn => hq p H' i' (e1.trans e') (ER.back i i1 e1 hp) t sn
theorem all2_1 {α β : Type} {R : α → β → Prop} {xs : List α} {b : β} (r : All2 R xs [b]) : ∃ x, xs = [x] ∧ R x b := by
  cases r with
  | cons h t => cases t; exact ⟨_, rfl, h⟩
theorem all2_2 {α β : Type} {R : α → β → Prop} {xs : List α} {b c : β} (r : All2 R xs [b, c]) : ∃ x y, xs = [x, y] ∧ R x b ∧ R y c := by
  cases r with
  | cons h t =>
    cases t with
    | cons h' t => cases t; exact ⟨_, _, rfl, h, h'⟩
def lenD : List PyData → Option PyData
  | [.list xs] => some (.int xs.length)
  | [.tuple xs] => some (.int xs.length)
  | [.str z] => if z.length ≤ sizeLine then some (.int z.length) else none
  | [.dict xs] => if kd xs = true then some (.int xs.length) else none
  | _ => none
theorem call_lenDR : CallR X (.builtin "len") (fun xs H Q => ∃ a kvs, xs = [V.ref a] ∧ Rd H a (.dK kvs) ∧ Q (.int kvs.length) H) := by
  intro pins s σ H xs us Q I r h
  obtain ⟨a, kvs, rfl, ha, q⟩ := h
  obtain ⟨u, rfl, ru⟩ := vals1 r
  cases ru
  exact d_len I ha fun t s' I' => ⟨.int kvs.length, H, I', ⟨t, rfl⟩, q⟩
theorem c3_len : CallS X (.builtin "len") lenD := by
  refine ⟨_, CallR.or call_len_seq (CallR.or call_len_str call_lenDR), fun S H k xs ds d Q i ra hd q => ?_⟩
  rcases ds with _ | ⟨d0, _ | ⟨d1, ds⟩⟩
  · cases hd
  · obtain ⟨x, rfl, r⟩ := all2_1 ra
    cases d0 with
    | list ys =>
      cases hd
      obtain ⟨a, zs, rfl, h1, h2⟩ := rpB_list r
      exact .inl ⟨a, zs, rfl, .inl (.of h1), by rw [h2.length]; exact q _ H i (Ex.refl H) (.int _)⟩
    | tuple ys =>
      cases hd
      obtain ⟨a, zs, rfl, h1, _, h2⟩ := rpB_tuple r
      exact .inl ⟨a, zs, rfl, .inr (.of h1), by rw [h2.length]; exact q _ H i (Ex.refl H) (.int _)⟩
    | str z =>
      have hd : (if z.length ≤ sizeLine then some (PyData.int z.length) else none) = some d := hd
      split at hd
      · rename_i hl
        cases hd
        exact .inr (.inl ⟨z, by rw [rpB_str r], hl, q _ H i (Ex.refl H) (.int _)⟩)
      · cases hd
    | dict ys =>
      have hd : (if kd ys = true then some (PyData.int ys.length) else none) = some d := hd
      split at hd
      case isFalse => cases hd
      rename_i hkd
      cases hd
      obtain ⟨a, zs, rfl, h1, h2⟩ := rpB_dict r hkd
      exact .inr (.inr ⟨a, zs, rfl, h1, by rw [h2.length]; exact q _ H i (Ex.refl H) (.int _)⟩)
    | none => cases hd
    | bool _ => cases hd
    | int _ => cases hd
  · cases d0 <;> cases hd
def intD : List PyData → Option PyData
  | [.int i] => some (.int i)
  | _ => none
theorem c3_int : CallS X (.type "int") intD := by
  refine ⟨_, call_int1, fun S H k xs ds d Q i ra hd q => ?_⟩
  unfold intD at hd
  split at hd
  · cases hd
    obtain ⟨x, rfl, r⟩ := all2_1 ra
    exact .inl ⟨_, by rw [rpB_int r], q _ H i (Ex.refl H) (.int _)⟩
  · cases hd
def strD : List PyData → Option PyData
  | [.int i] => if i.natAbs.log2 < 1920 then some (.str (Str.ofString (toString i))) else none
  | _ => none
theorem c3_str : CallS X (.type "str") strD := by
  refine ⟨_, call_str_int, fun S H k xs ds d Q i ra hd q => ?_⟩
  unfold strD at hd
  split at hd
  · split at hd
    · cases hd
      obtain ⟨x, rfl, r⟩ := all2_1 ra
      exact ⟨_, by rw [rpB_int r], by assumption, q _ H i (Ex.refl H) (.str _)⟩
    · cases hd
  · cases hd
def tupD : List PyData → Option PyData
  | [.list xs] => some (.tuple xs)
  | [.tuple xs] => some (.tuple xs)
  | _ => none
theorem c3_tuple : CallS X (.type "tuple") tupD := by
  refine ⟨_, call_tuple_of, fun S H k xs ds d Q i ra hd q => ?_⟩
  unfold tupD at hd
  split at hd
  · cases hd
    obtain ⟨x, rfl, r⟩ := all2_1 ra
    obtain ⟨a, zs, rfl, h1, h2⟩ := rpB_list r
    refine ⟨a, zs, rfl, .inl ⟨.of h1, fun p hp => ?_⟩⟩
    have e : Ex S.sp H (upd H p (.tup zs)) := Ex.new hp
    exact q _ _ (ER.new i hp) e (.tup upd_same (ER.fresh i hp) (ER.rps i e h2))
  · cases hd
    obtain ⟨x, rfl, r⟩ := all2_1 ra
    obtain ⟨a, zs, rfl, h1, n, h2⟩ := rpB_tuple r
    exact ⟨a, zs, rfl, .inr ⟨.of h1, q _ H i (Ex.refl H) (.tup h1 n h2)⟩⟩
  · cases hd
def keysD (ds : List (PyData × PyData)) : List PyData := ds.map (·.1)
def lisD : List PyData → Option PyData
  | [.list xs] => some (.list xs)
  | [.tuple xs] => some (.list xs)
  | [.dict xs] => some (.list (keysD xs))
  | _ => none
theorem rpk_keys {M : Addr → Prop} {H : Hp} : ∀ {xs : List (Key × V)} {ds : List (PyData × PyData)}, RpK M H xs ds → Rps M H (xs.map fun kv => kV kv.1) (keysD ds)
  | _, _, .nil => .nil
  | _, _, .int _ r => .cons (.int _) (rpk_keys r)
  | _, _, .str _ r => .cons (.str _) (rpk_keys r)
theorem top_new {M : Addr → Prop} {H : Hp} {p : Addr} {xs : List V} {ds : List PyData} (hp : H p = none) (r : Rps M H xs ds) : Top (or1 M p) (upd H p (.lst xs)) p (.list ds) :=
  .lst upd_same ((r.more hp).move (fun a o h n => by rw [upd_ne (ne_of_none h hp)]; exact h) fun _ _ _ n => n)
theorem c3_list_seq : CallF X (.type "list") (fun ds => match ds with | [.list xs] => some (.list xs) | [.tuple xs] => some (.list xs) | _ => none) := by
  refine ⟨_, call_list_of, fun S H k xs ds d Q i ra hd q => ?_⟩
  dsimp only at hd
  split at hd
  · cases hd
    obtain ⟨x, rfl, r⟩ := all2_1 ra
    obtain ⟨a, zs, rfl, h1, h2⟩ := rpB_list r
    exact ⟨a, zs, rfl, .inl (.of h1), fun p hp => q p _ (ER.new i hp) (Ex.new hp) hp (top_new hp h2) (ER.spN i hp)⟩
  · cases hd
    obtain ⟨x, rfl, r⟩ := all2_1 ra
    obtain ⟨a, zs, rfl, h1, _, h2⟩ := rpB_tuple r
    exact ⟨a, zs, rfl, .inr (.of h1), fun p hp => q p _ (ER.new i hp) (Ex.new hp) hp (top_new hp h2) (ER.spN i hp)⟩
  · cases hd
def boolsOf : List PyData → Option (List Bool)
  | [] => some []
  | .bool b :: r => (boolsOf r).map (b :: ·)
  | _ => none
def intsOf : List PyData → Option (List Int)
  | [] => some []
  | .int b :: r => (intsOf r).map (b :: ·)
  | _ => none
theorem boolsOf_eq : ∀ {ds : List PyData} {bs : List Bool}, boolsOf ds = some bs → ds = bs.map PyData.bool
  | [], _, h => by cases h; rfl
  | d :: r, bs, h => by
    cases d <;> try (cases h; done)
    rename_i b
    cases e : boolsOf r with
    | none => simp [boolsOf, e] at h
    | some cs =>
      simp [boolsOf, e] at h
      subst h
      rw [List.map_cons, ← boolsOf_eq e]
theorem intsOf_eq : ∀ {ds : List PyData} {bs : List Int}, intsOf ds = some bs → ds = bs.map PyData.int
  | [], _, h => by cases h; rfl
  | d :: r, bs, h => by
    cases d <;> try (cases h; done)
    rename_i b
    cases e : intsOf r with
    | none => simp [intsOf, e] at h
    | some cs =>
      simp [intsOf, e] at h
      subst h
      rw [List.map_cons, ← intsOf_eq e]
@[simp] theorem boolsOf_map (bs : List Bool) : boolsOf (bs.map PyData.bool) = some bs := by
  induction bs with
  | nil => rfl
  | cons b r ih => simp [boolsOf, ih]
@[simp] theorem intsOf_map (bs : List Int) : intsOf (bs.map PyData.int) = some bs := by
  induction bs with
  | nil => rfl
  | cons b r ih => simp [intsOf, ih]
def allD : List PyData → Option PyData
  | [.list xs] => (boolsOf xs).map fun bs => .bool (bs.all id)
  | _ => none
def anyD : List PyData → Option PyData
  | [.list xs] => (boolsOf xs).map fun bs => .bool (bs.any id)
  | _ => none
def sumD : List PyData → Option PyData
  | [.list xs] => (intsOf xs).map fun bs => .int bs.sum
  | _ => none
theorem c3_all (hc : X.calm = true) : CallS X (.builtin "all") allD := by
  refine ⟨_, cr_all hc, fun S H k xs ds d Q i ra hd q => ?_⟩
  unfold allD at hd
  split at hd
  · obtain ⟨x, rfl, r⟩ := all2_1 ra
    obtain ⟨a, zs, rfl, h1, h2⟩ := rpB_list r
    obtain ⟨bs, hb, rfl⟩ := Option.map_eq_some_iff.mp hd
    rw [boolsOf_eq hb] at h2
    rw [h2.of_bl] at h1
    exact ⟨a, bs, rfl, .of h1, q _ H i (Ex.refl H) (.bl _)⟩
  · cases hd
theorem c3_any (hc : X.calm = true) : CallS X (.builtin "any") anyD := by
  refine ⟨_, cr_any hc, fun S H k xs ds d Q i ra hd q => ?_⟩
  unfold anyD at hd
  split at hd
  · obtain ⟨x, rfl, r⟩ := all2_1 ra
    obtain ⟨a, zs, rfl, h1, h2⟩ := rpB_list r
    obtain ⟨bs, hb, rfl⟩ := Option.map_eq_some_iff.mp hd
    rw [boolsOf_eq hb] at h2
    rw [h2.of_bl] at h1
    exact ⟨a, bs, rfl, .of h1, q _ H i (Ex.refl H) (.bl _)⟩
  · cases hd
theorem c3_sum (hc : X.calm = true) : CallS X (.builtin "sum") sumD := by
  refine ⟨_, cr_sum hc, fun S H k xs ds d Q i ra hd q => ?_⟩
  unfold sumD at hd
  split at hd
  · obtain ⟨x, rfl, r⟩ := all2_1 ra
    obtain ⟨a, zs, rfl, h1, h2⟩ := rpB_list r
    obtain ⟨bs, hb, rfl⟩ := Option.map_eq_some_iff.mp hd
    rw [intsOf_eq hb] at h2
    rw [h2.of_int] at h1
    exact ⟨a, bs, rfl, .of h1, q _ H i (Ex.refl H) (.int _)⟩
  · cases hd
def maxI : List Int → Int
  | [] => 0
  | [x] => x
  | x :: r => max x (maxI r)
def minI : List Int → Int
  | [] => 0
  | [x] => x
  | x :: r => min x (minI r)
theorem maxI_spec : ∀ {ns : List Int} {m : Int}, m ∈ ns → (∀ y, y ∈ ns → y ≤ m) → m = maxI ns
  | [], m, h, _ => by cases h
  | [x], m, h, _ => by simpa [maxI] using h
  | x :: y :: r, m, h, hm => by
    have h1 := hm x (by simp)
    show m = max x (maxI (y :: r))
    by_cases hr : m ∈ y :: r
    · rw [← maxI_spec hr fun z hz => hm z (List.mem_cons_of_mem _ hz)]
      omega
    · have e : m = x := by
        rcases List.mem_cons.mp h with e | e
        · exact e
        · exact absurd e hr
      have hx : ∃ m', m' ∈ y :: r ∧ ∀ z ∈ y :: r, z ≤ m' := by
        clear h hm h1 hr e
        induction r generalizing y with
        | nil => exact ⟨y, by simp, by simp⟩
        | cons z r ih =>
          obtain ⟨m', h1, h2⟩ := ih z
          by_cases hz : y ≤ m'
          · exact ⟨m', List.mem_cons_of_mem _ h1, fun w hw => by rcases List.mem_cons.mp hw with rfl | hw; exact hz; exact h2 w hw⟩
          · exact ⟨y, by simp, fun w hw => by rcases List.mem_cons.mp hw with rfl | hw; exact Int.le_refl _; exact Int.le_trans (h2 w hw) (by omega)⟩
      obtain ⟨m', a1, a2⟩ := hx
      have e2 := maxI_spec a1 a2
      have := hm m' (List.mem_cons_of_mem _ a1)
      rw [← e2]
      omega
theorem minI_spec : ∀ {ns : List Int} {m : Int}, m ∈ ns → (∀ y, y ∈ ns → m ≤ y) → m = minI ns
  | [], m, h, _ => by cases h
  | [x], m, h, _ => by simpa [minI] using h
  | x :: y :: r, m, h, hm => by
    have h1 := hm x (by simp)
    show m = min x (minI (y :: r))
    by_cases hr : m ∈ y :: r
    · rw [← minI_spec hr fun z hz => hm z (List.mem_cons_of_mem _ hz)]
      omega
    · have e : m = x := by
        rcases List.mem_cons.mp h with e | e
        · exact e
        · exact absurd e hr
      have hx : ∃ m', m' ∈ y :: r ∧ ∀ z ∈ y :: r, m' ≤ z := by
        clear h hm h1 hr e
        induction r generalizing y with
        | nil => exact ⟨y, by simp, by simp⟩
        | cons z r ih =>
          obtain ⟨m', h1, h2⟩ := ih z
          by_cases hz : m' ≤ y
          · exact ⟨m', List.mem_cons_of_mem _ h1, fun w hw => by rcases List.mem_cons.mp hw with rfl | hw; exact hz; exact h2 w hw⟩
          · exact ⟨y, by simp, fun w hw => by rcases List.mem_cons.mp hw with rfl | hw; exact Int.le_refl _; exact Int.le_trans (by omega) (h2 w hw)⟩
      obtain ⟨m', a1, a2⟩ := hx
      have e2 := minI_spec a1 a2
      have := hm m' (List.mem_cons_of_mem _ a1)
      rw [← e2]
      omega
def maxD3 : List PyData → Option PyData
  | [.list xs] => (intsOf xs).bind fun bs => if bs.isEmpty = true then none else some (.int (maxI bs))
  | [.int i, .int j] => some (.int (max i j))
  | _ => none
def minD3 : List PyData → Option PyData
  | [.list xs] => (intsOf xs).bind fun bs => if bs.isEmpty = true then none else some (.int (minI bs))
  | [.int i, .int j] => some (.int (min i j))
  | _ => none
theorem c3_max (hc : X.calm = true) : CallS X (.builtin "max") maxD3 := by
  refine ⟨_, CallR.or (cr_max hc) (call_max2 hc), fun S H k xs ds d Q i ra hd q => ?_⟩
  unfold maxD3 at hd
  split at hd
  · obtain ⟨x, rfl, r⟩ := all2_1 ra
    obtain ⟨a, zs, rfl, h1, h2⟩ := rpB_list r
    obtain ⟨bs, hb, hd⟩ := Option.bind_eq_some_iff.mp hd
    split at hd
    · cases hd
    · rename_i hne
      cases hd
      rw [intsOf_eq hb] at h2
      rw [h2.of_int] at h1
      refine .inl ⟨a, bs, rfl, .of h1, ?_, fun m h3 h4 => by rw [maxI_spec h3 h4]; exact q _ H i (Ex.refl H) (.int _)⟩
      cases bs with
      | nil => exact absurd rfl hne
      | cons _ _ => exact Nat.succ_pos _
  · cases hd
    obtain ⟨x, y, rfl, r1, r2⟩ := all2_2 ra
    refine .inr ⟨_, _, by rw [rpB_int r1, rpB_int r2], ?_⟩
    rename_i i' j'
    have e : (if j' > i' then j' else i') = max i' j' := by split <;> omega
    rw [e]
    exact q _ H i (Ex.refl H) (.int _)
  · cases hd
theorem c3_min (hc : X.calm = true) : CallS X (.builtin "min") minD3 := by
  refine ⟨_, CallR.or (cr_min hc) (call_min2 hc), fun S H k xs ds d Q i ra hd q => ?_⟩
  unfold minD3 at hd
  split at hd
  · obtain ⟨x, rfl, r⟩ := all2_1 ra
    obtain ⟨a, zs, rfl, h1, h2⟩ := rpB_list r
    obtain ⟨bs, hb, hd⟩ := Option.bind_eq_some_iff.mp hd
    split at hd
    · cases hd
    · rename_i hne
      cases hd
      rw [intsOf_eq hb] at h2
      rw [h2.of_int] at h1
      refine .inl ⟨a, bs, rfl, .of h1, ?_, fun m h3 h4 => by rw [minI_spec h3 h4]; exact q _ H i (Ex.refl H) (.int _)⟩
      cases bs with
      | nil => exact absurd rfl hne
      | cons _ _ => exact Nat.succ_pos _
  · cases hd
    obtain ⟨x, y, rfl, r1, r2⟩ := all2_2 ra
    refine .inr ⟨_, _, by rw [rpB_int r1, rpB_int r2], ?_⟩
    rename_i i' j'
    have e : (if j' < i' then j' else i') = min i' j' := by split <;> omega
    rw [e]
    exact q _ H i (Ex.refl H) (.int _)
  · cases hd
def sortD (ds : List PyData) : List PyData := ds.mergeSort fun a b => !PySem.W.dataLt b a
def alikeB (ds : List PyData) : Bool := ds.all fun d => ds.all fun d' => PySem.W.alike d d'
def tup1 : PyData → Bool
  | .tuple (_ :: _) => true
  | _ => false
def noTup : PyData → Bool
  | .tuple _ => false
  | .none => false
  | _ => true
def sortOk (ds : List PyData) : Bool := alikeB ds && (ds.all tup1 || ds.all noTup) && PyData.plainAll ds && decide (PyData.depthAll ds ≤ 60) && decide (ds.length ≤ sizeLine)
def srtD : List PyData → Option PyData
  | [.list xs] => if sortOk xs = true then some (.list (sortD xs)) else none
  | _ => none
def rSortA (K : PySem.W.Frag) : List V → Hp → VK → Prop := fun vs H Q => ∃ (a : Addr) (xs : List V) (ds : List PyData), vs = [V.ref a] ∧ SqL K H a xs ∧ DpAll K H xs ds ∧ sortOk ds = true ∧
  ∀ (ys : List V) (p : Addr), H p = none → (∃ zs : List (V × PyData), (∀ z ∈ zs, z ∈ xs.zip ds) ∧ ys = zs.map (·.1) ∧ sortD ds = zs.map (·.2)) → Q (.ref p) (upd H p (.lst ys))
theorem sortOk_parts {ds : List PyData} (h : sortOk ds = true) : PySem.W.AllAlike ds ∧ PySem.W.Sortable ds ∧ PyData.plainAll ds = true ∧ PyData.depthAll ds ≤ 60 ∧ ds.length ≤ sizeLine := by
  simp only [sortOk, alikeB, Bool.and_eq_true, Bool.or_eq_true, List.all_eq_true, decide_eq_true_eq] at h
  obtain ⟨⟨⟨⟨h1, h2⟩, h3⟩, h4⟩, h5⟩ := h
  refine ⟨fun d hd d' hd' => h1 d hd d' hd', ?_, h3, h4, h5⟩
  rcases h2 with h2 | h2
  · refine .inl fun d hd => ?_
    have := h2 d hd
    match d, this with
    | .tuple (x :: r), _ => exact ⟨x, r, rfl⟩
  · refine .inr fun d hd => ?_
    have := h2 d hd
    refine ⟨?_, ?_⟩
    · rintro rfl; cases this
    · rintro xs rfl; cases this
theorem depth_mem : ∀ {ds : List PyData} {d : PyData}, d ∈ ds → d.depth ≤ PyData.depthAll ds
  | _ :: _, _, h => by
    rw [PyData.depthAll]
    rcases List.mem_cons.mp h with rfl | h
    · exact Nat.le_max_left _ _
    · exact Nat.le_trans (depth_mem h) (Nat.le_max_right _ _)
theorem each_zip {K : PySem.W.Frag} {H : Hp} : ∀ {xs : List V} {us : List Value} {ds : List PyData}, Vals xs us → DpAll K H xs ds → PySem.W.EachIs (fun (u : Value) (z : V × PyData) => RelV z.1 u ∧ Dp K H z.1 z.2) us (xs.zip ds)
  | _, _, _, .nil, .nil => .nil
  | _, _, _, .cons r t, .cons h q => .cons ⟨r, h⟩ (each_zip t q)
theorem zip_snd {K : PySem.W.Frag} {H : Hp} : ∀ {xs : List V} {ds : List PyData}, DpAll K H xs ds → (xs.zip ds).map (·.2) = ds
  | _, _, .nil => rfl
  | _, _, .cons h q => by simp [zip_snd q]
theorem dpAll_len {K : PySem.W.Frag} {H : Hp} : ∀ {xs : List V} {ds : List PyData}, DpAll K H xs ds → xs.length = ds.length
  | _, _, .nil => rfl
  | _, _, .cons h q => by simp [dpAll_len q]
theorem each_fst : ∀ {us : List Value} {zs : List (V × PyData)} {C : V × PyData → Prop}, PySem.W.EachIs (fun (u : Value) (z : V × PyData) => RelV z.1 u ∧ C z) us zs → Vals (zs.map (·.1)) us
  | _, _, _, .nil => .nil
  | _, _, _, .cons h t => .cons h.1 (each_fst t)
theorem cr_sortA (hu : X.A.units + 64 < cLine) : CallR X (.builtin "sorted") (rSortA X.K) := by
  intro pins s σ H vs us Q I r h
  obtain ⟨a, xs, ds, rfl, hs, hd, ok, q⟩ := h
  obtain ⟨its, rv, hl, hz⟩ := I.list hs
  obtain ⟨al, so, pl, de, ln⟩ := sortOk_parts ok
  rw [Vals.ref1 r]
  have e0 := each_zip rv hd
  have hm : (xs.zip ds).map (fun z : V × PyData => z.2) = ds := zip_snd hd
  have hlen : (xs.zip ds).length = ds.length := by
    have := congrArg List.length hm
    rwa [List.length_map] at this
  refine PySem.W.sorted_data (R := fun (u : Value) (z : V × PyData) => RelV z.1 u ∧ Dp X.K H z.1 z.2) (enc := fun z => z.2) hl.isList e0
    (e0.mono fun u z hz => Dp.reads I z.2 z.1 u hz.2 hz.1) (by rw [hm]; exact al) (by rw [hm]; exact so) (by rw [hlen]; exact ln)
    (fun b hb => ?_) fun out ho eo => ?_
  · have hb2 : b.2 ∈ ds := by rw [← hm]; exact List.mem_map.mpr ⟨b, hb, rfl⟩
    have := depth_mem hb2
    show X.A.units + 2 + b.2.depth < cLine
    omega
  · have hv := each_fst eo
    obtain ⟨ep, he'⟩ := PyProof.Rows.sortedAll_at s.heap its out.toArray
    have hl2 : (((xs.zip ds).mergeSort (PySem.W.dataLe false fun z => z.2)).map (·.1)).length ≤ sizeLine := by
      rw [List.length_map, List.length_mergeSort, hlen]
      exact ln
    refine ⟨.ref _, upd H (s.heap.objs.size + 1) (.lst _), I.laid (t' := s.toks) (fun _ _ => PyProof.Rows.sortedAll_old) (Nat.le_succ _) ⟨hl2, out, ep, hv, he'⟩, rfl, q _ _ (I.hok.fresh (Nat.le_succ _)) ⟨_, fun z hz => List.mem_mergeSort.mp hz, rfl, ?_⟩⟩
    have hh := List.map_mergeSort (r := PySem.W.dataLe false fun z : V × PyData => z.2) (s := fun a b => !PySem.W.dataLt b a) (f := fun z : V × PyData => z.2) (l := xs.zip ds) (fun a _ b _ => rfl)
    rw [hh, hm]
    rfl
theorem rps_zip {M : Addr → Prop} {H : Hp} : ∀ {xs : List V} {ds : List PyData}, Rps M H xs ds → ∀ z ∈ xs.zip ds, Rp M H z.1 z.2
  | _, _, .nil, z, h => by cases h
  | _, _, .cons r t, z, h => by
    rcases List.mem_cons.mp h with rfl | h
    · exact r
    · exact rps_zip t z h
theorem rps_of_zip {M : Addr → Prop} {H : Hp} : ∀ {zs : List (V × PyData)}, (∀ z ∈ zs, Rp M H z.1 z.2) → Rps M H (zs.map (·.1)) (zs.map (·.2))
  | [], _ => .nil
  | z :: zs, h => .cons (h z (by simp)) (rps_of_zip fun y hy => h y (List.mem_cons_of_mem _ hy))
theorem c3_sorted (hu : X.A.units + 64 < cLine) : CallF X (.builtin "sorted") srtD := by
  refine ⟨_, cr_sortA hu, fun S H k xs ds d Q i ra hd q => ?_⟩
  unfold srtD at hd
  split at hd
  · split at hd
    · rename_i ok
      cases hd
      obtain ⟨x, rfl, r⟩ := all2_1 ra
      obtain ⟨a, zs, rfl, h1, h2⟩ := rpB_list r
      refine ⟨a, zs, _, rfl, .of h1, h2.dp (sortOk_parts ok).2.2.1, ok, fun ys p hp hz => ?_⟩
      obtain ⟨ws, w1, rfl, w2⟩ := hz
      refine q p _ (ER.new i hp) (Ex.new hp) hp ?_ (ER.spN i hp)
      rw [w2]
      exact top_new hp (rps_of_zip fun z hz => rps_zip h2 z (w1 z hz))
    · cases hd
  · cases hd
end
end L3

set_option Elab.async false
set_option linter.all false
set_option maxRecDepth 100000
set_option maxHeartbeats 4000000
namespace L3
open PySem PySem.Spec PyProof.Rows L2

/-- what a turn hands out -/
def Yl (M1 : Addr → Prop) (H1 H H' : Hp) (x : V) (d : PyData) : Prop :=
  (H' = H ∧ Rp M1 H1 x d) ∨ ∃ p xs es, x = .ref p ∧ H p = none ∧ H' = upd H p (.tup xs) ∧ d = .tuple es ∧ Rps M1 H1 xs es
def Wk (M1 : Addr → Prop) (H1 : Hp) (J : It) (ds : List PyData) : Prop :=
  ∀ (i : Nat) (H : Hp), ExM M1 H1 H → (∀ d, ds[i]? = some d → J.go i H ∧ ∀ x H', J.yld i H x H' → Yl M1 H1 H H' x d) ∧ (ds.length ≤ i → J.stop i H)
def DI (X : Cx) (R : RX) (tg e : Expr) (f : Env3 → MM (List PyData)) : Prop :=
  ∃ w, PI X tg e w ∧ ∀ (S : S3) (H : Hp) (k : Int) (R' : It → Hp → Prop), S.In H k → Wp (f S.Δ k) (fun ds k' => ∀ J H', S.In H' k' → Ex S.sp H H' → Wk S.M H' J ds → R' J H') (S.er R H) → w S.σ H R'
theorem pi_alt {X : Cx} {tg e : Expr} {w w' : TI} (h : PI X tg e w) (h' : PI X tg e w') : PI X tg e (fun σ H R => w σ H R ∨ w' σ H R) :=
  ⟨fun pins s σ H R I q => q.elim (h.run pins s σ H R I) (h'.run pins s σ H R I)⟩
/-- the signs of a text -/
def signs (z : Str) : List PyData := z.cps.toList.map fun c => .str ⟨#[c]⟩
def iterD : PyData → Option (List PyData)
  | .list xs => some xs
  | .tuple xs => some xs
  | .str z => some (signs z)
  | _ => none
theorem rps_get' {M : Addr → Prop} {H : Hp} {xs : List V} {ds : List PyData} (r : Rps M H xs ds) {i : Nat} {d : PyData} (h : ds[i]? = some d) : ∃ x, xs[i]? = some x ∧ Rp M H x d := r.get h
theorem wk_list {K : PySem.W.Frag} {M : Addr → Prop} {H1 : Hp} {a : Addr} {xs : List V} {ds : List PyData} (h : H1 a = some (.lst xs)) (n : ¬ M a) (r : Rps M H1 xs ds) : Wk M H1 (Itl K a) ds := by
  intro i H e
  have q : SqL K H a xs := .of (e a _ h n)
  refine ⟨fun d hd => ?_, fun hl => ⟨xs, q, by rw [r.length]; exact hl⟩⟩
  obtain ⟨x, hx, rx⟩ := r.get hd
  refine ⟨⟨xs, x, q, hx⟩, fun y H' hy => .inl ⟨hy.1, ?_⟩⟩
  have := hy.2 xs q
  rw [hx] at this
  cases this
  exact rx
theorem wk_tup {K : PySem.W.Frag} {M : Addr → Prop} {H1 : Hp} {a : Addr} {xs : List V} {ds : List PyData} (h : H1 a = some (.tup xs)) (n : ¬ M a) (r : Rps M H1 xs ds) : Wk M H1 (Itt K a) ds := by
  intro i H e
  have q : SqT K H a xs := .of (e a _ h n)
  refine ⟨fun d hd => ?_, fun hl => ⟨xs, q, by rw [r.length]; exact hl⟩⟩
  obtain ⟨x, hx, rx⟩ := r.get hd
  refine ⟨⟨xs, x, q, hx⟩, fun y H' hy => .inl ⟨hy.1, ?_⟩⟩
  have := hy.2 xs q
  rw [hx] at this
  cases this
  exact rx
section
variable {X : Cx} {R : RX} {tg e a b : Expr} {es : List Expr} {f g h : Env3 → MM PyData} {pos p : Pos}
def itV (f : Env3 → MM PyData) : Env3 → MM (List PyData) := fun Δ => bd (f Δ) fun x => op (iterD x)
theorem wk_str {M : Addr → Prop} {H1 : Hp} {z : Str} : Wk M H1 (Its z) (signs z) := by
  intro i H e
  unfold signs
  refine ⟨fun d hd => ?_, fun hl => ?_⟩
  · rw [List.getElem?_map] at hd
    cases hc : z.cps.toList[i]? with
    | none => rw [hc] at hd; cases hd
    | some c =>
      rw [hc] at hd
      cases hd
      have hlt : i < z.cps.size := by
        have := (List.getElem?_eq_some_iff.mp hc).1
        simpa using this
      refine ⟨hlt, fun x H' hx => .inl ⟨hx.1, ?_⟩⟩
      obtain ⟨c', h1, rfl⟩ := hx.2
      have : z.cps.toList[i]? = some c' := by simpa using h1
      rw [hc] at this
      cases this
      exact .str _
  · show z.cps.size ≤ i
    simpa using hl
theorem Wp.val {α β : Type} {m : MM α} {g : α → MM β} {k : Int} {P : β → Int → Prop} {X : Exn → Int → Prop} (h : Wp (L3.bd m g k) P X) : (∃ a k', m k = .ok a k') ∨ ∃ x k', m k = .ex x k' := by
  unfold L3.bd at h
  cases e : m k with
  | ok a k' => exact .inl ⟨a, k', rfl⟩
  | ex x k' => exact .inr ⟨x, k', rfl⟩
  | no => rw [e] at h; exact h.elim
theorem di_val (ha : DE X R e f) : DI X R tg e (itV f) := by
  obtain ⟨t, pe, q⟩ := ha
  refine ⟨_, pi_alt (pi_list pe) (pi_alt (pi_tup pe) (pi_str pe)), fun S H k R' i w => ?_⟩
  rcases w.val with ⟨x, k1, hx⟩ | ⟨x, k1, hx⟩
  · have w1 := w.bd
    rw [hx] at w1
    obtain ⟨ds, hd, hq⟩ := (show Wp (op (iterD x) k1) _ _ from w1).op
    cases x with
    | list xs =>
      cases hd
      refine .inl (q S H k _ i ?_)
      rw [hx]
      intro v H1 i1 e1 r1
      cases r1 with
      | lst h n r => exact ⟨_, rfl, ⟨_, .of h⟩, hq _ H1 i1 e1 (wk_list h n r)⟩
    | tuple xs =>
      cases hd
      refine .inr (.inl (q S H k _ i ?_))
      rw [hx]
      intro v H1 i1 e1 r1
      cases r1 with
      | tup h n r => exact ⟨_, rfl, ⟨_, .of h⟩, hq _ H1 i1 e1 (wk_tup h n r)⟩
    | str z =>
      cases hd
      refine .inr (.inr (q S H k _ i ?_))
      rw [hx]
      intro v H1 i1 e1 r1
      cases r1
      exact ⟨z, rfl, hq _ H1 i1 e1 wk_str⟩
    | none => cases hd
    | bool _ => cases hd
    | int _ => cases hd
    | dict _ => cases hd
  · refine .inl (q S H k _ i ?_)
    have w1 := w.bd
    rw [hx] at w1 ⊢
    exact w1
def rngD (lo : Int) (n : Nat) : List PyData := (List.range n).map fun (j : Nat) => .int (lo + j)
theorem wk_rng {M : Addr → Prop} {H1 : Hp} {lo : Int} {n : Nat} : Wk M H1 (Itr lo n) (rngD lo n) := by
  intro i H e
  unfold rngD
  refine ⟨fun d hd => ?_, fun hl => ?_⟩
  · rw [List.getElem?_map] at hd
    cases hc : (List.range n)[i]? with
    | none => rw [hc] at hd; cases hd
    | some c =>
      rw [hc] at hd
      cases hd
      have hlt := (List.getElem?_eq_some_iff.mp hc).1
      rw [List.length_range] at hlt
      have hc' : c = i := by
        obtain ⟨_, h⟩ := List.getElem?_eq_some_iff.mp hc
        rw [List.getElem_range] at h
        exact h.symm
      subst hc'
      exact ⟨hlt, fun x H' hx => .inl ⟨hx.1, by rw [hx.2]; exact .int _⟩⟩
  · show n ≤ i
    simpa using hl
def small62 (i : Int) : Bool := decide (-(2 ^ 62) ≤ i ∧ i < 2 ^ 62)
def rg1 : List PyData → Option (List PyData)
  | [.int j] => if small62 j = true then some (rngD 0 j.toNat) else none
  | _ => none
def rg2 : List PyData → Option (List PyData)
  | [.int i, .int j] => if small62 i && small62 j then some (rngD i (j - i).toNat) else none
  | _ => none
def itA (F : List PyData → Option (List PyData)) (g : Env3 → MM (List PyData)) : Env3 → MM (List PyData) := fun Δ => bd (g Δ) fun xs => op (F xs)
theorem di_range1 {g : Env3 → MM (List PyData)} (hm : X.mg "range" = none) (ha : DA B3 X R [a] g) (hg : Gl X "range" := by rfl) (hs : starEach [a] X.env = [(false, eval a X.env)] := by rfl) : DI X R tg (.Call (.Name "range" p) [a] [] pos) (itA rg1 g) := by
  obtain ⟨t, pa, q⟩ := ha.use
  refine ⟨_, pi_range1 hg hm pa hs, fun S H k R' i w => q S H k _ _ _ i w fun ds k1 w1 vs H1 i1 e1 r1 => ?_⟩
  obtain ⟨ls, hl, hq⟩ := w1.op
  unfold rg1 at hl
  split at hl
  · split at hl
    · rename_i hb
      cases hl
      obtain ⟨x, rfl, r⟩ := all2_1 r1
      obtain ⟨b1, b2⟩ := of_decide_eq_true hb
      exact ⟨_, by rw [rpB_int r], b1, b2, hq _ H1 i1 e1 wk_rng⟩
    · cases hl
  · cases hl
theorem di_range2 {g : Env3 → MM (List PyData)} (hm : X.mg "range" = none) (ha : DA B3 X R [a, b] g) (hg : Gl X "range" := by rfl) (hs : starEach [a, b] X.env = [(false, eval a X.env), (false, eval b X.env)] := by rfl) (hs2 : starEach [b] X.env = [(false, eval b X.env)] := by rfl) : DI X R tg (.Call (.Name "range" p) [a, b] [] pos) (itA rg2 g) := by
  obtain ⟨t, pa, q⟩ := ha.use
  refine ⟨_, pi_range2 hg hm pa hs hs2, fun S H k R' i w => q S H k _ _ _ i w fun ds k1 w1 vs H1 i1 e1 r1 => ?_⟩
  obtain ⟨ls, hl, hq⟩ := w1.op
  unfold rg2 at hl
  split at hl
  · split at hl
    · rename_i hb
      cases hl
      obtain ⟨x, y, rfl, ra, rb⟩ := all2_2 r1
      rw [Bool.and_eq_true] at hb
      obtain ⟨b1, b2⟩ := of_decide_eq_true hb.1
      obtain ⟨b3, b4⟩ := of_decide_eq_true hb.2
      exact ⟨_, _, by rw [rpB_int ra, rpB_int rb], ⟨b1, b2, b3, b4⟩, hq _ H1 i1 e1 wk_rng⟩
    · cases hl
  · cases hl

def Outside (ts : List Nat) (σ σ' : L2.St) : Prop := σ'.length = σ.length ∧ ∀ j : Nat, j ∉ ts → σ'[j]? = σ[j]?
theorem Outside.refl (ts : List Nat) (σ : L2.St) : Outside ts σ σ := ⟨rfl, fun _ _ => rfl⟩
theorem Outside.trans {ts : List Nat} {σ σ1 σ2 : L2.St} (a : Outside ts σ σ1) (b : Outside ts σ1 σ2) : Outside ts σ σ2 := ⟨b.1.trans a.1, fun j h => (b.2 j h).trans (a.2 j h)⟩
theorem Outside.more {ts ts' : List Nat} {σ σ' : L2.St} (a : Outside ts σ σ') (h : ∀ t ∈ ts, t ∈ ts') : Outside ts' σ σ' := ⟨a.1, fun j hj => a.2 j fun z => hj (h j z)⟩
theorem wipe_get {σ : L2.St} {j : Nat} : ∀ {vs : List Nat}, (wipe σ vs)[j]? = if j ∈ vs then (if j < σ.length then some none else none) else σ[j]?
  | [] => by simp [wipe]
  | v :: vs => by
    unfold wipe
    by_cases h : v = j
    · subst h
      by_cases hl : v < σ.length
      · rw [List.getElem?_set_self (by rw [wipe_length]; exact hl)]
        simp [hl]
      · rw [List.getElem?_eq_none (by rw [List.length_set, wipe_length]; omega)]
        simp [hl]
    · rw [List.getElem?_set_ne h, wipe_get]
      have : (j ∈ v :: vs) ↔ (j ∈ vs) := by
        simp only [List.mem_cons]
        exact ⟨fun z => z.elim (fun e => absurd e.symm h) id, .inr⟩
      simp only [this]
theorem Outside.wipe {ts vs : List Nat} {σ σ' : L2.St} (o : Outside ts (L2.wipe σ vs) σ') (h : ∀ t ∈ ts, t ∈ vs) : L2.wipe σ' vs = L2.wipe σ vs := by
  apply List.ext_getElem?
  intro j
  rw [wipe_get, wipe_get]
  by_cases hj : j ∈ vs
  · rw [if_pos hj, if_pos hj, o.1, wipe_length]
  · rw [if_neg hj, if_neg hj, o.2 j fun z => hj (h j z), wipe_get, if_neg hj]
def DT3 (X : Cx) (target : Expr) (ts : List Nat) (tg : Env3 → PyData → Option Env3) : Prop :=
  ∃ t, PG X target t ∧ ∀ (H0 : Hp) (M0 : Addr → Prop) (sp : Option Addr) (M : Addr → Prop) (σ : L2.St) (Δ Δ' : Env3) (H : Hp) (k : Int) (v : V) (d : PyData) (Q : L2.St → Hp → Prop), ER H0 M0 sp M H σ Δ k → Rp M H v d → tg Δ d = some Δ' →
    (∀ σ', Outside ts σ σ' → ER H0 M0 sp M H σ' Δ' k → Q σ' H) → t v σ H Q
def tgN (i : Nat) : Env3 → PyData → Option Env3 := fun Δ d => some (Δ.set i (some (.val d)))
theorem dt3_name {i : Nat} {x : Str} (p : PG X (.Name x pos) (gName i)) : DT3 X (.Name x pos) [i] (tgN i) := by
  refine ⟨_, p, fun H0 M0 sp M σ Δ Δ' H k v d Q i' r hd q => ?_⟩
  cases hd
  exact q _ ⟨by simp, fun j hj => by rw [List.getElem?_set_ne (fun e => hj (by simp [e]))]⟩ (i'.set i r)
/-- several targets -/
def DT3s (X : Cx) (es : List Expr) (ts : List Nat) (tg : Env3 → List PyData → Option Env3) : Prop :=
  ∃ t, PGs X es t ∧ ∀ (H0 : Hp) (M0 : Addr → Prop) (sp : Option Addr) (M : Addr → Prop) (σ : L2.St) (Δ Δ' : Env3) (H : Hp) (k : Int) (v : List V) (d : List PyData) (Q : L2.St → Hp → Prop), ER H0 M0 sp M H σ Δ k → Rps M H v d → tg Δ d = some Δ' →
    (∀ σ', Outside ts σ σ' → ER H0 M0 sp M H σ' Δ' k → Q σ' H) → t v σ H Q
def tgNil : Env3 → List PyData → Option Env3 := fun Δ ds => match ds with | [] => some Δ | _ => none
def tgCons (t : Env3 → PyData → Option Env3) (u : Env3 → List PyData → Option Env3) : Env3 → List PyData → Option Env3 := fun Δ ds => match ds with | [] => none | d :: r => (t Δ d).bind fun Δ' => u Δ' r
theorem dt3_nil : DT3s X [] [] tgNil := by
  refine ⟨_, pgs_nil, fun H0 M0 sp M σ Δ Δ' H k v d Q i' r hd q => ?_⟩
  cases r with
  | nil => cases hd; exact ⟨rfl, q σ (Outside.refl _ _) i'⟩
  | cons _ _ => cases hd
theorem dt3_cons {ts us : List Nat} {t : Env3 → PyData → Option Env3} {u : Env3 → List PyData → Option Env3} (h1 : DT3 X e ts t) (h2 : DT3s X es us u) (hs : (assignEach (e :: es) X.env).map (·.2) = assign e X.env :: (assignEach es X.env).map (·.2) := by rfl) : DT3s X (e :: es) (ts ++ us) (tgCons t u) := by
  obtain ⟨g1, p1, q1⟩ := h1
  obtain ⟨g2, p2, q2⟩ := h2
  refine ⟨_, pgs_cons p1 p2 hs, fun H0 M0 sp M σ Δ Δ' H k v d Q i' r hd q => ?_⟩
  cases r with
  | nil => cases hd
  | cons h r =>
    obtain ⟨Δ1, hd1, hd2⟩ := Option.bind_eq_some_iff.mp hd
    refine ⟨_, _, rfl, q1 H0 M0 sp M σ Δ Δ1 H k _ _ _ i' h hd1 fun σ1 o1 i1 => ?_⟩
    exact q2 H0 M0 sp M σ1 Δ1 Δ' H k _ _ _ i1 r hd2 fun σ2 o2 i2 => q σ2 ((o1.more (by simp +contextual)).trans (o2.more (by simp +contextual))) i2
def tgT (u : Env3 → List PyData → Option Env3) (n : Nat) : Env3 → PyData → Option Env3 := fun Δ d => match d with | .tuple ds => if ds.length = n then u Δ ds else none | _ => none
theorem dt3_tup {us : List Nat} {u : Env3 → List PyData → Option Env3} {j n : Nat} (hc : X.calm = true) (h : DT3s X es us u) (hn : (assignEach es X.env).length = n := by rfl) (hst : (assignEach es X.env).findIdx? (·.1) = none := by rfl) : DT3 X (.Tuple es j pos) us (tgT u n) := by
  obtain ⟨g, p, q⟩ := h
  refine ⟨_, pg_tup hc p hn hst, fun H0 M0 sp M σ Δ Δ' H k v d Q i' r hd z => ?_⟩
  unfold tgT at hd
  split at hd
  · split at hd
    · rename_i hl
      cases r with
      | tup h1 n1 r => exact ⟨_, _, rfl, .of h1, by rw [r.length]; exact hl, q H0 M0 sp M σ Δ Δ' H k _ _ _ i' r hd z⟩
    · cases hd
  · cases hd

def wipeE (Δ : Env3) : List Nat → Env3
  | [] => Δ
  | v :: vs => (wipeE Δ vs).set v none
theorem wipeE_get {Δ : Env3} {j : Nat} : ∀ {vs : List Nat}, (wipeE Δ vs)[j]? = if j ∈ vs then (if j < Δ.length then some none else none) else Δ[j]?
  | [] => by simp [wipeE]
  | v :: vs => by
    have hl : ∀ vs : List Nat, (wipeE Δ vs).length = Δ.length := by
      intro vs
      induction vs with
      | nil => rfl
      | cons _ _ ih => simp [wipeE, ih]
    unfold wipeE
    by_cases h : v = j
    · subst h
      by_cases hl' : v < Δ.length
      · rw [List.getElem?_set_self (by rw [hl]; exact hl')]
        simp [hl']
      · rw [List.getElem?_eq_none (by rw [List.length_set, hl]; omega)]
        simp [hl']
    · rw [List.getElem?_set_ne h, wipeE_get]
      have : (j ∈ v :: vs) ↔ (j ∈ vs) := by
        simp only [List.mem_cons]
        exact ⟨fun z => z.elim (fun e => absurd e.symm h) id, .inr⟩
      simp only [this]
theorem wipeE_length (Δ : Env3) : ∀ vs : List Nat, (wipeE Δ vs).length = Δ.length
  | [] => rfl
  | v :: vs => by simp [wipeE, wipeE_length Δ vs]
theorem ER.wipe {H0 : Hp} {M0 M : Addr → Prop} {sp : Option Addr} {H : Hp} {σ : L2.St} {Δ : Env3} {k : Int} (I : ER H0 M0 sp M H σ Δ k) (vs : List Nat) : ER H0 M0 sp M H (L2.wipe σ vs) (wipeE Δ vs) k where
  keep := I.keep
  sub := I.sub
  low := I.low
  live := I.live
  spot := I.spot
  len := by rw [wipe_length, wipeE_length]; exact I.len
  slot := fun i s h => by
    rw [wipeE_get] at h
    by_cases hi : i ∈ vs
    · rw [if_pos hi] at h
      split at h <;> cases h
    · rw [if_neg hi] at h
      obtain ⟨v, h1, h2⟩ := I.slot i s h
      exact ⟨v, by rw [wipe_get, if_neg hi]; exact h1, h2⟩
  uniq := fun i j a h1 h2 => by
    have back : ∀ {i}, OwnAt H (wipeE Δ vs) (L2.wipe σ vs) i a → OwnAt H Δ σ i a := fun {i} o => o.back (fun s h _ => by
      rw [wipeE_get] at h
      rw [wipe_get]
      by_cases hi : i ∈ vs
      · rw [if_pos hi] at h
        split at h <;> cases h
      · rw [if_neg hi] at h
        exact ⟨h, if_neg hi⟩) fun _ _ _ _ => rfl
    exact I.uniq i j a (back h1) (back h2)
def lcGo (tg : Env3 → PyData → Option Env3) (tt : Env3 → MM Bool) (te : Env3 → MM PyData) (Δ : Env3) : List PyData → List PyData → MM (List PyData)
  | [], acc => rt acc
  | d :: ds, acc => bd (op (tg Δ d)) fun Δ1 => bd (calmly (tt Δ1)) fun b => if b = true then bd (calmly (te Δ1)) fun y => if acc.length < sizeLine then lcGo tg tt te Δ ds (acc ++ [y]) else fl else lcGo tg tt te Δ ds acc
def lcV (src : Env3 → MM (List PyData)) (vs : List Nat) (tg : Env3 → PyData → Option Env3) (tt : Env3 → MM Bool) (te : Env3 → MM PyData) : Env3 → MM PyData :=
  fun Δ => bd (src Δ) fun ds => bd (lcGo tg tt te (wipeE Δ vs) ds []) fun xs => rt (.list xs)
/-- the tests of a comprehension -/
def DTs (X : Cx) (R : RX) (ifs : List Expr) (f : Env3 → MM Bool) : Prop :=
  ∃ t, PTs X ifs t ∧ ∀ (S : S3) (H : Hp) (k : Int) (Q : Bool → Hp → Prop), S.In H k → Wp (f S.Δ k) (S.ok (fun _ b c => b = c) H Q) (S.er R H) → t S.σ H Q
def ty : Env3 → MM Bool := fun _ => rt true
theorem dts_nil : DTs X R [] ty := ⟨_, pts_nil, fun S H k Q i w => w _ H i (Ex.refl H) rfl⟩
theorem dts_one {f : Env3 → MM Bool} (h : DT X R a f) : DTs X R [a] f := by
  obtain ⟨t, p, q⟩ := h
  exact ⟨_, pts_one p, q⟩
theorem DTs.use {ifs : List Expr} {f : Env3 → MM Bool} (h : DTs X R ifs f) : ∃ t, PTs X ifs t ∧ ∀ (S : S3) (H : Hp) (k : Int) (Q : Bool → Hp → Prop), S.In H k → ∀ c k', f S.Δ k = .ok c k' → (∀ H', S.In H' k' → Ex S.sp H H' → Q c H') → t S.σ H Q := by
  obtain ⟨t, p, q⟩ := h
  refine ⟨t, p, fun S H k Q i c k' e n => q S H k Q i ?_⟩
  rw [e]
  intro v H' i' e' r
  cases r
  exact n H' i' e'
theorem DG.run {Rel : Rel3} (h : DG Rel X R e f) : ∃ t, PE X e t ∧ ∀ (S : S3) (H : Hp) (k : Int) (Q : VK), S.In H k → ∀ d k', f S.Δ k = .ok d k' → (∀ v H', S.In H' k' → Ex S.sp H H' → Rel S H' v d → Q v H') → t S.σ H Q := by
  obtain ⟨t, p, q⟩ := h
  refine ⟨t, p, fun S H k Q i c k' e n => q S H k Q i ?_⟩
  rw [e]
  exact n
/-- the heap behind a store into the list at D that is being made -/
theorem ER.put {H0 : Hp} {M0 M : Addr → Prop} {sp : Option Addr} {H : Hp} {σ : L2.St} {Δ : Env3} {k : Int} {D : Addr} {o : HO} (I : ER H0 M0 sp (or1 M D) H σ Δ k) (h0 : H0 D = none) (hs : sp ≠ some D) (hn : ∀ i a, OwnAt H Δ σ i a → a ≠ D) :
    ER H0 M0 sp (or1 M D) (upd H D o) σ Δ k := by
  have ee : ExM (or1 M D) H (upd H D o) := fun a u e n => by rw [upd_ne (fun z => n (.inr z))]; exact e
  exact {
    keep := fun a u e n => by
      have : a ≠ D := fun z => by rw [z, h0] at e; cases e
      rw [upd_ne this]; exact I.keep a u e n
    sub := I.sub
    low := I.low
    live := fun a m => by
      by_cases hd : a = D
      · exact ⟨o, by rw [hd]; exact upd_same⟩
      · obtain ⟨u, e⟩ := I.live a m
        exact ⟨u, by rw [upd_ne hd]; exact e⟩
    spot := fun a e => ⟨(I.spot a e).1, (I.spot a e).2.move ee (fun _ _ _ n => n) fun u q => by rw [upd_ne (fun z => hs (by rw [e, z]))]; exact q⟩
    len := I.len
    slot := fun i s e => by
      obtain ⟨v, h1, h2⟩ := I.slot i s e
      refine ⟨v, h1, ?_⟩
      cases h2 with
      | val r => exact .val (r.ext ee)
      | @own a d m h0' n t =>
        have hd : a ≠ D := hn i a (.own e h1)
        exact .own m h0' n (t.move ee (fun _ _ _ n => n) fun u q => by rw [upd_ne hd]; exact q)
      | @own2 a d m h0' n t =>
        have hd : a ≠ D := hn i a (.own2 e h1 (.inl rfl))
        exact .own2 m h0' n (t.move (fun u q => by rw [upd_ne hd]; exact q) fun b x hi p => p.move ee (fun _ _ _ n => n) id id fun u q => by rw [upd_ne (hn i b (.own2 e h1 (.inr hi)))]; exact q)
      | bor r h0' =>
        refine .bor ?_ h0'
        rcases r with r | ⟨a, rfl, m, n, t⟩
        · exact .inl (r.ext ee)
        · have hd : a ≠ D := fun z => by
            obtain ⟨u, hu⟩ := h0' a rfl m
            rw [z, h0] at hu; cases hu
          exact .inr ⟨a, rfl, m, n, t.move ee (fun _ _ _ n => n) fun u q => by rw [upd_ne hd]; exact q⟩
      | spot h => exact .spot h
      | scr hq => exact .scr (scr_move hq ee fun _ _ _ n => n)
    uniq := fun i j a o1 o2 => by
      have back : ∀ {j}, OwnAt (upd H D o) Δ σ j a → OwnAt H Δ σ j a := fun {j} q => q.back (fun s h _ => ⟨h, rfl⟩) fun d t h h2 => upd_ne (hn j t (.own2 h h2 (.inl rfl)))
      exact I.uniq i j a (back o1) (back o2) }
theorem uniE {ι : Type} {Xs : ι → Cx} {Rel : Rel3} (h : ∀ i, DG Rel (Xs i) R e f) : ∃ t, (∀ i, PE (Xs i) e t) ∧ ∀ (S : S3) (H : Hp) (k : Int) (Q : VK), S.In H k → Wp (f S.Δ k) (S.ok (Rel S) H Q) (S.er R H) → t S.σ H Q :=
  ⟨fun σ H Q => ∀ i, (h i).choose σ H Q, fun i => ⟨fun pins s σ H Q I q => (h i).choose_spec.1.run pins s σ H Q I (q i)⟩, fun S H k Q i w j => (h j).choose_spec.2 S H k Q i w⟩
theorem uniT {ι : Type} {Xs : ι → Cx} {ifs : List Expr} {f : Env3 → MM Bool} (h : ∀ i, DTs (Xs i) R ifs f) : ∃ t, (∀ i, PTs (Xs i) ifs t) ∧ ∀ (S : S3) (H : Hp) (k : Int) (Q : Bool → Hp → Prop), S.In H k → Wp (f S.Δ k) (S.ok (fun _ b c => b = c) H Q) (S.er R H) → t S.σ H Q :=
  ⟨fun σ H Q => ∀ i, (h i).choose σ H Q, fun i => ⟨fun pins s σ H Q I q => (h i).choose_spec.1.run pins s σ H Q I (q i)⟩, fun S H k Q i w j => (h j).choose_spec.2 S H k Q i w⟩
theorem uniG {ι : Type} {Xs : ι → Cx} {ts : List Nat} {t : Env3 → PyData → Option Env3} (h : ∀ i, DT3 (Xs i) e ts t) : ∃ g, (∀ i, PG (Xs i) e g) ∧ ∀ (H0 : Hp) (M0 : Addr → Prop) (sp : Option Addr) (M : Addr → Prop) (σ : L2.St) (Δ Δ' : Env3) (H : Hp) (k : Int) (v : V) (d : PyData) (Q : L2.St → Hp → Prop), ER H0 M0 sp M H σ Δ k → Rp M H v d → t Δ d = some Δ' →
    (∀ σ', Outside ts σ σ' → ER H0 M0 sp M H σ' Δ' k → Q σ' H) → g v σ H Q :=
  ⟨fun v σ H Q => ∀ i, (h i).choose v σ H Q, fun i => ⟨fun pins s σ H v u Q I r q => (h i).choose_spec.1.run pins s σ H v u Q I r (q i)⟩, fun H0 M0 sp M σ Δ Δ' H k v d Q a b c z j => (h j).choose_spec.2 H0 M0 sp M σ Δ Δ' H k v d Q a b c z⟩
theorem ExM.trans2 {M : Addr → Prop} {H H1 H2 : Hp} (a : ExM M H H1) (b : ExM M H1 H2) : ExM M H H2 := fun x o h n => b x o (a x o h n) n
theorem Yl.use {M1 M : Addr → Prop} {H1 H H' : Hp} {x : V} {d : PyData} (y : Yl M1 H1 H H' x d) (e : ExM M1 H1 H) (hm : ∀ a o, H1 a = some o → ¬ M1 a → ¬ M a) (hl : ∀ p, H p = none → ¬ M p) : (H' = H ∨ ∃ p xs, H p = none ∧ H' = upd H p (.tup xs)) ∧ Rp M H' x d := by
  rcases y with ⟨rfl, r⟩ | ⟨p, xs, es, rfl, hp, rfl, rfl, r⟩
  · exact ⟨.inl rfl, r.move e hm⟩
  · refine ⟨.inr ⟨p, xs, hp, rfl⟩, .tup upd_same (hl p hp) ?_⟩
    exact r.move (fun a o h n => by rw [upd_ne (ne_of_none (e a o h n) hp)]; exact e a o h n) hm
def SemF (R : RX) (t : TE) (f : Env3 → MM PyData) : Prop := ∀ (S : S3) (H : Hp) (k : Int) (Q : VK), S.In H k → Wp (f S.Δ k) (fun d k' => ∀ p H', S.In H' k' → Ex S.sp H H' → H p = none → Top (or1 S.M p) H' p d → SpN S.sp S.M H' k' p → Q (.ref p) H') (S.er R H) → t S.σ H Q
theorem lc_core {own : List (Str × Nat)} {src : Env3 → MM (List PyData)} {tgt : Env3 → PyData → Option Env3} {ts : List Nat} {tt : Env3 → MM Bool} {te : Env3 → MM PyData} {wi : TI} {g : TG} {t1 : TT} {t2 : TE} (hts : ∀ t ∈ ts, t ∈ own.map (·.2))
    (qg : ∀ (H0 : Hp) (M0 : Addr → Prop) (sp : Option Addr) (M : Addr → Prop) (σ : L2.St) (Δ Δ' : Env3) (H : Hp) (k : Int) (v : V) (d : PyData) (Q : L2.St → Hp → Prop), ER H0 M0 sp M H σ Δ k → Rp M H v d → tgt Δ d = some Δ' → (∀ σ', Outside ts σ σ' → ER H0 M0 sp M H σ' Δ' k → Q σ' H) → g v σ H Q)
    (qt : ∀ (S : S3) (H : Hp) (k : Int) (Q : Bool → Hp → Prop), S.In H k → Wp (tt S.Δ k) (S.ok (fun _ b c => b = c) H Q) (S.er RX0 H) → t1 S.σ H Q)
    (qe : ∀ (S : S3) (H : Hp) (k : Int) (Q : VK), S.In H k → Wp (te S.Δ k) (S.ok (P3 S) H Q) (S.er RX0 H) → t2 S.σ H Q)
    {S : S3} {H : Hp} {k : Int} {Q : VK} (i : S.In H k) (qi : ∀ R', Wp (src S.Δ k) (fun ds k' => ∀ J H', S.In H' k' → Ex S.sp H H' → Wk S.M H' J ds → R' J H') (S.er R H) → wi S.σ H R')
    (w : Wp (lcV src (own.map (·.2)) tgt tt te S.Δ k) (fun d k' => ∀ p H', S.In H' k' → Ex S.sp H H' → H p = none → Top (or1 S.M p) H' p d → SpN S.sp S.M H' k' p → Q (.ref p) H') (S.er R H)) : tLc wi g t1 t2 (own.map (·.2)) S.σ H Q := by
  refine qi _ (w.bd.mono (fun ds k1 _ w1 J H1 i1 e1 wk D hD => ?_) fun _ _ _ z => z)
  have hD0 : S.H0 D = none := ER.fresh0 i1 hD
  have hDs : S.sp ≠ some D := ER.freshS i1 hD
  refine ⟨fun i m Hc => m = ds.length - i ∧ i ≤ ds.length ∧ ∃ acc accD k', ER S.H0 S.M0 S.sp (or1 S.M D) Hc (L2.wipe S.σ (own.map (·.2))) (wipeE S.Δ (own.map (·.2))) k' ∧ Hc D = some (.lst acc) ∧ Rps (or1 S.M D) Hc acc accD ∧ Ex S.sp H1 Hc ∧
    Wp (bd (lcGo tgt tt te (wipeE S.Δ (own.map (·.2))) (ds.drop i) accD) (fun xs => rt (.list xs)) k') (fun d k' => ∀ p H', S.In H' k' → Ex S.sp H H' → H p = none → Top (or1 S.M p) H' p d → SpN S.sp S.M H' k' p → Q (.ref p) H') (S.er R H), ⟨ds.length, by simp, Nat.zero_le _, [], [], k1, ?_, upd_same, .nil, Ex.new hD, w1⟩, ?_⟩
  · exact (ER.more i1 hD).wipe _
  · rintro j m Hc ⟨rfl, hj, acc, accD, k', ic, hd, ra, ec, wc⟩
    have exm : ExM S.M H1 Hc := ER.exM i1 ec
    by_cases hlt : j < ds.length
    · obtain ⟨d, hdj⟩ : ∃ d, ds[j]? = some d := ⟨ds[j], by simp [hlt]⟩
      obtain ⟨go, yl⟩ := (wk j Hc exm).1 d hdj
      have hdrop : ds.drop j = d :: ds.drop (j + 1) := by
        rw [List.drop_eq_getElem_cons hlt]
        congr 1
        have := hdj
        rw [List.getElem?_eq_getElem hlt] at this
        exact Option.some.inj this
      rw [hdrop] at wc
      unfold lcGo at wc
      simp only [bd_assoc] at wc
      obtain ⟨Δ1, ht1, wc⟩ := wc.bd.op
      obtain ⟨b, k2, hb, wc⟩ := wc.bd.calmly
      refine .inr ⟨go, fun Hn => ∃ acc accD k', ER S.H0 S.M0 S.sp (or1 S.M D) Hn (L2.wipe S.σ (own.map (·.2))) (wipeE S.Δ (own.map (·.2))) k' ∧ Hn D = some (.lst acc) ∧ Rps (or1 S.M D) Hn acc accD ∧ Ex S.sp H1 Hn ∧
        Wp (bd (lcGo tgt tt te (wipeE S.Δ (own.map (·.2))) (ds.drop (j + 1)) accD) (fun xs => rt (.list xs)) k') (fun d k' => ∀ p H', S.In H' k' → Ex S.sp H H' → H p = none → Top (or1 S.M p) H' p d → SpN S.sp S.M H' k' p → Q (.ref p) H') (S.er R H),
        fun H' z => ⟨ds.length - (j + 1), by omega, rfl, hlt, z⟩, fun x H' hy => ?_⟩
      obtain ⟨hH', rx⟩ := (yl x H' hy).use (M := or1 S.M D) exm (fun a o h n q => by
        rcases q with q | q
        · exact n q
        · rw [q, hD] at h; cases h) (fun p hp q => by
        rcases q with q | q
        · obtain ⟨o, ho⟩ := ic.live p (.inl q)
          rw [hp] at ho; cases ho
        · rw [q, hd] at hp; cases hp)
      -- the state behind the draw
      have ic' : ER S.H0 S.M0 S.sp (or1 S.M D) H' (L2.wipe S.σ (own.map (·.2))) (wipeE S.Δ (own.map (·.2))) k' ∧ H' D = some (.lst acc) ∧ Ex S.sp Hc H' := by
        rcases hH' with rfl | ⟨p, xs, hp, rfl⟩
        · exact ⟨ic, hd, Ex.refl _⟩
        · exact ⟨ER.new ic hp, by rw [upd_ne (ne_of_none hd hp)]; exact hd, Ex.new hp⟩
      obtain ⟨ic1, hd1, ec1⟩ := ic'
      refine qg S.H0 S.M0 S.sp (or1 S.M D) _ _ Δ1 H' k' x d _ ic1 rx ht1 fun σ2 o2 i2 => ⟨o2.wipe hts, ?_⟩
      -- the test
      refine qt ⟨S.H0, S.M0, S.sp, or1 S.M D, σ2, Δ1⟩ H' k' _ i2 ?_
      show Wp (tt Δ1 k') _ _
      rw [hb]
      rintro b' H3 i3 e3 rfl
      have i3' : ER S.H0 S.M0 S.sp (or1 S.M D) H3 σ2 Δ1 k2 := i3
      have e3' : Ex S.sp H' H3 := e3
      have hd3 : H3 D = some (.lst acc) := e3' D _ hd1 hDs
      have ra3 : Rps (or1 S.M D) H3 acc accD := ER.rps i2 e3' (ER.rps ic ec1 ra)
      have wip : ∀ {Hn : Hp} {kn : Int}, ER S.H0 S.M0 S.sp (or1 S.M D) Hn σ2 Δ1 kn → Ex S.sp H3 Hn → ER S.H0 S.M0 S.sp (or1 S.M D) Hn (L2.wipe S.σ (own.map (·.2))) (wipeE S.Δ (own.map (·.2))) kn := fun {Hn kn} z ez =>
        ic1.step (e3'.trans ez) fun a ha => (z.spot a ha).2
      cases b' with
      | false =>
        rw [if_neg Bool.false_ne_true] at wc ⊢
        exact ⟨acc, accD, k2, wip i3' (Ex.refl _), hd3, ra3, (ec.trans ec1).trans e3', wc⟩
      | true =>
        rw [if_pos rfl] at wc ⊢
        simp only [bd_assoc] at wc
        obtain ⟨y, k3, hy3, wc⟩ := wc.bd.calmly
        refine qe ⟨S.H0, S.M0, S.sp, or1 S.M D, σ2, Δ1⟩ H3 k2 _ i3 ?_
        show Wp (te Δ1 k2) _ _
        rw [hy3]
        intro v H4 i4 e4 r4
        have i4' : ER S.H0 S.M0 S.sp (or1 S.M D) H4 σ2 Δ1 k3 := i4
        have e4' : Ex S.sp H3 H4 := e4
        have r4' : Rp (or1 S.M D) H4 v y := r4
        have hd4 : H4 D = some (.lst acc) := e4' D _ hd3 hDs
        have ra4 := ER.rps i3' e4' ra3
        by_cases hl : accD.length < sizeLine
        · rw [if_pos hl] at wc
          have iw := wip i4' e4'
          have noD : ∀ i a, OwnAt H4 (wipeE S.Δ (own.map (·.2))) (L2.wipe S.σ (own.map (·.2))) i a → a ≠ D := fun i a h z => by
            have iw1 : ER S.H0 S.M0 S.sp S.M H1 (L2.wipe S.σ (own.map (·.2))) (wipeE S.Δ (own.map (·.2))) k1 := ER.wipe i1 _
            obtain ⟨o, ho⟩ := iw1.live a ((h.ex iw1 (((ec.trans ec1).trans e3').trans e4')).m iw1).1
            rw [z, hD] at ho; cases ho
          have ip := iw.put (o := .lst (acc ++ [v])) hD0 hDs noD
          have em : ExM (or1 S.M D) H4 (upd H4 D (.lst (acc ++ [v]))) := fun a u e n => by rw [upd_ne (fun z => n (.inr z))]; exact e
          refine ⟨acc, hd4, by rw [ra4.length]; exact hl, acc ++ [v], accD ++ [y], k3, ip, upd_same, (ra4.append (.cons r4' .nil)).ext em, fun a u h n => ?_, wc⟩
          have : a ≠ D := fun z => by rw [z, hD] at h; cases h
          rw [upd_ne this]
          exact ((((ec.trans ec1).trans e3').trans e4') a u h n)
        · rw [if_neg hl] at wc
          exact wc.elim
    · have hj' : j = ds.length := by omega
      subst hj'
      refine .inl ⟨(wk _ Hc exm).2 (Nat.le_refl _), ?_⟩
      rw [List.drop_length] at wc
      have iS : S.In Hc k' := ER.step i1 ec fun a ha => (ic.spot a ha).2.less fun a m => .inl m
      exact wc D Hc iS (e1.trans ec) (ER.back i i1 e1 hD) (.lst hd ra) (fun a ha => (ic.spot a ha).2)
theorem lc_sem {elt iter : Expr} {ifs : List Expr} {scope : Scope} {own : List (Str × Nat)} {src : Env3 → MM (List PyData)} {tgt : Env3 → PyData → Option Env3} {ts : List Nat} {tt : Env3 → MM Bool} {te : Env3 → MM PyData}
    (hi : DI X R tg iter src) (hts : ∀ t ∈ ts, t ∈ own.map (·.2))
    (hg : ∀ (s : Shared) (H : Hp) (C : Addr) (cl : List (Str × Addr)) (fp : List Addr), DT3 (X.blk s H scope (compEnvC scope cl C X.env) fp) tg ts tgt)
    (ht : ∀ (s : Shared) (H : Hp) (C : Addr) (cl : List (Str × Addr)) (fp : List Addr), DTs (X.blk s H scope (compEnvC scope cl C X.env) fp) RX0 ifs tt)
    (he : ∀ (s : Shared) (H : Hp) (C : Addr) (cl : List (Str × Addr)) (fp : List Addr), DE (X.blk s H scope (compEnvC scope cl C X.env) fp) RX0 elt te) :
    ∃ wi g t1 t2, PI X tg iter wi ∧ (∀ (s : Shared) (H : Hp) (C : Addr) (cl : List (Str × Addr)) (fp : List Addr), PG (X.blk s H scope (compEnvC scope cl C X.env) fp) tg g) ∧
      (∀ (s : Shared) (H : Hp) (C : Addr) (cl : List (Str × Addr)) (fp : List Addr), PTs (X.blk s H scope (compEnvC scope cl C X.env) fp) ifs t1) ∧
      (∀ (s : Shared) (H : Hp) (C : Addr) (cl : List (Str × Addr)) (fp : List Addr), PE (X.blk s H scope (compEnvC scope cl C X.env) fp) elt t2) ∧
      SemF R (tLc wi g t1 t2 (own.map (·.2))) (lcV src (own.map (·.2)) tgt tt te) := by
  obtain ⟨wi, pi, qi⟩ := hi
  obtain ⟨g, pg, qg⟩ := uniG (Xs := fun z : Shared × Hp × Addr × List (Str × Addr) × List Addr => X.blk z.1 z.2.1 scope (compEnvC scope z.2.2.2.1 z.2.2.1 X.env) z.2.2.2.2) (fun z => hg z.1 z.2.1 z.2.2.1 z.2.2.2.1 z.2.2.2.2)
  obtain ⟨t1, pt, qt⟩ := uniT (Xs := fun z : Shared × Hp × Addr × List (Str × Addr) × List Addr => X.blk z.1 z.2.1 scope (compEnvC scope z.2.2.2.1 z.2.2.1 X.env) z.2.2.2.2) (fun z => ht z.1 z.2.1 z.2.2.1 z.2.2.2.1 z.2.2.2.2)
  obtain ⟨t2, pe, qe⟩ := uniE (Xs := fun z : Shared × Hp × Addr × List (Str × Addr) × List Addr => X.blk z.1 z.2.1 scope (compEnvC scope z.2.2.2.1 z.2.2.1 X.env) z.2.2.2.2) (fun z => he z.1 z.2.1 z.2.2.1 z.2.2.2.1 z.2.2.2.2)
  refine ⟨wi, g, t1, t2, pi, (fun s H C cl fp => pg (s, H, C, cl, fp)), (fun s H C cl fp => pt (s, H, C, cl, fp)), (fun s H C cl fp => pe (s, H, C, cl, fp)), fun S H k Q i w => ?_⟩
  exact lc_core hts qg qt qe i (fun R' => qi S H k R' i) w
theorem df_lc {elt iter : Expr} {ifs : List Expr} {scope : Scope} {own : List (Str × Nat)} {src : Env3 → MM (List PyData)} {tgt : Env3 → PyData → Option Env3} {ts : List Nat} {tt : Env3 → MM Bool} {te : Env3 → MM PyData}
    (hc : X.calm = true) (hN : X.N.Nodup) (hi : DI X R tg iter src) (ok : BlkOk X.N X.env.scope scope own) (hts : ∀ t ∈ ts, t ∈ own.map (·.2))
    (hg : ∀ (s : Shared) (H : Hp) (C : Addr) (cl : List (Str × Addr)) (fp : List Addr), DT3 (X.blk s H scope (compEnvC scope cl C X.env) fp) tg ts tgt)
    (ht : ∀ (s : Shared) (H : Hp) (C : Addr) (cl : List (Str × Addr)) (fp : List Addr), DTs (X.blk s H scope (compEnvC scope cl C X.env) fp) RX0 ifs tt)
    (he : ∀ (s : Shared) (H : Hp) (C : Addr) (cl : List (Str × Addr)) (fp : List Addr), DE (X.blk s H scope (compEnvC scope cl C X.env) fp) RX0 elt te)
    (hs : ∀ x, foldedSetIterable iter X.env x = pure x := by intro _; rfl) : DF X R (.ListComp elt [⟨tg, iter, ifs, 0⟩] scope pos) (lcV src (own.map (·.2)) tgt tt te) := by
  obtain ⟨wi, g, t1, t2, pi, pg, pt, pe, sem⟩ := lc_sem (own := own) hi hts hg ht he
  exact ⟨_, pe_lc hc hN pi ok pg pt pe hs, sem⟩
end
end L3

set_option Elab.async false
set_option linter.all false
set_option maxRecDepth 100000
set_option maxHeartbeats 4000000
namespace L3
open PySem PySem.Spec PyProof.Rows L2

inductive Fl3 where
  | nx (Δ : Env3)
  | rt (d : PyData)
  | bk (Δ : Env3)
  | ct (Δ : Env3)
  | xx (x : Exn) (Δ : Env3)
def tryE {α : Type} (m : MM α) (Δ : Env3) (c : α → MM Fl3) : MM Fl3 := fun k => match m k with
  | .ok a k' => c a k'
  | .ex x k' => .ok (.xx x Δ) k'
  | .no => .no
@[simp] theorem tryE_rt {α : Type} (a : α) (Δ : Env3) (c : α → MM Fl3) : tryE (L3.rt a) Δ c = c a := Eq.trans rfl rfl
@[simp] theorem tryE_fl {α : Type} (Δ : Env3) (c : α → MM Fl3) : tryE fl Δ c = fl := Eq.trans rfl rfl
theorem Wp.tryE {α : Type} {m : MM α} {Δ : Env3} {c : α → MM Fl3} {k : Int} {P : Fl3 → Int → Prop} {X : Exn → Int → Prop} (h : Wp (tryE m Δ c k) P X) : Wp (m k) (fun a k' => Wp (c a k') P X) (fun x k' => P (.xx x Δ) k') := by
  unfold L3.tryE at h
  cases e : m k with
  | ok a k' => rw [e] at h; exact h
  | ex x k' => rw [e] at h; exact h
  | no => rw [e] at h; exact h
def St3 (M : Addr → Prop) (H : Hp) (M' : Addr → Prop) (H' : Hp) : Prop := ∀ a o, H a = some o → ¬ M a → H' a = some o ∧ ¬ M' a
theorem St3.refl (M : Addr → Prop) (H : Hp) : St3 M H M H := fun _ _ h n => ⟨h, n⟩
theorem St3.trans {M M1 M2 : Addr → Prop} {H H1 H2 : Hp} (a : St3 M H M1 H1) (b : St3 M1 H1 M2 H2) : St3 M H M2 H2 := fun x o h n => let ⟨h1, n1⟩ := a x o h n; b x o h1 n1
theorem St3.exM {M M' : Addr → Prop} {H H' : Hp} (a : St3 M H M' H') : ExM M H H' := fun x o h n => (a x o h n).1
theorem ER.st {H0 : Hp} {M0 M : Addr → Prop} {sp : Option Addr} {H H' : Hp} {σ : L2.St} {Δ : Env3} {k : Int} (I : ER H0 M0 sp M H σ Δ k) (e : Ex sp H H') : St3 M H M H' := fun a o h n => ⟨e a o h (I.msp n), n⟩
/-- what is wanted behind a statement, in terms of the run -/
def S3.fin (S : S3) (R : RX) (H : Hp) (D : Ends) : Fl3 → Int → Prop
  | .nx Δ', k' => ∀ M' H' σ', ER S.H0 S.M0 S.sp M' H' σ' Δ' k' → St3 S.M H M' H' → D.nx σ' H'
  | .bk Δ', k' => ∀ M' H' σ', ER S.H0 S.M0 S.sp M' H' σ' Δ' k' → St3 S.M H M' H' → D.bk σ' H'
  | .ct Δ', k' => ∀ M' H' σ', ER S.H0 S.M0 S.sp M' H' σ' Δ' k' → St3 S.M H M' H' → D.ct σ' H'
  | .rt d, k' => ∀ v M' H' σ' Δ', ER S.H0 S.M0 S.sp M' H' σ' Δ' k' → St3 S.M H M' H' → Rp M' H' v d → D.rt v H'
  | .xx x Δ', k' => ∀ M' H' σ', ER S.H0 S.M0 S.sp M' H' σ' Δ' k' → St3 S.M H M' H' → R x M' σ' H'
def no3 : Exn → Int → Prop := fun _ _ => False
def DS (X : Cx) (R : RX) (st : Stmt) (g : Env3 → MM Fl3) : Prop :=
  ∃ t, PS X st t ∧ ∀ (S : S3) (H : Hp) (k : Int) (D : Ends), S.In H k → Wp (g S.Δ k) (S.fin R H D) no3 → t D S.σ H
def DSs (X : Cx) (R : RX) (st : List Stmt) (g : Env3 → MM Fl3) : Prop :=
  ∃ t, PSs X st t ∧ ∀ (S : S3) (H : Hp) (k : Int) (D : Ends), S.In H k → Wp (g S.Δ k) (S.fin R H D) no3 → t D S.σ H
/-- later in the same run -/
theorem S3.fin.later {S : S3} {R : RX} {H H1 : Hp} {D : Ends} {M1 : Addr → Prop} {σ1 : L2.St} {Δ1 : Env3} (e : St3 S.M H M1 H1) {r : Fl3} {k : Int} (h : S.fin R H D r k) : (⟨S.H0, S.M0, S.sp, M1, σ1, Δ1⟩ : S3).fin R H1 D r k := by
  cases r with
  | nx Δ' => exact fun M' H' σ' i s => h M' H' σ' i (e.trans s)
  | bk Δ' => exact fun M' H' σ' i s => h M' H' σ' i (e.trans s)
  | ct Δ' => exact fun M' H' σ' i s => h M' H' σ' i (e.trans s)
  | rt d => exact fun v M' H' σ' Δ' i s r => h v M' H' σ' Δ' i (e.trans s) r
  | xx x Δ' => exact fun M' H' σ' i s => h M' H' σ' i (e.trans s)
/-- an expression at a statement's start -/
theorem Wp.tryF {S : S3} {R : RX} {H : Hp} {D : Ends} {α : Type} {m : MM α} {c : α → MM Fl3} {k : Int} (h : Wp (L3.tryE m S.Δ c k) (S.fin R H D) no3) : Wp (m k) (fun a k' => Wp (c a k') (S.fin R H D) no3) (S.er R H) := by
  unfold L3.tryE at h
  cases e : m k with
  | ok a k' => rw [e] at h; exact h
  | ex x k' =>
    rw [e] at h
    exact fun H' i' e' => (show S.fin R H D (.xx x S.Δ) k' from h) S.M H' S.σ i' fun a o ha n => ⟨e' a o ha (ER.msp i' n), n⟩
  | no => rw [e] at h; exact h.elim
theorem DG.useS {X : Cx} {R : RX} {e : Expr} {f : Env3 → MM PyData} {Rel : Rel3} (h : DG Rel X R e f) : ∃ t, PE X e t ∧ ∀ (S : S3) (H : Hp) (k : Int) (Q : VK) (D : Ends) (c : PyData → MM Fl3), S.In H k → Wp (tryE (f S.Δ) S.Δ c k) (S.fin R H D) no3 →
    (∀ d k', Wp (c d k') (S.fin R H D) no3 → ∀ v H', S.In H' k' → Ex S.sp H H' → Rel S H' v d → Q v H') → t S.σ H Q := by
  obtain ⟨t, p, q⟩ := h
  exact ⟨t, p, fun S H k Q D c i w n => q S H k Q i (w.tryF.mono (fun d k' _ w' v H' i' e' r => n d k' w' v H' i' e' r) fun _ _ _ z => z)⟩
theorem DT.useS {X : Cx} {R : RX} {e : Expr} {f : Env3 → MM Bool} (h : DT X R e f) : ∃ t, PT X e t ∧ ∀ (S : S3) (H : Hp) (k : Int) (Q : Bool → Hp → Prop) (D : Ends) (g : Bool → MM Fl3), S.In H k → Wp (tryE (f S.Δ) S.Δ g k) (S.fin R H D) no3 →
    (∀ c k' H', Wp (g c k') (S.fin R H D) no3 → S.In H' k' → Ex S.sp H H' → Q c H') → t S.σ H Q := by
  obtain ⟨t, p, q⟩ := h
  exact ⟨t, p, fun S H k Q D g i w n => q S H k Q i (w.tryF.mono (fun d k' _ w' v H' i' e' r => by cases r; exact n _ k' H' w' i' e') fun _ _ _ z => z)⟩

section
variable {X : Cx} {R : RX} {st : Stmt} {rest : List Stmt} {e a b c : Expr} {es : List Expr} {f h : Env3 → MM PyData} {g g' : Env3 → MM Fl3} {pos pos' : Pos}

def nxt : Env3 → MM Fl3 := fun Δ => rt (.nx Δ)
def seq (g h : Env3 → MM Fl3) : Env3 → MM Fl3 := fun Δ => bd (g Δ) fun r => match r with
  | .nx Δ' => h Δ'
  | .rt d => rt (.rt d)
  | .bk Δ' => rt (.bk Δ')
  | .ct Δ' => rt (.ct Δ')
  | .xx x Δ' => rt (.xx x Δ')
theorem dss_nil : DSs X R [] nxt := ⟨_, pss_nil, fun S H k D i w => w S.M H S.σ i (St3.refl _ _)⟩
theorem seq_use {S : S3} {H : Hp} {k : Int} {D : Ends} {u : TS} (w : Wp (seq g g' S.Δ k) (S.fin R H D) no3)
    (hu : ∀ (S : S3) (H : Hp) (k : Int) (D : Ends), S.In H k → Wp (g' S.Δ k) (S.fin R H D) no3 → u D S.σ H) : Wp (g S.Δ k) (S.fin R H { D with nx := u D }) no3 := by
  refine w.bd.mono (fun r k' _ z => ?_) fun _ _ _ z => z
  cases r with
  | nx Δ' => exact fun M' H' σ' i s => hu ⟨S.H0, S.M0, S.sp, M', σ', Δ'⟩ H' k' D i (Wp.mono z (fun r k _ q => q.later s) fun _ _ _ q => q)
  | rt d => exact z
  | bk Δ' => exact z
  | ct Δ' => exact z
  | xx x Δ' => exact z
theorem dss_cons (h1 : DS X R st g) (h2 : DSs X R rest g') : DSs X R (st :: rest) (seq g g') := by
  obtain ⟨t, p, q⟩ := h1
  obtain ⟨u, p', q'⟩ := h2
  exact ⟨_, pss_cons p p', fun S H k D i w => q S H k _ i (seq_use w q')⟩
theorem dss_one (h1 : DS X R st g) : DSs X R [st] g := by
  obtain ⟨t, p, q⟩ := h1
  exact ⟨_, pss_one p, q⟩
theorem ds_pass : DS X R (.Pass pos) nxt := ⟨_, ps_pass, fun S H k D i w => w S.M H S.σ i (St3.refl _ _)⟩
theorem ds_break : DS X R (.Break pos) (fun Δ => rt (.bk Δ)) := ⟨_, ps_break, fun S H k D i w => w S.M H S.σ i (St3.refl _ _)⟩
theorem ds_continue : DS X R (.Continue pos) (fun Δ => rt (.ct Δ)) := ⟨_, ps_continue, fun S H k D i w => w S.M H S.σ i (St3.refl _ _)⟩
theorem ds_doc {x : Str} {j : Nat} : DS X R (.Expr (.Constant (.str x) j pos) pos') nxt := ⟨_, ps_doc, fun S H k D i w => w S.M H S.σ i (St3.refl _ _)⟩
def fzE (i : Nat) (Δ : Env3) : Env3 := match Δ[i]? with
  | some (some (.own d)) => Δ.set i (some (.val d))
  | _ => Δ
theorem fz_er {H0 : Hp} {M0 M : Addr → Prop} {sp : Option Addr} {H : Hp} {σ : L2.St} {Δ : Env3} {k : Int} (I : ER H0 M0 sp M H σ Δ k) (i : Nat) : ∃ M', ER H0 M0 sp M' H σ (fzE i Δ) k ∧ ∀ a, M' a → M a := by
  unfold fzE
  split
  · rename_i d hd
    obtain ⟨v, h1, h2⟩ := I.slot i _ hd
    cases h2 with
    | @own a _ m h0 n t =>
      have hlt : i < Δ.length := (List.getElem?_eq_some_iff.mp hd).1
      refine ⟨fun b => M b ∧ b ≠ a, ?_, fun _ z => z.1⟩
      have lo : ∀ {b}, (M b ∧ b ≠ a) → M b := fun z => z.1
      refine ⟨I.keep, fun b hb => ⟨I.sub b hb, fun z => ?_⟩, I.low, fun b hb => I.live b hb.1, fun b hb => ⟨(I.spot b hb).1, (I.spot b hb).2.less fun _ z => z.1⟩, by simp [I.len], fun j s hj => ?_, fun j l b o1 o2 => ?_⟩
      · obtain ⟨o, ho⟩ := I.low b hb
        rw [z, h0] at ho; cases ho
      · by_cases hij : i = j
        · subst hij
          rw [List.getElem?_set_self hlt] at hj
          cases hj
          exact ⟨_, h1, .val (t.rp (fun b z => z.1) fun z => z.2 rfl)⟩
        · rw [List.getElem?_set_ne hij] at hj
          obtain ⟨u, g1, g2⟩ := I.slot j s hj
          refine ⟨u, g1, ?_⟩
          cases g2 with
          | val r => exact .val (r.less fun _ z => z.1)
          | @own c _ m' h0' n' t' =>
            have hca : c ≠ a := fun z => by
              subst z
              exact hij (I.uniq i j c (.own hd h1) (.own hj g1))
            exact .own ⟨m', hca⟩ h0' n' (t'.move (ExM.refl H) (fun _ _ _ n q => n q.1) fun _ q => q)
          | @own2 c _ m' h0' n' t' =>
            have hne : ∀ b, (b = c ∨ Inn H c b) → b ≠ a := fun b hb z => by
              subst z
              exact hij (I.uniq i j b (.own hd h1) (.own2 hj g1 hb))
            exact .own2 ⟨m', hne c (.inl rfl)⟩ h0' n' (t'.move (fun _ q => q) fun b x hb p => p.move (ExM.refl H) (fun _ _ _ n q => n q.1) (fun q => ⟨q, hne b (.inr hb)⟩) id fun _ q => q)
          | bor r h0' =>
            refine .bor ?_ fun b hb hm => h0' b hb hm.1
            rcases r with r | ⟨c, rfl, m', n', t'⟩
            · exact .inl (r.less fun _ z => z.1)
            · have hca : c ≠ a := fun z => by
                obtain ⟨o, ho⟩ := h0' c rfl m'
                rw [z, h0] at ho; cases ho
              exact .inr ⟨c, rfl, ⟨m', hca⟩, n', t'.move (ExM.refl H) (fun _ _ _ n q => n q.1) fun _ q => q⟩
          | spot h => exact .spot h
          | scr hq => exact .scr (scr_move hq (ExM.refl H) fun _ _ _ n q => n q.1)
      · have back : ∀ {j}, OwnAt H (Δ.set i (some (.val d))) σ j b → OwnAt H Δ σ j b := fun {j} o => o.back (fun s e w => by
          by_cases hij : i = j
          · subst hij
            rw [List.getElem?_set_self hlt] at e
            cases e
            obtain ⟨d', w | w⟩ := w <;> cases w
          · rw [List.getElem?_set_ne hij] at e
            exact ⟨e, rfl⟩) fun _ _ _ _ => rfl
        exact I.uniq j l b (back o1) (back o2)
  · exact ⟨M, I, fun _ z => z⟩
theorem St3.wide {M M2 M' : Addr → Prop} {H H' : Hp} (s : St3 M2 H M' H') (h : ∀ a, M2 a → M a) : St3 M H M' H' := fun a o e n => s a o e fun z => n (h a z)
theorem S3.fin.less {S : S3} {R : RX} {H : Hp} {D : Ends} {M2 : Addr → Prop} {σ2 : L2.St} {Δ2 : Env3} (hm : ∀ a, M2 a → S.M a) {r : Fl3} {k : Int} (h : S.fin R H D r k) : (⟨S.H0, S.M0, S.sp, M2, σ2, Δ2⟩ : S3).fin R H D r k := by
  cases r with
  | nx Δ' => exact fun M' H' σ' i s => h M' H' σ' i (s.wide hm)
  | bk Δ' => exact fun M' H' σ' i s => h M' H' σ' i (s.wide hm)
  | ct Δ' => exact fun M' H' σ' i s => h M' H' σ' i (s.wide hm)
  | rt d => exact fun v M' H' σ' Δ' i s r => h v M' H' σ' Δ' i (s.wide hm) r
  | xx x Δ' => exact fun M' H' σ' i s => h M' H' σ' i (s.wide hm)
def fz (i : Nat) (g : Env3 → MM Fl3) : Env3 → MM Fl3 := fun Δ => g (fzE i Δ)
theorem ds_fz (i : Nat) (h1 : DS X R st g) : DS X R st (fz i g) := by
  obtain ⟨t, p, q⟩ := h1
  refine ⟨t, p, fun S H k D i' w => ?_⟩
  obtain ⟨M', I', hm⟩ := fz_er i' i
  exact q ⟨S.H0, S.M0, S.sp, M', S.σ, fzE i S.Δ⟩ H k D I' (Wp.mono w (fun r k _ z => z.less hm) fun _ _ _ z => z)
theorem dss_fz (i : Nat) (h1 : DSs X R rest g) : DSs X R rest (fz i g) := by
  obtain ⟨t, p, q⟩ := h1
  refine ⟨t, p, fun S H k D i' w => ?_⟩
  obtain ⟨M', I', hm⟩ := fz_er i' i
  exact q ⟨S.H0, S.M0, S.sp, M', S.σ, fzE i S.Δ⟩ H k D I' (Wp.mono w (fun r k _ z => z.less hm) fun _ _ _ z => z)
def asg (i : Nat) (f : Env3 → MM PyData) : Env3 → MM Fl3 := fun Δ => tryE (f Δ) Δ fun d => rt (.nx (Δ.set i (some (.val d))))
theorem ds_set {i : Nat} {x : Str} (p : ∀ te, PE X e te → PS X st (tAsg te (gName i))) (he : DE X R e f) : DS X R st (asg i f) := by
  obtain ⟨t, pe, q⟩ := he.useS
  refine ⟨_, p t pe, fun S H k D i' w => q S H k _ D _ i' w fun d k1 w1 v H1 i1 e1 r1 => ?_⟩
  exact w1 S.M H1 _ (ER.set i1 i r1) (ER.st i' e1)
/-- .. owned -/
def asgO (i : Nat) (f : Env3 → MM PyData) : Env3 → MM Fl3 := fun Δ => tryE (f Δ) Δ fun d => rt (.nx (Δ.set i (some (.own d))))
theorem ER.setO {H0 : Hp} {M0 M : Addr → Prop} {sp : Option Addr} {H H' : Hp} {σ : L2.St} {Δ : Env3} {k k0 : Int} {p : Addr} {d : PyData} (I0 : ER H0 M0 sp M H σ Δ k0) (I : ER H0 M0 sp M H' σ Δ k) (e : Ex sp H H') (hp : H p = none) (t : Top (or1 M p) H' p d) (sn : SpN sp M H' k p) (i : Nat) :
    ER H0 M0 sp (or1 M p) H' (σ.set i (some (.ref p))) (Δ.set i (some (.own d))) k where
  keep := I.keep
  sub := fun a m => .inl (I.sub a m)
  low := I.low
  live := fun a m => by
    rcases m with m | m
    · exact I.live a m
    · rw [m]; exact t.there
  spot := fun a ha => ⟨(I.spot a ha).1, sn a ha⟩
  len := by simp [I.len]
  slot := fun j s h => by
    by_cases hj : i = j
    · subst hj
      by_cases hl : i < Δ.length
      · rw [List.getElem?_set_self hl] at h
        cases h
        exact ⟨_, by rw [List.getElem?_set_self (by rw [I.len]; exact hl)], .own (.inr rfl) (I0.fresh0 hp) (I0.freshS hp) t⟩
      · rw [List.getElem?_eq_none (by simpa using hl)] at h; cases h
    · rw [List.getElem?_set_ne hj] at h
      obtain ⟨u, h1, h2⟩ := I0.slot j s h
      refine ⟨u, by rw [List.getElem?_set_ne hj]; exact h1, ?_⟩
      have mv : ∀ a u, H a = some u → ¬ M a → ¬ or1 M p a := fun a u e n q => by
        rcases q with q | q
        · exact n q
        · rw [q, hp] at e; cases e
      have ee : ExM M H H' := I0.exM e
      cases h2 with
      | val r => exact .val (r.move ee mv)
      | own m h0 n t => exact .own (.inl m) h0 n (t.move ee mv fun o q => e _ o q n)
      | own2 m h0 n t => exact .own2 (.inl m) h0 n (t.move (fun o q => e _ o q n) fun b x _ p => p.move ee mv .inl id fun o q => e _ o q p.2.2.1)
      | bor r h0 =>
        refine .bor ?_ fun a ha hm => ?_
        · rcases r with r | ⟨a, rfl, m, n, t⟩
          · exact .inl (r.move ee mv)
          · exact .inr ⟨a, rfl, .inl m, n, t.move ee mv fun o q => e _ o q n⟩
        · rcases hm with hm | hm
          · exact h0 a ha hm
          · subst ha
            rcases r with r | ⟨b, e, m, n, t⟩
            · cases r with
              | tup e _ _ => rw [hm, hp] at e; cases e
              | lst e _ _ => rw [hm, hp] at e; cases e
              | dct e _ _ => rcases e with e | ⟨_, e⟩ <;> (rw [hm, hp] at e; cases e)
              | exc e _ _ _ _ => rw [hm, hp] at e; cases e
              | ex0 e _ => rw [hm, hp] at e; cases e
            · cases e
              exact h0 _ rfl m
      | spot hs => exact .spot hs
      | scr hq => exact .scr (scr_move hq ee mv)
  uniq := fun j l a h1 h2 => by
    have back : ∀ {j}, j ≠ i → OwnAt H' (Δ.set i (some (.own d))) (σ.set i (some (.ref p))) j a → OwnAt H Δ σ j a := fun {j} hj o =>
      OwnAt.ex I0 e (o.back (H := H') (Δ := Δ) (σ := σ) (fun s h _ => by
        rw [List.getElem?_set_ne (Ne.symm hj)] at h
        exact ⟨h, List.getElem?_set_ne (Ne.symm hj)⟩) fun _ _ _ _ => rfl)
    have atI : ∀ {j}, j = i → OwnAt H' (Δ.set i (some (.own d))) (σ.set i (some (.ref p))) j a → a = p := fun {j} hj h => by
      subst hj
      obtain ⟨u, e2, q⟩ := h
      have hl : j < σ.length := by
        have := (List.getElem?_eq_some_iff.mp e2).1
        simpa using this
      rw [List.getElem?_set_self hl] at e2
      cases e2
      rw [List.getElem?_set_self (by rw [← I.len]; exact hl)] at q
      rcases q with ⟨_, _, q⟩ | ⟨_, q, _⟩
      · exact q
      · cases q
    have no : ∀ {j}, j ≠ i → OwnAt H' (Δ.set i (some (.own d))) (σ.set i (some (.ref p))) j a → a ≠ p := fun {j} hj h z => by
      obtain ⟨o, ho⟩ := I0.live a ((back hj h).m I0).1
      rw [z, hp] at ho; cases ho
    by_cases hj : j = i
    · by_cases hl : l = i
      · rw [hj, hl]
      · exact absurd (atI hj h1) (no hl h2)
    · by_cases hl : l = i
      · exact absurd (atI hl h2) (no hj h1)
      · exact I0.uniq j l a (back hj h1) (back hl h2)
theorem ds_setO {i : Nat} {t : TE} (p : PS X st (tAsg t (gName i))) (sem : SemF R t f) : DS X R st (asgO i f) := by
  refine ⟨_, p, fun S H k D i' w => sem S H k _ i' (w.tryF.mono (fun d k1 _ w1 p H1 i1 e1 hp t1 sn => ?_) fun _ _ _ z => z)⟩
  refine w1 (or1 S.M p) H1 _ (ER.setO i' i1 e1 hp t1 sn i) fun a o h n => ⟨ER.exM i' e1 a o h n, fun q => ?_⟩
  rcases q with q | q
  · exact n q
  · rw [q, hp] at h; cases h
def ret (f : Env3 → MM PyData) : Env3 → MM Fl3 := fun Δ => tryE (f Δ) Δ fun d => rt (.rt d)
theorem ds_ret (he : DE X R e f) : DS X R (.Return (some e) pos) (ret f) := by
  obtain ⟨t, pe, q⟩ := he.useS
  exact ⟨_, ps_ret pe, fun S H k D i' w => q S H k _ D _ i' w fun d k1 w1 v H1 i1 e1 r1 => w1 v S.M H1 S.σ S.Δ i1 (ER.st i' e1) r1⟩
theorem ds_retN : DS X R (.Return none pos) (fun _ => rt (.rt .none)) := ⟨_, ps_retN, fun S H k D i w => w .non S.M H S.σ S.Δ i (St3.refl _ _) .non⟩
def drp (f : Env3 → MM PyData) : Env3 → MM Fl3 := fun Δ => tryE (f Δ) Δ fun _ => rt (.nx Δ)
theorem ds_drop (he : DE X R e f) (hs : swapsWith e none pos.line X.env = pure false := by rfl) : DS X R (.Expr e pos) (drp f) := by
  obtain ⟨t, pe, q⟩ := he.useS
  exact ⟨_, ps_expr pe hs, fun S H k D i' w => q S H k _ D _ i' w fun d k1 w1 v H1 i1 e1 r1 => w1 S.M H1 S.σ i1 (ER.st i' e1)⟩
def ifS (t : Env3 → MM Bool) (g h : Env3 → MM Fl3) : Env3 → MM Fl3 := fun Δ => tryE (t Δ) Δ fun c => if c = true then g Δ else h Δ
theorem ds_if {t : Env3 → MM Bool} {sa sb : List Stmt} (hc : DT X R c t) (ha : DSs X R sa g) (hb : DSs X R sb g') : DS X R (.If c sa sb pos) (ifS t g g') := by
  obtain ⟨tc, pc, qc⟩ := hc.useS
  obtain ⟨ta, pa, qa⟩ := ha
  obtain ⟨tb, pb, qb⟩ := hb
  refine ⟨_, ps_if pc pa pb, fun S H k D i w => qc S H k _ D _ i w fun c k1 H1 w1 i1 e1 => ?_⟩
  cases c with
  | true =>
    rw [if_pos rfl] at w1 ⊢
    exact qa S H1 k1 D i1 (w1.mono (fun r _ _ z => z.later (ER.st i e1)) fun _ _ _ z => z)
  | false =>
    rw [if_neg Bool.false_ne_true] at w1 ⊢
    exact qb S H1 k1 D i1 (w1.mono (fun r _ _ z => z.later (ER.st i e1)) fun _ _ _ z => z)
def forGo (tgt : Env3 → PyData → Option Env3) (body : Env3 → MM Fl3) : List PyData → Env3 → MM Fl3
  | [], Δ => rt (.nx Δ)
  | d :: ds, Δ => bd (op (tgt Δ d)) fun Δ1 => bd (body Δ1) fun r => match r with
    | .nx Δ2 => forGo tgt body ds Δ2
    | .ct Δ2 => forGo tgt body ds Δ2
    | .bk Δ2 => rt (.nx Δ2)
    | .rt d => rt (.rt d)
    | .xx x Δ2 => rt (.xx x Δ2)
def forS (src : Env3 → MM (List PyData)) (tgt : Env3 → PyData → Option Env3) (body : Env3 → MM Fl3) : Env3 → MM Fl3 := fun Δ => tryE (src Δ) Δ fun ds => forGo tgt body ds Δ
theorem for_core {src : Env3 → MM (List PyData)} {ts : List Nat} {tgt : Env3 → PyData → Option Env3} {wi : TI} {tg' : TG} {tb : TS}
    (qg : ∀ (H0 : Hp) (M0 : Addr → Prop) (sp : Option Addr) (M : Addr → Prop) (σ : L2.St) (Δ Δ' : Env3) (H : Hp) (k : Int) (v : V) (d : PyData) (Q : L2.St → Hp → Prop), ER H0 M0 sp M H σ Δ k → Rp M H v d → tgt Δ d = some Δ' → (∀ σ', Outside ts σ σ' → ER H0 M0 sp M H σ' Δ' k → Q σ' H) → tg' v σ H Q)
    (qb : ∀ (S : S3) (H : Hp) (k : Int) (D : Ends), S.In H k → Wp (g S.Δ k) (S.fin R H D) no3 → tb D S.σ H)
    {S : S3} {H : Hp} {k : Int} {D : Ends} (i : S.In H k) (qi : ∀ R', Wp (src S.Δ k) (fun ds k' => ∀ J H', S.In H' k' → Ex S.sp H H' → Wk S.M H' J ds → R' J H') (S.er R H) → wi S.σ H R')
    (w : Wp (forS src tgt g S.Δ k) (S.fin R H D) no3) : tFor wi tg' tb D S.σ H := by
  refine qi _ (w.tryF.mono (fun ds k1 _ w1 J H1 i1 e1 wk => ?_) fun _ _ _ z => z)
  refine ⟨fun j m σ Hc => m = ds.length - j ∧ j ≤ ds.length ∧ ∃ M' Δ' k', ER S.H0 S.M0 S.sp M' Hc σ Δ' k' ∧ St3 S.M H1 M' Hc ∧ Wp (forGo tgt g (ds.drop j) Δ' k') (S.fin R H D) no3, ⟨ds.length, by simp, Nat.zero_le _, S.M, S.Δ, k1, i1, St3.refl _ _, w1⟩, ?_⟩
  rintro j m σ Hc ⟨rfl, hj, M', Δ', k', ic, sc, wc⟩
  have exm : ExM S.M H1 Hc := sc.exM
  by_cases hlt : j < ds.length
  · obtain ⟨d, hdj⟩ : ∃ d, ds[j]? = some d := ⟨ds[j], by simp [hlt]⟩
    obtain ⟨go, yl⟩ := (wk j Hc exm).1 d hdj
    have hdrop : ds.drop j = d :: ds.drop (j + 1) := by
      rw [List.drop_eq_getElem_cons hlt]
      congr 1
      have := hdj
      rw [List.getElem?_eq_getElem hlt] at this
      exact Option.some.inj this
    rw [hdrop] at wc
    unfold forGo at wc
    obtain ⟨Δ1, ht1, wc⟩ := wc.bd.op
    refine .inr ⟨go, fun σ Hc => ∃ M' Δ' k', ER S.H0 S.M0 S.sp M' Hc σ Δ' k' ∧ St3 S.M H1 M' Hc ∧ Wp (forGo tgt g (ds.drop (j + 1)) Δ' k') (S.fin R H D) no3, fun σ' H' z => ⟨ds.length - (j + 1), by omega, rfl, hlt, z⟩, fun x H' hy => ?_⟩
    obtain ⟨hH', rx⟩ := (yl x H' hy).use (M := M') exm (fun a o h n => (sc a o h n).2) (fun p hp => ER.fresh ic hp)
    have ic' : ER S.H0 S.M0 S.sp M' H' σ Δ' k' ∧ Ex S.sp Hc H' := by
      rcases hH' with rfl | ⟨p, xs, hp, rfl⟩
      · exact ⟨ic, Ex.refl _⟩
      · exact ⟨ER.new ic hp, Ex.new hp⟩
    obtain ⟨ic1, ec1⟩ := ic'
    have sc1 : St3 S.M H1 M' H' := sc.trans (ER.st ic ec1)
    refine qg S.H0 S.M0 S.sp M' σ Δ' Δ1 H' k' x d _ ic1 rx ht1 fun σ2 o2 i2 => ?_
    refine qb ⟨S.H0, S.M0, S.sp, M', σ2, Δ1⟩ H' k' _ i2 ?_
    refine (Wp.bd wc).mono (fun r k2 _ z => ?_) fun _ _ _ z => z
    cases r with
    | nx Δ2 => exact fun M'' H'' σ'' i' s' => ⟨M'', Δ2, k2, i', sc1.trans s', z⟩
    | ct Δ2 => exact fun M'' H'' σ'' i' s' => ⟨M'', Δ2, k2, i', sc1.trans s', z⟩
    | bk Δ2 => exact fun M'' H'' σ'' i' s' => (show S.fin R H D (.nx Δ2) k2 from z) M'' H'' σ'' i' ((ER.st i e1).trans (sc1.trans s'))
    | rt d => exact fun v M'' H'' σ'' Δ'' i' s' r => z v M'' H'' σ'' Δ'' i' ((ER.st i e1).trans (sc1.trans s')) r
    | xx x Δ2 => exact fun M'' H'' σ'' i' s' => z M'' H'' σ'' i' ((ER.st i e1).trans (sc1.trans s'))
  · have hj' : j = ds.length := by omega
    subst hj'
    rw [List.drop_length] at wc
    exact .inl ⟨(wk _ Hc exm).2 (Nat.le_refl _), (show S.fin R H D (.nx Δ') k' from wc) M' Hc σ ic ((ER.st i e1).trans sc)⟩
theorem ds_for {tg iter : Expr} {body : List Stmt} {src : Env3 → MM (List PyData)} {ts : List Nat} {tgt : Env3 → PyData → Option Env3} (hp : PassesOwn (model X.prog X.w) X.A X.env X.xe) (hc : X.calm = true) (hi : DI X R tg iter src) (hg : DT3 X tg ts tgt) (hb : DSs X R body g)
    (hs : ∀ x, foldedSetIterable iter X.env x = pure x := by intro _; rfl) : DS X R (.For tg iter body [] pos) (forS src tgt g) := by
  obtain ⟨wi, pi, qi⟩ := hi
  obtain ⟨tg', pg, qg⟩ := hg
  obtain ⟨tb, pb, qb⟩ := hb
  exact ⟨_, ps_for hp hc pi pg pb hs, fun S H k D i w => for_core qg qb i (fun R' => qi S H k R' i) w⟩
def whGo (t : Env3 → MM Bool) (body : Env3 → MM Fl3) : Nat → Env3 → MM Fl3
  | 0, _ => fl
  | n + 1, Δ => tryE (t Δ) Δ fun c => if c = true then bd (body Δ) fun r => match r with
    | .nx Δ2 => whGo t body n Δ2
    | .ct Δ2 => whGo t body n Δ2
    | .bk Δ2 => rt (.nx Δ2)
    | .rt d => rt (.rt d)
    | .xx x Δ2 => rt (.xx x Δ2)
    else rt (.nx Δ)
def whS (t : Env3 → MM Bool) (body : Env3 → MM Fl3) : Env3 → MM Fl3 := whGo t body 1000000000000
theorem ds_while {body : List Stmt} {t : Env3 → MM Bool} (hp : PassesOwn (model X.prog X.w) X.A X.env X.xe) (hc : DT X R c t) (hb : DSs X R body g) : DS X R (.While c body [] pos) (whS t g) := by
  obtain ⟨tc, pc, qc⟩ := hc.useS
  obtain ⟨tb, pb, qb⟩ := hb
  refine ⟨_, ps_while hp pc pb, fun S H k D i w => ⟨fun m σ Hc => ∃ M' Δ' k', ER S.H0 S.M0 S.sp M' Hc σ Δ' k' ∧ Wp (whGo t g m Δ' k') ((⟨S.H0, S.M0, S.sp, M', σ, Δ'⟩ : S3).fin R Hc D) no3, ⟨1000000000000, S.M, S.Δ, k, i, w⟩, ?_⟩⟩
  rintro m σ Hc ⟨M', Δ', k', ic, wc⟩
  cases m with
  | zero => exact wc.elim
  | succ m =>
    unfold whGo at wc
    refine qc ⟨S.H0, S.M0, S.sp, M', σ, Δ'⟩ Hc k' _ D _ ic wc fun b k1 H1 w1 i1 e1 => ?_
    have s1 : St3 M' Hc M' H1 := ER.st ic e1
    cases b with
    | true =>
      rw [if_pos rfl] at w1 ⊢
      refine ⟨fun σ'' H'' => ∃ M' Δ' k', ER S.H0 S.M0 S.sp M' H'' σ'' Δ' k' ∧ Wp (whGo t g m Δ' k') ((⟨S.H0, S.M0, S.sp, M', σ'', Δ'⟩ : S3).fin R H'' D) no3, fun σ' H' z => ⟨m, Nat.lt_succ_self m, z⟩, ?_⟩
      refine qb ⟨S.H0, S.M0, S.sp, M', σ, Δ'⟩ H1 k1 _ i1 ?_
      refine (Wp.bd w1).mono (fun r k2 _ z => ?_) fun _ _ _ z => z
      cases r with
      | nx Δ2 => exact fun M'' H'' σ'' i' s' => ⟨M'', Δ2, k2, i', Wp.mono z (fun r _ _ z => S3.fin.later (S := ⟨S.H0, S.M0, S.sp, M', σ, Δ'⟩) (s1.trans s') z) fun _ _ _ z => z⟩
      | ct Δ2 => exact fun M'' H'' σ'' i' s' => ⟨M'', Δ2, k2, i', Wp.mono z (fun r _ _ z => S3.fin.later (S := ⟨S.H0, S.M0, S.sp, M', σ, Δ'⟩) (s1.trans s') z) fun _ _ _ z => z⟩
      | bk Δ2 => exact fun M'' H'' σ'' i' s' => (show S3.fin _ R Hc D (.nx Δ2) k2 from z) M'' H'' σ'' i' (s1.trans s')
      | rt d => exact fun v M'' H'' σ'' Δ'' i' s' r => (show S3.fin _ R Hc D (.rt d) k2 from z) v M'' H'' σ'' Δ'' i' (s1.trans s') r
      | xx x Δ2 => exact fun M'' H'' σ'' i' s' => (show S3.fin _ R Hc D (.xx x Δ2) k2 from z) M'' H'' σ'' i' (s1.trans s')
    | false =>
      rw [if_neg Bool.false_ne_true] at w1 ⊢
      exact (show S3.fin _ R Hc D (.nx Δ') k1 from w1) M' H1 σ i1 s1
end
end L3

set_option Elab.async false
set_option linter.all false
set_option maxRecDepth 100000
set_option maxHeartbeats 4000000
namespace L3
open PySem PySem.Spec PyProof.Rows L2

theorem ER.wr {H0 : Hp} {M0 M : Addr → Prop} {sp : Option Addr} {H : Hp} {σ : L2.St} {Δ : Env3} {k : Int} {i : Nat} {a : Addr} {d d' : PyData} {o : HO} (I : ER H0 M0 sp M H σ Δ k) (hd : Δ[i]? = some (some (.own d))) (hs : σ[i]? = some (some (.ref a))) (t : Top M (upd H a o) a d') :
    ER H0 M0 sp M (upd H a o) σ (Δ.set i (some (.own d'))) k ∧ St3 M H M (upd H a o) := by
  obtain ⟨v, h1, h2⟩ := I.slot i _ hd
  rw [hs] at h1
  cases h1
  cases h2 with
  | own m h0 n t0 =>
    have ee : ExM M H (upd H a o) := fun b u e nb => by rw [upd_ne (fun z => nb (by rw [z]; exact m))]; exact e
    have hlt : i < Δ.length := (List.getElem?_eq_some_iff.mp hd).1
    refine ⟨⟨fun b u e nb => ?_, I.sub, I.low, fun b mb => ?_, fun b e => ⟨(I.spot b e).1, ?_⟩, by simp [I.len], fun j s hj => ?_, fun j l b o1 o2 => ?_⟩, fun b u e nb => ⟨ee b u e nb, nb⟩⟩
    · rw [upd_ne (fun z => by rw [z, h0] at e; cases e)]; exact I.keep b u e nb
    · by_cases hb : b = a
      · exact ⟨o, by rw [hb]; exact upd_same⟩
      · obtain ⟨u, hu⟩ := I.live b mb
        exact ⟨u, by rw [upd_ne hb]; exact hu⟩
    · exact (I.spot b e).2.move ee (fun _ _ _ n => n) fun u q => by rw [upd_ne (fun z => n (by rw [e, z]))]; exact q
    · by_cases hij : i = j
      · subst hij
        rw [List.getElem?_set_self hlt] at hj
        cases hj
        exact ⟨_, hs, .own m h0 n t⟩
      · rw [List.getElem?_set_ne hij] at hj
        obtain ⟨u, g1, g2⟩ := I.slot j s hj
        refine ⟨u, g1, ?_⟩
        cases g2 with
        | val r => exact .val (r.ext ee)
        | @own c _ m' h0' n' t' =>
          have hca : c ≠ a := fun z => by
            subst z
            exact hij (I.uniq i j c (.own hd hs) (.own hj g1))
          exact .own m' h0' n' (t'.move ee (fun _ _ _ n => n) fun u q => by rw [upd_ne hca]; exact q)
        | @own2 c _ m' h0' n' t' =>
          have hne : ∀ b, (b = c ∨ Inn H c b) → b ≠ a := fun b hb z => by
            subst z
            exact hij (I.uniq i j b (.own hd hs) (.own2 hj g1 hb))
          exact .own2 m' h0' n' (t'.move (fun u q => by rw [upd_ne (hne c (.inl rfl))]; exact q) fun b x hb p => p.move ee (fun _ _ _ n => n) id id fun u q => by rw [upd_ne (hne b (.inr hb))]; exact q)
        | bor r h0' =>
          refine .bor ?_ h0'
          rcases r with r | ⟨c, rfl, m', n', t'⟩
          · exact .inl (r.ext ee)
          · have hca : c ≠ a := fun z => by
              obtain ⟨u, hu⟩ := h0' c rfl m'
              rw [z, h0] at hu; cases hu
            exact .inr ⟨c, rfl, m', n', t'.move ee (fun _ _ _ n => n) fun u q => by rw [upd_ne hca]; exact q⟩
        | spot h => exact .spot h
        | scr hq => exact .scr (scr_move hq ee fun _ _ _ n => n)
    · have back : ∀ {j}, OwnAt (upd H a o) (Δ.set i (some (.own d'))) σ j b → OwnAt H Δ σ j b := fun {j} q => by
        by_cases hij : i = j
        · subst hij
          obtain ⟨t1, q1, q2⟩ := q
          rw [hs] at q1
          cases q1
          rw [List.getElem?_set_self hlt] at q2
          rcases q2 with ⟨_, _, q2⟩ | ⟨_, q2, _⟩
          · exact ⟨a, hs, .inl ⟨d, hd, q2⟩⟩
          · cases q2
        · refine q.back (fun s e _ => ?_) fun d2 t2 e e2 => upd_ne fun z => ?_
          · rw [List.getElem?_set_ne hij] at e
            exact ⟨e, rfl⟩
          · rw [List.getElem?_set_ne hij] at e
            subst z
            exact hij (I.uniq i j t2 (.own hd hs) (.own2 e e2 (.inl rfl)))
      exact I.uniq j l b (back o1) (back o2)

section
variable {X : Cx} {R : RX} {st : Stmt} {rest : List Stmt} {e e' a b c : Expr} {es : List Expr} {f f' h : Env3 → MM PyData} {g g' : Env3 → MM Fl3} {pos pos' apos p : Pos}
def slO : Option (Option Sl) → Option PyData
  | some (some (.own d)) => some d
  | _ => none
theorem slO_some : ∀ {o : Option (Option Sl)} {d : PyData}, slO o = some d → o = some (some (.own d))
  | some (some (.val _)), _, h => by cases h
  | some (some (.own _)), _, h => by cases h; rfl
  | some (some (.bor _)), _, h => by cases h
  | some (some .spot), _, h => by cases h
  | some (some (.own2 _)), _, h => by cases h
  | some (some (.scr _ _)), _, h => by cases h
  | some none, _, h => by cases h
  | none, _, h => by cases h
def ownL (o : Option (Option Sl)) : Option (List PyData) := match slO o with
  | some (.list xs) => some xs
  | _ => none
def ownK (o : Option (Option Sl)) : Option (List (PyData × PyData)) := match slO o with
  | some (.dict xs) => some xs
  | _ => none
theorem ownL_some {o : Option (Option Sl)} {xs : List PyData} (h : ownL o = some xs) : o = some (some (.own (.list xs))) := by
  unfold ownL at h
  split at h
  · rename_i e; cases h; exact slO_some e
  · cases h
theorem ownK_some {o : Option (Option Sl)} {xs : List (PyData × PyData)} (h : ownK o = some xs) : o = some (some (.own (.dict xs))) := by
  unfold ownK at h
  split at h
  · rename_i e; cases h; exact slO_some e
  · cases h
theorem ownL_at {H0 : Hp} {M0 M : Addr → Prop} {sp : Option Addr} {H : Hp} {σ : L2.St} {Δ : Env3} {k : Int} (I : ER H0 M0 sp M H σ Δ k) {i : Nat} {xs : List PyData} (hd : ownL Δ[i]? = some xs) : ∃ a vs, σ[i]? = some (some (.ref a)) ∧ M a ∧ sp ≠ some a ∧ H a = some (.lst vs) ∧ Rps M H vs xs := by
  obtain ⟨v, h1, h2⟩ := I.slot i _ (ownL_some hd)
  cases h2 with
  | own m h0 n t =>
    cases t with
    | lst h r => exact ⟨_, _, h1, m, n, h, r⟩
theorem ownK_at {H0 : Hp} {M0 M : Addr → Prop} {sp : Option Addr} {H : Hp} {σ : L2.St} {Δ : Env3} {k : Int} (I : ER H0 M0 sp M H σ Δ k) {i : Nat} {xs : List (PyData × PyData)} (hd : ownK Δ[i]? = some xs) : ∃ a vs, σ[i]? = some (some (.ref a)) ∧ M a ∧ sp ≠ some a ∧ H a = some (.dK vs) ∧ RpK M H vs xs := by
  obtain ⟨v, h1, h2⟩ := I.slot i _ (ownK_some hd)
  cases h2 with
  | own m h0 n t =>
    cases t with
    | dct h r => exact ⟨_, _, h1, m, n, h, r⟩
theorem rp_off {M : Addr → Prop} {H : Hp} {a : Addr} {o : HO} {v : V} {d : PyData} (m : M a) (r : Rp M H v d) : Rp M (upd H a o) v d := r.ext fun b u e n => by rw [upd_ne (fun z => n (by rw [z]; exact m))]; exact e
theorem rps_off {M : Addr → Prop} {H : Hp} {a : Addr} {o : HO} {v : List V} {d : List PyData} (m : M a) (r : Rps M H v d) : Rps M (upd H a o) v d := r.ext fun b u e n => by rw [upd_ne (fun z => n (by rw [z]; exact m))]; exact e
theorem rpk_off {M : Addr → Prop} {H : Hp} {a : Addr} {o : HO} {v : List (Key × V)} {d : List (PyData × PyData)} (m : M a) (r : RpK M H v d) : RpK M (upd H a o) v d := r.ext fun b u e n => by rw [upd_ne (fun z => n (by rw [z]; exact m))]; exact e
/-- x.append(e) -/
def app (i : Nat) (f : Env3 → MM PyData) : Env3 → MM Fl3 := fun Δ => bd (op (ownL Δ[i]?)) fun xs => tryE (f Δ) Δ fun y => if xs.length < sizeLine then rt (.nx (Δ.set i (some (.own (.list (xs ++ [y])))))) else fl
theorem ds_append {i : Nat} {x : Str} (pv : PE X (.Name x p) (tVar i)) (he : DE X R e f) (hs : swapsWith (.Call (.Attribute (.Name x p) "append" apos) [e] [] pos') none pos.line X.env = pure false := by rfl)
    (hbase : attributeBase (.Name x p) "append" X.env (eval (.Name x p) X.env) = eval (.Name x p) X.env := by rfl)
    (hfew : ((backTo pos' (starEach [e] X.env)).all (fun x => !x.1) && (backToKw pos' (keywordEach [] X.env)).all (fun x => x.1.isSome)
      && decide ([e].length + ([] : List Keyword).length + (if ([] : List Keyword).isEmpty then 0 else 1) < 30)) = true := by rfl)
    (hline : (apos.endLine == pos'.line) = true := by rfl) (hse : starEach [e] X.env = (false, eval e X.env) :: starEach [] X.env := by rfl) (hplain : (backTo pos' (starEach [] X.env)).any (·.1) = false := by rfl) :
    DS X R (.Expr (.Call (.Attribute (.Name x p) "append" apos) [e] [] pos') pos) (app i f) := by
  obtain ⟨t, pe, q⟩ := he.useS
  refine ⟨_, ps_expr (pe_bm PySem.F.plainAttrs_list PySem.F.slot_list_append PySem.F.type_list_append mt_append pv (pa_cons pe pa_nil hse) hbase hfew hline hse hplain) hs, fun S H k D i' w => ?_⟩
  obtain ⟨xs, hx, w⟩ := w.bd.op
  obtain ⟨a, vs, ha, ma, na, hl, rl⟩ := ownL_at i' hx
  refine ⟨_, ha, .inl ⟨rfl, _, .of hl⟩, q S H k _ D _ i' w fun y k1 w1 v H1 i1 e1 r1 => ?_⟩
  split at w1
  · rename_i hlen
    have hl1 : H1 a = some (.lst vs) := e1 a _ hl na
    have rl1 : Rps S.M H1 vs xs := ER.rps i' e1 rl
    refine ⟨a, vs, v, rfl, rfl, hl1, by rw [rl1.length]; exact hlen, ?_⟩
    obtain ⟨i2, s2⟩ := ER.wr i1 (ownL_some hx) ha (.lst upd_same (rps_off (o := .lst (vs ++ [v])) ma (rl1.append (.cons r1 .nil))))
    exact w1 S.M _ _ i2 ((ER.st i' e1).trans s2)
  · exact w1.elim
/-- x.extend(e), e a list -/
def ext (i : Nat) (f : Env3 → MM PyData) : Env3 → MM Fl3 := fun Δ => bd (op (ownL Δ[i]?)) fun xs => tryE (f Δ) Δ fun y => match y with | .list ys => if xs.length + ys.length ≤ sizeLine then rt (.nx (Δ.set i (some (.own (.list (xs ++ ys)))))) else fl | _ => fl
theorem ds_extend {i : Nat} {x : Str} (pv : PE X (.Name x p) (tVar i)) (he : DE X R e f) (hs : swapsWith (.Call (.Attribute (.Name x p) "extend" apos) [e] [] pos') none pos.line X.env = pure false := by rfl)
    (hbase : attributeBase (.Name x p) "extend" X.env (eval (.Name x p) X.env) = eval (.Name x p) X.env := by rfl)
    (hfew : ((backTo pos' (starEach [e] X.env)).all (fun x => !x.1) && (backToKw pos' (keywordEach [] X.env)).all (fun x => x.1.isSome)
      && decide ([e].length + ([] : List Keyword).length + (if ([] : List Keyword).isEmpty then 0 else 1) < 30)) = true := by rfl)
    (hline : (apos.endLine == pos'.line) = true := by rfl) (hse : starEach [e] X.env = (false, eval e X.env) :: starEach [] X.env := by rfl) (hplain : (backTo pos' (starEach [] X.env)).any (·.1) = false := by rfl) :
    DS X R (.Expr (.Call (.Attribute (.Name x p) "extend" apos) [e] [] pos') pos) (ext i f) := by
  obtain ⟨t, pe, q⟩ := he.useS
  refine ⟨_, ps_expr (pe_bm PySem.F.plainAttrs_list PySem.F.slot_list_extend PySem.F.type_list_extend mt_extend pv (pa_cons pe pa_nil hse) hbase hfew hline hse hplain) hs, fun S H k D i' w => ?_⟩
  obtain ⟨xs, hx, w⟩ := w.bd.op
  obtain ⟨a, vs, ha, ma, na, hl, rl⟩ := ownL_at i' hx
  refine ⟨_, ha, .inl ⟨rfl, _, .of hl⟩, q S H k _ D _ i' w fun y k1 w1 v H1 i1 e1 r1 => ?_⟩
  split at w1
  · rename_i ys
    split at w1
    · rename_i hlen
      have hl1 : H1 a = some (.lst vs) := e1 a _ hl na
      have rl1 : Rps S.M H1 vs xs := ER.rps i' e1 rl
      cases r1 with
      | @lst b zs _ hb nb rb =>
        refine ⟨a, b, vs, zs, rfl, rfl, hl1, hb, by rw [rl1.length, rb.length]; exact hlen, ?_⟩
        obtain ⟨i2, s2⟩ := ER.wr i1 (ownL_some hx) ha (.lst upd_same (rps_off (o := .lst (vs ++ zs)) ma (rl1.append rb)))
        exact w1 S.M _ _ i2 ((ER.st i' e1).trans s2)
    · exact w1.elim
  · exact w1.elim
/-- x[k] = e, x a dict -/
def dst (i : Nat) (fk fv : Env3 → MM PyData) : Env3 → MM Fl3 := fun Δ => tryE (fv Δ) Δ fun v => bd (op (ownK Δ[i]?)) fun xs => tryE (fk Δ) Δ fun kk => bd (op (asKey kk)) fun key => if xs.length < sizeLine then rt (.nx (Δ.set i (some (.own (.dict (dput xs key v)))))) else fl
theorem ds_dput {i : Nat} {x : Str} {ps : Pos} (hu : X.A.units + 64 < cLine) (pv : PE X (.Name x p) (tVar i)) (hk : DE X R e f) (hv : DE X R e' f') (hs : swapsWith e' (some (.Subscript (.Name x p) e ps)) pos.line X.env = pure false := by rfl) :
    DS X R (.Assign [.Subscript (.Name x p) e ps] e' pos) (dst i f f') := by
  obtain ⟨tk, pk, qk⟩ := hk.useS
  obtain ⟨tv, pv', qv⟩ := hv.useS
  refine ⟨_, ps_dput (by omega) pv pk pv' hs, fun S H k D i' w => qv S H k _ D _ i' w fun v k1 w1 u H1 i1 e1 r1 => ?_⟩
  obtain ⟨xs, hx, w1⟩ := w1.bd.op
  obtain ⟨a, vs, ha, ma, na, hl, rl⟩ := ownK_at i1 hx
  refine ⟨_, ha, qk S H1 k1 _ D _ i1 (Wp.mono w1 (fun r _ _ z => z.later (ER.st i' e1)) fun _ _ _ z => z) fun kk k2 w2 y H2 i2 e2 r2 => ?_⟩
  obtain ⟨key, hk, w2⟩ := w2.bd.op
  split at w2
  · rename_i hlen
    have hl2 : H2 a = some (.dK vs) := e2 a _ hl na
    have rl2 : RpK S.M H2 vs xs := rl.ext (ER.exM i1 e2)
    have ey : y = kV key := asKey_kV hk (sp := S.sp) (.inl r2)
    subst ey
    refine ⟨a, _, rfl, .k hl2 (by rw [rl2.length]; exact hlen), ?_⟩
    obtain ⟨i3, s3⟩ := ER.wr i2 (ownK_some hx) ha (.dct upd_same (rpk_off (o := .dK (putK vs key u)) ma (rl2.put key (ER.rp i1 e2 r1))))
    exact w2 S.M _ _ i3 ((ER.st i1 e2).trans s3)
  · exact w2.elim
/-- x[k] = e, x a list -/
def lst3 (i : Nat) (fk fv : Env3 → MM PyData) : Env3 → MM Fl3 := fun Δ => tryE (fv Δ) Δ fun v => bd (op (ownL Δ[i]?)) fun xs => tryE (fk Δ) Δ fun kk => match kk with | .int j => bd (op (ixN xs.length j)) fun jj => rt (.nx (Δ.set i (some (.own (.list (xs.set jj v)))))) | _ => fl
theorem ds_lput {i : Nat} {x : Str} {ps : Pos} (pv : PE X (.Name x p) (tVar i)) (hk : DE X R e f) (hv : DE X R e' f') (hs : swapsWithSole [.Subscript (.Name x p) e ps] e' pos.line X.env = pure false := by rfl) (hw : swappedStores [.Subscript (.Name x p) e ps] e' X.env = pure none := by rfl)
    (h1 : (assignEach [.Subscript (.Name x p) e ps] X.env).map (·.2) = [assign (.Subscript (.Name x p) e ps) X.env] := by rfl)
    (ha : ∀ v, assign (.Subscript (.Name x p) e ps) X.env v = (do
      let ov ← holding [v] (eval (.Name x p) X.env)
      let iv ← holding [v, ov] (eval e X.env)
      standAt ps
      holding [v, ov, iv] (setItem ov iv v)
      release [v, ov, iv] []) := by intro _; rfl) :
    DS X R (.Assign [.Subscript (.Name x p) e ps] e' pos) (lst3 i f f') := by
  obtain ⟨tk, pk, qk⟩ := hk.useS
  obtain ⟨tv, pv', qv⟩ := hv.useS
  refine ⟨_, ps_asg pv' (pg_sub pv pk set_list ha) hs hw h1, fun S H k D i' w => qv S H k _ D _ i' w fun v k1 w1 u H1 i1 e1 r1 => ?_⟩
  obtain ⟨xs, hx, w1⟩ := w1.bd.op
  obtain ⟨a, vs, ha, ma, na, hl, rl⟩ := ownL_at i1 hx
  refine ⟨_, ha, qk S H1 k1 _ D _ i1 (Wp.mono w1 (fun r _ _ z => z.later (ER.st i' e1)) fun _ _ _ z => z) fun kk k2 w2 y H2 i2 e2 r2 => ?_⟩
  split at w2
  · obtain ⟨jj, hj, w2⟩ := w2.bd.op
    have hl2 : H2 a = some (.lst vs) := e2 a _ hl na
    have rl2 : Rps S.M H2 vs xs := ER.rps i1 e2 rl
    cases r2
    refine ⟨a, vs, _, jj, rfl, rfl, hl2, by rw [rl2.length]; exact hj, ?_⟩
    obtain ⟨i3, s3⟩ := ER.wr i2 (ownL_some hx) ha (.lst upd_same (rps_off (o := .lst (vs.set jj u)) ma (rl2.set (ER.rp i1 e2 r1) jj)))
    exact w2 S.M _ _ i3 ((ER.st i1 e2).trans s3)
  · exact w2.elim
def asgT (tgt : Env3 → PyData → Option Env3) (f : Env3 → MM PyData) : Env3 → MM Fl3 := fun Δ => tryE (f Δ) Δ fun d => bd (op (tgt Δ d)) fun Δ' => rt (.nx Δ')
theorem ds_asgT {tg : Expr} {ts : List Nat} {tgt : Env3 → PyData → Option Env3} (he : DE X R e f) (hg : DT3 X tg ts tgt) (hs : swapsWithSole [tg] e pos.line X.env = pure false := by rfl) (hw : swappedStores [tg] e X.env = pure none := by rfl)
    (h1 : (assignEach [tg] X.env).map (·.2) = [assign tg X.env] := by rfl) : DS X R (.Assign [tg] e pos) (asgT tgt f) := by
  obtain ⟨t, pe, q⟩ := he.useS
  obtain ⟨tg', pg, qg⟩ := hg
  refine ⟨_, ps_asg pe pg hs hw h1, fun S H k D i' w => q S H k _ D _ i' w fun d k1 w1 v H1 i1 e1 r1 => ?_⟩
  obtain ⟨Δ', ht, w1⟩ := w1.bd.op
  exact qg S.H0 S.M0 S.sp S.M S.σ S.Δ Δ' H1 k1 v d _ i1 r1 ht fun σ' o' i2 => w1 S.M H1 σ' i2 (ER.st i' e1)
def aug (i : Nat) (F : PyData → PyData → Option PyData) (f : Env3 → MM PyData) : Env3 → MM Fl3 := fun Δ => bd (op (slV Δ[i]?)) fun x => tryE (f Δ) Δ fun y => bd (op (F x y)) fun z => rt (.nx (Δ.set i (some (.val z))))
theorem ds_augI {i : Nat} {x : Str} {te : TE} (he : DE X R e f) (hp : ∀ te, PE X e te → PS X st (tAug i te (ipI fun i j => i + j))) : DS X R st (aug i (fun a b => match a, b with | .int i, .int j => some (.int (i + j)) | _, _ => none) f) := by
  obtain ⟨t, pe, q⟩ := he.useS
  refine ⟨_, hp t pe, fun S H k D i' w => ?_⟩
  obtain ⟨d0, h0, w⟩ := w.bd.op
  obtain ⟨v0, h1, h2⟩ := ER.slot i' i _ (slV_some h0)
  cases h2 with
  | val r0 =>
    refine ⟨v0, h1, q S H k _ D _ i' w fun y k1 w1 v H1 i1 e1 r1 => ?_⟩
    obtain ⟨z, hz, w1⟩ := w1.bd.op
    cases d0 <;> cases y <;> try (cases hz; done)
    cases hz
    cases r0
    cases r1
    exact ⟨_, _, rfl, rfl, w1 S.M H1 _ (ER.set i1 i (.int _)) (ER.st i' e1)⟩
end
end L3

set_option Elab.async false
set_option linter.all false
set_option maxRecDepth 100000
set_option maxHeartbeats 4000000
namespace L3
open PySem PySem.Spec PyProof.Rows L2

inductive Kd where
  | val | bor | spot
  | scr (K : PySem.W.Frag)
inductive AOk (M : Addr → Prop) (sp : Option Addr) (H : Hp) : List Kd → List V → List PyData → Prop
  | nil : AOk M sp H [] [] []
  | val {ks : List Kd} {vs : List V} {ds : List PyData} {v : V} {d : PyData} : Rp M H v d → AOk M sp H ks vs ds → AOk M sp H (.val :: ks) (v :: vs) (d :: ds)
  | bor {ks : List Kd} {vs : List V} {ds : List PyData} {v : V} {d : PyData} : RpB sp M H v d → AOk M sp H ks vs ds → AOk M sp H (.bor :: ks) (v :: vs) (d :: ds)
  | spot {ks : List Kd} {vs : List V} {ds : List PyData} {a : Addr} : sp = some a → AOk M sp H ks vs ds → AOk M sp H (.spot :: ks) (.ref a :: vs) (.none :: ds)
  | scr {ks : List Kd} {vs : List V} {ds : List PyData} {K : PySem.W.Frag} {a : Addr} {ns : List Int} : ScrAt K M H a ns → AOk M sp H ks vs ds → AOk M sp H (.scr K :: ks) (.ref a :: vs) (.list (ns.map .int) :: ds)
theorem AOk.length {M : Addr → Prop} {sp : Option Addr} {H : Hp} : ∀ {ks : List Kd} {vs : List V} {ds : List PyData}, AOk M sp H ks vs ds → vs.length = ks.length ∧ ds.length = ks.length
  | _, _, _, .nil => ⟨rfl, rfl⟩
  | _, _, _, .val _ r => ⟨by simp [r.length.1], by simp [r.length.2]⟩
  | _, _, _, .bor _ r => ⟨by simp [r.length.1], by simp [r.length.2]⟩
  | _, _, _, .spot _ r => ⟨by simp [r.length.1], by simp [r.length.2]⟩
  | _, _, _, .scr _ r => ⟨by simp [r.length.1], by simp [r.length.2]⟩
def Spot (M : Addr → Prop) (sp : Option Addr) (H : Hp) (k : Int) : Prop := ∀ a, sp = some a → SpotAt M H a k
/-- the promise of a def whose runs are m -/
def spOf (ks : List Kd) (m : List PyData → MM PyData) : Sp := fun vs H Q _E => ∃ (M : Addr → Prop) (sp : Option Addr) (ds : List PyData) (k : Int), AOk M sp H ks vs ds ∧ (∀ a, M a → ∃ o, H a = some o) ∧ (∀ a, sp = some a → M a) ∧ Spot M sp H k ∧
  Wp (m ds k) (fun d k' => ∀ v H', Ex sp H H' → Spot M sp H' k' → Rp M H' v d → Q v H') no3
structure Real (P : Program) (w : World) (K : PySem.W.Frag) (mg : Str → Option Value) (base : Heap) (n : Nat) (name : Str) (ps : List Str) (ks : List Kd) (m : List PyData → MM PyData) : Prop where
  ex : ∃ f fd, FnOk P w K mg base CX0 n f fd ps (spOf ks m) ∧ mg name = some (.ref f) ∧ PySem.W.keepIn K (.ref f) = true ∧ Binds K fd ps []
theorem Real.mono {P : Program} {w : World} {K : PySem.W.Frag} {mg : Str → Option Value} {base : Heap} {n n' : Nat} {name : Str} {ps : List Str} {ks : List Kd} {m : List PyData → MM PyData} (h : Real P w K mg base n name ps ks m) (hn : n ≤ n') : Real P w K mg base n' name ps ks m := by
  obtain ⟨f, fd, F, r⟩ := h.ex
  exact ⟨f, fd, F.mono hn, r⟩
/-- where m' has an answer, m has it -/
theorem Real.imp {P : Program} {w : World} {K : PySem.W.Frag} {mg : Str → Option Value} {base : Heap} {n : Nat} {name : Str} {ps : List Str} {ks : List Kd} {m m' : List PyData → MM PyData} (h : Real P w K mg base n name ps ks m) (hm : ∀ ds k d k', m' ds k = .ok d k' → m ds k = .ok d k') : Real P w K mg base n name ps ks m' := by
  obtain ⟨f, fd, F, r⟩ := h.ex
  refine ⟨f, fd, F.imp fun vs H Q E ⟨M, sp, ds, k, a, l, s, sk, w⟩ => ⟨M, sp, ds, k, a, l, s, sk, ?_⟩, r⟩
  cases e : m' ds k with
  | ok d k' => rw [e] at w; rw [hm ds k d k' e]; exact w
  | ex x k' => rw [e] at w; exact w.elim
  | no => rw [e] at w; exact w.elim

section
variable {X : Cx} {R : RX} {e a b c : Expr} {es : List Expr} {f h : Env3 → MM PyData} {pos p : Pos}
def DX (X : Cx) (R : RX) (ks : List Kd) (es : List Expr) (g : Env3 → MM (List PyData)) : Prop :=
  ∃ t, PA X es t ∧ ∀ (S : S3) (H : Hp) (k : Int) (Q : List V → Hp → Prop), S.In H k → Wp (g S.Δ k) (S.ok (fun H' => AOk S.M S.sp H' ks) H Q) (S.er R H) → t S.σ H Q
theorem AOk.ext {H0 : Hp} {M0 M : Addr → Prop} {sp : Option Addr} {H H' : Hp} {σ : L2.St} {Δ : Env3} {k : Int} (I : ER H0 M0 sp M H σ Δ k) (e : Ex sp H H') : ∀ {ks : List Kd} {vs : List V} {ds : List PyData}, AOk M sp H ks vs ds → AOk M sp H' ks vs ds
  | _, _, _, .nil => .nil
  | _, _, _, .val r t => .val (I.rp e r) (AOk.ext I e t)
  | _, _, _, .bor r t => .bor (I.rpB e r) (AOk.ext I e t)
  | _, _, _, .spot h t => .spot h (AOk.ext I e t)
  | _, _, _, .scr h t => .scr (scr_move h (I.exM e) fun _ _ _ n => n) (AOk.ext I e t)
theorem DX.use {ks : List Kd} {g : Env3 → MM (List PyData)} (h : DX X R ks es g) : ∃ t, PA X es t ∧ ∀ (S : S3) (H : Hp) (k : Int) (Q : List V → Hp → Prop) {β : Type} (c : List PyData → MM β) (P : β → Int → Prop), S.In H k → Wp (bd (g S.Δ) c k) P (S.er R H) →
    (∀ ds k', Wp (c ds k') P (S.er R H) → ∀ vs H', S.In H' k' → Ex S.sp H H' → AOk S.M S.sp H' ks vs ds → Q vs H') → t S.σ H Q := by
  obtain ⟨t, p, q⟩ := h
  exact ⟨t, p, fun S H k Q β c P i w n => q S H k Q i (w.bd.mono (fun d k' _ w' v H' i' e' r => n d k' w' v H' i' e' r) fun _ _ _ z => z)⟩
theorem dx_nil : DX X R [] [] an := ⟨_, pa_nil, fun S H k Q i w => w [] H i (Ex.refl H) .nil⟩
theorem dx_val {ks : List Kd} {g : Env3 → MM (List PyData)} (ha : DE X R a f) (hb : DX X R ks es g) (hs : starEach (a :: es) X.env = (false, eval a X.env) :: starEach es X.env := by rfl) : DX X R (.val :: ks) (a :: es) (ac f g) := by
  obtain ⟨t, p, q⟩ := ha.use p3_stays
  obtain ⟨t', p', q'⟩ := hb.use
  refine ⟨_, pa_cons p p' hs, fun S H k Q i w => q S H k _ _ _ i w fun x k1 w1 v H1 i1 e1 r1 => ?_⟩
  refine q' S H1 k1 _ _ _ i1 (w1.mono (fun _ _ _ z => z) fun _ _ _ z => z.mono e1) fun xs k2 w2 vs H2 i2 e2 r2 => ?_
  exact w2 _ H2 i2 (e1.trans e2) (.val (ER.rp i1 e2 r1) r2)
theorem dx_bor {ks : List Kd} {g : Env3 → MM (List PyData)} (ha : DB X R a f) (hb : DX X R ks es g) (hs : starEach (a :: es) X.env = (false, eval a X.env) :: starEach es X.env := by rfl) : DX X R (.bor :: ks) (a :: es) (ac f g) := by
  obtain ⟨t, p, q⟩ := ha.use b3_stays
  obtain ⟨t', p', q'⟩ := hb.use
  refine ⟨_, pa_cons p p' hs, fun S H k Q i w => q S H k _ _ _ i w fun x k1 w1 v H1 i1 e1 r1 => ?_⟩
  refine q' S H1 k1 _ _ _ i1 (w1.mono (fun _ _ _ z => z) fun _ _ _ z => z.mono e1) fun xs k2 w2 vs H2 i2 e2 r2 => ?_
  exact w2 _ H2 i2 (e1.trans e2) (.bor (ER.rpB i1 e2 r1) r2)
/-- the counter's list handed on -/
def isSp : Option (Option Sl) → Bool
  | some (some .spot) => true
  | _ => false
def asp (i : Nat) (g : Env3 → MM (List PyData)) : Env3 → MM (List PyData) := fun Δ => if isSp Δ[i]? = true then bd (g Δ) fun xs => rt (.none :: xs) else fl
theorem isSp_eq {o : Option (Option Sl)} (h : isSp o = true) : o = some (some .spot) := by
  unfold isSp at h
  split at h
  · rfl
  · cases h
theorem dx_spot {ks : List Kd} {g : Env3 → MM (List PyData)} {i : Nat} {x : Str} (pv : PE X (.Name x p) (tVar i)) (hb : DX X R ks es g) (hs : starEach (.Name x p :: es) X.env = (false, eval (.Name x p) X.env) :: starEach es X.env := by rfl) : DX X R (.spot :: ks) (.Name x p :: es) (asp i g) := by
  obtain ⟨t', p', q'⟩ := hb.use
  refine ⟨_, pa_cons pv p' hs, fun S H k Q i' w => ?_⟩
  unfold asp at w
  split at w
  · rename_i hi
    obtain ⟨v, h1, h2⟩ := ER.slot i' i _ (isSp_eq hi)
    cases h2 with
    | spot hsp =>
      refine ⟨_, h1, q' S H k _ _ _ i' w fun xs k2 w2 vs H2 i2 e2 r2 => ?_⟩
      exact w2 _ H2 i2 e2 (.spot hsp r2)
  · exact w.elim
open Classical in
noncomputable def isScr (K : PySem.W.Frag) (o : Option (Option Sl)) : Option (List Int) := match o with
  | some (some (.scr K' ns)) => if K' = K then some ns else none
  | _ => none
theorem isScr_eq {K : PySem.W.Frag} {o : Option (Option Sl)} {ns : List Int} (h : isScr K o = some ns) : o = some (some (.scr K ns)) := by
  unfold isScr at h
  split at h
  · split at h
    · rename_i hk
      subst hk
      cases h
      rfl
    · cases h
  · cases h
@[simp] theorem isScr_at (K : PySem.W.Frag) (ns : List Int) : isScr K (some (some (.scr K ns))) = some ns := by simp [isScr]
noncomputable def asc (K : PySem.W.Frag) (i : Nat) (g : Env3 → MM (List PyData)) : Env3 → MM (List PyData) := fun Δ => bd (op (isScr K Δ[i]?)) fun ns => bd (g Δ) fun xs => rt (.list (ns.map .int) :: xs)
def cal (m : List PyData → MM PyData) (g : Env3 → MM (List PyData)) : Env3 → MM PyData := fun Δ => bd (g Δ) fun ds => calmly (m ds)
theorem call_sem {ks : List Kd} {m : List PyData → MM PyData} {S : S3} {H H1 : Hp} {k1 : Int} {Q : VK} {ds : List PyData} {vs : List V} {E : XK} (i1 : S.In H1 k1) (e1 : Ex S.sp H H1) (r1 : AOk S.M S.sp H1 ks vs ds) (w1 : Wp (calmly (m ds) k1) (S.ok (P3 S) H Q) (S.er R H)) : spOf ks m vs H1 Q E := by
  obtain ⟨d, k2, hm, hq⟩ := w1.calmly
  refine ⟨S.M, S.sp, ds, k1, r1, ER.live i1, fun a ha => ER.sub i1 a (ER.spot i1 a ha).1, fun a ha => (ER.spot i1 a ha).2, ?_⟩
  rw [hm]
  exact fun v H' e' s' r' => hq v H' (ER.step i1 e' s') (e1.trans e') r'
theorem de_call {n j : Nat} {x : Str} {ps : List Str} {ks : List Kd} {m : List PyData → MM PyData} {g : Env3 → MM (List PyData)}
    (F : Real X.prog X.w X.K X.mg X.base n x ps ks m) (hr : Room j X.A) (hj : n ≤ j) (ha : DX X R ks (e :: es) g) (hg : Gl X x := by rfl) (hdb : (x == ("__debug__" : Str)) = false := by decide)
    (he : starEach (e :: es) X.env = (false, eval e X.env) :: starEach es X.env := by rfl) (hpl : (backTo pos (starEach es X.env)).any (·.1) = false := by rfl) : DE X R (.Call (.Name x p) (e :: es) [] pos) (cal m g) := by
  obtain ⟨f, fd, F, hm, hk, hb⟩ := F.ex
  obtain ⟨t, pa, q⟩ := ha.use
  refine ⟨_, pe_call F (hr.mono hj) hg hm hk hb .nil pass0 pa hdb he hpl, fun S H k Q i w => q S H k _ _ _ i w fun ds k1 w1 vs H1 i1 e1 r1 => ?_⟩
  show spOf ks m (vs ++ []) H1 Q E0
  rw [List.append_nil]
  exact call_sem i1 e1 r1 w1

def scrNs : PyData → List Int
  | .list xs => (intsOf xs).getD []
  | _ => []
@[simp] theorem scrNs_map (ns : List Int) : scrNs (.list (ns.map .int)) = ns := by simp [scrNs]
def kSl : Kd → PyData → Sl
  | .val, d => .val d
  | .bor, d => .bor d
  | .spot, _ => .spot
  | .scr K, d => .scr K (scrNs d)
def startE (n : Nat) (ks : List Kd) (ds : List PyData) : Env3 := (List.zipWith kSl ks ds).map some ++ List.replicate (n - ds.length) none
/-- what a body's run hands back -/
def runB (g : Env3 → MM Fl3) (Δ : Env3) : MM PyData := fun k => match g Δ k with
  | .ok (.rt d) k' => .ok d k'
  | .ok (.nx _) k' => .ok .none k'
  | _ => .no
theorem startE_get {M : Addr → Prop} {sp : Option Addr} {H : Hp} : ∀ {ks : List Kd} {vs : List V} {ds : List PyData} {i : Nat} {s : Sl}, AOk M sp H ks vs ds → ((List.zipWith kSl ks ds).map some)[i]? = some (some s) → ∃ v, vs[i]? = some v ∧
    ((∃ d, s = .val d ∧ Rp M H v d) ∨ (∃ d, s = .bor d ∧ RpB sp M H v d) ∨ (∃ a, s = .spot ∧ v = .ref a ∧ sp = some a) ∨ ∃ K a ns, s = .scr K ns ∧ v = .ref a ∧ ScrAt K M H a ns)
  | _, _, _, i, s, .nil, h => by simp at h
  | _, _, _, 0, s, .val r t, h => by simp [kSl] at h; subst h; exact ⟨_, rfl, .inl ⟨_, rfl, r⟩⟩
  | _, _, _, 0, s, .bor r t, h => by simp [kSl] at h; subst h; exact ⟨_, rfl, .inr (.inl ⟨_, rfl, r⟩)⟩
  | _, _, _, 0, s, .spot r t, h => by simp [kSl] at h; subst h; exact ⟨_, rfl, .inr (.inr (.inl ⟨_, rfl, rfl, r⟩))⟩
  | _, _, _, 0, s, .scr r t, h => by simp [kSl] at h; subst h; exact ⟨_, rfl, .inr (.inr (.inr ⟨_, _, _, rfl, rfl, r⟩))⟩
  | _, _, _, i + 1, s, .val r t, h => by
    obtain ⟨v, h1, h2⟩ := startE_get (i := i) t (by simpa using h)
    exact ⟨v, by simpa using h1, h2⟩
  | _, _, _, i + 1, s, .bor r t, h => by
    obtain ⟨v, h1, h2⟩ := startE_get (i := i) t (by simpa using h)
    exact ⟨v, by simpa using h1, h2⟩
  | _, _, _, i + 1, s, .spot r t, h => by
    obtain ⟨v, h1, h2⟩ := startE_get (i := i) t (by simpa using h)
    exact ⟨v, by simpa using h1, h2⟩
  | _, _, _, i + 1, s, .scr r t, h => by
    obtain ⟨v, h1, h2⟩ := startE_get (i := i) t (by simpa using h)
    exact ⟨v, by simpa using h1, h2⟩
theorem er_start {N : List Str} {M : Addr → Prop} {sp : Option Addr} {H : Hp} {ks : List Kd} {vs : List V} {ds : List PyData} {k : Int} (a : AOk M sp H ks vs ds) (live : ∀ a, M a → ∃ o, H a = some o) (hs : ∀ a, sp = some a → M a) (hk : Spot M sp H k) : ER H M sp M H (start N vs) (startE N.length ks ds) k where
  keep := fun _ _ h _ => h
  sub := fun _ h => h
  low := live
  live := live
  spot := fun b h => ⟨hs b h, hk b h⟩
  len := by
    obtain ⟨h1, h2⟩ := a.length
    simp [L2.start, startE, h1, h2]
  slot := fun i s h => by
    unfold startE at h
    rw [List.getElem?_append] at h
    split at h
    · obtain ⟨v, h1, h2⟩ := startE_get a h
      refine ⟨v, ?_, ?_⟩
      · unfold L2.start
        rw [List.getElem?_append_left (by rw [List.length_map]; exact (List.getElem?_eq_some_iff.mp h1).1)]
        simp [h1]
      · rcases h2 with ⟨d, rfl, r⟩ | ⟨d, rfl, r⟩ | ⟨a, rfl, rfl, r⟩ | ⟨K, a, ns, rfl, rfl, r⟩
        · exact .val r
        · exact .bor r fun a ha hm => live a hm
        · exact .spot r
        · exact .scr r
    · rw [List.getElem?_replicate] at h
      split at h <;> cases h
  uniq := fun i j a h1 h2 => by
    exfalso
    have no : ∀ s, (startE N.length ks ds)[i]? = some (some s) → (∃ d, s = .own d ∨ s = .own2 d) → False := fun s e w => by
      unfold startE at e
      rw [List.getElem?_append] at e
      obtain ⟨d', w⟩ := w
      split at e
      · obtain ⟨v, _, h2⟩ := startE_get (by assumption) e
        rcases h2 with ⟨d, h, r⟩ | ⟨d, h, r⟩ | ⟨a, h, _, r⟩ | ⟨K, a, ns, h, _, r⟩ <;> rw [h] at w <;> rcases w with w | w <;> cases w
      · rw [List.getElem?_replicate] at e
        split at e <;> cases e
    obtain ⟨t, _, ⟨d, e, _⟩ | ⟨d, e, _⟩⟩ := h1
    · exact no _ e ⟨d, .inl rfl⟩
    · exact no _ e ⟨d, .inr rfl⟩
theorem fnok_of {P : Program} {w : World} {K : PySem.W.Frag} {mg : Str → Option Value} {base : Heap} {x qual : Str} {st : Stmt} {f : Addr} {fd : FuncData} {N ps : List Str} {k : Nat} {ks : List Kd} {g : Env3 → MM Fl3} (F : Fun K x qual st f fd) (S : FnScope N ps (defScope st)) (hl : ks.length = ps.length)
    (hbody : ∀ (cdv : Value) (A : Around) (outer : List Env) (s : Shared) (H : Hp) (E : XK), Room k (A.deeper (envOfC qual (defScope st) s.heap.objs.size f cdv)) →
      DSs (cxOf CX0 P w K mg base N qual (defScope st) f cdv A outer s H E).nox RX0 (defBody st) g) : FnOk P w K mg base CX0 (k + 1) f fd ps (spOf ks (fun ds => runB g (startE N.length ks ds))) := by
  refine F.ok S (fun vs H Q E h => ?_) (fun cdv A outer s H vs Q E hr h => ?_)
  · obtain ⟨M, sp, ds, k, a, _⟩ := h
    rw [a.length.1, hl]
  · obtain ⟨M, sp, ds, k, a, live, hs, hk, w1⟩ := h
    obtain ⟨t, pb, q⟩ := hbody cdv A outer s H E hr
    refine ⟨t, pb, q ⟨H, M, sp, M, start N vs, startE N.length ks ds⟩ H k _ (er_start a live hs hk) ?_⟩
    dsimp only
    dsimp only [runB] at w1
    cases hg : g (startE N.length ks ds) k with
    | no => rw [hg] at w1; exact w1.elim
    | ex x k' => rw [hg] at w1; exact w1.elim
    | ok r k' =>
      rw [hg] at w1
      cases r with
      | rt d => exact fun v M' H' σ' Δ' i _ r => w1 v H' i.keep (fun b hb => (i.spot b hb).2.less i.sub) (r.less i.sub)
      | nx Δ' => exact fun M' H' σ' i s => w1 .non H' i.keep (fun b hb => (i.spot b hb).2.less i.sub) .non
      | bk Δ' => exact w1.elim
      | ct Δ' => exact w1.elim
      | xx x Δ' => exact w1.elim
theorem real_of {P : Program} {w : World} {K : PySem.W.Frag} {mg : Str → Option Value} {base : Heap} {x qual : Str} {st : Stmt} {f : Addr} {fd : FuncData} {N ps : List Str} {k : Nat} {ks : List Kd} {g : Env3 → MM Fl3} (F : Fun K x qual st f fd) (S : FnScope N ps (defScope st)) (hl : ks.length = ps.length)
    (hm : mg x = some (.ref f)) (hb : Binds K fd ps [])
    (hbody : ∀ (cdv : Value) (A : Around) (outer : List Env) (s : Shared) (H : Hp) (E : XK), Room k (A.deeper (envOfC qual (defScope st) s.heap.objs.size f cdv)) →
      DSs (cxOf CX0 P w K mg base N qual (defScope st) f cdv A outer s H E).nox RX0 (defBody st) g) : Real P w K mg base (k + 1) x ps ks (fun ds => runB g (startE N.length ks ds)) :=
  ⟨f, fd, fnok_of F S hl hbody, hm, F.kp, hb⟩
/-- called with all its arguments by name -/
def KwAll (K : PySem.W.Frag) (fd : FuncData) (ps : List Str) : Prop := ∀ (s : Shared) (ws : List Value), K.In s.heap → ws.length = ps.length → BindsTo s fd ⟨[], ps.zip ws⟩ (ps.zip ws)
structure RealK (P : Program) (w : World) (K : PySem.W.Frag) (mg : Str → Option Value) (base : Heap) (n : Nat) (name : Str) (ps : List Str) (ks : List Kd) (m : List PyData → MM PyData) : Prop where
  ex : ∃ f fd, FnOk P w K mg base CX0 n f fd ps (spOf ks m) ∧ mg name = some (.ref f) ∧ PySem.W.keepIn K (.ref f) = true ∧ KwAll K fd ps
theorem realK_of {P : Program} {w : World} {K : PySem.W.Frag} {mg : Str → Option Value} {base : Heap} {x qual : Str} {st : Stmt} {f : Addr} {fd : FuncData} {N ps : List Str} {k : Nat} {ks : List Kd} {g : Env3 → MM Fl3} (F : Fun K x qual st f fd) (S : FnScope N ps (defScope st)) (hl : ks.length = ps.length)
    (hm : mg x = some (.ref f)) (hb : KwAll K fd ps)
    (hbody : ∀ (cdv : Value) (A : Around) (outer : List Env) (s : Shared) (H : Hp) (E : XK), Room k (A.deeper (envOfC qual (defScope st) s.heap.objs.size f cdv)) →
      DSs (cxOf CX0 P w K mg base N qual (defScope st) f cdv A outer s H E).nox RX0 (defBody st) g) : RealK P w K mg base (k + 1) x ps ks (fun ds => runB g (startE N.length ks ds)) :=
  ⟨f, fd, fnok_of F S hl hbody, hm, F.kp, hb⟩
theorem kwAll_of {K : PySem.W.Frag} {x qual : Str} {st : Stmt} {f : Addr} {fd : FuncData} {ps : List Str} (F : Fun K x qual st f fd)
    (h : ∀ (kV doc pm : Value) (an : Option Addr) (cdv ct : Value) (us : List Value), us.length = ps.length → bindArgs (PySem.W.fnOf x qual (defArgs st) (defBody st) (defScope st) .none kV doc pm an cdv ct) ⟨[], ps.zip us⟩ = pure (ps.zip us)) : KwAll K fd ps := by
  obtain ⟨oc, od, kV, doc, pm, an, cdv, ct, osl, rfl, lk, hcd⟩ := F.ex
  exact fun s ws _ hl => .of_eq (h kV doc pm an cdv ct ws hl)
/-- no run at all -/
theorem real_zero {P : Program} {w : World} {K : PySem.W.Frag} {mg : Str → Option Value} {base : Heap} {x qual : Str} {st : Stmt} {f : Addr} {fd : FuncData} {N ps : List Str} {k : Nat} {ks : List Kd} (F : Fun K x qual st f fd) (S : FnScope N ps (defScope st))
    (hm : mg x = some (.ref f)) (hb : Binds K fd ps []) : Real P w K mg base (k + 1) x ps ks (fun _ => fl) := by
  refine ⟨f, fd, F.ok S (fun vs H Q E h => ?_) (fun cdv A outer s H vs Q E hr h => ?_), hm, F.kp, hb⟩
  · obtain ⟨M, sp, ds, k, _, _, _, _, w⟩ := h
    exact w.elim
  · obtain ⟨M, sp, ds, k, _, _, _, _, w⟩ := h
    exact w.elim
theorem dx_scr {X : Cx} {R : RX} {es : List Expr} {ks : List Kd} {g : Env3 → MM (List PyData)} {i : Nat} {x : Str} {p : Pos} (pv : PE X (.Name x p) (tVar i)) (hb : DX X R ks es g) (hs : starEach (.Name x p :: es) X.env = (false, eval (.Name x p) X.env) :: starEach es X.env := by rfl) : DX X R (.scr X.K :: ks) (.Name x p :: es) (asc X.K i g) := by
  obtain ⟨t', p', q'⟩ := hb.use
  refine ⟨_, pa_cons pv p' hs, fun S H k Q i' w => ?_⟩
  unfold asc at w
  obtain ⟨ns, hn, w⟩ := w.bd.op
  obtain ⟨v, h1, h2⟩ := ER.slot i' i _ (isScr_eq hn)
  cases h2 with
  | scr hsp =>
    refine ⟨_, h1, q' S H k _ _ _ i' w fun xs k2 w2 vs H2 i2 e2 r2 => ?_⟩
    exact w2 _ H2 i2 e2 (.scr (scr_move hsp (ER.exM i' e2) fun _ _ _ n => n) r2)
end
end L3

set_option Elab.async false
set_option linter.all false
set_option maxRecDepth 100000
set_option maxHeartbeats 4000000
namespace L3
open PySem PySem.Spec PyProof.Rows L2

theorem bb_len : bootBuiltins "len" = some (.builtin "len") := by decide +kernel
theorem bb_int : bootBuiltins "int" = some (.type "int") := by decide +kernel
theorem bb_str : bootBuiltins "str" = some (.type "str") := by decide +kernel
theorem bb_tuple : bootBuiltins "tuple" = some (.type "tuple") := by decide +kernel
theorem bb_list : bootBuiltins "list" = some (.type "list") := by decide +kernel
theorem bb_dict : bootBuiltins "dict" = some (.type "dict") := by decide +kernel
theorem bb_bool : bootBuiltins "bool" = some (.type "bool") := by decide +kernel
theorem bb_all : bootBuiltins "all" = some (.builtin "all") := by decide +kernel
theorem bb_any : bootBuiltins "any" = some (.builtin "any") := by decide +kernel
theorem bb_sum : bootBuiltins "sum" = some (.builtin "sum") := by decide +kernel
theorem bb_max : bootBuiltins "max" = some (.builtin "max") := by decide +kernel
theorem bb_min : bootBuiltins "min" = some (.builtin "min") := by decide +kernel
theorem bb_sorted : bootBuiltins "sorted" = some (.builtin "sorted") := by decide +kernel
theorem bb_isinstance : bootBuiltins "isinstance" = some (.builtin "isinstance") := by decide +kernel
theorem bb_set : bootBuiltins "set" = some (.type "set") := by decide +kernel
theorem bb_range : bootBuiltins "range" = some (.type "range") := by decide +kernel

section
variable {X : Cx} {R : RX} {st : Stmt} {e e' a b c : Expr} {es : List Expr} {f f' g h : Env3 → MM PyData} {pos pos' apos p p2 : Pos}

open Classical in
noncomputable def scrG (K : PySem.W.Frag) (lo hi : Option Int) (o : Option (Option Sl)) : Option (List Int) := match o with
  | some (some (.scr K' ns)) => if K' = K then some ((ns.drop (HT.sIx ns.length 0 lo)).take (HT.sIx ns.length ns.length hi - HT.sIx ns.length 0 lo)) else none
  | _ => none
theorem scrG_some {K : PySem.W.Frag} {lo hi : Option Int} {o : Option (Option Sl)} {ms : List Int} (h : scrG K lo hi o = some ms) : ∃ ns, o = some (some (.scr K ns)) ∧ ms = (ns.drop (HT.sIx ns.length 0 lo)).take (HT.sIx ns.length ns.length hi - HT.sIx ns.length 0 lo) := by
  unfold scrG at h
  split at h
  · split at h
    · rename_i hk
      subst hk
      cases h
      exact ⟨_, rfl, rfl⟩
    · cases h
  · cases h
theorem scrG_at (K : PySem.W.Frag) (lo hi : Option Int) (ns : List Int) : scrG K lo hi (some (some (.scr K ns))) = some ((ns.drop (HT.sIx ns.length 0 lo)).take (HT.sIx ns.length ns.length hi - HT.sIx ns.length 0 lo)) := by
  unfold scrG
  simp
/-- script[:n] -/
noncomputable def scrV (K : PySem.W.Frag) (i : Nat) (n : Int) : Env3 → MM PyData := fun Δ => bd (op (scrG K none (some n) Δ[i]?)) fun ms => rt (.list (ms.map .int))
theorem df_scr {i : Nat} {x : Str} {n : Int} {j : Nat} (pv : PE X (.Name x p) (tVar i)) : DF X R (.Subscript (.Name x p) (.Slice none (some (.Constant (.int n) j pos')) none p2) pos) (scrV X.K i n) := by
  refine ⟨_, pe_slice sl_list pv po_none (po_some pe_int), fun S H k Q i' w => ?_⟩
  obtain ⟨ms, hm, w⟩ := w.bd.op
  obtain ⟨ns, hn, rfl⟩ := scrG_some hm
  obtain ⟨v, h1, h2⟩ := ER.slot i' i _ hn
  cases h2 with
  | @scr a _ _ hs =>
    refine ⟨_, h1, _, rfl, a, _, rfl, hs.sq, fun p hp => ?_⟩
    have e : cutV (ns.map V.int) none (some n) = ((ns.drop (HT.sIx ns.length 0 none)).take (HT.sIx ns.length ns.length (some n) - HT.sIx ns.length 0 none)).map V.int := by
      unfold cutV
      rw [List.length_map, List.map_take, List.map_drop]
    rw [e]
    exact w p _ (ER.new i' hp) (Ex.new hp) hp (top_new hp (Rps.int _)) (ER.spN i' hp)

def spG (i : Nat) : Env3 → MM PyData := fun Δ k => if isSp Δ[i]? = true ∧ 0 ≤ k then .ok (.int k) k else .no
theorem de_spot {i : Nat} {x : Str} {j : Nat} (pv : PE X (.Name x p) (tVar i)) : DE X R (.Subscript (.Name x p) (.Constant (.int 0) j pos') pos) (spG i) := by
  refine ⟨_, pe_ix ix_list pv pe_int (fun _ _ => rfl), fun S H k Q i' w => ?_⟩
  unfold spG at w
  split at w
  · rename_i hs
    obtain ⟨hs, hk⟩ := hs
    obtain ⟨v, h1, h2⟩ := ER.slot i' i _ (isSp_eq hs)
    cases h2 with
    | spot hsp => exact ⟨_, h1, _, _, 0, _, rfl, rfl, .of ((ER.spot i' _ hsp).2.cnt hk), rfl, w _ H i' (Ex.refl H) (.int k)⟩
  · exact w.elim
/-- spot[0] = e, the new count -/
def spS (i : Nat) (f : Env3 → MM PyData) : Env3 → MM Fl3 := fun Δ => if isSp Δ[i]? = true then tryE (f Δ) Δ fun y => match y with | .int n => fun k => if 0 ≤ k ∧ 0 ≤ n then .ok (.nx Δ) n else .no | _ => fl else fl
theorem ds_spot {i : Nat} {x : Str} {ps : Pos} {j : Nat} (pv : PE X (.Name x p) (tVar i)) (hv : DE X R e f) (hs : swapsWithSole [.Subscript (.Name x p) (.Constant (.int 0) j pos') ps] e pos.line X.env = pure false := by rfl) (hw : swappedStores [.Subscript (.Name x p) (.Constant (.int 0) j pos') ps] e X.env = pure none := by rfl)
    (h1 : (assignEach [.Subscript (.Name x p) (.Constant (.int 0) j pos') ps] X.env).map (·.2) = [assign (.Subscript (.Name x p) (.Constant (.int 0) j pos') ps) X.env] := by rfl)
    (ha : ∀ v, assign (.Subscript (.Name x p) (.Constant (.int 0) j pos') ps) X.env v = (do
      let ov ← holding [v] (eval (.Name x p) X.env)
      let iv ← holding [v, ov] (eval (.Constant (.int 0) j pos') X.env)
      standAt ps
      holding [v, ov, iv] (setItem ov iv v)
      release [v, ov, iv] []) := by intro _; rfl) :
    DS X R (.Assign [.Subscript (.Name x p) (.Constant (.int 0) j pos') ps] e pos) (spS i f) := by
  obtain ⟨tv, pv', qv⟩ := hv.useS
  refine ⟨_, ps_asg pv' (pg_sub pv pe_int set_list ha) hs hw h1, fun S H k D i' w => ?_⟩
  unfold spS at w
  split at w
  · rename_i hsp
    obtain ⟨v, h1, h2⟩ := ER.slot i' i _ (isSp_eq hsp)
    cases h2 with
    | @spot a hsp =>
      refine qv S H k _ D _ i' w fun y k1 w1 u H1 i1 e1 r1 => ?_
      cases y <;> try (exact w1.elim)
      rename_i n
      cases r1
      have w1' : Wp (if 0 ≤ k1 ∧ 0 ≤ n then O.ok (Fl3.nx S.Δ) n else .no) _ _ := w1
      clear w1
      split at w1'
      case isFalse => exact w1'.elim
      rename_i hk
      have w1 := w1'
      have hl := (ER.spot i1 a hsp).2.cnt hk.1
      refine ⟨_, h1, a, [.int k1], 0, 0, rfl, rfl, hl, rfl, ?_⟩
      have ma : S.M a := ER.sub i1 a (ER.spot i1 a hsp).1
      have ex : Ex S.sp H1 (upd H1 a (.lst [.int n])) := fun b u e nb => by rw [upd_ne (fun z => nb (by rw [hsp, z]))]; exact e
      have i2 : S.In (upd H1 a (.lst [.int n])) n := ER.step i1 ex fun b hb => by
        rw [hsp] at hb
        cases hb
        exact .inl ⟨hk.2, upd_same⟩
      exact w1 S.M _ S.σ i2 (ER.st i' (e1.trans ex))
  · exact w.elim

def tyN : PyData → String
  | .none => "NoneType"
  | .bool _ => "bool"
  | .int _ => "int"
  | .str _ => "str"
  | .list _ => "list"
  | .tuple _ => "tuple"
  | .dict _ => "dict"
def isaV (T : String) (f : Env3 → MM PyData) : Env3 → MM PyData := fun Δ => bd (f Δ) fun d => op (if exS d = true then none else (kitB (tyN d) T).map .bool)
theorem tyX_of {K : PySem.W.Frag} {sp : Option Addr} {M : Addr → Prop} {H : Hp} {v : V} {d : PyData} (r : RpB sp M H v d) (hx : exS d = false) : TyX K H v (.type (tyN d)) := by
  rcases r with r | ⟨a, rfl, _, _, t⟩
  · cases r with
    | non => exact .base .non
    | bl b => exact .base (.bl b)
    | int i => exact .base (.int i)
    | str x => exact .base (.str x)
    | tup h _ _ => exact .base (.tup h)
    | lst h _ _ => exact .base (.lst h)
    | dct h _ _ =>
      rcases h with h | ⟨o, h⟩
      · exact .base (.dK h)
      · exact .fDict h
    | exc _ _ _ _ _ => cases hx
    | ex0 _ _ => cases hx
  · cases t with
    | lst h _ => exact .base (.lst h)
    | dct h _ => exact .base (.dK h)
theorem de_isa {T : Str} {Ts : String} (hm : X.mg "isinstance" = none) (hT : X.mg T = none) (hb : bootBuiltins T = some (.type Ts)) (he : DB X R e f) (hg : Gl X "isinstance" := by rfl) (hgT : Gl X T := by rfl) (hn : T ≠ "__name__" := by decide) (hd : (T == ("__debug__" : Str)) = false := by decide)
    (hs1 : starEach [e, .Name T p] X.env = (false, eval e X.env) :: starEach [.Name T p] X.env := by rfl) (hs2 : starEach [.Name T p] X.env = (false, eval (.Name T p) X.env) :: starEach [] X.env := by rfl)
    (hpl : (backTo pos (starEach [.Name T p] X.env)).any (·.1) = false := by rfl) : DE X R (.Call (.Name "isinstance" p2) [e, .Name T p] [] pos) (isaV Ts f) := by
  obtain ⟨t, pe, q⟩ := he.use b3_stays
  refine ⟨_, pe_callB call_isi hg hm bb_isinstance (pa_cons pe (pa_cons (pe_bltn (v := .ty Ts) hgT hT hb rfl hn hd) pa_nil hs2) hs1) (by decide) (by decide) hs1 hpl, fun S H k Q i w => q S H k _ _ _ i w fun x k1 w1 v H1 i1 e1 r1 => ?_⟩
  obtain ⟨d, hd, hq⟩ := w1.op
  split at hd
  · cases hd
  rename_i hx
  obtain ⟨bb, hb2, rfl⟩ := Option.map_eq_some_iff.mp hd
  exact ⟨v, .ty Ts, _, _, bb, rfl, .ty Ts, tyX_of r1 (by simpa using hx), kit_ty hb2, hq _ H1 i1 e1 (.bl bb)⟩
def strsOf : List PyData → Option (List Str)
  | [] => some []
  | .str b :: r => (strsOf r).map (b :: ·)
  | _ => none
theorem strsOf_eq : ∀ {ds : List PyData} {bs : List Str}, strsOf ds = some bs → ds = bs.map PyData.str
  | [], _, h => by cases h; rfl
  | d :: r, bs, h => by
    cases d <;> try (cases h; done)
    rename_i b
    cases e : strsOf r with
    | none => simp [strsOf, e] at h
    | some cs =>
      simp [strsOf, e] at h
      subst h
      rw [List.map_cons, ← strsOf_eq e]
@[simp] theorem strsOf_map (bs : List Str) : strsOf (bs.map PyData.str) = some bs := by
  induction bs with
  | nil => rfl
  | cons b r ih => simp [strsOf, ih]
def strOf : PyData → Option Str
  | .str s => some s
  | _ => none
theorem strOf_some {d : PyData} {s : Str} (h : strOf d = some s) : d = .str s := by
  cases d <;> cases h
  rfl
def joinD (a : Str) (l : PyData) : Option PyData := (items l).bind fun ds => (strsOf ds).bind fun ys => if (ys.map (·.length)).sum + ys.length * a.length ≤ 16777216 then some (.str (Txt.join a ys)) else none
def joinV (f g : Env3 → MM PyData) : Env3 → MM PyData := fun Δ => bd (f Δ) fun x => bd (op (strOf x)) fun s => bd (g Δ) fun y => op (joinD s y)
theorem de_join (ha : DE X R a f) (hb : DB X R b g) (hs : starEach [b] X.env = [(false, eval b X.env)] := by rfl) (hbase : attributeBase a "join" X.env (eval a X.env) = eval a X.env := by rfl) (hline : (apos.endLine == pos.line) = true := by rfl) :
    DE X R (.Call (.Attribute a "join" apos) [b] [] pos) (joinV f g) := by
  obtain ⟨ta, pa, qa⟩ := ha.use p3_stays
  obtain ⟨tb, pb, qb⟩ := hb.use b3_stays
  refine ⟨_, pe_join pa pb hs hbase hline, fun S H k Q i w => qa S H k _ _ _ i w fun x k1 w1 v H1 i1 e1 r1 => ?_⟩
  obtain ⟨s, hu, w1⟩ := w1.bd.op
  cases strOf_some hu
  cases r1
  refine ⟨⟨s, rfl⟩, qb S H1 k1 _ _ _ i1 (Wp.mono w1 (fun _ _ _ z => z) fun _ _ _ z => z.mono e1) fun y k2 w2 z H2 i2 e2 r2 => ?_⟩
  obtain ⟨d, hd, hq⟩ := w2.op
  unfold joinD at hd
  obtain ⟨ds, hi, hd⟩ := Option.bind_eq_some_iff.mp hd
  obtain ⟨ys, hy, hd⟩ := Option.bind_eq_some_iff.mp hd
  split at hd
  · rename_i hl
    cases hd
    obtain ⟨ad, xs, rfl, h1, h2⟩ := rpB_items hi r2
    rw [strsOf_eq hy] at h2
    rw [h2.of_str] at h1
    exact ⟨s, ad, ys, rfl, rfl, h1.elim (fun z => .inl (.of z)) fun z => .inr (.of z), hl, hq _ H2 i2 (e1.trans e2) (.str _)⟩
  · cases hd
theorem op_mulS : OpR X (binaryOp .Mult) (fun x y H Q => ∃ s n, x = .str s ∧ y = .int n ∧ MulOk s n ∧ Q (.str (Txt.mul s n)) H) := by
  intro pins s σ H x y v u Q I rx ry h
  obtain ⟨z, n, rfl, rfl, hm, q⟩ := h
  obtain ⟨t, rfl⟩ := rx
  obtain ⟨t', rfl⟩ := ry
  exact SB.mul hm fun t' k => ⟨.str _, H, I.tok _, ⟨_, rfl⟩, q⟩
theorem mulOk_small {x : Str} {n : Int} (h1 : 1 ≤ n) (h2 : n ≤ 10000) (h3 : x.length ≤ 1000) : MulOk x n := by
  have hp : x.length * n.toNat ≤ 1000 * 10000 := Nat.mul_le_mul h3 (by omega)
  refine ⟨?_, fun _ _ => ?_, fun _ _ => ?_⟩
  · simp only [Bool.or_eq_false_iff, decide_eq_false_iff_not]
    omega
  · have : (1000 : Int) ≤ (2 ^ 63 - 1) / n := by
      apply Int.le_ediv_of_mul_le (by omega)
      have : 1000 * n ≤ 1000 * 10000 := by omega
      omega
    omega
  · unfold Builtin.Str.tooLong
    have : ¬ (sizeLine < x.length * n.toNat) := by
      rw [sizeLine_eq]
      omega
    simpa using this
theorem op3_mul : OpS X (binaryOp .Mult) mulD := by
  refine (OpS.or (g := fun a b => match a, b with | .int i, .int j => if (-(2 ^ 64) < i ∧ i < 2 ^ 64) ∨ (-(2 ^ 64) < j ∧ j < 2 ^ 64) then some (.int (i * j)) else none | _, _ => none)
    (g' := fun a b => match a, b with | .str x, .int n => if 1 ≤ n ∧ n ≤ 10000 ∧ x.length ≤ 1000 then some (.str (Txt.mul x n)) else none | _, _ => none) ?_ ?_ ?_)
  · refine opS_of op_mul fun S H k x y a b d Q i ra rb hd q => ?_
    cases a <;> cases b <;> try (cases hd; done)
    dsimp only at hd
    split at hd
    · cases hd
      exact ⟨_, _, rpB_int ra, rpB_int rb, by assumption, q _ H i (Ex.refl H) (.int _)⟩
    · cases hd
  · refine opS_of op_mulS fun S H k x y a b d Q i ra rb hd q => ?_
    cases a <;> cases b <;> try (cases hd; done)
    dsimp only at hd
    split at hd
    · rename_i hl
      cases hd
      exact ⟨_, _, rpB_str ra, rpB_int rb, mulOk_small hl.1 hl.2.1 hl.2.2, q _ H i (Ex.refl H) (.str _)⟩
    · cases hd
  · intro a b d h
    cases a <;> cases b <;> first | (exact .inl h) | (exact .inr h) | (cases h; done)
end
end L3

set_option Elab.async false
set_option linter.all false
set_option maxRecDepth 100000
set_option maxHeartbeats 4000000
namespace L3
open PySem PySem.Spec PyProof.Rows L2

theorem SemF.e {R : RX} {t : TE} {f : Env3 → MM PyData} (h : SemF R t f) (S : S3) (H : Hp) (k : Int) (Q : VK) (D : Ends) (c : PyData → MM Fl3) (i : S.In H k) (w : Wp (tryE (f S.Δ) S.Δ c k) (S.fin R H D) no3)
    (n : ∀ d k', Wp (c d k') (S.fin R H D) no3 → ∀ v H', S.In H' k' → Ex S.sp H H' → Rp S.M H' v d → Q v H') : t S.σ H Q :=
  h S H k Q i (w.tryF.mono (fun d k' _ w' p H' i' e' hp tp _ => n d k' w' (.ref p) H' i' e' (tp.rp (fun _ m => .inl m) (ER.fresh i hp))) fun _ _ _ z => z)
section
variable {X : Cx} {R : RX} {tg elt iter e a b : Expr} {es : List Expr} {f g : Env3 → MM PyData} {ifs : List Expr} {scope : Scope} {own : List (Str × Nat)} {vs ts : List Nat} {src : Env3 → MM (List PyData)} {tgt : Env3 → PyData → Option Env3} {tt : Env3 → MM Bool} {te : Env3 → MM PyData} {pos spos py : Pos}
theorem df_lcv (hc : X.calm = true) (hN : X.N.Nodup) (hi : DI X R tg iter src) (ok : BlkOk X.N X.env.scope scope own) (hv : own.map (·.2) = vs) (hts : ∀ t ∈ ts, t ∈ vs)
    (hg : ∀ (s : Shared) (H : Hp) (C : Addr) (cl : List (Str × Addr)) (fp : List Addr), DT3 (X.blk s H scope (compEnvC scope cl C X.env) fp) tg ts tgt)
    (ht : ∀ (s : Shared) (H : Hp) (C : Addr) (cl : List (Str × Addr)) (fp : List Addr), DTs (X.blk s H scope (compEnvC scope cl C X.env) fp) RX0 ifs tt)
    (he : ∀ (s : Shared) (H : Hp) (C : Addr) (cl : List (Str × Addr)) (fp : List Addr), DE (X.blk s H scope (compEnvC scope cl C X.env) fp) RX0 elt te)
    (hs : ∀ x, foldedSetIterable iter X.env x = pure x := by intro _; rfl) : DF X R (.ListComp elt [⟨tg, iter, ifs, 0⟩] scope pos) (lcV src vs tgt tt te) := by
  subst hv
  exact df_lc hc hN hi ok hts hg ht he hs
theorem ds_lcO {i : Nat} {y : Str} (hy : X.N[i]? = some y) (hyl : X.env.scope.names.lookup y = some .local) (hsw : swapsWith (.ListComp elt [⟨tg, iter, ifs, 0⟩] scope pos) (some (.Name y py)) spos.line X.env = pure true)
    (hc : X.calm = true) (hN : X.N.Nodup) (hi : DI X R tg iter src) (ok : BlkOk X.N X.env.scope scope own) (hv : own.map (·.2) = vs) (hts : ∀ t ∈ ts, t ∈ vs)
    (hg : ∀ (s : Shared) (H : Hp) (C : Addr) (cl : List (Str × Addr)) (fp : List Addr), DT3 (X.blk s H scope (compEnvC scope cl C X.env) fp) tg ts tgt)
    (ht : ∀ (s : Shared) (H : Hp) (C : Addr) (cl : List (Str × Addr)) (fp : List Addr), DTs (X.blk s H scope (compEnvC scope cl C X.env) fp) RX0 ifs tt)
    (he : ∀ (s : Shared) (H : Hp) (C : Addr) (cl : List (Str × Addr)) (fp : List Addr), DE (X.blk s H scope (compEnvC scope cl C X.env) fp) RX0 elt te)
    (hs : ∀ x, foldedSetIterable iter X.env x = pure x := by intro _; rfl) : DS X R (.Assign [.Name y py] (.ListComp elt [⟨tg, iter, ifs, 0⟩] scope pos) spos) (asgO i (lcV src vs tgt tt te)) := by
  subst hv
  obtain ⟨wi, g, t1, t2, pi, pg, pt, pe, sem⟩ := lc_sem (own := own) hi hts hg ht he
  exact ds_setO (ps_setLc hc hN hy hyl hsw pi ok pg pt pe hs) sem
theorem ds_lc {i : Nat} {y : Str} (hy : X.N[i]? = some y) (hyl : X.env.scope.names.lookup y = some .local) (hsw : swapsWith (.ListComp elt [⟨tg, iter, ifs, 0⟩] scope pos) (some (.Name y py)) spos.line X.env = pure true)
    (hc : X.calm = true) (hN : X.N.Nodup) (hi : DI X R tg iter src) (ok : BlkOk X.N X.env.scope scope own) (hv : own.map (·.2) = vs) (hts : ∀ t ∈ ts, t ∈ vs)
    (hg : ∀ (s : Shared) (H : Hp) (C : Addr) (cl : List (Str × Addr)) (fp : List Addr), DT3 (X.blk s H scope (compEnvC scope cl C X.env) fp) tg ts tgt)
    (ht : ∀ (s : Shared) (H : Hp) (C : Addr) (cl : List (Str × Addr)) (fp : List Addr), DTs (X.blk s H scope (compEnvC scope cl C X.env) fp) RX0 ifs tt)
    (he : ∀ (s : Shared) (H : Hp) (C : Addr) (cl : List (Str × Addr)) (fp : List Addr), DE (X.blk s H scope (compEnvC scope cl C X.env) fp) RX0 elt te)
    (hs : ∀ x, foldedSetIterable iter X.env x = pure x := by intro _; rfl) : DS X R (.Assign [.Name y py] (.ListComp elt [⟨tg, iter, ifs, 0⟩] scope pos) spos) (asg i (lcV src vs tgt tt te)) := by
  subst hv
  obtain ⟨wi, g, t1, t2, pi, pg, pt, pe, sem⟩ := lc_sem (own := own) hi hts hg ht he
  refine ⟨_, ps_setLc hc hN hy hyl hsw pi ok pg pt pe hs, fun S H k D i' w => sem.e S H k _ D _ i' w fun d k1 w1 v H1 i1 e1 r1 => ?_⟩
  exact w1 S.M H1 _ (ER.set i1 i r1) (ER.st i' e1)
/-- x = new, owned -/
theorem ds_own {i : Nat} {st : Stmt} (p : ∀ te, PE X e te → PS X st (tAsg te (gName i))) (he : DF X R e f) : DS X R st (asgO i f) := by
  obtain ⟨t, pe, sem⟩ := he
  exact ds_setO (p t pe) sem
def par (i j : Nat) (g : Env3 → MM (List PyData)) : Env3 → MM Fl3 := fun Δ => tryE (g Δ) Δ fun ds => match ds with | [x, y] => rt (.nx ((Δ.set i (some (.val x))).set j (some (.val y)))) | _ => fl
theorem ds_par {i j : Nat} {st : Stmt} {ga : Env3 → MM (List PyData)} (p : ∀ ta, PA X es ta → PS X st (tPar i j ta)) (ha : DA P3 X R es ga) : DS X R st (par i j ga) := by
  obtain ⟨t, pa, q⟩ := ha
  refine ⟨_, p t pa, fun S H k D i' w => q S H k _ i' (w.tryF.mono (fun ds k1 _ w1 vs H1 i1 e1 r1 => ?_) fun _ _ _ z => z)⟩
  match ds, r1, w1 with
  | [x, y], r1, w1 =>
    obtain ⟨u, v, rfl, r1, r2⟩ := all2_2 r1
    exact ⟨u, v, rfl, w1 S.M H1 _ (ER.set (ER.set i1 i r1) j r2) (ER.st i' e1)⟩
  | [], _, w1 => exact w1.elim
  | [_], _, w1 => exact w1.elim
  | _ :: _ :: _ :: _, _, w1 => exact w1.elim
end
end L3

set_option Elab.async false
set_option linter.all false
set_option maxRecDepth 100000
set_option maxHeartbeats 4000000
namespace L3
open PySem PySem.Spec PyProof.Rows L2
def spotE (i : Nat) (Δ : Env3) : Env3 := (Δ.map fun o => match o with | some (.val d) => some (.val d) | _ => none).set i (some .spot)
theorem er_spot {H0 : Hp} {M0 M : Addr → Prop} {H : Hp} {σ : L2.St} {Δ : Env3} {k c : Int} {i : Nat} (I : ER H0 M0 none M H σ Δ k) (hc : 0 ≤ c) (h : Δ[i]? = some (some (.own (.list [.int c])))) : ∃ p, ER H (fun a => a = p) (some p) M H σ (spotE i Δ) c := by
  obtain ⟨v, h1, h2⟩ := I.slot i _ h
  cases h2 with
  | @own p _ m h0 n t =>
    cases t with
    | @lst xs _ hp r =>
      have e : xs = [.int c] := by
        cases r with
        | cons r t => cases t; cases r; rfl
      subst e
      refine ⟨p, fun a o h _ => h, fun a ha => by rw [ha]; exact m, fun a ha => ⟨.lst [.int c], by rw [ha]; exact hp⟩, I.live, fun a ha => ?_, by simp [spotE, I.len], fun j s hj => ?_, fun j l b o1 o2 => ?_⟩
      · cases ha
        exact ⟨rfl, .inl ⟨hc, hp⟩⟩
      · unfold spotE at hj
        by_cases hij : i = j
        · subst hij
          rw [List.getElem?_set_self (by rw [List.length_map]; exact (List.getElem?_eq_some_iff.mp h).1)] at hj
          cases hj
          exact ⟨_, h1, .spot rfl⟩
        · rw [List.getElem?_set_ne hij, List.getElem?_map] at hj
          cases hd : Δ[j]? with
          | none => rw [hd] at hj; cases hj
          | some o =>
            rw [hd] at hj
            cases o with
            | none => cases hj
            | some s' =>
              cases s' <;> try (cases hj; done)
              cases hj
              obtain ⟨u, g1, g2⟩ := I.slot j _ hd
              cases g2 with
              | val r => exact ⟨u, g1, .val r⟩
      · exfalso
        have no : ∀ s, (spotE i Δ)[j]? = some (some s) → (∃ d, s = .own d ∨ s = .own2 d) → False := fun s e w => by
          obtain ⟨d', w⟩ := w
          unfold spotE at e
          by_cases hij : i = j
          · subst hij
            rw [List.getElem?_set_self (by rw [List.length_map]; exact (List.getElem?_eq_some_iff.mp h).1)] at e
            cases e
            rcases w with w | w <;> cases w
          · rw [List.getElem?_set_ne hij, List.getElem?_map] at e
            cases hd : Δ[j]? with
            | none => rw [hd] at e; cases e
            | some o =>
              rw [hd] at e
              cases o with
              | none => cases e
              | some s2 => cases s2 <;> first | (cases e; done) | (cases e; rcases w with w | w <;> cases w)
        obtain ⟨t, _, ⟨d, e, _⟩ | ⟨d, e, _⟩⟩ := o1
        · exact no _ e ⟨d, .inl rfl⟩
        · exact no _ e ⟨d, .inr rfl⟩
/-- what a law's def must do -/
def spLaw3 (K : PySem.W.Frag) (n : Nat) : Sp := fun vs H Q _E => ∃ (a : Addr) (ns : List Int), vs = [.ref a] ∧ SqL K H a (ns.map V.int) ∧ ns.length ≤ n ∧ ∀ H', Q (.bl true) H'
theorem law_of {P : Program} {w : World} {K : PySem.W.Frag} {mg : Str → Option Value} {base : Heap} {x qual : Str} {st s1 s2 : Stmt} {rest : List Stmt} {f : Addr} {fd : FuncData} {N : List Str} {sn : Str} {k n i : Nat} {g1 g2 g : Env3 → MM Fl3} (F : Fun K x qual st f fd) (S : FnScope N [sn] (defScope st)) (hbd : defBody st = s1 :: s2 :: rest)
    (h1 : ∀ (cdv : Value) (A : Around) (outer : List Env) (s : Shared) (H : Hp) (E : XK), Room k (A.deeper (envOfC qual (defScope st) s.heap.objs.size f cdv)) → DS (cxOf CX0 P w K mg base N qual (defScope st) f cdv A outer s H E).nox RX0 s1 g1)
    (h2 : ∀ (cdv : Value) (A : Around) (outer : List Env) (s : Shared) (H : Hp) (E : XK), Room k (A.deeper (envOfC qual (defScope st) s.heap.objs.size f cdv)) → DS (cxOf CX0 P w K mg base N qual (defScope st) f cdv A outer s H E).nox RX0 s2 g2)
    (h3 : ∀ (cdv : Value) (A : Around) (outer : List Env) (s : Shared) (H : Hp) (E : XK), Room k (A.deeper (envOfC qual (defScope st) s.heap.objs.size f cdv)) → DSs (cxOf CX0 P w K mg base N qual (defScope st) f cdv A outer s H E).nox RX0 rest g)
    (run : ∀ ns : List Int, ns.length ≤ n → ∃ Δ1 k1 Δ2 k2 c k3, 0 ≤ c ∧ g1 (startE N.length [.scr K] [.list (ns.map .int)]) 0 = .ok (.nx Δ1) k1 ∧ g2 Δ1 k1 = .ok (.nx Δ2) k2 ∧ Δ2[i]? = some (some (.own (.list [.int c]))) ∧ g (spotE i Δ2) c = .ok (.rt (.bool true)) k3) :
    FnOk P w K mg base CX0 (k + 1) f fd [sn] (spLaw3 K n) := by
  refine F.ok S (fun vs H Q E h => ?_) (fun cdv A outer s H vs Q E hr h => ?_)
  · obtain ⟨a, ns, rfl, _⟩ := h
    rfl
  · obtain ⟨a, ns, rfl, hs, hl, hq⟩ := h
    obtain ⟨Δ1, k1, Δ2, k2, c, k3, ec, e1, e2, e3, e4⟩ := run ns hl
    obtain ⟨t1, p1, q1⟩ := h1 cdv A outer s H E hr
    obtain ⟨t2, p2, q2⟩ := h2 cdv A outer s H E hr
    obtain ⟨t3, p3, q3⟩ := h3 cdv A outer s H E hr
    refine ⟨_, by rw [hbd]; exact pss_cons p1 (pss_cons p2 p3), ?_⟩
    have sa : ScrAt K (fun _ => False) H a ns := by
      unfold SqL at hs
      rcases hs with hs | hs
      · exact .inl ⟨hs, id⟩
      · exact .inr fun H' => .inr hs
    have i0 : ER H (fun _ => False) none (fun _ => False) H (start N [.ref a]) (startE N.length [.scr K] [.list (ns.map .int)]) 0 := er_start (AOk.scr sa .nil) (fun _ z => z.elim) (fun _ z => nomatch z) (fun _ z => nomatch z)
    refine q1 ⟨H, fun _ => False, none, fun _ => False, start N [.ref a], startE N.length [.scr K] [.list (ns.map .int)]⟩ H 0 _ i0 ?_
    show Wp (g1 (startE N.length [.scr K] [.list (ns.map .int)]) 0) _ _
    rw [e1]
    intro M1 H1 σ1 i1 _
    refine q2 ⟨H, fun _ => False, none, M1, σ1, Δ1⟩ H1 k1 _ i1 ?_
    show Wp (g2 Δ1 k1) _ _
    rw [e2]
    intro M2 H2 σ2 i2 _
    obtain ⟨p, i3⟩ := er_spot i2 ec e3
    refine q3 ⟨H2, fun a => a = p, some p, M2, σ2, spotE i Δ2⟩ H2 c _ i3 ?_
    show Wp (g (spotE i Δ2) c) _ _
    rw [e4]
    intro v M3 H3 σ3 Δ3 _ _ r
    cases r
    exact hq H3
end L3

set_option Elab.async false
set_option linter.all false
set_option maxRecDepth 100000
set_option maxHeartbeats 4000000
namespace PySem
namespace HandEX
open Builtin Builtin.ObjectAttr PySem.W PySem.HandSPX
abbrev exTl : List Value := [.type "Exception", .type "BaseException", .type "object"]
/-- the first field of a new error whose class comes of Exception -/
theorem exc_put {pr : Program} {wd : World} {Ar : Around} {Re : Result → Shared → Prop} {h0 : Heap} {gs : Array GenState} {dr : Drawn} {tt : Nat} {oo : OsState} {K : Frag} {nm : Str} {tk : Tok} {y : Value} {x C : Addr} {fv : Array Value} {cn cq : Str} {cbs bm : List Value} {cN : Addr} {csn : List Str} {csub : List Value} {cab : Bool} {ccol : Option Bool}
    (X : K.In h0) (hx : h0.get? x = some { cls := .ref C, data := .fields fv })
    (hcd : clsIn K C = some { name := cn, bases := cbs, mro := .ref C :: bm, ns := cN, qualname := cq, hasDict := true, slotNames := csn, subclasses := csub, abstract := cab, collection := ccol, hasDel := false })
    (hm : excTail exTl bm = true) (ha : findIn K (.ref C) nm = some none)
    (hq : ∀ h' tk' dx, (∀ b o, b ≠ x → h0.get? b = some o → h'.get? b = some o) → h0.objs.size ≤ dx → dx ≠ x → h'.get? x = some { cls := .ref C, dict := some dx, data := .fields fv } →
      h'.Ns1 dx (fun z => if z = nm then some y else none) → Re (.ok (.ret .none)) ⟨h', gs, dr, tk', oo⟩) :
    codeAny (model pr wd) Ar (.call (.builtin "object.__setattr__") ⟨[.ref x, .str nm tk, y], []⟩) Re ⟨h0, gs, dr, tt, oo⟩ := by
  have io : InstAt h0 x { cls := .ref C, data := .fields fv } C none := ⟨hx, rfl, rfl, trivial⟩
  have hov : excOver K C exTl = true := by
    unfold excOver
    rw [hcd]
    show (C == C && excTail exTl bm) = true
    rw [hm, Bool.and_true, beq_self_eq_true]
  have htk : takerIn K C nm = some none := by
    unfold takerIn
    rw [ha] <;> rfl
  refine osa_openX (s := ⟨h0, gs, dr, tt, oo⟩) PySem.F.store_Exception X io hov htk fun bb => ?_
  have old : x < h0.objs.size := Heap.lt_size hx
  have lc : Looks (model pr wd) h0 (classData C) _ := looks_clsIn X hcd
  show wpAny _ _ (storeInOwnDict (.ref x) (.ref C) (.str nm tk) nm y bb) _ _ _
  unfold storeInOwnDict ownDictForStores
  repeat (first | (with_reducible refine store_in_new ?_ ?_) | (with_reducible refine wpAny_loadPart_at hx ?_) | (with_reducible refine lc.at ?_) | wp_step)
  · exact ⟨_, #[], _, Eq.trans (Heap.get?_update_ne _ _ _ _ (Ne.symm (Nat.ne_of_lt old))) (Heap.get?_push_at rfl rfl), rfl, (fun z hz => absurd hz (by simp)), fun _ => rfl⟩
  intro h2 tk2 hn2 sb
  have hx2 := Heap.get?_push_of_some (h := h0) ({ cls := .type "dict", data := .dict #[] } : Obj) hx
  refine hq h2 tk2 h0.objs.size (fun b o hb ho => ?_) (Nat.le_refl _) (Nat.ne_of_gt old) ?_ hn2
  · rw [sb.2 b (Nat.ne_of_lt (Heap.lt_size ho)), Heap.get?_update_ne _ _ _ _ hb]
    exact Heap.get?_push_of_some _ ho
  · rw [sb.2 x (Nat.ne_of_lt old)]
    exact Heap.get?_update_self _ hx2 rfl
end HandEX
end PySem
namespace PySem
namespace LowAt
open PySem.W PySem.Calls PyProof.Rows PySem.HandSPX
def iA (p1 p2 : Pos) : Arguments := { posonlyargs := [], args := [{ arg := "self", annotation := none, pos := p1 }, { arg := "at", annotation := none, pos := p2 }], vararg := none, kwonlyargs := [], kw_defaults := [], kwarg := none, defaults := [] }
def iB (q1 q2 q3 q4 : Pos) : List Stmt := [.Assign [.Attribute (.Name "self" q1) "at" q2] (.Name "at" q3) q4]
def iS : Scope := { kind := .function, names := [(PySem.Str.ofString "self", .local), (PySem.Str.ofString "at", .local)], isGenerator := false, isCoroutine := false, more := [] }
/-- what the written part says of the class, at C, and of its __init__, at fI -/
structure LowTxt (K : Frag) (mg : Str → Option Value) (c q0 : Str) (C fI : Addr) : Prop where
  gC : mg c = some (.ref C)
  cls : ∃ nm q N bs bm sn sub ab col dd k0 k1 k2 k3 k5, K.lookup C = some (excClassObj nm q C N bs bm true sn sub ab col dd k0 k1 k2 k3 k5 "Exception.__new__") ∧ excTail HandEX.exTl bm = true
  sa : findIn K (.ref C) "__setattr__" = some (some (.builtin "object.__setattr__"))
  ga : findIn K (.ref C) "__getattribute__" = some (some (.builtin "BaseException.__getattribute__"))
  gg : findIn K (.ref C) "__getattr__" = some none
  noN : findIn K (.ref C) "at" = some none
  iC : findIn K (.ref C) "__init__" = some (some (.ref fI))
  tC : typeIn K (.ref fI) = some (.type "function")
  kC : keepIn K (.ref C) = true
  exC : subIn K (.ref C) (.type "BaseException") = some true
  tyC : typeIn K (.ref C) = some (.type "type")
  hdC : hasDictIn K C = true
  te : exmOne K (.ref C) (.ref C) = some true
  fn : ∃ (oc : Value) (od : Option Addr) (doc pm : Value) (an : Option Addr) (cdv ct : Value) (osl : Array (Option Value)) (p1 p2 q1 q2 q3 q4 : Pos),
    K.lookup fI = some ⟨oc, od, .func (fnOf "__init__" q0 (iA p1 p2) (iB q1 q2 q3 q4) iS .none .none doc pm an cdv ct), osl⟩ ∧ codeIn K cdv q0 = true
theorem one_size (v : Value) : [v].length ≤ sizeLine := by
  rw [sizeLine_eq]
  exact (by decide : 1 ≤ 16777216)
theorem kept_but {K : Frag} {h h' : Heap} {x : Addr} (X : K.In h) (hx : K.lookup x = none) (k : ∀ b o, b ≠ x → h.get? b = some o → h'.get? b = some o) : K.In h' := fun a o e =>
  k a o (fun z => by rw [z, hx] at e; cases e) (X a o e)
theorem ldC {M : Model} {s : Shared} {name : Str} {scope : Scope} {L a : Addr} {cd : Value} {m : Str → Option Value} {x : Str} {pos : Pos} {v : Value} {Q : Value → Shared → Prop} {A : Around} {E : Value → Shared → Prop} (hn : s.heap.Ns L m) (hv : m x = some v) (h : Q v s)
    (hk : scope.kind = .function := by rfl) (hl : (envOfC name scope L a cd).kindOf x = some .local := by rfl) (hd : (x == ("__debug__" : Str)) = false := by decide) :
    wpAny M A (eval (.Name x pos) (envOfC name scope L a cd)) Q E s := wpAny_Name (wpAny_loadName_local hk hl hn hv h) hd
/-- what __init__ leaves of a fresh exception at x -/
structure InitEnd (h h' : Heap) (x C dx t1 : Addr) (v : Value) : Prop where
  keep : ∀ b o, b ≠ x → h.get? b = some o → h'.get? b = some o
  obj : h'.get? x = some { cls := .ref C, dict := some dx, data := .fields #[.ref t1, .none, .none, .none, .bool false, .none] }
  dbig : h.objs.size ≤ dx
  dne : dx ≠ x
  ns : h'.Ns1 dx (fun y => if y = "at" then some v else none)
/-- a made error -/
structure OwnMade (h h' : Heap) (e C d : Addr) (v : Value) : Prop where
  keep : ∀ b o, h.get? b = some o → h'.get? b = some o
  new : h.objs.size ≤ e
  obj : ∃ oe vs, h'.get? e = some oe ∧ oe.cls = .ref C ∧ oe.dict = some d ∧ oe.data = .fields vs ∧ vs[1]? = some .none
  dbig : h.objs.size ≤ d
  dne : d ≠ e
  ns : h'.Ns1 d (fun y => if y = "at" then some v else none)
section
variable {prog : Program} {w : World} {A : Around} {E : Value → Shared → Prop} {R : Result → Shared → Prop} {s : Shared} {K : Frag} {mg : Str → Option Value} {c q0 : Str} {C fI : Addr}
theorem low_init (T : LowTxt K mg c q0 C fI) {x t0 : Addr} {v : Value} (X : K.In s.heap) (hlim : s.heap.NoLimit) (hx : s.heap.get? x = some (excO C t0)) (hnx : K.lookup x = none) (hroom : A.depth < recursionLimit)
    (hq : ∀ h' tk dx, InitEnd s.heap h' x C dx t0 v → R (.ok (.ret .none)) { s with heap := h', toks := tk }) :
    codeAny (model prog w) A (.call (.ref fI) ⟨[.ref x, v], []⟩) R s := by
  obtain ⟨oc, od, doc, pm, an, cdv, ct, osl, p1, p2, q1, q2, q3, q4, ho, hcd⟩ := T.fn
  obtain ⟨nm, q, N, bs, bm, sn, sub, ab, col, dd, k0, k1, k2, k3, k5, hC, hbm⟩ := T.cls
  have hcl : clsIn K C = some { name := nm, bases := bs, mro := .ref C :: bm, ns := N, qualname := q, hasDict := true, slotNames := sn, subclasses := sub, abstract := ab, collection := col, hasDel := false } := by unfold clsIn; rw [hC] <;> rfl
  refine Att.call_fn (binds := [("self", .ref x), ("at", v)]) X hlim ho hcd hroom (BindsTo.of_eq (by first | rfl | with_unfolding_all rfl)) (by first | rfl | decide | with_unfolding_all rfl) (fun s₁ IC => ?_) rfl rfl rfl
  obtain ⟨h₁, tk₁, rfl⟩ := IC.toInCall.same
  have k : ∀ b o, s.heap.get? b = some o → h₁.get? b = some o := IC.toInCall.keep
  have hn := IC.toInCall.ns
  have hxL : s.heap.objs.size ≠ x := Nat.ne_of_gt (Heap.lt_size hx)
  have X₁ : K.In h₁ := X.keeps k
  have hx₁ := k _ _ hx
  -- self.by = by
  show wpAny _ _ (execs _ _) _ _ _
  refine wpAny_execs_cons (plainObj_wpAny_Assign_Attribute ?_)
  refine ldC (v := v) hn (by first | rfl | with_unfolding_all rfl | kernel_rfl) (ldC (v := .ref x) hn (by first | rfl | with_unfolding_all rfl | kernel_rfl) ?_)
  refine set_plain X₁ (ox := excO C t0) (od := none) ⟨hx₁, rfl, rfl, trivial⟩ T.sa ?_
  refine HandEX.exc_put X₁ hx₁ hcl hbm T.noN (fun h₃ tk₃ dx k₃ dn dne hx₃ hn₃ => ?_)
  show wpAny _ _ (execs _ _) _ _ _
  have z : s.heap.objs.size < h₁.objs.size := hn.lt
  exact wpAny_execs_nil (hq h₃ tk₃ dx ⟨fun b o hb e => k₃ b o hb (k b o e), hx₃, Nat.le_of_lt (Nat.lt_of_lt_of_le z dn), dne, hn₃⟩)
theorem low_made (T : LowTxt K mg c q0 C fI) {v : Value} (X : K.In s.heap) (hlim : s.heap.NoLimit) (hroom : A.depth + 1 < recursionLimit)
    (hq : ∀ h' tk e d, OwnMade s.heap h' e C d v → R (.ok (.ret (.ref e))) { s with heap := h', toks := tk }) :
    codeAny (model prog w) A (.call (.ref C) ⟨[v], []⟩) R s := by
  obtain ⟨nm, q, N, bs, bm, sn, sub, ab, col, dd, k0, k1, k2, k3, k5, hC, hbm⟩ := T.cls
  obtain ⟨hp, g, dr, tk, os⟩ := s
  have k : ∀ b o, hp.get? b = some o → ((hp.push (kdv_tup [v])).push (excO C hp.objs.size)).get? b = some o := fun b o e => Heap.get?_push_of_some _ (Heap.get?_push_of_some _ e)
  have hget : ((hp.push (kdv_tup [v])).push (excO C hp.objs.size)).get? (hp.objs.size + 1) = some (excO C hp.objs.size) := by heap_get
  have hnx : K.lookup (hp.objs.size + 1) = none := by
    cases e : K.lookup (hp.objs.size + 1) with
    | none => rfl
    | some o =>
      have z : hp.get? (hp.objs.size + 1) = some o := X _ _ e
      exact absurd (Nat.lt_of_succ_lt (Heap.lt_size z)) (Nat.lt_irrefl _)
  refine call_own F.excBase_Exception (fun X => excTail_contains X bm hbm) (X _ _ hC) (looks_findIn X T.iC) (fun self => bind_fn X self T.tC) (one_size v) ?_
  refine low_init (s := ⟨(hp.push (kdv_tup [v])).push (excO C hp.objs.size), g, dr, tk, os⟩) T (X.keeps k) (hlim.keeps k) hget hnx ?_ fun h' tk' dx ⟨k', hx, dn, dne, hns⟩ => ?_
  · show A.depth + 1 < recursionLimit
    exact hroom
  · have old : ∀ b o, hp.get? b = some o → h'.get? b = some o := fun b o e => k' b o (Nat.ne_of_lt (Nat.lt_succ_of_lt (Heap.lt_size e))) (k b o e)
    have z : hp.objs.size + 1 + 1 ≤ dx := by
      first
        | (simpa only [Heap.size_push] using dn)
        | exact dn
        | (have q := dn; rw [Heap.size_push, Heap.size_push] at q; exact q)
    exact ⟨rfl, hq h' tk' (hp.objs.size + 1) dx ⟨old, Nat.le_succ _, ⟨_, _, hx, rfl, rfl, rfl, rfl⟩, Nat.le_trans (Nat.le_trans (Nat.le_succ _) (Nat.le_succ _)) z, dne, hns⟩⟩
end
end LowAt
end PySem
namespace L2
open PySem PySem.Spec PyProof.Rows
theorem relO_LowAt {v : V} {v' : Value} (r : RelV v v') (f : Str) : RelO (List.lookup f [(("at" : Str), v)]) (if f = "at" then some v' else none) := by
  by_cases hw : f = "at"
  · subst hw
    rw [if_pos rfl]
    have q : List.lookup ("at" : Str) [(("at" : Str), v)] = some v := by simp [List.lookup]
    rw [q]
    exact r
  · rw [if_neg hw]
    have qw : (f == ("at" : Str)) = false := by simpa using hw
    have q2 : List.lookup f [(("at" : Str), v)] = none := by simp [List.lookup, qw]
    rw [q2]
    trivial
section
variable {X : Cx} {c q0 : Str} {C fI : Addr}
/-- c(e) -/
def tMkLowAt (C : Addr) (ta : TA) : St → Hp → XK → Prop := fun σ H Q => ta σ H fun vs H1 => ∃ v, vs = [v] ∧ ∀ d, H1 d = none → Q (.ref C) (some d) (upd H1 d (.xd [(("at" : Str), v)]))
theorem pmk_LowAt {a : Expr} {ta : TA} {p pos : Pos} {k : Nat} (T : PySem.LowAt.LowTxt X.K X.mg c q0 C fI) (hr : Room k X.A) (ha : PA X [a] ta) (hg : Gl X c := by rfl) (hdb : (c == ("__debug__" : Str)) = false := by decide)
    (he : starEach (a :: []) X.env = (false, eval a X.env) :: starEach [] X.env := by rfl) (hpl : (backTo pos (starEach [] X.env)).any (·.1) = false := by rfl) :
    PMk X (.Call (.Name c p) [a] [] pos) (tMkLowAt C ta) := by
  intro pins s σ H Q I h
  refine wpAny_Call_Name_kw (ld_glob I hg T.gC ?_ hdb)
  refine PySem.W.callWith_K (h₀ := X.base) I.ok.mod.kin T.kC (thn (ha.run pos pins s σ H _ I h) fun us s1 hh => ?_) he hpl
  obtain ⟨vs, H1, I1, r1, v, ev, q1⟩ := hh
  subst ev
  refine ⟨I1.kIn, ?_⟩
  cases r1 with
  | cons rv rn =>
    rename_i v' us'
    cases rn
    show wpAny _ _ (call (.ref C) [v']) _ _ _
    have hlim := I1.nolimit
    obtain ⟨hp, g, dr, tk, os⟩ := s1
    refine wpAny_call (PySem.LowAt.low_made T I1.kIn hlim (by have := hr.dp; omega) fun h' tk' e d M => ?_)
    show MkP X pins σ Q (.ref e) ⟨h', g, dr, tk', os⟩
    obtain ⟨oe, fv, hoe, hc, hd, hdat, h1⟩ := M.obj
    have hns := M.ns
    obtain ⟨G', g1, g2⟩ := restrict h' fun b => decide (b ≠ e)
    have gk : ∀ b, b ≠ e → G'.get? b = h'.get? b := fun b hb => g1 b (decide_eq_true hb)
    have ge : G'.get? e = none := g2 e (by simp)
    have old : ∀ b o, hp.get? b = some o → G'.get? b = some o := fun b o q => (gk b (Nat.ne_of_lt (Nat.lt_of_lt_of_le (Heap.lt_size q) M.new))).trans (M.keep b o q)
    have ob : ObjOk X.prog X.w (upd H1 d (.xd [(("at" : Str), v)])) G' d (.xd [(("at" : Str), v)]) :=
      ⟨_, hns.at (fun o q => (gk d M.dne).trans q), fun f => relO_LowAt rv f⟩
    have J : Inv X pins σ (upd H1 d (.xd [(("at" : Str), v)])) ⟨G', g, dr, tk', os⟩ := I1.laid (t' := tk') old M.dbig ob
    refine ⟨e, oe, fv, ⟨G', g, dr, tk', os⟩, _, .ref C, some d, rfl, J, fun b o q => ?_, ge, hoe, ⟨hc, hd⟩, hdat, h1, ?_, rfl, I1.bare, raises_own T.exC T.tyC, q1 d (I1.hok.fresh M.dbig)⟩
    · by_cases hb : b = e
      · have q' : G'.get? b = some o := q
        rw [hb, ge] at q'; cases q'
      · exact (gk b hb).symm.trans q
    · rw [upd_ne (Ne.symm M.dne)]
      exact I1.hok.fresh M.new
/-- raise c(e) -/
def tRaiseLowAt (C : Addr) (W : WX) (ta : TA) : TS := fun _ σ H => tMkLowAt C ta σ H fun cls d H' => W cls d σ H'
theorem ps_raiseLowAt {a : Expr} {ta : TA} {W : WX} {p pos pos2 : Pos} {k : Nat} (hc : X.calm = true) (T : PySem.LowAt.LowTxt X.K X.mg c q0 C fI) (hr : Room k X.A) (tk : Takes X W) (ha : PA X [a] ta) (hg : Gl X c := by rfl) (hdb : (c == ("__debug__" : Str)) = false := by decide)
    (he : starEach (a :: []) X.env = (false, eval a X.env) :: starEach [] X.env := by rfl) (hpl : (backTo pos (starEach [] X.env)).any (·.1) = false := by rfl) :
    PS X (.Raise (some (.Call (.Name c p) [a] [] pos)) none pos2) (tRaiseLowAt C W ta) := ps_raise hc tk (pmk_LowAt T hr ha hg hdb he hpl)
/-- n.f, n the exception that the suite holds (at a; its class cls, its dict d) -/
def tByLowAt (C : Addr) (a : Addr) (cls : Value) (d : Option Addr) (te : TE) : TE := fun σ H Q => te σ H fun x H1 => x = .ref a ∧ cls = .ref C ∧ ∃ (dd : Addr) (v : V), d = some dd ∧ H1 dd = some (.xd [(("at" : Str), v)]) ∧ Q v H1
theorem pe_byLowAt {a : Addr} {oe : Obj} {cls : Value} {d : Option Addr} {pn : List (Addr × Obj)} {e : Expr} {te : TE} {pos : Pos} (T : PySem.LowAt.LowTxt X.K X.mg c q0 C fI) (hz : Zc cls d oe) (hf : ∃ vs, oe.data = .fields vs) (he : PE (X.suite a ((a, oe) :: pn)) e te)
    (hb : attributeBase e "at" X.env (eval e X.env) = eval e X.env := by rfl) :
    PE (X.suite a ((a, oe) :: pn)) (.Attribute e "at" pos) (tByLowAt C a cls d te) := by
  refine ⟨fun pins s σ H Q I h => ?_⟩
  refine attr_of hb (thn (he.run pins s σ H _ I h) fun u s1 hh => ?_)
  obtain ⟨x, H1, I1, rx, ex, ec, dd, v, ed, ea, q⟩ := hh
  subst ex
  obtain rfl : u = Value.ref a := rx
  subst ec
  subst ed
  obtain ⟨ha, _⟩ := I1.pin (a, oe) (List.mem_append_left _ List.mem_cons_self)
  obtain ⟨vs, hd⟩ := hf
  have hx : ObjOk X.prog X.w H1 s1.heap dd (.xd [(("at" : Str), v)]) := I1.hok dd _ ea
  obtain ⟨mA, hns, hr⟩ := hx
  obtain ⟨od, ho, hl⟩ := lookIn_ns hns
  have l : List.lookup ("at" : Str) [(("at" : Str), v)] = some v := by simp [List.lookup]
  obtain ⟨u, hu, ru⟩ := RelO.some_of (v := v) (o := mA "at") (by rw [← l]; exact hr "at")
  have J : PySem.W.InstAt s1.heap a oe C (some od) := ⟨ha, hz.1, by unfold PySem.W.notCls; rw [hd] <;> rfl, by rw [hz.2]; exact ho⟩
  exact HandSPX.exc_get I1.kIn J T.ga T.gg T.exC (PySem.W.findObj_own T.hdC T.noN rfl (by rw [hl, hu])) (handed_of ru) ⟨v, H1, I1.tok _, ru, q⟩
end
end L2

namespace PySem
namespace LowWord
open PySem.W PySem.Calls PyProof.Rows PySem.HandSPX
def iA (p1 p2 : Pos) : Arguments := { posonlyargs := [], args := [{ arg := "self", annotation := none, pos := p1 }, { arg := "word", annotation := none, pos := p2 }], vararg := none, kwonlyargs := [], kw_defaults := [], kwarg := none, defaults := [] }
def iB (q1 q2 q3 q4 : Pos) : List Stmt := [.Assign [.Attribute (.Name "self" q1) "word" q2] (.Name "word" q3) q4]
def iS : Scope := { kind := .function, names := [(PySem.Str.ofString "self", .local), (PySem.Str.ofString "word", .local)], isGenerator := false, isCoroutine := false, more := [] }
/-- what the written part says of the class, at C, and of its __init__, at fI -/
structure LowTxt (K : Frag) (mg : Str → Option Value) (c q0 : Str) (C fI : Addr) : Prop where
  gC : mg c = some (.ref C)
  cls : ∃ nm q N bs bm sn sub ab col dd k0 k1 k2 k3 k5, K.lookup C = some (excClassObj nm q C N bs bm true sn sub ab col dd k0 k1 k2 k3 k5 "Exception.__new__") ∧ excTail HandEX.exTl bm = true
  sa : findIn K (.ref C) "__setattr__" = some (some (.builtin "object.__setattr__"))
  ga : findIn K (.ref C) "__getattribute__" = some (some (.builtin "BaseException.__getattribute__"))
  gg : findIn K (.ref C) "__getattr__" = some none
  noN : findIn K (.ref C) "word" = some none
  iC : findIn K (.ref C) "__init__" = some (some (.ref fI))
  tC : typeIn K (.ref fI) = some (.type "function")
  kC : keepIn K (.ref C) = true
  exC : subIn K (.ref C) (.type "BaseException") = some true
  tyC : typeIn K (.ref C) = some (.type "type")
  hdC : hasDictIn K C = true
  te : exmOne K (.ref C) (.ref C) = some true
  fn : ∃ (oc : Value) (od : Option Addr) (doc pm : Value) (an : Option Addr) (cdv ct : Value) (osl : Array (Option Value)) (p1 p2 q1 q2 q3 q4 : Pos),
    K.lookup fI = some ⟨oc, od, .func (fnOf "__init__" q0 (iA p1 p2) (iB q1 q2 q3 q4) iS .none .none doc pm an cdv ct), osl⟩ ∧ codeIn K cdv q0 = true
theorem one_size (v : Value) : [v].length ≤ sizeLine := by
  rw [sizeLine_eq]
  exact (by decide : 1 ≤ 16777216)
theorem kept_but {K : Frag} {h h' : Heap} {x : Addr} (X : K.In h) (hx : K.lookup x = none) (k : ∀ b o, b ≠ x → h.get? b = some o → h'.get? b = some o) : K.In h' := fun a o e =>
  k a o (fun z => by rw [z, hx] at e; cases e) (X a o e)
theorem ldC {M : Model} {s : Shared} {name : Str} {scope : Scope} {L a : Addr} {cd : Value} {m : Str → Option Value} {x : Str} {pos : Pos} {v : Value} {Q : Value → Shared → Prop} {A : Around} {E : Value → Shared → Prop} (hn : s.heap.Ns L m) (hv : m x = some v) (h : Q v s)
    (hk : scope.kind = .function := by rfl) (hl : (envOfC name scope L a cd).kindOf x = some .local := by rfl) (hd : (x == ("__debug__" : Str)) = false := by decide) :
    wpAny M A (eval (.Name x pos) (envOfC name scope L a cd)) Q E s := wpAny_Name (wpAny_loadName_local hk hl hn hv h) hd
/-- what __init__ leaves of a fresh exception at x -/
structure InitEnd (h h' : Heap) (x C dx t1 : Addr) (v : Value) : Prop where
  keep : ∀ b o, b ≠ x → h.get? b = some o → h'.get? b = some o
  obj : h'.get? x = some { cls := .ref C, dict := some dx, data := .fields #[.ref t1, .none, .none, .none, .bool false, .none] }
  dbig : h.objs.size ≤ dx
  dne : dx ≠ x
  ns : h'.Ns1 dx (fun y => if y = "word" then some v else none)
/-- a made error -/
structure OwnMade (h h' : Heap) (e C d : Addr) (v : Value) : Prop where
  keep : ∀ b o, h.get? b = some o → h'.get? b = some o
  new : h.objs.size ≤ e
  obj : ∃ oe vs, h'.get? e = some oe ∧ oe.cls = .ref C ∧ oe.dict = some d ∧ oe.data = .fields vs ∧ vs[1]? = some .none
  dbig : h.objs.size ≤ d
  dne : d ≠ e
  ns : h'.Ns1 d (fun y => if y = "word" then some v else none)
section
variable {prog : Program} {w : World} {A : Around} {E : Value → Shared → Prop} {R : Result → Shared → Prop} {s : Shared} {K : Frag} {mg : Str → Option Value} {c q0 : Str} {C fI : Addr}
theorem low_init (T : LowTxt K mg c q0 C fI) {x t0 : Addr} {v : Value} (X : K.In s.heap) (hlim : s.heap.NoLimit) (hx : s.heap.get? x = some (excO C t0)) (hnx : K.lookup x = none) (hroom : A.depth < recursionLimit)
    (hq : ∀ h' tk dx, InitEnd s.heap h' x C dx t0 v → R (.ok (.ret .none)) { s with heap := h', toks := tk }) :
    codeAny (model prog w) A (.call (.ref fI) ⟨[.ref x, v], []⟩) R s := by
  obtain ⟨oc, od, doc, pm, an, cdv, ct, osl, p1, p2, q1, q2, q3, q4, ho, hcd⟩ := T.fn
  obtain ⟨nm, q, N, bs, bm, sn, sub, ab, col, dd, k0, k1, k2, k3, k5, hC, hbm⟩ := T.cls
  have hcl : clsIn K C = some { name := nm, bases := bs, mro := .ref C :: bm, ns := N, qualname := q, hasDict := true, slotNames := sn, subclasses := sub, abstract := ab, collection := col, hasDel := false } := by unfold clsIn; rw [hC] <;> rfl
  refine Att.call_fn (binds := [("self", .ref x), ("word", v)]) X hlim ho hcd hroom (BindsTo.of_eq (by first | rfl | with_unfolding_all rfl)) (by first | rfl | decide | with_unfolding_all rfl) (fun s₁ IC => ?_) rfl rfl rfl
  obtain ⟨h₁, tk₁, rfl⟩ := IC.toInCall.same
  have k : ∀ b o, s.heap.get? b = some o → h₁.get? b = some o := IC.toInCall.keep
  have hn := IC.toInCall.ns
  have hxL : s.heap.objs.size ≠ x := Nat.ne_of_gt (Heap.lt_size hx)
  have X₁ : K.In h₁ := X.keeps k
  have hx₁ := k _ _ hx
  -- self.by = by
  show wpAny _ _ (execs _ _) _ _ _
  refine wpAny_execs_cons (plainObj_wpAny_Assign_Attribute ?_)
  refine ldC (v := v) hn (by first | rfl | with_unfolding_all rfl | kernel_rfl) (ldC (v := .ref x) hn (by first | rfl | with_unfolding_all rfl | kernel_rfl) ?_)
  refine set_plain X₁ (ox := excO C t0) (od := none) ⟨hx₁, rfl, rfl, trivial⟩ T.sa ?_
  refine HandEX.exc_put X₁ hx₁ hcl hbm T.noN (fun h₃ tk₃ dx k₃ dn dne hx₃ hn₃ => ?_)
  show wpAny _ _ (execs _ _) _ _ _
  have z : s.heap.objs.size < h₁.objs.size := hn.lt
  exact wpAny_execs_nil (hq h₃ tk₃ dx ⟨fun b o hb e => k₃ b o hb (k b o e), hx₃, Nat.le_of_lt (Nat.lt_of_lt_of_le z dn), dne, hn₃⟩)
theorem low_made (T : LowTxt K mg c q0 C fI) {v : Value} (X : K.In s.heap) (hlim : s.heap.NoLimit) (hroom : A.depth + 1 < recursionLimit)
    (hq : ∀ h' tk e d, OwnMade s.heap h' e C d v → R (.ok (.ret (.ref e))) { s with heap := h', toks := tk }) :
    codeAny (model prog w) A (.call (.ref C) ⟨[v], []⟩) R s := by
  obtain ⟨nm, q, N, bs, bm, sn, sub, ab, col, dd, k0, k1, k2, k3, k5, hC, hbm⟩ := T.cls
  obtain ⟨hp, g, dr, tk, os⟩ := s
  have k : ∀ b o, hp.get? b = some o → ((hp.push (kdv_tup [v])).push (excO C hp.objs.size)).get? b = some o := fun b o e => Heap.get?_push_of_some _ (Heap.get?_push_of_some _ e)
  have hget : ((hp.push (kdv_tup [v])).push (excO C hp.objs.size)).get? (hp.objs.size + 1) = some (excO C hp.objs.size) := by heap_get
  have hnx : K.lookup (hp.objs.size + 1) = none := by
    cases e : K.lookup (hp.objs.size + 1) with
    | none => rfl
    | some o =>
      have z : hp.get? (hp.objs.size + 1) = some o := X _ _ e
      exact absurd (Nat.lt_of_succ_lt (Heap.lt_size z)) (Nat.lt_irrefl _)
  refine call_own F.excBase_Exception (fun X => excTail_contains X bm hbm) (X _ _ hC) (looks_findIn X T.iC) (fun self => bind_fn X self T.tC) (one_size v) ?_
  refine low_init (s := ⟨(hp.push (kdv_tup [v])).push (excO C hp.objs.size), g, dr, tk, os⟩) T (X.keeps k) (hlim.keeps k) hget hnx ?_ fun h' tk' dx ⟨k', hx, dn, dne, hns⟩ => ?_
  · show A.depth + 1 < recursionLimit
    exact hroom
  · have old : ∀ b o, hp.get? b = some o → h'.get? b = some o := fun b o e => k' b o (Nat.ne_of_lt (Nat.lt_succ_of_lt (Heap.lt_size e))) (k b o e)
    have z : hp.objs.size + 1 + 1 ≤ dx := by
      first
        | (simpa only [Heap.size_push] using dn)
        | exact dn
        | (have q := dn; rw [Heap.size_push, Heap.size_push] at q; exact q)
    exact ⟨rfl, hq h' tk' (hp.objs.size + 1) dx ⟨old, Nat.le_succ _, ⟨_, _, hx, rfl, rfl, rfl, rfl⟩, Nat.le_trans (Nat.le_trans (Nat.le_succ _) (Nat.le_succ _)) z, dne, hns⟩⟩
end
end LowWord
end PySem
namespace L2
open PySem PySem.Spec PyProof.Rows
theorem relO_LowWord {v : V} {v' : Value} (r : RelV v v') (f : Str) : RelO (List.lookup f [(("word" : Str), v)]) (if f = "word" then some v' else none) := by
  by_cases hw : f = "word"
  · subst hw
    rw [if_pos rfl]
    have q : List.lookup ("word" : Str) [(("word" : Str), v)] = some v := by simp [List.lookup]
    rw [q]
    exact r
  · rw [if_neg hw]
    have qw : (f == ("word" : Str)) = false := by simpa using hw
    have q2 : List.lookup f [(("word" : Str), v)] = none := by simp [List.lookup, qw]
    rw [q2]
    trivial
section
variable {X : Cx} {c q0 : Str} {C fI : Addr}
/-- c(e) -/
def tMkLowWord (C : Addr) (ta : TA) : St → Hp → XK → Prop := fun σ H Q => ta σ H fun vs H1 => ∃ v, vs = [v] ∧ ∀ d, H1 d = none → Q (.ref C) (some d) (upd H1 d (.xd [(("word" : Str), v)]))
theorem pmk_LowWord {a : Expr} {ta : TA} {p pos : Pos} {k : Nat} (T : PySem.LowWord.LowTxt X.K X.mg c q0 C fI) (hr : Room k X.A) (ha : PA X [a] ta) (hg : Gl X c := by rfl) (hdb : (c == ("__debug__" : Str)) = false := by decide)
    (he : starEach (a :: []) X.env = (false, eval a X.env) :: starEach [] X.env := by rfl) (hpl : (backTo pos (starEach [] X.env)).any (·.1) = false := by rfl) :
    PMk X (.Call (.Name c p) [a] [] pos) (tMkLowWord C ta) := by
  intro pins s σ H Q I h
  refine wpAny_Call_Name_kw (ld_glob I hg T.gC ?_ hdb)
  refine PySem.W.callWith_K (h₀ := X.base) I.ok.mod.kin T.kC (thn (ha.run pos pins s σ H _ I h) fun us s1 hh => ?_) he hpl
  obtain ⟨vs, H1, I1, r1, v, ev, q1⟩ := hh
  subst ev
  refine ⟨I1.kIn, ?_⟩
  cases r1 with
  | cons rv rn =>
    rename_i v' us'
    cases rn
    show wpAny _ _ (call (.ref C) [v']) _ _ _
    have hlim := I1.nolimit
    obtain ⟨hp, g, dr, tk, os⟩ := s1
    refine wpAny_call (PySem.LowWord.low_made T I1.kIn hlim (by have := hr.dp; omega) fun h' tk' e d M => ?_)
    show MkP X pins σ Q (.ref e) ⟨h', g, dr, tk', os⟩
    obtain ⟨oe, fv, hoe, hc, hd, hdat, h1⟩ := M.obj
    have hns := M.ns
    obtain ⟨G', g1, g2⟩ := restrict h' fun b => decide (b ≠ e)
    have gk : ∀ b, b ≠ e → G'.get? b = h'.get? b := fun b hb => g1 b (decide_eq_true hb)
    have ge : G'.get? e = none := g2 e (by simp)
    have old : ∀ b o, hp.get? b = some o → G'.get? b = some o := fun b o q => (gk b (Nat.ne_of_lt (Nat.lt_of_lt_of_le (Heap.lt_size q) M.new))).trans (M.keep b o q)
    have ob : ObjOk X.prog X.w (upd H1 d (.xd [(("word" : Str), v)])) G' d (.xd [(("word" : Str), v)]) :=
      ⟨_, hns.at (fun o q => (gk d M.dne).trans q), fun f => relO_LowWord rv f⟩
    have J : Inv X pins σ (upd H1 d (.xd [(("word" : Str), v)])) ⟨G', g, dr, tk', os⟩ := I1.laid (t' := tk') old M.dbig ob
    refine ⟨e, oe, fv, ⟨G', g, dr, tk', os⟩, _, .ref C, some d, rfl, J, fun b o q => ?_, ge, hoe, ⟨hc, hd⟩, hdat, h1, ?_, rfl, I1.bare, raises_own T.exC T.tyC, q1 d (I1.hok.fresh M.dbig)⟩
    · by_cases hb : b = e
      · have q' : G'.get? b = some o := q
        rw [hb, ge] at q'; cases q'
      · exact (gk b hb).symm.trans q
    · rw [upd_ne (Ne.symm M.dne)]
      exact I1.hok.fresh M.new
/-- raise c(e) -/
def tRaiseLowWord (C : Addr) (W : WX) (ta : TA) : TS := fun _ σ H => tMkLowWord C ta σ H fun cls d H' => W cls d σ H'
theorem ps_raiseLowWord {a : Expr} {ta : TA} {W : WX} {p pos pos2 : Pos} {k : Nat} (hc : X.calm = true) (T : PySem.LowWord.LowTxt X.K X.mg c q0 C fI) (hr : Room k X.A) (tk : Takes X W) (ha : PA X [a] ta) (hg : Gl X c := by rfl) (hdb : (c == ("__debug__" : Str)) = false := by decide)
    (he : starEach (a :: []) X.env = (false, eval a X.env) :: starEach [] X.env := by rfl) (hpl : (backTo pos (starEach [] X.env)).any (·.1) = false := by rfl) :
    PS X (.Raise (some (.Call (.Name c p) [a] [] pos)) none pos2) (tRaiseLowWord C W ta) := ps_raise hc tk (pmk_LowWord T hr ha hg hdb he hpl)
/-- n.f, n the exception that the suite holds (at a; its class cls, its dict d) -/
def tByLowWord (C : Addr) (a : Addr) (cls : Value) (d : Option Addr) (te : TE) : TE := fun σ H Q => te σ H fun x H1 => x = .ref a ∧ cls = .ref C ∧ ∃ (dd : Addr) (v : V), d = some dd ∧ H1 dd = some (.xd [(("word" : Str), v)]) ∧ Q v H1
theorem pe_byLowWord {a : Addr} {oe : Obj} {cls : Value} {d : Option Addr} {pn : List (Addr × Obj)} {e : Expr} {te : TE} {pos : Pos} (T : PySem.LowWord.LowTxt X.K X.mg c q0 C fI) (hz : Zc cls d oe) (hf : ∃ vs, oe.data = .fields vs) (he : PE (X.suite a ((a, oe) :: pn)) e te)
    (hb : attributeBase e "word" X.env (eval e X.env) = eval e X.env := by rfl) :
    PE (X.suite a ((a, oe) :: pn)) (.Attribute e "word" pos) (tByLowWord C a cls d te) := by
  refine ⟨fun pins s σ H Q I h => ?_⟩
  refine attr_of hb (thn (he.run pins s σ H _ I h) fun u s1 hh => ?_)
  obtain ⟨x, H1, I1, rx, ex, ec, dd, v, ed, ea, q⟩ := hh
  subst ex
  obtain rfl : u = Value.ref a := rx
  subst ec
  subst ed
  obtain ⟨ha, _⟩ := I1.pin (a, oe) (List.mem_append_left _ List.mem_cons_self)
  obtain ⟨vs, hd⟩ := hf
  have hx : ObjOk X.prog X.w H1 s1.heap dd (.xd [(("word" : Str), v)]) := I1.hok dd _ ea
  obtain ⟨mA, hns, hr⟩ := hx
  obtain ⟨od, ho, hl⟩ := lookIn_ns hns
  have l : List.lookup ("word" : Str) [(("word" : Str), v)] = some v := by simp [List.lookup]
  obtain ⟨u, hu, ru⟩ := RelO.some_of (v := v) (o := mA "word") (by rw [← l]; exact hr "word")
  have J : PySem.W.InstAt s1.heap a oe C (some od) := ⟨ha, hz.1, by unfold PySem.W.notCls; rw [hd] <;> rfl, by rw [hz.2]; exact ho⟩
  exact HandSPX.exc_get I1.kIn J T.ga T.gg T.exC (PySem.W.findObj_own T.hdC T.noN rfl (by rw [hl, hu])) (handed_of ru) ⟨v, H1, I1.tok _, ru, q⟩
end
end L2


set_option Elab.async false
set_option linter.all false
set_option maxRecDepth 100000
set_option maxHeartbeats 4000000
namespace L3
open PySem PySem.Spec PyProof.Rows L2

/-- the field of an own error -/
def fldOf (c : Str) : Option Str :=
  if c = "BadValue" ∨ c = "BadText" ∨ c = "BadPaper" then some ("at" : Str) else if c = "NoStem" ∨ c = "TakenStem" then some ("word" : Str) else none
/-- an error of the class c, its field's data, as it lies -/
def ExR (mg : Str → Option Value) (M : Addr → Prop) (H : Hp) (x : Exn) (cls : Value) (d : Option Addr) : Prop :=
  (∃ C, mg x.c = some (.ref C) ∧ cls = .ref C) ∧ (∀ f, fldOf x.c = some f → ∃ dd v, d = some dd ∧ H dd = some (.xd [(f, v)]) ∧ Rp M H v x.d) ∧ (fldOf x.c = none → d = none)
theorem ExR.less {mg : Str → Option Value} {M M' : Addr → Prop} {H : Hp} {x : Exn} {cls : Value} {d : Option Addr} (h : ExR mg M H x cls d) (hm : ∀ a, M' a → M a) : ExR mg M' H x cls d :=
  ⟨h.1, fun f hf => let ⟨dd, v, e, h1, r⟩ := h.2.1 f hf; ⟨dd, v, e, h1, r.less hm⟩, h.2.2⟩
/-- what a context wants of an error that goes out of it -/
def RXW (mg : Str → Option Value) (W : WX) : RX := fun x M σ H => ∀ cls d, ExR mg M H x cls d → W cls d σ H
section
variable {X : Cx} {W : WX} {e a b : Expr} {es : List Expr} {f h : Env3 → MM PyData} {g g' : Env3 → MM Fl3} {pos pos' p : Pos} {c q0 : Str} {C fI : Addr} {k : Nat}
def rs (c : Str) (f : Env3 → MM PyData) : Env3 → MM Fl3 := fun Δ => tryE (f Δ) Δ fun d => rt (.xx ⟨c, d⟩ Δ)
theorem ds_raiseAt (T : PySem.LowAt.LowTxt X.K X.mg c q0 C fI) (hr : Room k X.A) (tk : Takes X W) (ha : DE X (RXW X.mg W) a f) (hc : X.calm = true := by rfl) (hg : Gl X c := by rfl) (hdb : (c == ("__debug__" : Str)) = false := by decide)
    (hf : fldOf c = some ("at" : Str) := by rfl) (he : starEach (a :: []) X.env = (false, eval a X.env) :: starEach [] X.env := by rfl) (hpl : (backTo pos (starEach [] X.env)).any (·.1) = false := by rfl) :
    DS X (RXW X.mg W) (.Raise (some (.Call (.Name c p) [a] [] pos)) none pos') (rs c f) := by
  obtain ⟨t, pe, q⟩ := ha.useS
  refine ⟨_, ps_raiseLowAt hc T hr tk (pa_cons pe pa_nil he) hg hdb he hpl, fun S H k D i w => q S H k _ D _ i w fun d k1 w1 v H1 i1 e1 r1 => ⟨v, rfl, fun dd hd => ?_⟩⟩
  have e2 : Ex S.sp H1 (upd H1 dd (.xd [("at", v)])) := Ex.new hd
  refine w1 S.M _ S.σ (ER.new i1 hd) ((ER.st i e1).trans (ER.st i1 e2)) (.ref C) (some dd) ⟨⟨C, T.gC, rfl⟩, fun f' hf' => ?_, fun z => by rw [hf] at z; cases z⟩
  rw [hf] at hf'
  cases hf'
  exact ⟨dd, v, rfl, upd_same, ER.rp i1 e2 r1⟩
theorem ds_raiseWord (T : PySem.LowWord.LowTxt X.K X.mg c q0 C fI) (hr : Room k X.A) (tk : Takes X W) (ha : DE X (RXW X.mg W) a f) (hc : X.calm = true := by rfl) (hg : Gl X c := by rfl) (hdb : (c == ("__debug__" : Str)) = false := by decide)
    (hf : fldOf c = some ("word" : Str) := by rfl) (he : starEach (a :: []) X.env = (false, eval a X.env) :: starEach [] X.env := by rfl) (hpl : (backTo pos (starEach [] X.env)).any (·.1) = false := by rfl) :
    DS X (RXW X.mg W) (.Raise (some (.Call (.Name c p) [a] [] pos)) none pos') (rs c f) := by
  obtain ⟨t, pe, q⟩ := ha.useS
  refine ⟨_, ps_raiseLowWord hc T hr tk (pa_cons pe pa_nil he) hg hdb he hpl, fun S H k D i w => q S H k _ D _ i w fun d k1 w1 v H1 i1 e1 r1 => ⟨v, rfl, fun dd hd => ?_⟩⟩
  have e2 : Ex S.sp H1 (upd H1 dd (.xd [("word", v)])) := Ex.new hd
  refine w1 S.M _ S.σ (ER.new i1 hd) ((ER.st i e1).trans (ER.st i1 e2)) (.ref C) (some dd) ⟨⟨C, T.gC, rfl⟩, fun f' hf' => ?_, fun z => by rw [hf] at z; cases z⟩
  rw [hf] at hf'
  cases hf'
  exact ⟨dd, v, rfl, upd_same, ER.rp i1 e2 r1⟩
end
def spOfX (mg : Str → Option Value) (ks : List Kd) (m : List PyData → MM PyData) : Sp := fun vs H Q E => ∃ (M : Addr → Prop) (sp : Option Addr) (ds : List PyData) (k : Int), AOk M sp H ks vs ds ∧ (∀ a, M a → ∃ o, H a = some o) ∧ (∀ a, sp = some a → M a) ∧ Spot M sp H k ∧
  Wp (m ds k) (fun d k' => ∀ v H', Ex sp H H' → Spot M sp H' k' → Rp M H' v d → Q v H') (fun x k' => ∀ cls d H', Ex sp H H' → Spot M sp H' k' → ExR mg M H' x cls d → E cls d H')
structure RealX (P : Program) (w : World) (K : PySem.W.Frag) (mg : Str → Option Value) (base : Heap) (n : Nat) (name : Str) (ps : List Str) (ks : List Kd) (m : List PyData → MM PyData) : Prop where
  ex : ∃ f fd, FnOk P w K mg base (L2.CX P w) n f fd ps (spOfX mg ks m) ∧ mg name = some (.ref f) ∧ PySem.W.keepIn K (.ref f) = true ∧ Binds K fd ps []
structure RealXK (P : Program) (w : World) (K : PySem.W.Frag) (mg : Str → Option Value) (base : Heap) (n : Nat) (name : Str) (ps : List Str) (ks : List Kd) (m : List PyData → MM PyData) : Prop where
  ex : ∃ f fd, FnOk P w K mg base (L2.CX P w) n f fd ps (spOfX mg ks m) ∧ mg name = some (.ref f) ∧ PySem.W.keepIn K (.ref f) = true ∧ KwAll K fd ps
def runX (g : Env3 → MM Fl3) (Δ : Env3) : MM PyData := fun k => match g Δ k with
  | .ok (.rt d) k' => .ok d k'
  | .ok (.nx _) k' => .ok .none k'
  | .ok (.xx x _) k' => .ex x k'
  | _ => .no
theorem fnok_ofX {P : Program} {w : World} {K : PySem.W.Frag} {mg : Str → Option Value} {base : Heap} {x qual : Str} {st : Stmt} {f : Addr} {fd : FuncData} {N ps : List Str} {k : Nat} {ks : List Kd} {g : Env3 → MM Fl3} (F : Fun K x qual st f fd) (S : FnScope N ps (defScope st)) (hl : ks.length = ps.length)
    (hbody : ∀ (cdv : Value) (A : Around) (outer : List Env) (s : Shared) (H : Hp) (E : XK), Room k (A.deeper (envOfC qual (defScope st) s.heap.objs.size f cdv)) →
      DSs (cxOf (L2.CX P w) P w K mg base N qual (defScope st) f cdv A outer s H E) (RXW mg fun cls d _ H' => E cls d H') (defBody st) g) : FnOk P w K mg base (L2.CX P w) (k + 1) f fd ps (spOfX mg ks (fun ds => runX g (startE N.length ks ds))) := by
  refine F.okX S (fun vs H Q E h => ?_) (fun cdv A outer s H vs Q E hr h => ?_)
  · obtain ⟨M, sp, ds, k, a, _⟩ := h
    rw [a.length.1, hl]
  · obtain ⟨M, sp, ds, k, a, live, hs, hk, w1⟩ := h
    obtain ⟨t, pb, q⟩ := hbody cdv A outer s H E hr
    refine ⟨t, pb, q ⟨H, M, sp, M, start N vs, startE N.length ks ds⟩ H k _ (er_start a live hs hk) ?_⟩
    dsimp only
    dsimp only [runX] at w1
    cases hg : g (startE N.length ks ds) k with
    | no => rw [hg] at w1; exact w1.elim
    | ex x k' => rw [hg] at w1; exact w1.elim
    | ok r k' =>
      rw [hg] at w1
      cases r with
      | rt d => exact fun v M' H' σ' Δ' i _ r => w1 v H' i.keep (fun b hb => (i.spot b hb).2.less i.sub) (r.less i.sub)
      | nx Δ' => exact fun M' H' σ' i s => w1 .non H' i.keep (fun b hb => (i.spot b hb).2.less i.sub) .non
      | bk Δ' => exact w1.elim
      | ct Δ' => exact w1.elim
      | xx x Δ' => exact fun M' H' σ' i s cls d z => w1 cls d H' i.keep (fun b hb => (i.spot b hb).2.less i.sub) (z.less i.sub)
theorem realX_of {P : Program} {w : World} {K : PySem.W.Frag} {mg : Str → Option Value} {base : Heap} {x qual : Str} {st : Stmt} {f : Addr} {fd : FuncData} {N ps : List Str} {k : Nat} {ks : List Kd} {g : Env3 → MM Fl3} (F : Fun K x qual st f fd) (S : FnScope N ps (defScope st)) (hl : ks.length = ps.length)
    (hm : mg x = some (.ref f)) (hb : Binds K fd ps [])
    (hbody : ∀ (cdv : Value) (A : Around) (outer : List Env) (s : Shared) (H : Hp) (E : XK), Room k (A.deeper (envOfC qual (defScope st) s.heap.objs.size f cdv)) →
      DSs (cxOf (L2.CX P w) P w K mg base N qual (defScope st) f cdv A outer s H E) (RXW mg fun cls d _ H' => E cls d H') (defBody st) g) : RealX P w K mg base (k + 1) x ps ks (fun ds => runX g (startE N.length ks ds)) :=
  ⟨f, fd, fnok_ofX F S hl hbody, hm, F.kp, hb⟩
theorem realXK_of {P : Program} {w : World} {K : PySem.W.Frag} {mg : Str → Option Value} {base : Heap} {x qual : Str} {st : Stmt} {f : Addr} {fd : FuncData} {N ps : List Str} {k : Nat} {ks : List Kd} {g : Env3 → MM Fl3} (F : Fun K x qual st f fd) (S : FnScope N ps (defScope st)) (hl : ks.length = ps.length)
    (hm : mg x = some (.ref f)) (hb : KwAll K fd ps)
    (hbody : ∀ (cdv : Value) (A : Around) (outer : List Env) (s : Shared) (H : Hp) (E : XK), Room k (A.deeper (envOfC qual (defScope st) s.heap.objs.size f cdv)) →
      DSs (cxOf (L2.CX P w) P w K mg base N qual (defScope st) f cdv A outer s H E) (RXW mg fun cls d _ H' => E cls d H') (defBody st) g) : RealXK P w K mg base (k + 1) x ps ks (fun ds => runX g (startE N.length ks ds)) :=
  ⟨f, fd, fnok_ofX F S hl hbody, hm, F.kp, hb⟩
/-- the wish of a def's body about errors is taken -/
theorem takes_def {P : Program} {w : World} {K : PySem.W.Frag} {mg : Str → Option Value} {base : Heap} {N : List Str} {qual : Str} {sc : Scope} {f : Addr} {cdv : Value} {A : Around} {outer : List Env} {s : Shared} {H : Hp} {E : XK} :
    Takes (cxOf (L2.CX P w) P w K mg base N qual sc f cdv A outer s H E) (fun cls d _ H' => E cls d H') := takes_of rfl rfl rfl rfl
section
variable {X : Cx} {W : WX} {R : RX} {e a b : Expr} {es : List Expr} {kws : List Keyword} {f h : Env3 → MM PyData} {pos pos' p : Pos}
/-- a call that may raise -/
def calX (m : List PyData → MM PyData) (g : Env3 → MM (List PyData)) : Env3 → MM PyData := fun Δ => bd (g Δ) fun ds => m ds
theorem call_semX {ks : List Kd} {m : List PyData → MM PyData} {S : S3} {H H1 : Hp} {k1 : Int} {Q : VK} {ds : List PyData} {vs : List V} (i1 : S.In H1 k1) (e1 : Ex S.sp H H1) (r1 : AOk S.M S.sp H1 ks vs ds) (w1 : Wp (m ds k1) (S.ok (P3 S) H Q) (S.er (RXW X.mg W) H)) : spOfX X.mg ks m vs H1 Q (WE W S.σ) := by
  refine ⟨S.M, S.sp, ds, k1, r1, ER.live i1, fun a ha => ER.sub i1 a (ER.spot i1 a ha).1, fun a ha => (ER.spot i1 a ha).2, w1.mono (fun d k2 _ hq v H' e' s' r' => hq v H' (ER.step i1 e' s') (e1.trans e') r') fun x k2 _ hq cls d H' e' s' z => ?_⟩
  exact hq H' (ER.step i1 e' s') (e1.trans e') cls d z
theorem de_callX {n j : Nat} {x : Str} {ps : List Str} {ks : List Kd} {m : List PyData → MM PyData} {g : Env3 → MM (List PyData)}
    (F : RealX X.prog X.w X.K X.mg X.base n x ps ks m) (hr : Room j X.A) (hj : n ≤ j) (tk : Takes X W) (ha : DX X (RXW X.mg W) ks (e :: es) g) (hg : Gl X x := by rfl) (hdb : (x == ("__debug__" : Str)) = false := by decide)
    (he : starEach (e :: es) X.env = (false, eval e X.env) :: starEach es X.env := by rfl) (hpl : (backTo pos (starEach es X.env)).any (·.1) = false := by rfl) : DE X (RXW X.mg W) (.Call (.Name x p) (e :: es) [] pos) (calX m g) := by
  obtain ⟨f, fd, F, hm, hk, hb⟩ := F.ex
  obtain ⟨t, pa, q⟩ := ha.use
  refine ⟨_, pe_callS F (hr.mono hj) hg hm hk hb (fun σ => passAt tk σ) pa hdb he hpl, fun S H k Q i w => q S H k _ _ _ i w fun ds k1 w1 vs H1 i1 e1 r1 => ?_⟩
  exact call_semX i1 e1 r1 w1
/-- the same where it is known to raise nothing -/
theorem de_callC {n j : Nat} {x : Str} {ps : List Str} {ks : List Kd} {m : List PyData → MM PyData} {g : Env3 → MM (List PyData)}
    (F : RealX X.prog X.w X.K X.mg X.base n x ps ks m) (hr : Room j X.A) (hj : n ≤ j) (ha : DX X R ks (e :: es) g) (hg : Gl X x := by rfl) (hdb : (x == ("__debug__" : Str)) = false := by decide)
    (he : starEach (e :: es) X.env = (false, eval e X.env) :: starEach es X.env := by rfl) (hpl : (backTo pos (starEach es X.env)).any (·.1) = false := by rfl) : DE X R (.Call (.Name x p) (e :: es) [] pos) (cal m g) := by
  obtain ⟨f, fd, F, hm, hk, hb⟩ := F.ex
  obtain ⟨t, pa, q⟩ := ha.use
  refine ⟨_, pe_callS F (hr.mono hj) hg hm hk hb (fun σ => passAt takes_none5 σ) pa hdb he hpl, fun S H k Q i w => q S H k _ _ _ i w fun ds k1 w1 vs H1 i1 e1 r1 => ?_⟩
  obtain ⟨d, k2, hmd, hq⟩ := w1.calmly
  refine ⟨S.M, S.sp, ds, k1, r1, ER.live i1, fun a ha => ER.sub i1 a (ER.spot i1 a ha).1, fun a ha => (ER.spot i1 a ha).2, ?_⟩
  rw [hmd]
  exact fun v H' e' s' r' => hq v H' (ER.step i1 e' s') (e1.trans e') r'
/-- by keywords -/
theorem pe_callKS {CX : CXT} {k : Nat} {x : Str} {f : Addr} {fd : FuncData} {ps : List Str} {sp : Sp} {E : L2.St → XK} {tk : TA} (F : FnOk X.prog X.w X.K X.mg X.base CX k f fd ps sp) (hr : Room k X.A) (hg : Gl X x) (hm : X.mg x = some (.ref f)) (hk : PySem.W.keepIn X.K (.ref f) = true) (hb : KwAll X.K fd ps) (hx : ∀ σ, PassesAt CX X σ (E σ))
    (hkw : PK X kws tk) (hall : (backToKw pos (keywordEach kws X.env)).all (·.1.isSome) = true := by rfl) (hks : (backToKw pos (keywordEach kws X.env)).filterMap (·.1) = ps := by rfl)
    (hdb : (x == ("__debug__" : Str)) = false := by decide)
    (hpl : ((backTo pos (starEach [] X.env)).any (·.1) || (backToKw pos (keywordEach kws X.env)).any (·.1.isNone)) = false := by rfl) :
    PE X (.Call (.Name x p) [] kws pos) (fun σ H Q => tk σ H fun zs H1 => sp zs H1 Q (E σ)) := by
  refine ⟨fun pins s σ H Q I h => ?_⟩
  refine wpAny_Call_Name_kw (ld_glob I hg hm ?_ hdb)
  refine PySem.W.callWith_KW0 (h₀ := X.base) I.ok.mod.kin hk hall (thn (hkw.run pos pins s σ H _ I h) fun ws s2 ⟨zs, H2, I2, rz, q2⟩ => ⟨I2.kIn, ?_⟩) hpl
  rw [hks]
  have hl : ws.length = ps.length := by rw [← rz.length]; exact F.len _ _ _ _ q2
  refine wpAny_call (codeAny_mono (F.run X.A X.stack s2 H2 ⟨[], ps.zip ws⟩ ws zs Q (E σ) hr I2.env0 (hb s2 ws I2.kIn hl) rz q2) fun r s' hq => ?_)
  cases r with
  | error er => exact hx σ pins H2 s2 er s' I2 hq
  | ok fl =>
    cases fl with
    | ret u => exact I2.after hq
    | next => exact False.elim hq
    | brk => exact False.elim hq
    | cont => exact False.elim hq
end
end L3

set_option Elab.async false
set_option linter.all false
set_option maxRecDepth 100000
set_option maxHeartbeats 4000000
namespace L3
open PySem PySem.Spec PyProof.Rows L2

/-- a slot of which nothing is told any more -/
theorem ER.drop {H0 : Hp} {M0 M : Addr → Prop} {sp : Option Addr} {H : Hp} {σ : L2.St} {Δ : Env3} {k : Int} (R : ER H0 M0 sp M H σ Δ k) (i : Nat) (o : Option V) : ER H0 M0 sp M H (σ.set i o) (Δ.set i none) k where
  keep := R.keep
  sub := R.sub
  low := R.low
  live := R.live
  spot := R.spot
  len := by simp [R.len]
  slot := fun j s h => by
    by_cases hj : i = j
    · subst hj
      rw [List.getElem?_set] at h
      split at h
      · split at h <;> cases h
      · exact absurd rfl (by assumption)
    · rw [List.getElem?_set_ne hj] at h
      obtain ⟨u, h1, h2⟩ := R.slot j s h
      exact ⟨u, by rw [List.getElem?_set_ne hj]; exact h1, h2⟩
  uniq := fun j l a h1 h2 => by
    have back : ∀ {j}, OwnAt H (Δ.set i none) (σ.set i o) j a → OwnAt H Δ σ j a := fun {j} q => q.back (fun s h _ => by
      have n1 : i ≠ j := fun z => by
        subst z
        rw [List.getElem?_set] at h
        split at h
        · split at h <;> cases h
        · exact absurd rfl (by assumption)
      rw [List.getElem?_set_ne n1] at h
      exact ⟨h, List.getElem?_set_ne n1⟩) fun _ _ _ _ => rfl
    exact R.uniq j l a (back h1) (back h2)
theorem ExR.ext {mg : Str → Option Value} {S : S3} {H H' : Hp} {k : Int} {x : Exn} {cls : Value} {d : Option Addr} (i : S.In H k) (e : Ex S.sp H H') (h : ExR mg S.M H x cls d) : ExR mg S.M H' x cls d :=
  ⟨h.1, fun f hf => by
    obtain ⟨dd, v, e1, h1, r⟩ := h.2.1 f hf
    refine ⟨dd, v, e1, e dd _ h1 (fun z => ?_), ER.rp i e r⟩
    rcases (ER.spot i dd z).2 with ⟨_, q⟩ | ⟨_, _, _, _, _, q, _⟩ <;> (rw [q] at h1; cases h1), h.2.2⟩
/-- one reading for a family of contexts, of a block -/
theorem uniS {ι : Type} {Xs : ι → Cx} {R : RX} {st : List Stmt} {g : Env3 → MM Fl3} (h : ∀ i, DSs (Xs i) R st g) : ∃ t, (∀ i, PSs (Xs i) st t) ∧ ∀ (S : S3) (H : Hp) (k : Int) (D : Ends), S.In H k → Wp (g S.Δ k) (S.fin R H D) no3 → t D S.σ H :=
  ⟨fun D σ H => ∀ i, (h i).choose D σ H, fun i => ⟨fun pins s σ H D I q => (h i).choose_spec.1.run pins s σ H D I (q i)⟩, fun S H k D i w j => (h j).choose_spec.2 S H k D i w⟩
section
variable {X : Cx} {R : RX}
structure Held (X : Cx) (c : Str) (i : Option Nat) (S : S3) (H : Hp) (x : Exn) (a : Addr) (cls : Value) (d : Option Addr) : Prop where
  nm : x.c = c
  at_ : ∀ j, i = some j → S.σ[j]? = some (some (.ref a))
  ex : ExR X.mg S.M H x cls d
def DEx (X : Cx) (R : RX) (c : Str) (i : Option Nat) (e : Expr) (f : Exn → Env3 → MM PyData) : Prop :=
  ∃ te : Addr → Value → Option Addr → TE, (∀ (a : Addr) (oe : Obj) (cls : Value) (d : Option Addr) (pn : List (Addr × Obj)), Zc cls d oe → (∃ vs, oe.data = .fields vs) → PE (X.suite a ((a, oe) :: pn)) e (te a cls d)) ∧
    ∀ (S : S3) (H : Hp) (k : Int) (Q : VK) (x : Exn) (a : Addr) (cls : Value) (d : Option Addr), S.In H k → Held X c i S H x a cls d → Wp (f x S.Δ k) (S.ok (P3 S) H Q) (S.er R H) → te a cls d S.σ H Q
/-- what knows nothing of the error -/
theorem dex_of {c : Str} {i : Option Nat} {e : Expr} {f : Env3 → MM PyData} (h : ∀ (a : Addr) (pn : List (Addr × Obj)), DE (X.suite a pn) R e f) : DEx X R c i e (fun _ => f) := by
  obtain ⟨t, p, q⟩ := uniE (ι := Addr × List (Addr × Obj)) (Xs := fun z => X.suite z.1 z.2) (fun z => h z.1 z.2)
  exact ⟨fun _ _ _ => t, fun a oe cls d pn _ _ => p (a, (a, oe) :: pn), fun S H k Q x a cls d i _ w => q S H k Q i w⟩
/-- n.f -/
def xfV : Exn → Env3 → MM PyData := fun x _ => rt x.d
theorem dex_fld {c f n : Str} {C : Addr} {i : Nat} {p pos : Pos} (T : XfC X.K C) (hno : PySem.W.findIn X.K (.ref C) f = some none) (gC : X.mg c = some (.ref C)) (hN : X.N[i]? = some n) (hv : Vis X.env.scope n)
    (hf : fldOf c = some f := by rfl) (hd : (n == ("__debug__" : Str)) = false := by decide) (hcd : (n == ("__classdict__" : Str)) = false := by decide)
    (hb : attributeBase (.Name n p) f X.env (eval (.Name n p) X.env) = eval (.Name n p) X.env := by rfl) : DEx X R c (some i) (.Attribute (.Name n p) f pos) xfV := by
  refine ⟨fun a cls d => tXf a cls d C f (tVar i), fun a oe cls d pn hz hs => pe_xf T hno hz hs (pe_var (X := X.suite a ((a, oe) :: pn)) hN hv hd hcd) hb, fun S H k Q x a cls d i' hl w => ?_⟩
  obtain ⟨⟨C', g1, g2⟩, hx, _⟩ := hl.ex
  rw [hl.nm, gC] at g1
  cases g1
  obtain ⟨dd, v, e1, h1, r⟩ := hx f (by rw [hl.nm]; exact hf)
  refine ⟨.ref a, hl.at_ i rfl, rfl, g2, dd, _, v, e1, h1, ?_, w v H i' (Ex.refl _) r⟩
  simp [List.lookup]
/-- (e, e') -/
def tup2X (f f' : Exn → Env3 → MM PyData) : Exn → Env3 → MM PyData := fun x Δ => bd (f x Δ) fun y => bd (f' x Δ) fun y' => if 2 ≤ sizeLine then rt (.tuple [y, y']) else fl
theorem dex_tup2 {c : Str} {i : Option Nat} {e e' : Expr} {f f' : Exn → Env3 → MM PyData} {j : Nat} {pos : Pos} (he : DEx X R c i e f) (he' : DEx X R c i e' f')
    (hs : ∀ a pn, starEach (e :: [e']) (X.suite a pn).env = (false, eval e (X.suite a pn).env) :: starEach [e'] (X.suite a pn).env := by intro _ _; rfl)
    (hs' : ∀ a pn, starEach (e' :: []) (X.suite a pn).env = (false, eval e' (X.suite a pn).env) :: starEach [] (X.suite a pn).env := by intro _ _; rfl) : DEx X R c i (.Tuple [e, e'] j pos) (tup2X f f') := by
  obtain ⟨t, p, q⟩ := he
  obtain ⟨t', p', q'⟩ := he'
  refine ⟨_, fun a oe cls d pn hz hf => pe_tup (pa_cons (p a oe cls d pn hz hf) (pa_cons (p' a oe cls d pn hz hf) pa_nil (hs' _ _)) (hs _ _)), fun S H k Q x a cls d i' hl w => ?_⟩
  refine q S H k _ x a cls d i' hl (w.bd.mono (fun y k1 _ w1 v H1 i1 e1 r1 => ?_) fun _ _ _ z => z)
  have hl1 : Held X c i S H1 x a cls d := ⟨hl.nm, hl.at_, hl.ex.ext i' e1⟩
  refine q' S H1 k1 _ x a cls d i1 hl1 (w1.bd.mono (fun y' k2 _ w2 v' H2 i2 e2 r2 => ?_) fun _ _ _ z => z.mono e1)
  split at w2
  · rename_i hsz
    refine ⟨hsz, fun pp hp => ?_⟩
    have e3 : Ex S.sp H2 (upd H2 pp (.tup [v, v'])) := Ex.new hp
    exact w2 _ _ (ER.new i2 hp) ((e1.trans e2).trans e3) (.tup upd_same (ER.fresh i2 hp) (.cons (ER.rp i1 (e2.trans e3) r1) (.cons (ER.rp i2 e3 r2) .nil)))
  · exact w2.elim
def DHs (X : Cx) (R : RX) (c : Str) (i : Option Nat) (suite : List Stmt) (g : Exn → Env3 → MM Fl3) : Prop :=
  ∃ ts : Addr → Value → Option Addr → TS, (∀ (a : Addr) (oe : Obj) (cls : Value) (d : Option Addr) (pn : List (Addr × Obj)), Zc cls d oe → (∃ vs, oe.data = .fields vs) → PSs (X.suite a ((a, oe) :: pn)) suite (ts a cls d)) ∧
    ∀ (S : S3) (H : Hp) (k : Int) (D : Ends) (x : Exn) (a : Addr) (cls : Value) (d : Option Addr), S.In H k → Held X c i S H x a cls d → Wp (g x S.Δ k) (S.fin R H D) no3 → ts a cls d D S.σ H
def retX (f : Exn → Env3 → MM PyData) : Exn → Env3 → MM Fl3 := fun x Δ => tryE (f x Δ) Δ fun d => rt (.rt d)
theorem dhs_ret {c : Str} {i : Option Nat} {e : Expr} {f : Exn → Env3 → MM PyData} {pos : Pos} (he : DEx X R c i e f) : DHs X R c i [.Return (some e) pos] (retX f) := by
  obtain ⟨t, p, q⟩ := he
  refine ⟨fun a cls d => tRet (t a cls d), fun a oe cls d pn hz hf => pss_one (ps_ret (p a oe cls d pn hz hf)), fun S H k D x a cls d i' hl w => ?_⟩
  exact q S H k _ x a cls d i' hl (w.tryF.mono (fun d' k1 _ w1 v H1 i1 e1 r1 => w1 v S.M H1 S.σ S.Δ i1 (ER.st i' e1) r1) fun _ _ _ z => z)
/-- what knows nothing of the error -/
theorem dhs_of {c : Str} {i : Option Nat} {suite : List Stmt} {g : Env3 → MM Fl3} (h : ∀ (a : Addr) (pn : List (Addr × Obj)), DSs (X.suite a pn) R suite g) : DHs X R c i suite (fun _ => g) := by
  obtain ⟨t, p, q⟩ := uniS (ι := Addr × List (Addr × Obj)) (Xs := fun z => X.suite z.1 z.2) (fun z => h z.1 z.2)
  exact ⟨fun _ _ _ => t, fun a oe cls d pn _ _ => p (a, (a, oe) :: pn), fun S H k D x a cls d i _ w => q S H k D i w⟩
def offE (i : Nat) : Fl3 → Fl3
  | .nx Δ => .nx (Δ.set i none)
  | .bk Δ => .bk (Δ.set i none)
  | .ct Δ => .ct (Δ.set i none)
  | r => r
def tryN (c : Str) (i : Nat) (g : Env3 → MM Fl3) (h : Exn → Env3 → MM Fl3) : Env3 → MM Fl3 := fun Δ => bd (g Δ) fun r => match r with
  | .xx x Δ' => if x.c = c ∧ i < Δ'.length then bd (h x (Δ'.set i none)) fun r => rt (offE i r) else fl
  | r => rt r
theorem ds_tryN {W : WX} {c n : Str} {C : Addr} {i : Nat} {body suite : List Stmt} {b₀ : Stmt} {np pos pos' : Pos} {g : Env3 → MM Fl3} {h : Exn → Env3 → MM Fl3} (tk : Takes X W) (gC : X.mg c = some (.ref C)) (te : PySem.W.exmOne X.K (.ref C) (.ref C) = some true)
    (hN : X.N.Nodup) (hi : X.N[i]? = some n)
    (hb : ∀ (W' : WX) (pn : List (Addr × Obj)) (xe : Value → Shared → Prop), Takes (X.tr pn xe) W' → PassesOwn (model X.prog X.w) X.A X.env xe → DSs (X.tr pn xe) (RXW X.mg W') body g)
    (hh : DHs X R c (some i) (b₀ :: suite) h)
    (hln : X.env.kindOf n = some .local := by rfl) (hs : X.stack = X.env :: X.outer := by rfl) (hfr : X.env.frame = some X.env.locals := by rfl) (hg : Gl X c := by rfl) (hdb : (c == ("__debug__" : Str)) = false := by decide) :
    DS X R (.Try body [.ExceptHandler (some (.Name c np)) (some n) (b₀ :: suite) pos'] [] [] pos) (tryN c i g h) := by
  obtain ⟨ts, ps, qs⟩ := hh
  have hu : ∀ W' : WX, ∃ t, (∀ (pn : List (Addr × Obj)) (xe : Value → Shared → Prop), Takes (X.tr pn xe) W' → PassesOwn (model X.prog X.w) X.A X.env xe → PSs (X.tr pn xe) body t) ∧
      ∀ (S : S3) (H : Hp) (k : Int) (D : Ends), S.In H k → Wp (g S.Δ k) (S.fin (RXW X.mg W') H D) no3 → t D S.σ H := fun W' => by
    obtain ⟨t, p, q⟩ := uniS (ι := { z : List (Addr × Obj) × (Value → Shared → Prop) // Takes (X.tr z.1 z.2) W' ∧ PassesOwn (model X.prog X.w) X.A X.env z.2 }) (Xs := fun z => X.tr z.1.1 z.1.2) (fun z => hb W' z.1.1 z.1.2 z.2.1 z.2.2)
    exact ⟨t, fun pn xe a b => p ⟨(pn, xe), a, b⟩, q⟩
  refine ⟨_, ps_try_as hs hfr hN hi hln ⟨hg, hdb, .inl gC⟩ tk (tb := fun W' => (hu W').choose) (fun W' pn xe a b => (hu W').choose_spec.1 pn xe a b) ps, fun S H k D iN w => ?_⟩
  refine (hu _).choose_spec.2 S H k D iN (w.bd.mono (fun r k' _ z => ?_) fun _ _ _ z => z)
  cases r with
  | nx Δ' => exact z
  | rt d => exact z
  | bk Δ' => exact z
  | ct Δ' => exact z
  | xx x Δ' =>
    intro M' H' σ' i1 st1 cls d hx
    have z' : Wp ((if x.c = c ∧ i < Δ'.length then bd (h x (Δ'.set i none)) fun r => rt (offE i r) else fl) k') (S.fin R H D) no3 := z
    split at z'
    · rename_i hci
      obtain ⟨hc, hil⟩ := hci
      obtain ⟨C', g1, g2⟩ := hx.1
      rw [hc, gC] at g1
      cases g1
      subst g2
      refine ⟨true, te, fun _ a ha => ?_, fun q => Bool.noConfusion q⟩
      have hlen : i < σ'.length := by rw [i1.len]; exact hil
      refine qs ⟨S.H0, S.M0, S.sp, M', σ'.set i (some (.ref a)), Δ'.set i none⟩ H' k' _ x a (.ref C) d (i1.drop i _) ⟨hc, fun j hj => ?_, hx⟩ ?_
      · cases hj
        exact List.getElem?_set_self hlen
      · refine z'.bd.mono (fun r k2 _ z2 => ?_) fun _ _ _ z => z
        cases r with
        | nx Δ2 => exact fun M2 H2 σ2 i2 st2 => z2 M2 H2 _ (i2.drop i _) (st1.trans st2)
        | bk Δ2 => exact fun M2 H2 σ2 i2 st2 => z2 M2 H2 _ (i2.drop i _) (st1.trans st2)
        | ct Δ2 => exact fun M2 H2 σ2 i2 st2 => z2 M2 H2 _ (i2.drop i _) (st1.trans st2)
        | rt d2 => exact fun v M2 H2 σ2 Δ2 i2 st2 r2 => z2 v M2 H2 σ2 Δ2 i2 (st1.trans st2) r2
        | xx x2 Δ2 => exact fun M2 H2 σ2 i2 st2 => z2 M2 H2 σ2 i2 (st1.trans st2)
    · exact z'.elim
end
end L3

set_option Elab.async false
set_option linter.all false
set_option maxRecDepth 100000
set_option maxHeartbeats 4000000
namespace L3
open PySem PySem.Spec PyProof.Rows L2
section
variable {X : Cx} {W : WX}
theorem pmk_own0 {C : Addr} {bmB : List Value} {B newId initId : String} {x : Str} {p pos : Pos} (F : ExcBaseFacts B newId initId bmB) (q : PySem.W.excIn X.K C bmB newId = true) (gC : X.mg x = some (.ref C))
    (kC : PySem.W.keepIn X.K (.ref C) = true) (r : Raises X (.ref C)) (hg : Gl X x) (hdb : (x == ("__debug__" : Str)) = false := by decide) :
    PMk X (.Call (.Name x p) [] [] pos) (fun _ H Q => Q (.ref C) none H) := by
  intro pins s σ H Q I h
  refine wpAny_Call_Name_kw (ld_glob I hg gC ?_ hdb)
  refine PySem.W.callWith_K0 I.kIn kC ?_
  show wpAny _ _ (call (.ref C) []) _ _ _
  obtain ⟨bm, N, nm, qn, bs, hdct, sn, sub, ab, col, dd, k0, k1, k2, k3, k5, mN, hC, hN, hni, T⟩ := exc_obj I.kIn q
  refine wpAny_call_exc_subT F T hC hN hni (fun h' e hm => ?_) (Nat.zero_le _)
  exact mk_of I hm r h (I.hok.gone hm.new)
/-- what the written part says of an own error without a field -/
structure BareC (K : PySem.W.Frag) (mg : Str → Option Value) (c : Str) (C : Addr) : Prop where
  gC : mg c = some (.ref C)
  q : PySem.W.excIn K C [.type "Exception", .type "BaseException", .type "object"] "Exception.__new__" = true
  kC : PySem.W.keepIn K (.ref C) = true
  bC : PySem.W.subIn K (.ref C) (.type "BaseException") = some true
  tC : PySem.W.typeIn K (.ref C) = some (.type "type")
  te : PySem.W.exmOne K (.ref C) (.ref C) = some true
theorem ds_raise0 {c : Str} {C : Addr} {p pos pos' : Pos} (T : BareC X.K X.mg c C) (tk : Takes X W) (hc : X.calm = true := by rfl) (hg : Gl X c := by rfl) (hdb : (c == ("__debug__" : Str)) = false := by decide)
    (hf : fldOf c = none := by rfl) : DS X (RXW X.mg W) (.Raise (some (.Call (.Name c p) [] [] pos)) none pos') (rs c (cs .none)) := by
  refine ⟨_, ps_raise hc tk (pmk_own0 PySem.F.excBase_Exception T.q T.gC T.kC (raises_own T.bC T.tC) hg hdb), fun S H k D i w => ?_⟩
  have w1 : ∀ M' H' σ', ER S.H0 S.M0 S.sp M' H' σ' S.Δ k → St3 S.M H M' H' → RXW X.mg W ⟨c, .none⟩ M' σ' H' := w
  have key : ∀ f, fldOf c = some f → ∃ dd v, (none : Option Addr) = some dd ∧ H dd = some (.xd [(f, v)]) ∧ Rp S.M H v (Exn.mk c .none).d := fun f hf' => by
    rw [hf] at hf'
    cases hf'
  exact w1 S.M H S.σ i (St3.refl _ _) (.ref C) none ⟨⟨C, T.gC, rfl⟩, key, fun _ => rfl⟩
end
end L3

set_option Elab.async false
set_option linter.all false
set_option maxRecDepth 100000
set_option maxHeartbeats 4000000
namespace PySem
namespace HandEX
open Builtin Builtin.ObjectAttr PySem.W PySem.HandSPX PySem.Calls PyProof.Rows
section
variable {pr : Program} {wd : World} {Ar : Around} {Er : Value → Shared → Prop} {Re : Result → Shared → Prop} {h0 : Heap} {gs : Array GenState} {dr : Drawn} {tt : Nat} {oo : OsState} {Mo : Model}
variable {cn cq : Str} {C cN : Addr} {cbs bm bB : List Value} {chd : Bool} {csn : List Str} {csub : List Value} {cab : Bool} {ccol : Option Bool} {cdd : Option Addr} {c0 c1 c2 c3 c5 : Option Value} {B ni ii : String}
theorem kw_check (F : ExcBaseFacts B ni ii bB) (hT : ∀ z : String, bm.contains (.type z) = bB.contains (.type z)) {fl : Str} {v : Value} {Q : Unit → Shared → Prop}
    (gC : h0.get? C = some (excClassObj cn cq C cN cbs bm chd csn csub cab ccol cdd c0 c1 c2 c3 c5 ni)) (done : Q () ⟨h0, gs, dr, tt, oo⟩) : wpAny Mo Ar (checkBuiltinCall ni ⟨[.ref C], [(fl, v)]⟩) Q Er ⟨h0, gs, dr, tt, oo⟩ := by
  have mem : (Value.ref C :: bm).contains (.type B) = true := by
    rw [List.contains_cons, hT, F.hasB]
    exact Bool.or_true _
  have star := F.noStar
  simp only [checkBuiltinCall, F.newKind, F.newSplit, F.newRow]
  repeat (first | refine wpAny_loadPart_at gC ?_ | (refine wpAny_isSubtype_exc gC ?_; rw [mem]) | refine wpAny_staticBase_exc gC ?_ | refine wpAny_madeBy_exc gC ?_ | simp only [bne_self_eq_false, Bool.false_eq_true, if_false] | wp_step)
  exact done
end
section
variable {pr : Program} {wd : World} {Ar : Around} {Er : Value → Shared → Prop} {Re : Result → Shared → Prop} {h0 : Heap} {gs : Array GenState} {dr : Drawn} {tt : Nat} {oo : OsState}
variable {cn cq : Str} {C cN : Addr} {cbs bm bB : List Value} {chd : Bool} {csn : List Str} {csub : List Value} {cab : Bool} {ccol : Option Bool} {cdd : Option Addr} {c0 c1 c2 c3 c5 : Option Value} {B ni ii : String}
/-- the heap with a new error of no arguments -/
def newE (h0 : Heap) (C : Addr) : Heap := (h0.push (W.kdv_tup [])).push (excO C h0.objs.size)
theorem newE_keep {h0 : Heap} {C : Addr} {b : Addr} {o : Obj} (e : h0.get? b = some o) : (newE h0 C).get? b = some o := Heap.get?_push_of_some _ (Heap.get?_push_of_some _ e)
theorem kw_new (F : ExcBaseFacts B ni ii bB) (hT : ∀ z : String, bm.contains (.type z) = bB.contains (.type z)) {fl : Str} {v : Value}
    (gC : h0.get? C = some (excClassObj cn cq C cN cbs bm chd csn csub cab ccol cdd c0 c1 c2 c3 c5 ni)) (done : Re (.ok (.ret (.ref (h0.objs.size + 1)))) ⟨newE h0 C, gs, dr, tt, oo⟩) :
    codeAny (model pr wd) Ar (.builtin ni ⟨[.ref C], [(fl, v)]⟩) Re ⟨h0, gs, dr, tt, oo⟩ := by
  have ends := F.ends
  have m1 : (Value.ref C :: bm).contains (.type B) = true := by
    rw [List.contains_cons, hT, F.hasB]
    exact Bool.or_true _
  have m2 : (Value.ref C :: bm).contains (.type "AttributeError") = false := by
    rw [List.contains_cons, hT, F.noAttr]
    rfl
  have m3 : (Value.ref C :: bm).contains (.type "NameError") = false := by
    rw [List.contains_cons, hT, F.noName]
    rfl
  refine codeAny_builtinAt F.entry ?_
  unfold Builtin.«BaseException.__new__»
  refine wpAt_bind ?_
  show wpAt _ _ _ (stack >>= _) _ _ _
  refine wpAt_bind (wpAt_stack fun _ _ => wpAt_of_wpAny ?_)
  wp_walk
  refine wpAt_of_wpAny ?_
  rw [F.owner]
  repeat (first | with_reducible refine wpAny_madeHere_exc F.canon gC ?_ | with_reducible refine wpAny_loadPart_at gC ?_ | (with_reducible refine wpAny_isSubtype_exc gC ?_; first | rw [m1] | rw [m2] | rw [m3]) | wp_step)
  show Re _ _
  rw [Heap.size_push]
  exact done
theorem kw_tcall (F : ExcBaseFacts B ni ii bB) (hT : ∀ z : String, bm.contains (.type z) = bB.contains (.type z)) {fl : Str} {v : Value} {fI : Addr} {Q : Fin → Shared → Prop}
    (gC : h0.get? C = some (excClassObj cn cq C cN cbs bm chd csn csub cab ccol cdd c0 c1 c2 c3 c5 ni))
    (li : W.Looks (model pr wd) h0 (typeLookup (.ref C) "__init__") (some (.ref fI))) (lb : ∀ self, W.Looks (model pr wd) h0 (bindSpecial (.ref fI) self) (.ref fI, [self]))
    (done : codeAny (model pr wd) Ar (.call (.ref fI) ⟨[.ref (h0.objs.size + 1)], [(fl, v)]⟩)
      (fun r z => match r with | .ok (.ret u) => u = .none ∧ Q (.done (.ret (.ref (h0.objs.size + 1)))) z | .ok _ => False | .error e => Er e z) ⟨newE h0 C, gs, dr, tt, oo⟩) :
    wpAny (model pr wd) Ar (Builtin.«type.__call__» ⟨[.ref C], [(fl, v)]⟩) Q Er ⟨h0, gs, dr, tt, oo⟩ := by
  repeat (first | with_reducible refine wpAny_loadPart_at gC ?_ | with_reducible refine wpAny_madeBy_exc gC ?_ | wp_step)
  refine codeAny_call_builtin_code (Code.quiet_builtin _ F.quiet) (kw_check F hT gC ?_)
  refine kw_new F hT gC ?_
  show wpAny _ _ _ _ _ _
  have gC2 := newE_keep (C := C) gC
  have gE : (newE h0 C).get? (h0.objs.size + 1) = some (excO C h0.objs.size) := by
    unfold newE
    heap_get
  have own : (Value.ref C :: bm).contains (.ref C) = true := by simp
  have li2 := li.keeps fun b o e => newE_keep (C := C) e
  have lb2 := (lb (.ref (h0.objs.size + 1))).keeps fun b o e => newE_keep (C := C) e
  unfold isInstance
  repeat (first | with_reducible refine wpAny_loadPart_at gE ?_ | (with_reducible refine wpAny_isSubtype_exc gC2 ?_; rw [own]) | wp_step)
  show wpAny _ _ (typeLookup (.ref C) _) _ _ _
  refine li2.at ?_
  refine wpAny_holding (wpAny_bind (lb2.at ?_))
  refine wpAny_bind (wpAny_call (codeAny_mono done fun r z hz => ?_))
  rcases r with e | (u | _ | _ | _) <;> first | exact hz | exact hz.elim | skip
  obtain ⟨rfl, hz⟩ := hz
  first
    | exact wpAny_pure (wpAny_pure hz)
    | (wp_walk; exact hz)
theorem kw_call (F : ExcBaseFacts B ni ii bB) (hT : ∀ z : String, bm.contains (.type z) = bB.contains (.type z)) {fl : Str} {v : Value} {fI : Addr}
    (gC : h0.get? C = some (excClassObj cn cq C cN cbs bm chd csn csub cab ccol cdd c0 c1 c2 c3 c5 ni))
    (li : W.Looks (model pr wd) h0 (typeLookup (.ref C) "__init__") (some (.ref fI))) (lb : ∀ self, W.Looks (model pr wd) h0 (bindSpecial (.ref fI) self) (.ref fI, [self]))
    (done : codeAny (model pr wd) (Ar.under (.builtin "type.__call__" ⟨[.ref C], [(fl, v)]⟩)) (.call (.ref fI) ⟨[.ref (h0.objs.size + 1)], [(fl, v)]⟩) (W.InitBack (h0.objs.size + 1) Re) ⟨newE h0 C, gs, dr, tt, oo⟩) :
    codeAny (model pr wd) Ar (.call (.ref C) ⟨[], [(fl, v)]⟩) Re ⟨h0, gs, dr, tt, oo⟩ := by
  have f1 := tc_lookup
  have f2 := tc_bind (.ref C)
  have ty : (⟨h0, gs, dr, tt, oo⟩ : Shared).TypeIs (.ref C) "type" := ⟨_, gC, rfl⟩
  refine codeAny_of_tree ?_
  show wpAny _ _ (callAny (.ref C) _) _ _ _
  repeat (any_goals (first | assumption | with_reducible refine wpAny_loadPart_at gC ?_ | wp_step))
  refine ⟨rfl, ?_⟩
  refine codeAny_call_builtin_at (Code.quiet_builtin _ (by decide +kernel)) entry_typeCall (wpAny_check_type_call_sub gC (kw_tcall F hT gC li lb ?_))
  refine codeAny_mono done fun r z hz => ?_
  rcases r with e | (u | _ | _ | _) <;> exact hz
end
end HandEX
end PySem

set_option Elab.async false
set_option linter.all false
set_option maxRecDepth 100000
set_option maxHeartbeats 4000000
namespace L3
open PySem L2
/-- c(e) as a value, its field being fl -/
def exV (C : Addr) (fl : Str) (f : Env3 → MM PyData) : Env3 → MM PyData := fun Δ => bd (f Δ) fun d => rt (exD C fl d)
theorem ex_new {S : S3} {H H1 : Hp} {k1 : Int} {v : V} {d : PyData} {C dd e : Addr} {fl : Str} {Q : VK} {Z : Exn → Int → Prop} (i1 : S.In H1 k1) (e1 : Ex S.sp H H1) (r1 : Rp S.M H1 v d) (hd : H1 dd = none) (he : H1 e = none) (hne : e ≠ dd)
    (w1 : Wp (rt (exD C fl d) k1) (S.ok (P3 S) H Q) Z) : Q (.ref e) (upd (upd H1 dd (.xd [(fl, v)])) e (ExH C e (some dd))) := by
  have he2 : upd H1 dd (.xd [(fl, v)]) e = none := by
    rw [upd_ne hne]
    exact he
  have e2 : Ex S.sp H1 (upd H1 dd (.xd [(fl, v)])) := Ex.new hd
  have e3 : Ex S.sp (upd H1 dd (.xd [(fl, v)])) (upd (upd H1 dd (.xd [(fl, v)])) e (ExH C e (some dd))) := Ex.new he2
  have i2 := ER.new i1 hd (o := .xd [(fl, v)])
  have i3 : S.In _ k1 := ER.new i2 he2 (o := ExH C e (some dd))
  refine w1 (.ref e) _ i3 (e1.trans (e2.trans e3)) (Rp.exc upd_same ?_ (ER.fresh i1 he) (ER.fresh i1 hd) (ER.rp i1 (e2.trans e3) r1))
  rw [upd_ne (Ne.symm hne)]
  exact upd_same
end L3
namespace PySem
namespace LowAt
open PySem.W PySem.Calls PyProof.Rows PySem.HandSPX
section
variable {prog : Program} {w : World} {A : Around} {E : Value → Shared → Prop} {R : Result → Shared → Prop} {s : Shared} {K : Frag} {mg : Str → Option Value} {c q0 : Str} {C fI : Addr}
theorem kw_init (T : LowTxt K mg c q0 C fI) {x t0 : Addr} {v : Value} (X : K.In s.heap) (nolim : s.heap.NoLimit) (hx : s.heap.get? x = some (excO C t0)) (room : A.depth < recursionLimit)
    (hq : ∀ h' tk dx, InitEnd s.heap h' x C dx t0 v → R (.ok (.ret .none)) { s with heap := h', toks := tk }) :
    codeAny (model prog w) A (.call (.ref fI) ⟨[.ref x], [("at", v)]⟩) R s := by
  obtain ⟨oc, od, doc, pm, an, cdv, ct, osl, p1, p2, q1, q2, q3, q4, ho, hcd⟩ := T.fn
  obtain ⟨nm, q, N, bs, bm, sn, sub, ab, col, dd, k0, k1, k2, k3, k5, hC, hbm⟩ := T.cls
  have hcl : clsIn K C = some { name := nm, bases := bs, mro := .ref C :: bm, ns := N, qualname := q, hasDict := true, slotNames := sn, subclasses := sub, abstract := ab, collection := col, hasDel := false } := by
    unfold clsIn
    rw [hC] <;> rfl
  refine Att.call_fn (binds := [("self", .ref x), ("at", v)]) X nolim ho hcd room (BindsTo.of_eq (by first | rfl | with_unfolding_all rfl)) (by first | rfl | decide | with_unfolding_all rfl) (fun s₁ IC => ?_) rfl rfl rfl
  obtain ⟨h₁, tk₁, rfl⟩ := IC.toInCall.same
  have keep := IC.toInCall.keep
  have ns1 := IC.toInCall.ns
  have X₁ : K.In h₁ := X.keeps keep
  have hx₁ := keep _ _ hx
  show wpAny _ _ (execs _ _) _ _ _
  refine wpAny_execs_cons (plainObj_wpAny_Assign_Attribute ?_)
  refine ldC (v := v) ns1 (by first | rfl | with_unfolding_all rfl | kernel_rfl) (ldC (v := .ref x) ns1 (by first | rfl | with_unfolding_all rfl | kernel_rfl) ?_)
  refine set_plain X₁ (ox := excO C t0) (od := none) ⟨hx₁, rfl, rfl, trivial⟩ T.sa ?_
  refine HandEX.exc_put X₁ hx₁ hcl hbm T.noN (fun h₃ tk₃ dx k₃ dn dne hx₃ hn₃ => ?_)
  show wpAny _ _ (execs _ _) _ _ _
  have sz : s.heap.objs.size < h₁.objs.size := ns1.lt
  exact wpAny_execs_nil (hq h₃ tk₃ dx ⟨fun b o hb e => k₃ b o hb (keep b o e), hx₃, Nat.le_of_lt (Nat.lt_of_lt_of_le sz dn), dne, hn₃⟩)
theorem kw_made (T : LowTxt K mg c q0 C fI) {v : Value} (X : K.In s.heap) (nolim : s.heap.NoLimit) (room : A.depth + 1 < recursionLimit)
    (hq : ∀ h' tk e d, OwnMade s.heap h' e C d v → R (.ok (.ret (.ref e))) { s with heap := h', toks := tk }) :
    codeAny (model prog w) A (.call (.ref C) ⟨[], [("at", v)]⟩) R s := by
  obtain ⟨nm, q, N, bs, bm, sn, sub, ab, col, dd, k0, k1, k2, k3, k5, hC, hbm⟩ := T.cls
  obtain ⟨hp, g, dr, tk, os⟩ := s
  have gE : (HandEX.newE hp C).get? (hp.objs.size + 1) = some (excO C hp.objs.size) := by
    unfold HandEX.newE
    heap_get
  refine HandEX.kw_call F.excBase_Exception (fun z => excTail_contains z bm hbm) (X _ _ hC) (looks_findIn X T.iC) (fun self => bind_fn X self T.tC) ?_
  refine kw_init (s := ⟨HandEX.newE hp C, g, dr, tk, os⟩) T (X.keeps fun b o e => HandEX.newE_keep e) (nolim.keeps fun b o e => HandEX.newE_keep e) gE ?_ fun h' tk' dx ⟨k', hx, dn, dne, hns⟩ => ?_
  · show A.depth + 1 < recursionLimit
    exact room
  · have old : ∀ b o, hp.get? b = some o → h'.get? b = some o := fun b o e => k' b o (Nat.ne_of_lt (Nat.lt_succ_of_lt (Heap.lt_size e))) (HandEX.newE_keep e)
    have z : hp.objs.size + 1 + 1 ≤ dx := by
      have q := dn
      unfold HandEX.newE at q
      first
        | exact q
        | (rw [Heap.size_push, Heap.size_push] at q; exact q)
    exact ⟨rfl, hq h' tk' (hp.objs.size + 1) dx ⟨old, Nat.le_succ _, ⟨_, _, hx, rfl, rfl, rfl, rfl⟩, Nat.le_trans (Nat.le_trans (Nat.le_succ _) (Nat.le_succ _)) z, dne, hns⟩⟩
end
end LowAt
end PySem
namespace L3
open PySem PySem.Spec PyProof.Rows L2
section
variable {X : Cx} {R : RX} {c q0 : Str} {C fI : Addr} {pins : List (Addr × Obj)} {σ : L2.St} {H : Hp} {k : Nat} {p pos : Pos} {a : Expr} {f : Env3 → MM PyData}
/-- what is made is held -/
theorem laid_LowAt {v : V} {u : Value} {hp h' : Heap} {gs : Array GenState} {dr : Drawn} {tk tk' : Nat} {os : OsState} {e d : Addr} {Q : VK} (I : Inv X pins σ H ⟨hp, gs, dr, tk, os⟩) (ru : RelV v u) (Md : PySem.LowAt.OwnMade hp h' e C d u)
    (q : ∀ d e, H d = none → H e = none → e ≠ d → Q (.ref e) (upd (upd H d (.xd [(("at" : Str), v)])) e (ExH C e (some d)))) : EP X pins σ Q (.ref e) ⟨h', gs, dr, tk', os⟩ := by
  obtain ⟨oe, fv, hoe, hc, hd, hdat, _⟩ := Md.obj
  have hns := Md.ns
  have fd := I.hok.fresh Md.dbig
  have fe := I.hok.fresh Md.new
  obtain ⟨G, g1, g2⟩ := restrict h' fun b => decide (b ≠ e)
  have ge : G.get? e = none := g2 e (by simp)
  have gk : ∀ b, b ≠ e → G.get? b = h'.get? b := fun b z => g1 b (decide_eq_true z)
  have gh : ∀ b o, G.get? b = some o → h'.get? b = some o := fun b o z => by
    by_cases y : b = e
    · rw [y, ge] at z; cases z
    · rwa [gk b y] at z
  have old : ∀ b o, hp.get? b = some o → G.get? b = some o := fun b o z => (gk b (Nat.ne_of_lt (Nat.lt_of_lt_of_le (Heap.lt_size z) Md.new))).trans (Md.keep b o z)
  have b1 : ObjOk X.prog X.w (upd H d (.xd [(("at" : Str), v)])) G d (.xd [(("at" : Str), v)]) := ⟨_, hns.at (fun o z => (gk d Md.dne).trans z), fun g => relO_LowAt ru g⟩
  have J1 : Inv X pins σ (upd H d (.xd [(("at" : Str), v)])) ⟨G, gs, dr, tk', os⟩ := I.laid (t' := tk') old Md.dbig b1
  have fe2 : upd H d (.xd [(("at" : Str), v)]) e = none := by
    rw [upd_ne (Ne.symm Md.dne)]
    exact fe
  have b2 : ObjOk X.prog X.w (upd (upd H d (.xd [(("at" : Str), v)])) e (ExH C e (some d))) h' e (ExH C e (some d)) :=
    ⟨⟨oe, fv, hoe, hc, hd, hdat⟩, ⟨oe, hoe⟩, fun _ _ ⟨o, vs, z, r⟩ kk => ⟨o, vs, kk o z, r⟩⟩
  exact ⟨.ref e, _, Inv.laidN (t' := tk') J1 gh ge fe2 b2, rfl, q d e fd fe (Ne.symm Md.dne)⟩
/-- what the run of a new error asks -/
def tNewLowAt (C : Addr) (ta : TA) : TE := fun σ H Q => ta σ H fun vs H1 => ∃ v, vs = [v] ∧ ∀ d e, H1 d = none → H1 e = none → e ≠ d → Q (.ref e) (upd (upd H1 d (.xd [(("at" : Str), v)])) e (ExH C e (some d)))
theorem pe_newLowAt {ta : TA} (T : PySem.LowAt.LowTxt X.K X.mg c q0 C fI) (hr : Room k X.A) (ha : PA X [a] ta) (hg : Gl X c := by rfl) (hdb : (c == ("__debug__" : Str)) = false := by decide)
    (he : starEach (a :: []) X.env = (false, eval a X.env) :: starEach [] X.env := by rfl) (hpl : (backTo pos (starEach [] X.env)).any (·.1) = false := by rfl) : PE X (.Call (.Name c p) [a] [] pos) (tNewLowAt C ta) := by
  refine ⟨fun pins s σ H Q I h => ?_⟩
  refine wpAny_Call_Name_kw (ld_glob I hg T.gC ?_ hdb)
  refine PySem.W.callWith_K (h₀ := X.base) I.ok.mod.kin T.kC (thn (ha.run pos pins s σ H _ I h) fun us s1 hh => ?_) he hpl
  obtain ⟨vs, H1, I1, r1, v, ev, q1⟩ := hh
  subst ev
  refine ⟨I1.kIn, ?_⟩
  cases r1 with
  | cons rv rn =>
    cases rn
    have nolim := I1.nolimit
    obtain ⟨hp, g, dr, tk, os⟩ := s1
    exact wpAny_call (PySem.LowAt.low_made T I1.kIn nolim (by have := hr.dp; omega) fun h' tk' e d M => laid_LowAt I1 rv M q1)
theorem pe_newkwLowAt {ta : TA} {kws : List Keyword} (T : PySem.LowAt.LowTxt X.K X.mg c q0 C fI) (hr : Room k X.A) (ha : PK X kws ta) (hg : Gl X c := by rfl) (hdb : (c == ("__debug__" : Str)) = false := by decide)
    (hall : (backToKw pos (keywordEach kws X.env)).all (·.1.isSome) = true := by rfl) (hks : (backToKw pos (keywordEach kws X.env)).filterMap (·.1) = [("at" : Str)] := by rfl)
    (hpl : ((backTo pos (starEach [] X.env)).any (·.1) || (backToKw pos (keywordEach kws X.env)).any (·.1.isNone)) = false := by rfl) : PE X (.Call (.Name c p) [] kws pos) (tNewLowAt C ta) := by
  refine ⟨fun pins s σ H Q I h => ?_⟩
  refine wpAny_Call_Name_kw (ld_glob I hg T.gC ?_ hdb)
  refine PySem.W.callWith_KW0 (h₀ := X.base) I.ok.mod.kin T.kC hall (thn (ha.run pos pins s σ H _ I h) fun us s1 hh => ?_) hpl
  obtain ⟨vs, H1, I1, r1, v, ev, q1⟩ := hh
  subst ev
  refine ⟨I1.kIn, ?_⟩
  cases r1 with
  | cons rv rn =>
    cases rn
    rw [hks]
    have nolim := I1.nolimit
    obtain ⟨hp, g, dr, tk, os⟩ := s1
    exact wpAny_call (PySem.LowAt.kw_made T I1.kIn nolim (by have := hr.dp; omega) fun h' tk' e d M => laid_LowAt I1 rv M q1)
/-- c(e) -/
theorem de_newLowAt (T : PySem.LowAt.LowTxt X.K X.mg c q0 C fI) (hr : Room k X.A) (ha : DE X R a f) (hg : Gl X c := by rfl) (hdb : (c == ("__debug__" : Str)) = false := by decide)
    (he : starEach (a :: []) X.env = (false, eval a X.env) :: starEach [] X.env := by rfl) (hpl : (backTo pos (starEach [] X.env)).any (·.1) = false := by rfl) : DE X R (.Call (.Name c p) [a] [] pos) (exV C "at" f) := by
  obtain ⟨t, pe, q⟩ := ha
  refine ⟨_, pe_newLowAt T hr (pa_cons pe pa_nil he) hg hdb he hpl, fun S H k Q i w => q S H k _ i (w.bd.mono (fun d k1 _ w1 v H1 i1 e1 r1 => ⟨v, rfl, fun dd e hd he hne => ?_⟩) fun _ _ _ z => z)⟩
  exact ex_new i1 e1 r1 hd he hne w1
theorem de_newkwLowAt {kpos : Pos} (T : PySem.LowAt.LowTxt X.K X.mg c q0 C fI) (hr : Room k X.A) (ha : DE X R a f) (hg : Gl X c := by rfl) (hdb : (c == ("__debug__" : Str)) = false := by decide)
    (hall : (backToKw pos (keywordEach [⟨some "at", a, kpos⟩] X.env)).all (·.1.isSome) = true := by rfl) (hks : (backToKw pos (keywordEach [⟨some "at", a, kpos⟩] X.env)).filterMap (·.1) = [("at" : Str)] := by rfl)
    (hpl : ((backTo pos (starEach [] X.env)).any (·.1) || (backToKw pos (keywordEach [⟨some "at", a, kpos⟩] X.env)).any (·.1.isNone)) = false := by rfl) : DE X R (.Call (.Name c p) [] [⟨some "at", a, kpos⟩] pos) (exV C "at" f) := by
  obtain ⟨t, pe, q⟩ := ha
  refine ⟨_, pe_newkwLowAt T hr (pk_cons pe pk_nil) hg hdb hall hks hpl, fun S H k Q i w => q S H k _ i (w.bd.mono (fun d k1 _ w1 v H1 i1 e1 r1 => ⟨v, rfl, fun dd e hd he hne => ?_⟩) fun _ _ _ z => z)⟩
  exact ex_new i1 e1 r1 hd he hne w1
end
end L3
namespace PySem
namespace LowWord
open PySem.W PySem.Calls PyProof.Rows PySem.HandSPX
section
variable {prog : Program} {w : World} {A : Around} {E : Value → Shared → Prop} {R : Result → Shared → Prop} {s : Shared} {K : Frag} {mg : Str → Option Value} {c q0 : Str} {C fI : Addr}
theorem kw_init (T : LowTxt K mg c q0 C fI) {x t0 : Addr} {v : Value} (X : K.In s.heap) (nolim : s.heap.NoLimit) (hx : s.heap.get? x = some (excO C t0)) (room : A.depth < recursionLimit)
    (hq : ∀ h' tk dx, InitEnd s.heap h' x C dx t0 v → R (.ok (.ret .none)) { s with heap := h', toks := tk }) :
    codeAny (model prog w) A (.call (.ref fI) ⟨[.ref x], [("word", v)]⟩) R s := by
  obtain ⟨oc, od, doc, pm, an, cdv, ct, osl, p1, p2, q1, q2, q3, q4, ho, hcd⟩ := T.fn
  obtain ⟨nm, q, N, bs, bm, sn, sub, ab, col, dd, k0, k1, k2, k3, k5, hC, hbm⟩ := T.cls
  have hcl : clsIn K C = some { name := nm, bases := bs, mro := .ref C :: bm, ns := N, qualname := q, hasDict := true, slotNames := sn, subclasses := sub, abstract := ab, collection := col, hasDel := false } := by
    unfold clsIn
    rw [hC] <;> rfl
  refine Att.call_fn (binds := [("self", .ref x), ("word", v)]) X nolim ho hcd room (BindsTo.of_eq (by first | rfl | with_unfolding_all rfl)) (by first | rfl | decide | with_unfolding_all rfl) (fun s₁ IC => ?_) rfl rfl rfl
  obtain ⟨h₁, tk₁, rfl⟩ := IC.toInCall.same
  have keep := IC.toInCall.keep
  have ns1 := IC.toInCall.ns
  have X₁ : K.In h₁ := X.keeps keep
  have hx₁ := keep _ _ hx
  show wpAny _ _ (execs _ _) _ _ _
  refine wpAny_execs_cons (plainObj_wpAny_Assign_Attribute ?_)
  refine ldC (v := v) ns1 (by first | rfl | with_unfolding_all rfl | kernel_rfl) (ldC (v := .ref x) ns1 (by first | rfl | with_unfolding_all rfl | kernel_rfl) ?_)
  refine set_plain X₁ (ox := excO C t0) (od := none) ⟨hx₁, rfl, rfl, trivial⟩ T.sa ?_
  refine HandEX.exc_put X₁ hx₁ hcl hbm T.noN (fun h₃ tk₃ dx k₃ dn dne hx₃ hn₃ => ?_)
  show wpAny _ _ (execs _ _) _ _ _
  have sz : s.heap.objs.size < h₁.objs.size := ns1.lt
  exact wpAny_execs_nil (hq h₃ tk₃ dx ⟨fun b o hb e => k₃ b o hb (keep b o e), hx₃, Nat.le_of_lt (Nat.lt_of_lt_of_le sz dn), dne, hn₃⟩)
theorem kw_made (T : LowTxt K mg c q0 C fI) {v : Value} (X : K.In s.heap) (nolim : s.heap.NoLimit) (room : A.depth + 1 < recursionLimit)
    (hq : ∀ h' tk e d, OwnMade s.heap h' e C d v → R (.ok (.ret (.ref e))) { s with heap := h', toks := tk }) :
    codeAny (model prog w) A (.call (.ref C) ⟨[], [("word", v)]⟩) R s := by
  obtain ⟨nm, q, N, bs, bm, sn, sub, ab, col, dd, k0, k1, k2, k3, k5, hC, hbm⟩ := T.cls
  obtain ⟨hp, g, dr, tk, os⟩ := s
  have gE : (HandEX.newE hp C).get? (hp.objs.size + 1) = some (excO C hp.objs.size) := by
    unfold HandEX.newE
    heap_get
  refine HandEX.kw_call F.excBase_Exception (fun z => excTail_contains z bm hbm) (X _ _ hC) (looks_findIn X T.iC) (fun self => bind_fn X self T.tC) ?_
  refine kw_init (s := ⟨HandEX.newE hp C, g, dr, tk, os⟩) T (X.keeps fun b o e => HandEX.newE_keep e) (nolim.keeps fun b o e => HandEX.newE_keep e) gE ?_ fun h' tk' dx ⟨k', hx, dn, dne, hns⟩ => ?_
  · show A.depth + 1 < recursionLimit
    exact room
  · have old : ∀ b o, hp.get? b = some o → h'.get? b = some o := fun b o e => k' b o (Nat.ne_of_lt (Nat.lt_succ_of_lt (Heap.lt_size e))) (HandEX.newE_keep e)
    have z : hp.objs.size + 1 + 1 ≤ dx := by
      have q := dn
      unfold HandEX.newE at q
      first
        | exact q
        | (rw [Heap.size_push, Heap.size_push] at q; exact q)
    exact ⟨rfl, hq h' tk' (hp.objs.size + 1) dx ⟨old, Nat.le_succ _, ⟨_, _, hx, rfl, rfl, rfl, rfl⟩, Nat.le_trans (Nat.le_trans (Nat.le_succ _) (Nat.le_succ _)) z, dne, hns⟩⟩
end
end LowWord
end PySem
namespace L3
open PySem PySem.Spec PyProof.Rows L2
section
variable {X : Cx} {R : RX} {c q0 : Str} {C fI : Addr} {pins : List (Addr × Obj)} {σ : L2.St} {H : Hp} {k : Nat} {p pos : Pos} {a : Expr} {f : Env3 → MM PyData}
/-- what is made is held -/
theorem laid_LowWord {v : V} {u : Value} {hp h' : Heap} {gs : Array GenState} {dr : Drawn} {tk tk' : Nat} {os : OsState} {e d : Addr} {Q : VK} (I : Inv X pins σ H ⟨hp, gs, dr, tk, os⟩) (ru : RelV v u) (Md : PySem.LowWord.OwnMade hp h' e C d u)
    (q : ∀ d e, H d = none → H e = none → e ≠ d → Q (.ref e) (upd (upd H d (.xd [(("word" : Str), v)])) e (ExH C e (some d)))) : EP X pins σ Q (.ref e) ⟨h', gs, dr, tk', os⟩ := by
  obtain ⟨oe, fv, hoe, hc, hd, hdat, _⟩ := Md.obj
  have hns := Md.ns
  have fd := I.hok.fresh Md.dbig
  have fe := I.hok.fresh Md.new
  obtain ⟨G, g1, g2⟩ := restrict h' fun b => decide (b ≠ e)
  have ge : G.get? e = none := g2 e (by simp)
  have gk : ∀ b, b ≠ e → G.get? b = h'.get? b := fun b z => g1 b (decide_eq_true z)
  have gh : ∀ b o, G.get? b = some o → h'.get? b = some o := fun b o z => by
    by_cases y : b = e
    · rw [y, ge] at z; cases z
    · rwa [gk b y] at z
  have old : ∀ b o, hp.get? b = some o → G.get? b = some o := fun b o z => (gk b (Nat.ne_of_lt (Nat.lt_of_lt_of_le (Heap.lt_size z) Md.new))).trans (Md.keep b o z)
  have b1 : ObjOk X.prog X.w (upd H d (.xd [(("word" : Str), v)])) G d (.xd [(("word" : Str), v)]) := ⟨_, hns.at (fun o z => (gk d Md.dne).trans z), fun g => relO_LowWord ru g⟩
  have J1 : Inv X pins σ (upd H d (.xd [(("word" : Str), v)])) ⟨G, gs, dr, tk', os⟩ := I.laid (t' := tk') old Md.dbig b1
  have fe2 : upd H d (.xd [(("word" : Str), v)]) e = none := by
    rw [upd_ne (Ne.symm Md.dne)]
    exact fe
  have b2 : ObjOk X.prog X.w (upd (upd H d (.xd [(("word" : Str), v)])) e (ExH C e (some d))) h' e (ExH C e (some d)) :=
    ⟨⟨oe, fv, hoe, hc, hd, hdat⟩, ⟨oe, hoe⟩, fun _ _ ⟨o, vs, z, r⟩ kk => ⟨o, vs, kk o z, r⟩⟩
  exact ⟨.ref e, _, Inv.laidN (t' := tk') J1 gh ge fe2 b2, rfl, q d e fd fe (Ne.symm Md.dne)⟩
/-- what the run of a new error asks -/
def tNewLowWord (C : Addr) (ta : TA) : TE := fun σ H Q => ta σ H fun vs H1 => ∃ v, vs = [v] ∧ ∀ d e, H1 d = none → H1 e = none → e ≠ d → Q (.ref e) (upd (upd H1 d (.xd [(("word" : Str), v)])) e (ExH C e (some d)))
theorem pe_newLowWord {ta : TA} (T : PySem.LowWord.LowTxt X.K X.mg c q0 C fI) (hr : Room k X.A) (ha : PA X [a] ta) (hg : Gl X c := by rfl) (hdb : (c == ("__debug__" : Str)) = false := by decide)
    (he : starEach (a :: []) X.env = (false, eval a X.env) :: starEach [] X.env := by rfl) (hpl : (backTo pos (starEach [] X.env)).any (·.1) = false := by rfl) : PE X (.Call (.Name c p) [a] [] pos) (tNewLowWord C ta) := by
  refine ⟨fun pins s σ H Q I h => ?_⟩
  refine wpAny_Call_Name_kw (ld_glob I hg T.gC ?_ hdb)
  refine PySem.W.callWith_K (h₀ := X.base) I.ok.mod.kin T.kC (thn (ha.run pos pins s σ H _ I h) fun us s1 hh => ?_) he hpl
  obtain ⟨vs, H1, I1, r1, v, ev, q1⟩ := hh
  subst ev
  refine ⟨I1.kIn, ?_⟩
  cases r1 with
  | cons rv rn =>
    cases rn
    have nolim := I1.nolimit
    obtain ⟨hp, g, dr, tk, os⟩ := s1
    exact wpAny_call (PySem.LowWord.low_made T I1.kIn nolim (by have := hr.dp; omega) fun h' tk' e d M => laid_LowWord I1 rv M q1)
theorem pe_newkwLowWord {ta : TA} {kws : List Keyword} (T : PySem.LowWord.LowTxt X.K X.mg c q0 C fI) (hr : Room k X.A) (ha : PK X kws ta) (hg : Gl X c := by rfl) (hdb : (c == ("__debug__" : Str)) = false := by decide)
    (hall : (backToKw pos (keywordEach kws X.env)).all (·.1.isSome) = true := by rfl) (hks : (backToKw pos (keywordEach kws X.env)).filterMap (·.1) = [("word" : Str)] := by rfl)
    (hpl : ((backTo pos (starEach [] X.env)).any (·.1) || (backToKw pos (keywordEach kws X.env)).any (·.1.isNone)) = false := by rfl) : PE X (.Call (.Name c p) [] kws pos) (tNewLowWord C ta) := by
  refine ⟨fun pins s σ H Q I h => ?_⟩
  refine wpAny_Call_Name_kw (ld_glob I hg T.gC ?_ hdb)
  refine PySem.W.callWith_KW0 (h₀ := X.base) I.ok.mod.kin T.kC hall (thn (ha.run pos pins s σ H _ I h) fun us s1 hh => ?_) hpl
  obtain ⟨vs, H1, I1, r1, v, ev, q1⟩ := hh
  subst ev
  refine ⟨I1.kIn, ?_⟩
  cases r1 with
  | cons rv rn =>
    cases rn
    rw [hks]
    have nolim := I1.nolimit
    obtain ⟨hp, g, dr, tk, os⟩ := s1
    exact wpAny_call (PySem.LowWord.kw_made T I1.kIn nolim (by have := hr.dp; omega) fun h' tk' e d M => laid_LowWord I1 rv M q1)
/-- c(e) -/
theorem de_newLowWord (T : PySem.LowWord.LowTxt X.K X.mg c q0 C fI) (hr : Room k X.A) (ha : DE X R a f) (hg : Gl X c := by rfl) (hdb : (c == ("__debug__" : Str)) = false := by decide)
    (he : starEach (a :: []) X.env = (false, eval a X.env) :: starEach [] X.env := by rfl) (hpl : (backTo pos (starEach [] X.env)).any (·.1) = false := by rfl) : DE X R (.Call (.Name c p) [a] [] pos) (exV C "word" f) := by
  obtain ⟨t, pe, q⟩ := ha
  refine ⟨_, pe_newLowWord T hr (pa_cons pe pa_nil he) hg hdb he hpl, fun S H k Q i w => q S H k _ i (w.bd.mono (fun d k1 _ w1 v H1 i1 e1 r1 => ⟨v, rfl, fun dd e hd he hne => ?_⟩) fun _ _ _ z => z)⟩
  exact ex_new i1 e1 r1 hd he hne w1
theorem de_newkwLowWord {kpos : Pos} (T : PySem.LowWord.LowTxt X.K X.mg c q0 C fI) (hr : Room k X.A) (ha : DE X R a f) (hg : Gl X c := by rfl) (hdb : (c == ("__debug__" : Str)) = false := by decide)
    (hall : (backToKw pos (keywordEach [⟨some "word", a, kpos⟩] X.env)).all (·.1.isSome) = true := by rfl) (hks : (backToKw pos (keywordEach [⟨some "word", a, kpos⟩] X.env)).filterMap (·.1) = [("word" : Str)] := by rfl)
    (hpl : ((backTo pos (starEach [] X.env)).any (·.1) || (backToKw pos (keywordEach [⟨some "word", a, kpos⟩] X.env)).any (·.1.isNone)) = false := by rfl) : DE X R (.Call (.Name c p) [] [⟨some "word", a, kpos⟩] pos) (exV C "word" f) := by
  obtain ⟨t, pe, q⟩ := ha
  refine ⟨_, pe_newkwLowWord T hr (pk_cons pe pk_nil) hg hdb hall hks hpl, fun S H k Q i w => q S H k _ i (w.bd.mono (fun d k1 _ w1 v H1 i1 e1 r1 => ⟨v, rfl, fun dd e hd he hne => ?_⟩) fun _ _ _ z => z)⟩
  exact ex_new i1 e1 r1 hd he hne w1
end
end L3

set_option Elab.async false
set_option linter.all false
set_option maxRecDepth 100000
set_option maxHeartbeats 4000000
namespace L3
open PySem PySem.Spec PyProof.Rows L2
/-- what the written part says of an own error's class, to read fields of it, and to ask isinstance -/
structure ErrC (K : PySem.W.Frag) (C : Addr) : Prop where
  ga : PySem.W.findIn K (.ref C) "__getattribute__" = some (some (.builtin "BaseException.__getattribute__"))
  gg : PySem.W.findIn K (.ref C) "__getattr__" = some none
  bs : PySem.W.subIn K (.ref C) (.type "BaseException") = some true
  hd : PySem.W.hasDictIn K C = true
  hc : (PySem.W.clsIn K C).isSome = true
  cl : PySem.W.findIn K (.ref C) "__class__" = some (some (.builtin "object.__class__"))
  sp : PySem.W.specialIn K (.builtin "object.__class__") "__get__" = some (some (.builtin "getset_descriptor.__get__"))
  tk : PySem.W.takesIn K (.builtin "object.__class__") = some true
  mo : PySem.W.mroIn K C (.type "object") = some true
section
variable {X : Cx} {R : RX} {pins : List (Addr × Obj)} {σ : L2.St} {H : Hp} {s : Shared} {a C dd : Addr} {f : Str} {v : V}
/-- the object of such a value -/
theorem ex_inst (I : Inv X pins σ H s) (h : H a = some (ExH C a (some dd))) (hd : H dd = some (.xd [(f, v)])) : ∃ oe od, PySem.W.InstAt s.heap a oe C (some od) ∧ ∃ u, PySem.W.lookIn f od = some (some u) ∧ RelV v u := by
  have h1 : ObjOk X.prog X.w H s.heap a (ExH C a (some dd)) := I.hok a _ h
  have h2 : ObjOk X.prog X.w H s.heap dd (.xd [(f, v)]) := I.hok dd _ hd
  obtain ⟨⟨oe, vs, e1, e2, e3, e4⟩, _, _⟩ := h1
  obtain ⟨mA, hns, hr⟩ := h2
  obtain ⟨od, ho, hl⟩ := lookIn_ns hns
  have l : List.lookup f [(f, v)] = some v := by simp [List.lookup]
  obtain ⟨u, hu, ru⟩ := RelO.some_of (v := v) (o := mA f) (by rw [← l]; exact hr f)
  refine ⟨oe, od, ⟨e1, e2, ?_, ?_⟩, u, ?_, ru⟩
  · unfold PySem.W.notCls
    rw [e4] <;> rfl
  · rw [e3]
    exact ho
  · rw [hl, hu]
theorem ex_inst0 (I : Inv X pins σ H s) (h : H a = some (ExH C a none)) : ∃ oe, PySem.W.InstAt s.heap a oe C none := by
  have h1 : ObjOk X.prog X.w H s.heap a (ExH C a none) := I.hok a _ h
  obtain ⟨⟨oe, vs, e1, e2, e3, e4⟩, _, _⟩ := h1
  refine ⟨oe, e1, e2, ?_, ?_⟩
  · unfold PySem.W.notCls
    rw [e4] <;> rfl
  · rw [e3]
    trivial
def tFldE (K : PySem.W.Frag) (f : Str) (te : TE) : TE := fun σ H Q => te σ H fun x H1 => ∃ (a C dd : Addr) (v : V), x = .ref a ∧ ErrC K C ∧ PySem.W.findIn K (.ref C) f = some none ∧ H1 a = some (ExH C a (some dd)) ∧ H1 dd = some (.xd [(f, v)]) ∧ Q v H1
theorem pe_fldE {e : Expr} {te : TE} {pos : Pos} (he : PE X e te) (hb : attributeBase e f X.env (eval e X.env) = eval e X.env := by rfl) : PE X (.Attribute e f pos) (tFldE X.K f te) := by
  refine ⟨fun pins s σ H Q I h => ?_⟩
  refine attr_of hb (thn (he.run pins s σ H _ I h) fun u s1 hh => ?_)
  obtain ⟨x, H1, I1, rx, a, C, dd, v, ex, T, no, h1, h2, q⟩ := hh
  subst ex
  obtain rfl : u = Value.ref a := rx
  obtain ⟨oe, od, J, u', l, ru⟩ := ex_inst I1 h1 h2
  exact HandSPX.exc_get I1.kIn J T.ga T.gg T.bs (PySem.W.findObj_own T.hd no rfl l) (handed_of ru) ⟨v, H1, I1.tok _, ru, q⟩
/-- the field of an error's data, its class being one of these -/
def fldD (f : Str) (Cs : List Addr) : PyData → Option PyData
  | .dict [(.none, .int C), (.none, .str g), (.none, d)] => if g = f ∧ C ∈ Cs.map (fun z => ((z : Nat) : Int)) then some d else none
  | _ => none
def fldE (f : Str) (Cs : List Addr) (g : Env3 → MM PyData) : Env3 → MM PyData := fun Δ => bd (g Δ) fun d => op (fldD f Cs d)
theorem rp_fld {M : Addr → Prop} {H : Hp} {v : V} {d y : PyData} {f : Str} {Cs : List Addr} (r : Rp M H v d) (h : fldD f Cs d = some y) : ∃ (a C dd : Addr) (u : V), v = .ref a ∧ C ∈ Cs ∧ H a = some (ExH C a (some dd)) ∧ H dd = some (.xd [(f, u)]) ∧ Rp M H u y := by
  unfold fldD at h
  split at h
  · split at h
    · rename_i hc
      obtain ⟨rfl, hm⟩ := hc
      obtain ⟨C', hC, eC⟩ := List.mem_map.mp hm
      cases h
      cases r with
      | dct _ _ r => cases r
      | @exc a dd C f' v' d' h1 h2 _ _ rr =>
        have e : C' = C := Int.ofNat.inj eC
        subst e
        exact ⟨a, C', dd, v', rfl, hC, h1, h2, rr⟩
    · cases h
  · cases h
theorem de_fldE {e : Expr} {g : Env3 → MM PyData} {Cs : List Addr} {pos : Pos} (he : DE X R e g) (T : ∀ C ∈ Cs, ErrC X.K C ∧ PySem.W.findIn X.K (.ref C) f = some none) (hb : attributeBase e f X.env (eval e X.env) = eval e X.env := by rfl) : DE X R (.Attribute e f pos) (fldE f Cs g) := by
  obtain ⟨t, pe, q⟩ := he.use p3_stays
  refine ⟨_, pe_fldE pe hb, fun S H k Q i w => q S H k _ _ _ i w fun d k1 w1 v H1 i1 e1 r1 => ?_⟩
  obtain ⟨y, hy, w2⟩ := w1.op
  obtain ⟨a, C, dd, u, rfl, hC, h1, h2, ru⟩ := rp_fld r1 hy
  exact ⟨a, C, dd, u, rfl, (T C hC).1, (T C hC).2, h1, h2, w2 u H1 i1 e1 ru⟩
def rIsX (K : PySem.W.Frag) : List V → Hp → VK → Prop := fun xs H Q => ∃ (a C : Addr) (c : V) (cv : Value) (b : Bool), xs = [.ref a, c] ∧ ClsV c cv ∧ ErrC K C ∧ (H a = some (ExH C a none) ∨ ∃ dd f v, H a = some (ExH C a (some dd)) ∧ H dd = some (.xd [(f, v)])) ∧ PySem.W.kitOne K (.ref C) cv = some b ∧ Q (.bl b) H
theorem call_isX : CallR X (.builtin "isinstance") (rIsX X.K) := by
  intro pins s σ H xs us Q I r h
  obtain ⟨a, C, c, cv, b, rfl, kc, T, ho, e, q⟩ := h
  obtain ⟨u1, u2, rfl, r1, r2⟩ := vals2 r
  have e2 := kc.eq r2
  subst e2
  obtain rfl : u1 = Value.ref a := r1
  rcases ho with ho | ⟨dd, f, v, h1, h2⟩
  · obtain ⟨oe, J⟩ := ex_inst0 I ho
    exact PySem.W.kia_one (PySem.W.kitx_exc T.hc T.ga T.gg T.bs T.cl T.sp T.tk T.mo) I.kIn J e (fun z => nomatch z) fun tk => ⟨.bl b, H, I.tok tk, rfl, q⟩
  · obtain ⟨oe, od, J, _⟩ := ex_inst I h1 h2
    exact PySem.W.kia_one (PySem.W.kitx_exc T.hc T.ga T.gg T.bs T.cl T.sp T.tk T.mo) I.kIn J e (fun z => nomatch z) fun tk => ⟨.bl b, H, I.tok tk, rfl, q⟩
/-- the class of an error's data, and what is told of it -/
def isXD (tbl : List (Addr × Bool)) : PyData → Option Bool
  | .dict ((.none, .int C) :: _) => (tbl.find? fun p => decide (((p.1 : Nat) : Int) = C)).map (·.2)
  | _ => none
def isX (tbl : List (Addr × Bool)) (g : Env3 → MM PyData) : Env3 → MM PyData := fun Δ => bd (g Δ) fun d => op ((isXD tbl d).map .bool)
theorem rp_isX {M : Addr → Prop} {H : Hp} {v : V} {d : PyData} {b : Bool} {tbl : List (Addr × Bool)} (r : Rp M H v d) (h : isXD tbl d = some b) : ∃ (a C : Addr), v = .ref a ∧ (C, b) ∈ tbl ∧ (H a = some (ExH C a none) ∨ ∃ dd f v, H a = some (ExH C a (some dd)) ∧ H dd = some (.xd [(f, v)])) := by
  unfold isXD at h
  split at h
  · rename_i C0 rest
    obtain ⟨⟨C, b'⟩, hf, rfl⟩ := Option.map_eq_some_iff.mp h
    have hm := List.mem_of_find?_eq_some hf
    have hp : ((C : Nat) : Int) = C0 := by
      have := List.find?_some hf
      simpa using this
    subst hp
    have key : ∀ {C2 : Addr}, ((C : Nat) : Int) = ((C2 : Nat) : Int) → C = C2 := fun z => Int.ofNat.inj z
    generalize hz : ((C : Nat) : Int) = z at r
    cases r with
    | dct _ _ r => cases r
    | @exc a dd C2 f' v' d' h1 h2 _ _ _ =>
      have e := key hz
      subst e
      exact ⟨a, C, rfl, hm, .inr ⟨dd, _, _, h1, h2⟩⟩
    | @ex0 a C2 h1 _ =>
      have e := key hz
      subst e
      exact ⟨a, C, rfl, hm, .inl h1⟩
  · cases h
theorem de_isX {T : Str} {e : Expr} {g : Env3 → MM PyData} {tbl : List (Addr × Bool)} {cv : Value} {vv : V} {p p2 pos : Pos} (hm : X.mg "isinstance" = none) (hc : PE X (.Name T p) (tC vv)) (kv : ClsV vv cv) (he : DE X R e g) (hT : ∀ z ∈ tbl, ErrC X.K z.1 ∧ PySem.W.kitOne X.K (.ref z.1) cv = some z.2) (hg : Gl X "isinstance" := by rfl)
    (hs1 : starEach [e, .Name T p] X.env = (false, eval e X.env) :: starEach [.Name T p] X.env := by rfl) (hs2 : starEach [.Name T p] X.env = (false, eval (.Name T p) X.env) :: starEach [] X.env := by rfl)
    (hpl : (backTo pos (starEach [.Name T p] X.env)).any (·.1) = false := by rfl) : DE X R (.Call (.Name "isinstance" p2) [e, .Name T p] [] pos) (isX tbl g) := by
  obtain ⟨t, pe, q⟩ := he.use p3_stays
  refine ⟨_, pe_callB call_isX hg hm bb_isinstance (pa_cons pe (pa_cons hc pa_nil hs2) hs1) (by decide) (by decide) hs1 hpl, fun S H k Q i w => q S H k _ _ _ i w fun x k1 w1 v H1 i1 e1 r1 => ?_⟩
  obtain ⟨d, hd, hq⟩ := w1.op
  obtain ⟨bb, hb2, rfl⟩ := Option.map_eq_some_iff.mp hd
  obtain ⟨a, C, rfl, hm, ho⟩ := rp_isX r1 hb2
  exact ⟨a, C, vv, cv, bb, rfl, kv, (hT _ hm).1, ho, (hT _ hm).2, hq _ H1 i1 e1 (.bl bb)⟩
def exV0 (C : Addr) : Env3 → MM PyData := fun _ => rt (exD0 C)
theorem pe_new0 {c : Str} {p pos : Pos} (T : BareC X.K X.mg c C) (hg : Gl X c := by rfl) (hdb : (c == ("__debug__" : Str)) = false := by decide) :
    PE X (.Call (.Name c p) [] [] pos) (fun _ H Q => ∀ e, H e = none → Q (.ref e) (upd H e (ExH C e none))) := by
  refine ⟨fun pins s σ H Q I h => ?_⟩
  refine wpAny_Call_Name_kw (ld_glob I hg T.gC ?_ hdb)
  refine PySem.W.callWith_K0 I.kIn T.kC ?_
  show wpAny _ _ (call (.ref C) []) _ _ _
  obtain ⟨bm, N, nm, qn, bs, hdct, sn, sub, ab, col, dd, k0, k1, k2, k3, k5, mN, hC, hN, hni, T2⟩ := exc_obj I.kIn T.q
  refine wpAny_call_exc_subT PySem.F.excBase_Exception T2 hC hN hni (fun h' e hm => ?_) (Nat.zero_le _)
  have hn : H e = none := I.hok.gone hm.new
  obtain ⟨t, ht, _, _⟩ := hm.there
  have b2 : ObjOk X.prog X.w (upd H e (ExH C e none)) h' e (ExH C e none) := ⟨⟨_, _, ht, rfl, rfl, rfl⟩, ⟨_, ht⟩, fun _ _ ⟨o, vs, z, r⟩ kk => ⟨o, vs, kk o z, r⟩⟩
  exact ⟨.ref e, _, I.laidN hm.keeps hm.new hn b2, rfl, h e hn⟩
theorem de_new0 {c : Str} {p pos : Pos} (T : BareC X.K X.mg c C) (hg : Gl X c := by rfl) (hdb : (c == ("__debug__" : Str)) = false := by decide) : DE X R (.Call (.Name c p) [] [] pos) (exV0 C) :=
  ⟨_, pe_new0 T hg hdb, fun S H k Q i w e he => w (.ref e) _ (ER.new i he (o := ExH C e none)) (Ex.new he) (.ex0 upd_same (ER.fresh i he))⟩
end
end L3

set_option Elab.async false
set_option linter.all false
set_option maxRecDepth 100000
set_option maxHeartbeats 4000000
namespace L3
open PySem PySem.Spec PyProof.Rows L2
section
variable {X : Cx} {R : RX}
/-- a suite that is entered with an error of one of the classes Cs in slot i -/
def DHB (X : Cx) (R : RX) (Cs : List Str) (i : Nat) (suite : List Stmt) (g : Exn → Env3 → MM Fl3) : Prop :=
  ∃ ts : Addr → Value → Option Addr → TS, (∀ (a : Addr) (oe : Obj) (cls : Value) (d : Option Addr) (pn : List (Addr × Obj)), Zc cls d oe → (∃ vs, oe.data = .fields vs) → PSs (X.suite a ((a, oe) :: pn)) suite (ts a cls d)) ∧
    ∀ (S : S3) (H : Hp) (k : Int) (D : Ends) (x : Exn) (a : Addr) (cls : Value) (d : Option Addr), S.In H k → x.c ∈ Cs → S.σ[i]? = some (some (.ref a)) → ExR X.mg S.M H x cls d → Wp (g x S.Δ k) (S.fin R H D) no3 → ts a cls d D S.σ H
def tryB (Cs : List Str) (i : Nat) (g : Env3 → MM Fl3) (h : Exn → Env3 → MM Fl3) : Env3 → MM Fl3 := fun Δ => bd (g Δ) fun r => match r with
  | .xx x Δ' => if x.c ∈ Cs ∧ i < Δ'.length then bd (h x (Δ'.set i none)) fun r => rt (offE i r) else fl
  | r => rt r
theorem ds_tryB {W : WX} {c n : Str} {Cs : List Str} {CB : Addr} {i : Nat} {body suite : List Stmt} {b₀ : Stmt} {np pos pos' : Pos} {g : Env3 → MM Fl3} {h : Exn → Env3 → MM Fl3} (tk : Takes X W) (gC : X.mg c = some (.ref CB)) (hC : ∀ z ∈ Cs, ∃ C, X.mg z = some (.ref C) ∧ PySem.W.exmOne X.K (.ref C) (.ref CB) = some true)
    (hN : X.N.Nodup) (hi : X.N[i]? = some n)
    (hb : ∀ (W' : WX) (pn : List (Addr × Obj)) (xe : Value → Shared → Prop), Takes (X.tr pn xe) W' → PassesOwn (model X.prog X.w) X.A X.env xe → DSs (X.tr pn xe) (RXW X.mg W') body g)
    (hh : DHB X R Cs i (b₀ :: suite) h)
    (hln : X.env.kindOf n = some .local := by rfl) (hs : X.stack = X.env :: X.outer := by rfl) (hfr : X.env.frame = some X.env.locals := by rfl) (hg : Gl X c := by rfl) (hdb : (c == ("__debug__" : Str)) = false := by decide) :
    DS X R (.Try body [.ExceptHandler (some (.Name c np)) (some n) (b₀ :: suite) pos'] [] [] pos) (tryB Cs i g h) := by
  obtain ⟨ts, ps, qs⟩ := hh
  have hu : ∀ W' : WX, ∃ t, (∀ (pn : List (Addr × Obj)) (xe : Value → Shared → Prop), Takes (X.tr pn xe) W' → PassesOwn (model X.prog X.w) X.A X.env xe → PSs (X.tr pn xe) body t) ∧
      ∀ (S : S3) (H : Hp) (k : Int) (D : Ends), S.In H k → Wp (g S.Δ k) (S.fin (RXW X.mg W') H D) no3 → t D S.σ H := fun W' => by
    obtain ⟨t, p, q⟩ := uniS (ι := { z : List (Addr × Obj) × (Value → Shared → Prop) // Takes (X.tr z.1 z.2) W' ∧ PassesOwn (model X.prog X.w) X.A X.env z.2 }) (Xs := fun z => X.tr z.1.1 z.1.2) (fun z => hb W' z.1.1 z.1.2 z.2.1 z.2.2)
    exact ⟨t, fun pn xe a b => p ⟨(pn, xe), a, b⟩, q⟩
  refine ⟨_, ps_try_as hs hfr hN hi hln ⟨hg, hdb, .inl gC⟩ tk (tb := fun W' => (hu W').choose) (fun W' pn xe a b => (hu W').choose_spec.1 pn xe a b) ps, fun S H k D iN w => ?_⟩
  refine (hu _).choose_spec.2 S H k D iN (w.bd.mono (fun r k' _ z => ?_) fun _ _ _ z => z)
  cases r with
  | nx Δ' => exact z
  | rt d => exact z
  | bk Δ' => exact z
  | ct Δ' => exact z
  | xx x Δ' =>
    intro M' H' σ' i1 st1 cls d hx
    have z' : Wp ((if x.c ∈ Cs ∧ i < Δ'.length then bd (h x (Δ'.set i none)) fun r => rt (offE i r) else fl) k') (S.fin R H D) no3 := z
    split at z'
    · rename_i hci
      obtain ⟨hc, hil⟩ := hci
      obtain ⟨C1, g1, te⟩ := hC _ hc
      obtain ⟨C', g2, g3⟩ := hx.1
      rw [g1] at g2
      cases g2
      subst g3
      refine ⟨true, te, fun _ a ha => ?_, fun q => Bool.noConfusion q⟩
      have hlen : i < σ'.length := by rw [i1.len]; exact hil
      refine qs ⟨S.H0, S.M0, S.sp, M', σ'.set i (some (.ref a)), Δ'.set i none⟩ H' k' _ x a (.ref C1) d (i1.drop i _) hc (List.getElem?_set_self hlen) hx ?_
      refine z'.bd.mono (fun r k2 _ z2 => ?_) fun _ _ _ z => z
      cases r with
      | nx Δ2 => exact fun M2 H2 σ2 i2 st2 => z2 M2 H2 _ (i2.drop i _) (st1.trans st2)
      | bk Δ2 => exact fun M2 H2 σ2 i2 st2 => z2 M2 H2 _ (i2.drop i _) (st1.trans st2)
      | ct Δ2 => exact fun M2 H2 σ2 i2 st2 => z2 M2 H2 _ (i2.drop i _) (st1.trans st2)
      | rt d2 => exact fun v M2 H2 σ2 Δ2 i2 st2 r2 => z2 v M2 H2 σ2 Δ2 i2 (st1.trans st2) r2
      | xx x2 Δ2 => exact fun M2 H2 σ2 i2 st2 => z2 M2 H2 σ2 i2 (st1.trans st2)
    · exact z'.elim
/-- isinstance(n, c), n the error that the suite holds -/
def rIsP (K : PySem.W.Frag) (a : Addr) (cls : Value) (d : Option Addr) : List V → Hp → VK → Prop := fun xs H Q => ∃ (C : Addr) (c : V) (cv : Value) (b : Bool), xs = [.ref a, c] ∧ ClsV c cv ∧ cls = .ref C ∧ ErrC K C ∧ (d = none ∨ ∃ dd f v, d = some dd ∧ H dd = some (.xd [(f, v)])) ∧ PySem.W.kitOne K (.ref C) cv = some b ∧ Q (.bl b) H
theorem call_isP {a : Addr} {oe : Obj} {cls : Value} {d : Option Addr} {pn : List (Addr × Obj)} (hz : Zc cls d oe) (hf : ∃ vs, oe.data = .fields vs) : CallR (X.suite a ((a, oe) :: pn)) (.builtin "isinstance") (rIsP X.K a cls d) := by
  intro pins s σ H xs us Q I r h
  obtain ⟨C, c, cv, b, rfl, kc, rfl, T, ho, e, q⟩ := h
  obtain ⟨u1, u2, rfl, r1, r2⟩ := vals2 r
  have e2 := kc.eq r2
  subst e2
  obtain rfl : u1 = Value.ref a := r1
  obtain ⟨hget, _⟩ := I.pin (a, oe) (List.mem_append.mpr (.inl List.mem_cons_self))
  obtain ⟨vs, hv⟩ := hf
  have nc : PySem.W.notCls oe = true := by
    unfold PySem.W.notCls
    rw [hv] <;> rfl
  rcases ho with rfl | ⟨dd, f, v, rfl, h2⟩
  · have J : PySem.W.InstAt s.heap a oe C none := ⟨hget, hz.1, nc, by rw [hz.2]; trivial⟩
    exact PySem.W.kia_one (PySem.W.kitx_exc T.hc T.ga T.gg T.bs T.cl T.sp T.tk T.mo) I.kIn J e (fun z => nomatch z) fun tk => ⟨.bl b, H, I.tok tk, rfl, q⟩
  · have o2 : ObjOk X.prog X.w H s.heap dd (.xd [(f, v)]) := I.hok dd _ h2
    obtain ⟨mA, hns, hr⟩ := o2
    obtain ⟨od, ho, hl⟩ := lookIn_ns hns
    have J : PySem.W.InstAt s.heap a oe C (some od) := ⟨hget, hz.1, nc, by rw [hz.2]; exact ho⟩
    exact PySem.W.kia_one (PySem.W.kitx_exc T.hc T.ga T.gg T.bs T.cl T.sp T.tk T.mo) I.kIn J e (fun z => nomatch z) fun tk => ⟨.bl b, H, I.tok tk, rfl, q⟩
def isP (tbl : List (Str × Bool)) : Exn → Env3 → MM PyData := fun x _ => op ((tbl.lookup x.c).map .bool)
theorem lookup_mem {tbl : List (Str × Bool)} {c : Str} {b : Bool} : tbl.lookup c = some b → (c, b) ∈ tbl := by
  induction tbl with
  | nil => intro h; cases h
  | cons z r ih =>
    intro h
    obtain ⟨c', b'⟩ := z
    rw [List.lookup_cons] at h
    cases e : c == c' with
    | true =>
      rw [e] at h
      cases h
      rw [eq_of_beq e]
      exact List.mem_cons_self
    | false =>
      rw [e] at h
      exact List.mem_cons_of_mem _ (ih h)
theorem dhb_isP {Cs : List Str} {n T : Str} {D i : Addr} {tbl : List (Str × Bool)} {p p2 p3 pos pos2 : Pos} (hm : X.mg "isinstance" = none) (gD : X.mg T = some (.ref D)) (hT : ∀ z ∈ tbl, ∃ C, X.mg z.1 = some (.ref C) ∧ ErrC X.K C ∧ PySem.W.kitOne X.K (.ref C) (.ref D) = some z.2)
    (hN : X.N[i]? = some n) (hv : Vis X.env.scope n) (hg : ∀ a pn, Gl (X.suite a pn) "isinstance" := by intro _ _; rfl) (hgT : ∀ a pn, Gl (X.suite a pn) T := by intro _ _; rfl) (hd : (n == ("__debug__" : Str)) = false := by decide) (hcd : (n == ("__classdict__" : Str)) = false := by decide) (hdT : (T == ("__debug__" : Str)) = false := by decide)
    (hs1 : ∀ a pn, starEach [.Name n p3, .Name T p] (X.suite a pn).env = (false, eval (.Name n p3) (X.suite a pn).env) :: starEach [.Name T p] (X.suite a pn).env := by intro _ _; rfl) (hs2 : ∀ a pn, starEach [.Name T p] (X.suite a pn).env = (false, eval (.Name T p) (X.suite a pn).env) :: starEach [] (X.suite a pn).env := by intro _ _; rfl)
    (hpl : ∀ a pn, (backTo pos (starEach [.Name T p] (X.suite a pn).env)).any (·.1) = false := by intro _ _; rfl) : DHB X R Cs i [.Return (some (.Call (.Name "isinstance" p2) [.Name n p3, .Name T p] [] pos)) pos2] (retX (isP tbl)) := by
  refine ⟨fun a cls d => tRet _, fun a oe cls d pn hz hf => pss_one (ps_ret (pe_callB (call_isP hz hf) (hg _ _) hm bb_isinstance (pa_cons (pe_var (X := X.suite a ((a, oe) :: pn)) hN hv hd hcd) (pa_cons (pe_glob (hgT _ _) gD (show RelV (.ref D) (.ref D) from rfl) hdT) pa_nil (hs2 _ _)) (hs1 _ _)) (by decide) (by decide) (hs1 _ _) (hpl _ _))), fun S H k Dn x a cls d i' hx hσ ex w => ?_⟩
  have w1 := w.tryF
  obtain ⟨y, hy, w2⟩ := w1.op
  obtain ⟨b, hb, rfl⟩ := Option.map_eq_some_iff.mp hy
  obtain ⟨C, g1, T1, e1⟩ := hT _ (lookup_mem hb)
  obtain ⟨⟨C', g2, rfl⟩, hx1, hx2⟩ := ex
  dsimp only at g1
  rw [g1] at g2
  cases g2
  refine ⟨.ref a, hσ, C, .ref D, .ref D, b, rfl, .own D, rfl, T1, ?_, e1, w2 (.bl b) S.M H S.σ S.Δ i' (St3.refl _ _) (.bl b)⟩
  cases hq : fldOf x.c with
  | none => exact .inl (hx2 hq)
  | some f =>
    obtain ⟨dd, v, h1, h2, _⟩ := hx1 f hq
    exact .inr ⟨dd, f, v, h1, h2⟩
end
end L3

set_option Elab.async false
set_option linter.all false
set_option maxRecDepth 100000
set_option maxHeartbeats 4000000
namespace KL
open PySem PySem.Spec PyProof.Rows L2 L3
def top (i : Nat) : Stmt := PySem.Challenge.pw_stemsure_k00_errors.main.body.getD i (.Pass ⟨0, 0, 0, 0⟩)
structure Tops (K : PySem.W.Frag) (mg : Str → Option Value) : Prop where
  b_ArithmeticError : mg "ArithmeticError" = none
  b_Exception : mg "Exception" = none
  b_LookupError : mg "LookupError" = none
  b_ValueError : mg "ValueError" = none
  b_all : mg "all" = none
  b_any : mg "any" = none
  b_bool : mg "bool" = none
  b_dict : mg "dict" = none
  b_int : mg "int" = none
  b_isinstance : mg "isinstance" = none
  b_len : mg "len" = none
  b_list : mg "list" = none
  b_max : mg "max" = none
  b_min : mg "min" = none
  b_range : mg "range" = none
  b_set : mg "set" = none
  b_sorted : mg "sorted" = none
  b_str : mg "str" = none
  b_sum : mg "sum" = none
  b_tuple : mg "tuple" = none
  e_BadValue : ∃ C fI, PySem.LowAt.LowTxt K mg "BadValue" "BadValue.__init__" C fI
  e_BadText : ∃ C fI, PySem.LowAt.LowTxt K mg "BadText" "BadText.__init__" C fI
  e_BadPaper : ∃ C fI, PySem.LowAt.LowTxt K mg "BadPaper" "BadPaper.__init__" C fI
  e_NoStem : ∃ C fI, PySem.LowWord.LowTxt K mg "NoStem" "NoStem.__init__" C fI
  e_TakenStem : ∃ C fI, PySem.LowWord.LowTxt K mg "TakenStem" "TakenStem.__init__" C fI
  e_TooMany : ∃ C, BareC K mg "TooMany" C
theorem bb_Exception : bootBuiltins "Exception" = some (.type "Exception") := by decide +kernel
theorem bb_ValueError : bootBuiltins "ValueError" = some (.type "ValueError") := by decide +kernel
theorem bb_LookupError : bootBuiltins "LookupError" = some (.type "LookupError") := by decide +kernel
theorem bb_ArithmeticError : bootBuiltins "ArithmeticError" = some (.type "ArithmeticError") := by decide +kernel
structure ErrV (K : PySem.W.Frag) (mg : Str → Option Value) (C_BadPaper : Addr) (C_BadText : Addr) (C_BadValue : Addr) (C_NoStem : Addr) (C_StemError : Addr) (C_TakenStem : Addr) (C_TooMany : Addr) : Prop where
  g_StemError : mg "StemError" = some (.ref C_StemError)
  g_BadValue : mg "BadValue" = some (.ref C_BadValue)
  l_BadValue : ∃ fI, PySem.LowAt.LowTxt K mg "BadValue" "BadValue.__init__" C_BadValue fI
  g_BadText : mg "BadText" = some (.ref C_BadText)
  l_BadText : ∃ fI, PySem.LowAt.LowTxt K mg "BadText" "BadText.__init__" C_BadText fI
  g_BadPaper : mg "BadPaper" = some (.ref C_BadPaper)
  l_BadPaper : ∃ fI, PySem.LowAt.LowTxt K mg "BadPaper" "BadPaper.__init__" C_BadPaper fI
  g_NoStem : mg "NoStem" = some (.ref C_NoStem)
  l_NoStem : ∃ fI, PySem.LowWord.LowTxt K mg "NoStem" "NoStem.__init__" C_NoStem fI
  g_TakenStem : mg "TakenStem" = some (.ref C_TakenStem)
  l_TakenStem : ∃ fI, PySem.LowWord.LowTxt K mg "TakenStem" "TakenStem.__init__" C_TakenStem fI
  g_TooMany : mg "TooMany" = some (.ref C_TooMany)
  l_TooMany : BareC K mg "TooMany" C_TooMany
  f_at : ∀ C ∈ [C_BadValue, C_BadText, C_BadPaper], ErrC K C ∧ PySem.W.findIn K (.ref C) "at" = some none
  f_word : ∀ C ∈ [C_NoStem, C_TakenStem], ErrC K C ∧ PySem.W.findIn K (.ref C) "word" = some none
  nd : [C_BadValue, C_BadText, C_BadPaper, C_NoStem, C_TakenStem, C_TooMany].Nodup
  k_StemError : ∀ z ∈ [(C_BadValue, true), (C_BadText, true), (C_BadPaper, true), (C_NoStem, true), (C_TakenStem, true), (C_TooMany, true)], ErrC K z.1 ∧ PySem.W.kitOne K (.ref z.1) (.ref C_StemError) = some z.2
  k_BadValue : ∀ z ∈ [(C_BadValue, true), (C_BadText, false), (C_BadPaper, false), (C_NoStem, false), (C_TakenStem, false), (C_TooMany, false)], ErrC K z.1 ∧ PySem.W.kitOne K (.ref z.1) (.ref C_BadValue) = some z.2
  k_BadText : ∀ z ∈ [(C_BadValue, false), (C_BadText, true), (C_BadPaper, false), (C_NoStem, false), (C_TakenStem, false), (C_TooMany, false)], ErrC K z.1 ∧ PySem.W.kitOne K (.ref z.1) (.ref C_BadText) = some z.2
  k_BadPaper : ∀ z ∈ [(C_BadValue, false), (C_BadText, false), (C_BadPaper, true), (C_NoStem, false), (C_TakenStem, false), (C_TooMany, false)], ErrC K z.1 ∧ PySem.W.kitOne K (.ref z.1) (.ref C_BadPaper) = some z.2
  k_NoStem : ∀ z ∈ [(C_BadValue, false), (C_BadText, false), (C_BadPaper, false), (C_NoStem, true), (C_TakenStem, false), (C_TooMany, false)], ErrC K z.1 ∧ PySem.W.kitOne K (.ref z.1) (.ref C_NoStem) = some z.2
  k_TakenStem : ∀ z ∈ [(C_BadValue, false), (C_BadText, false), (C_BadPaper, false), (C_NoStem, false), (C_TakenStem, true), (C_TooMany, false)], ErrC K z.1 ∧ PySem.W.kitOne K (.ref z.1) (.ref C_TakenStem) = some z.2
  k_TooMany : ∀ z ∈ [(C_BadValue, false), (C_BadText, false), (C_BadPaper, false), (C_NoStem, false), (C_TakenStem, false), (C_TooMany, true)], ErrC K z.1 ∧ PySem.W.kitOne K (.ref z.1) (.ref C_TooMany) = some z.2
  k_Exception : ∀ z ∈ [(C_BadValue, true), (C_BadText, true), (C_BadPaper, true), (C_NoStem, true), (C_TakenStem, true), (C_TooMany, true)], ErrC K z.1 ∧ PySem.W.kitOne K (.ref z.1) (.type "Exception") = some z.2
  k_ValueError : ∀ z ∈ [(C_BadValue, false), (C_BadText, false), (C_BadPaper, false), (C_NoStem, false), (C_TakenStem, false), (C_TooMany, false)], ErrC K z.1 ∧ PySem.W.kitOne K (.ref z.1) (.type "ValueError") = some z.2
  k_LookupError : ∀ z ∈ [(C_BadValue, false), (C_BadText, false), (C_BadPaper, false), (C_NoStem, false), (C_TakenStem, false), (C_TooMany, false)], ErrC K z.1 ∧ PySem.W.kitOne K (.ref z.1) (.type "LookupError") = some z.2
  k_ArithmeticError : ∀ z ∈ [(C_BadValue, false), (C_BadText, false), (C_BadPaper, false), (C_NoStem, false), (C_TakenStem, false), (C_TooMany, false)], ErrC K z.1 ∧ PySem.W.kitOne K (.ref z.1) (.type "ArithmeticError") = some z.2
  t_c : ∀ z ∈ (["TooMany", "NoStem"] : List Str), ∃ C, mg z = some (.ref C) ∧ PySem.W.exmOne K (.ref C) (.ref C_StemError) = some true
  p_NoStem : ∀ z ∈ ([("TooMany", false), ("NoStem", true)] : List (Str × Bool)), ∃ C, mg z.1 = some (.ref C) ∧ ErrC K C ∧ PySem.W.kitOne K (.ref C) (.ref C_NoStem) = some z.2
section
variable {P : Program} {w : World} {K : PySem.W.Frag} {mg : Str → Option Value} {base : Heap}
abbrev s__law_so : Stmt := top 9
abbrev n__law_so : List Str := ["found", "meant", "k"]
theorem sc__law_so : FnScope n__law_so ["found", "meant"] (defScope s__law_so) := ⟨rfl, rfl, rfl, by decide +kernel, rfl, by decide +kernel, by decide +kernel⟩
noncomputable def g__law_so (self : List PyData → MM PyData) : Env3 → MM Fl3 := (seq (ifS (tst (bin isN (vr 1) (cs .none))) (ret (bin isN (vr 0) (cs .none))) nxt) (seq (ifS (tst (isaV "tuple" (vr 1))) (seq (ifS (orT (notT (tst (isaV "tuple" (vr 0)))) (tst (bin neD (clV lenD (ac (vr 0) an)) (clV lenD (ac (vr 1) an))))) (ret (cs (.bool false))) nxt) (seq (forS (itA rg1 (ac (clV lenD (ac (vr 1) an)) an)) (tgN 2) (ifS (notT (tst (cal self (ac (bin ixD (vr 0) (vr 2)) (ac (bin ixD (vr 1) (vr 2)) an))))) (ret (cs (.bool false))) nxt)) (ret (cs (.bool true))))) nxt) (seq (ifS (orT (tst (isaV "bool" (vr 1))) (tst (isaV "bool" (vr 0)))) (ret (andV (isaV "bool" (vr 1)) (andV (isaV "bool" (vr 0)) (bin eqD (vr 0) (vr 1))))) nxt) (seq (ifS (tst (isaV "int" (vr 1))) (ret (andV (isaV "int" (vr 0)) (bin eqD (vr 0) (vr 1)))) nxt) (ret (andV (isaV "str" (vr 1)) (andV (isaV "str" (vr 0)) (bin eqD (vr 0) (vr 1)))))))))
noncomputable def m__law_so : Nat → List PyData → MM PyData
  | 0 => fun _ => fl
  | d + 1 => fun ds => runB (g__law_so (m__law_so d)) (startE 3 [.val, .val] ds)
theorem real__law_so {f : Addr} {fd : FuncData} (T : Tops K mg) (F : Fun K "_law_so" "_law_so" s__law_so f fd) (hm : mg "_law_so" = some (.ref f)) (hb : Binds K fd ["found", "meant"] []) : ∀ d, Real P w K mg base (1 + d) "_law_so" ["found", "meant"] [.val, .val] (m__law_so d)
  | 0 => real_zero F sc__law_so hm hb
  | d + 1 => by
    have Rself := real__law_so T F hm hb d
    exact real_of (k := 1 + d) F sc__law_so rfl hm hb fun cdv A outer s H E hr => (dss_cons (ds_if (dt_cmp op3_is (DG.b (de_var (pv 1))) (DG.b de_non)) (dss_one (ds_ret (de_cmp op3_is (DG.b (de_var (pv 0))) (DG.b de_non)))) dss_nil) (dss_cons (ds_if (dt_val (DG.b (de_isa T.b_isinstance T.b_tuple bb_tuple (DG.b (de_var (pv 1)))))) (dss_cons (ds_if (DW.t (dw_or (dt_not (dt_val (DG.b (de_isa T.b_isinstance T.b_tuple bb_tuple (DG.b (de_var (pv 0))))))) (dw_or1 (dt_cmp (op3_ne hr.units) (DG.b (de_callB c3_len T.b_len bb_len (da_cons b3_stays (DG.b (de_var (pv 0))) da_nil))) (DG.b (de_callB c3_len T.b_len bb_len (da_cons b3_stays (DG.b (de_var (pv 1))) da_nil))))))) (dss_one (ds_ret de_bl)) dss_nil) (dss_cons (ds_for PassesOwn.never rfl (di_range1 T.b_range (da_cons b3_stays (DG.b (de_callB c3_len T.b_len bb_len (da_cons b3_stays (DG.b (de_var (pv 1))) da_nil))) da_nil)) (dt3_name (pg_name (i := 2) sc__law_so.nd rfl (Or.inl rfl))) (dss_one (ds_if (dt_not (dt_val (DG.b (de_call Rself hr (Nat.le_refl _) (dx_val (de_ix hr.units (DG.b (de_var (pv 0))) (DG.b (de_var (pv 2)))) (dx_val (de_ix hr.units (DG.b (de_var (pv 1))) (DG.b (de_var (pv 2)))) dx_nil)))))) (dss_one (ds_ret de_bl)) dss_nil))) (dss_one (ds_ret de_bl)))) dss_nil) (dss_cons (ds_if (DW.t (dw_or (dt_val (DG.b (de_isa T.b_isinstance T.b_bool bb_bool (DG.b (de_var (pv 1)))))) (dw_or1 (dt_val (DG.b (de_isa T.b_isinstance T.b_bool bb_bool (DG.b (de_var (pv 0))))))))) (dss_one (ds_ret (de_and (de_isa T.b_isinstance T.b_bool bb_bool (DG.b (de_var (pv 1)))) (de_and (de_isa T.b_isinstance T.b_bool bb_bool (DG.b (de_var (pv 0)))) (de_one (de_cmp (op3_eq hr.units) (DG.b (de_var (pv 0))) (DG.b (de_var (pv 1))))))))) dss_nil) (dss_cons (ds_if (dt_val (DG.b (de_isa T.b_isinstance T.b_int bb_int (DG.b (de_var (pv 1)))))) (dss_one (ds_ret (de_and (de_isa T.b_isinstance T.b_int bb_int (DG.b (de_var (pv 0)))) (de_one (de_cmp (op3_eq hr.units) (DG.b (de_var (pv 0))) (DG.b (de_var (pv 1)))))))) dss_nil) (dss_one (ds_ret (de_and (de_isa T.b_isinstance T.b_str bb_str (DG.b (de_var (pv 1)))) (de_and (de_isa T.b_isinstance T.b_str bb_str (DG.b (de_var (pv 0)))) (de_one (de_cmp (op3_eq hr.units) (DG.b (de_var (pv 0))) (DG.b (de_var (pv 1)))))))))))))
abbrev s__law_numbers : Stmt := top 10
abbrev n__law_numbers : List Str := ["script", "row", "cell", "left", "k", "mixed"]
theorem sc__law_numbers : FnScope n__law_numbers ["script"] (defScope s__law_numbers) := ⟨rfl, rfl, rfl, by decide +kernel, rfl, by decide +kernel, by decide +kernel⟩
noncomputable def g__law_numbers (K : PySem.W.Frag) : Env3 → MM Fl3 := (seq (asgO 1 (lstV an)) (seq (forS (itV (scrV K 0 63)) (tgN 2) (ifS (tst (bin geD (vr 2) (bin powD (cs (.int 10)) (cs (.int 18))))) (seq (asg 3 (vr 2)) (forS (itA rg1 (ac (cs (.int 60)) an)) (tgN 4) (seq (ifS (tst (bin eqD (vr 3) (cs (.int 0)))) (fun Δ => rt (.bk Δ)) nxt) (seq (app 1 (bin modD (clV intD (ac (vr 3) an)) (cs (.int 997)))) (asg 3 (bin fdivD (vr 3) (cs (.int 997)))))))) (forS (itA rg1 (ac (cs (.int 4)) an)) (tgN 4) (seq (asg 5 (bin modD (clV intD (ac (bin addD (bin addD (bin mulD (vr 2) (cs (.int 48271))) (bin mulD (vr 4) (cs (.int 69621)))) (cs (.int 11))) an)) (cs (.int 2147483647)))) (app 1 (bin modD (clV intD (ac (bin addD (bin mulD (vr 5) (cs (.int 16807))) (vr 4)) an)) (cs (.int 2147483629)))))))) (seq (ifS (tst (bin eqD (clV lenD (ac (vb 1) an)) (cs (.int 0)))) (app 1 (cs (.int 0))) nxt) (fz 1 (ret (vr 1))))))
noncomputable def m__law_numbers (K : PySem.W.Frag) : List PyData → MM PyData := fun ds => runB (g__law_numbers K) (startE 6 [.scr K] ds)
theorem real__law_numbers {f : Addr} {fd : FuncData} (T : Tops K mg) (F : Fun K "_law_numbers" "_law_numbers" s__law_numbers f fd) (hm : mg "_law_numbers" = some (.ref f)) (hb : Binds K fd ["script"] []) : Real P w K mg base 1 "_law_numbers" ["script"] [.scr K] (m__law_numbers K) :=
  real_of F sc__law_numbers rfl hm hb fun cdv A outer s H E hr => (dss_cons (ds_own (fun _ h => ps_set (i := 1) sc__law_numbers.nd rfl (Or.inl rfl) h) (df_lst da_nil)) (dss_cons (ds_for PassesOwn.never rfl (di_val (DF.toE (df_scr (pv 0)))) (dt3_name (pg_name (i := 2) sc__law_numbers.nd rfl (Or.inl rfl))) (dss_one (ds_if (dt_cmp (op3_ge hr.units) (DG.b (de_var (pv 2))) (DG.b (de_bin op3_pow (DG.b de_int) (DG.b de_int)))) (dss_cons (ds_set (x := "left") (fun _ h => ps_set (i := 3) sc__law_numbers.nd rfl (Or.inl rfl) h) (de_var (pv 2))) (dss_one (ds_for PassesOwn.never rfl (di_range1 T.b_range (da_cons b3_stays (DG.b de_int) da_nil)) (dt3_name (pg_name (i := 4) sc__law_numbers.nd rfl (Or.inl rfl))) (dss_cons (ds_if (dt_cmp (op3_eq hr.units) (DG.b (de_var (pv 3))) (DG.b de_int)) (dss_one ds_break) dss_nil) (dss_cons (ds_append (pv 1) (de_bin op3_mod (DG.b (de_callTy c3_int T.b_int bb_int (da_cons b3_stays (DG.b (de_var (pv 3))) da_nil))) (DG.b de_int))) (dss_one (ds_set (x := "left") (fun _ h => ps_set (i := 3) sc__law_numbers.nd rfl (Or.inl rfl) h) (de_bin op3_fdiv (DG.b (de_var (pv 3))) (DG.b de_int))))))))) (dss_one (ds_for PassesOwn.never rfl (di_range1 T.b_range (da_cons b3_stays (DG.b de_int) da_nil)) (dt3_name (pg_name (i := 4) sc__law_numbers.nd rfl (Or.inl rfl))) (dss_cons (ds_set (x := "mixed") (fun _ h => ps_set (i := 5) sc__law_numbers.nd rfl (Or.inl rfl) h) (de_bin op3_mod (DG.b (de_callTy c3_int T.b_int bb_int (da_cons b3_stays (DG.b (de_bin op3_add (DG.b (de_bin op3_add (DG.b (de_bin op3_mul (DG.b (de_var (pv 2))) (DG.b de_int))) (DG.b (de_bin op3_mul (DG.b (de_var (pv 4))) (DG.b de_int))))) (DG.b de_int))) da_nil))) (DG.b de_int))) (dss_one (ds_append (pv 1) (de_bin op3_mod (DG.b (de_callTy c3_int T.b_int bb_int (da_cons b3_stays (DG.b (de_bin op3_add (DG.b (de_bin op3_mul (DG.b (de_var (pv 5))) (DG.b de_int))) (DG.b (de_var (pv 4))))) da_nil))) (DG.b de_int)))))))))) (dss_cons (ds_if (dt_cmp (op3_eq hr.units) (DG.b (de_callB c3_len T.b_len bb_len (da_cons b3_stays (db_var (pv 1)) da_nil))) (DG.b de_int)) (dss_one (ds_append (pv 1) de_int)) dss_nil) (dss_one (ds_fz 1 (ds_ret (de_var (pv 1))))))))
abbrev s__law_draw : Stmt := top 11
abbrev n__law_draw : List Str := ["row", "at", "limit", "mixed"]
theorem sc__law_draw : FnScope n__law_draw ["row", "at", "limit"] (defScope s__law_draw) := ⟨rfl, rfl, rfl, by decide +kernel, rfl, by decide +kernel, by decide +kernel⟩
noncomputable def g__law_draw : Env3 → MM Fl3 := (seq (ifS (tst (bin ltD (vr 1) (clV lenD (ac (vr 0) an)))) (ret (bin modD (clV intD (ac (bin ixD (vr 0) (vr 1)) an)) (vr 2))) nxt) (seq (asg 3 (bin modD (clV intD (ac (bin addD (bin addD (bin mulD (bin ixD (vr 0) (bin modD (clV intD (ac (vr 1) an)) (clV lenD (ac (vr 0) an)))) (cs (.int 40692))) (bin mulD (vr 1) (cs (.int 7919)))) (cs (.int 3))) an)) (cs (.int 2147483399)))) (ret (bin modD (clV intD (ac (bin modD (clV intD (ac (bin addD (bin mulD (vr 3) (cs (.int 48271))) (vr 1)) an)) (cs (.int 2147483647))) an)) (vr 2)))))
noncomputable def m__law_draw : List PyData → MM PyData := fun ds => runB (g__law_draw) (startE 4 [.val, .val, .val] ds)
theorem real__law_draw {f : Addr} {fd : FuncData} (T : Tops K mg) (F : Fun K "_law_draw" "_law_draw" s__law_draw f fd) (hm : mg "_law_draw" = some (.ref f)) (hb : Binds K fd ["row", "at", "limit"] []) : Real P w K mg base 1 "_law_draw" ["row", "at", "limit"] [.val, .val, .val] (m__law_draw) :=
  real_of F sc__law_draw rfl hm hb fun cdv A outer s H E hr => (dss_cons (ds_if (dt_cmp (op3_lt hr.units) (DG.b (de_var (pv 1))) (DG.b (de_callB c3_len T.b_len bb_len (da_cons b3_stays (DG.b (de_var (pv 0))) da_nil)))) (dss_one (ds_ret (de_bin op3_mod (DG.b (de_callTy c3_int T.b_int bb_int (da_cons b3_stays (DG.b (de_ix hr.units (DG.b (de_var (pv 0))) (DG.b (de_var (pv 1))))) da_nil))) (DG.b (de_var (pv 2)))))) dss_nil) (dss_cons (ds_set (x := "mixed") (fun _ h => ps_set (i := 3) sc__law_draw.nd rfl (Or.inl rfl) h) (de_bin op3_mod (DG.b (de_callTy c3_int T.b_int bb_int (da_cons b3_stays (DG.b (de_bin op3_add (DG.b (de_bin op3_add (DG.b (de_bin op3_mul (DG.b (de_ix hr.units (DG.b (de_var (pv 0))) (DG.b (de_bin op3_mod (DG.b (de_callTy c3_int T.b_int bb_int (da_cons b3_stays (DG.b (de_var (pv 1))) da_nil))) (DG.b (de_callB c3_len T.b_len bb_len (da_cons b3_stays (DG.b (de_var (pv 0))) da_nil))))))) (DG.b de_int))) (DG.b (de_bin op3_mul (DG.b (de_var (pv 1))) (DG.b de_int))))) (DG.b de_int))) da_nil))) (DG.b de_int))) (dss_one (ds_ret (de_bin op3_mod (DG.b (de_callTy c3_int T.b_int bb_int (da_cons b3_stays (DG.b (de_bin op3_mod (DG.b (de_callTy c3_int T.b_int bb_int (da_cons b3_stays (DG.b (de_bin op3_add (DG.b (de_bin op3_mul (DG.b (de_var (pv 3))) (DG.b de_int))) (DG.b (de_var (pv 1))))) da_nil))) (DG.b de_int))) da_nil))) (DG.b (de_var (pv 2))))))))
abbrev s__law_take : Stmt := top 12
abbrev n__law_take : List Str := ["row", "spot", "limit"]
theorem sc__law_take : FnScope n__law_take ["row", "spot", "limit"] (defScope s__law_take) := ⟨rfl, rfl, rfl, by decide +kernel, rfl, by decide +kernel, by decide +kernel⟩
noncomputable def g__law_take : Env3 → MM Fl3 := (seq (spS 1 (bin addD (spG 1) (cs (.int 1)))) (ret (cal m__law_draw (ac (vr 0) (ac (bin subD (spG 1) (cs (.int 1))) (ac (vr 2) an))))))
noncomputable def m__law_take : List PyData → MM PyData := fun ds => runB (g__law_take) (startE 3 [.val, .spot, .val] ds)
theorem real__law_take {f : Addr} {fd : FuncData} (T : Tops K mg) (F : Fun K "_law_take" "_law_take" s__law_take f fd) (hm : mg "_law_take" = some (.ref f)) (hb : Binds K fd ["row", "spot", "limit"] []) (R__law_draw : Real P w K mg base 1 "_law_draw" ["row", "at", "limit"] [.val, .val, .val] m__law_draw) : Real P w K mg base 2 "_law_take" ["row", "spot", "limit"] [.val, .spot, .val] (m__law_take) :=
  real_of F sc__law_take rfl hm hb fun cdv A outer s H E hr => (dss_cons (ds_spot (pv 1) (de_bin op3_add (DG.b (de_spot (pv 1))) (DG.b de_int))) (dss_one (ds_ret (de_call R__law_draw hr (by decide) (dx_val (de_var (pv 0)) (dx_val (de_bin op3_sub (DG.b (de_spot (pv 1))) (DG.b de_int)) (dx_val (de_var (pv 2)) dx_nil)))))))
abbrev s__law_of : Stmt := top 13
abbrev n__law_of : List Str := ["value", "made"]
theorem sc__law_of : FnScope n__law_of ["value"] (defScope s__law_of) := ⟨rfl, rfl, rfl, by decide +kernel, rfl, by decide +kernel, by decide +kernel⟩
noncomputable def g__law_of (C_BadPaper : Addr) (C_BadText : Addr) (C_BadValue : Addr) (C_NoStem : Addr) (C_StemError : Addr) (C_TakenStem : Addr) (C_TooMany : Addr) : Env3 → MM Fl3 := (seq (asg 1 (lstV (ac (isX [(C_BadValue, true), (C_BadText, false), (C_BadPaper, false), (C_NoStem, false), (C_TakenStem, false), (C_TooMany, false)] (vr 0)) (ac (isX [(C_BadValue, false), (C_BadText, true), (C_BadPaper, false), (C_NoStem, false), (C_TakenStem, false), (C_TooMany, false)] (vr 0)) (ac (isX [(C_BadValue, false), (C_BadText, false), (C_BadPaper, true), (C_NoStem, false), (C_TakenStem, false), (C_TooMany, false)] (vr 0)) an))))) (ret (bin addD (vr 1) (lstV (ac (isX [(C_BadValue, false), (C_BadText, false), (C_BadPaper, false), (C_NoStem, true), (C_TakenStem, false), (C_TooMany, false)] (vr 0)) (ac (isX [(C_BadValue, false), (C_BadText, false), (C_BadPaper, false), (C_NoStem, false), (C_TakenStem, true), (C_TooMany, false)] (vr 0)) (ac (isX [(C_BadValue, false), (C_BadText, false), (C_BadPaper, false), (C_NoStem, false), (C_TakenStem, false), (C_TooMany, true)] (vr 0)) an)))))))
noncomputable def m__law_of (C_BadPaper : Addr) (C_BadText : Addr) (C_BadValue : Addr) (C_NoStem : Addr) (C_StemError : Addr) (C_TakenStem : Addr) (C_TooMany : Addr) : List PyData → MM PyData := fun ds => runB (g__law_of C_BadPaper C_BadText C_BadValue C_NoStem C_StemError C_TakenStem C_TooMany) (startE 2 [.val] ds)
theorem real__law_of {f : Addr} {fd : FuncData} {C_BadPaper : Addr} {C_BadText : Addr} {C_BadValue : Addr} {C_NoStem : Addr} {C_StemError : Addr} {C_TakenStem : Addr} {C_TooMany : Addr} (T : Tops K mg) (F : Fun K "_law_of" "_law_of" s__law_of f fd) (hm : mg "_law_of" = some (.ref f)) (hb : Binds K fd ["value"] []) (EV : ErrV K mg C_BadPaper C_BadText C_BadValue C_NoStem C_StemError C_TakenStem C_TooMany) : Real P w K mg base 1 "_law_of" ["value"] [.val] (m__law_of C_BadPaper C_BadText C_BadValue C_NoStem C_StemError C_TakenStem C_TooMany) :=
  real_of F sc__law_of rfl hm hb fun cdv A outer s H E hr => (dss_cons (ds_set (x := "made") (fun _ h => ps_set (i := 1) sc__law_of.nd rfl (Or.inl rfl) h) (DF.toE (df_lst (da_cons p3_stays (de_isX T.b_isinstance (pe_glob (by rfl) EV.g_BadValue (show RelV (.ref C_BadValue) (.ref C_BadValue) from rfl)) (.own C_BadValue) (de_var (pv 0)) EV.k_BadValue) (da_cons p3_stays (de_isX T.b_isinstance (pe_glob (by rfl) EV.g_BadText (show RelV (.ref C_BadText) (.ref C_BadText) from rfl)) (.own C_BadText) (de_var (pv 0)) EV.k_BadText) (da_cons p3_stays (de_isX T.b_isinstance (pe_glob (by rfl) EV.g_BadPaper (show RelV (.ref C_BadPaper) (.ref C_BadPaper) from rfl)) (.own C_BadPaper) (de_var (pv 0)) EV.k_BadPaper) da_nil)))))) (dss_one (ds_ret (de_bin op3_add (DG.b (de_var (pv 1))) (DG.b (DF.toE (df_lst (da_cons p3_stays (de_isX T.b_isinstance (pe_glob (by rfl) EV.g_NoStem (show RelV (.ref C_NoStem) (.ref C_NoStem) from rfl)) (.own C_NoStem) (de_var (pv 0)) EV.k_NoStem) (da_cons p3_stays (de_isX T.b_isinstance (pe_glob (by rfl) EV.g_TakenStem (show RelV (.ref C_TakenStem) (.ref C_TakenStem) from rfl)) (.own C_TakenStem) (de_var (pv 0)) EV.k_TakenStem) (da_cons p3_stays (de_isX T.b_isinstance (pe_glob (by rfl) EV.g_TooMany (show RelV (.ref C_TooMany) (.ref C_TooMany) from rfl)) (.own C_TooMany) (de_var (pv 0)) EV.k_TooMany) da_nil))))))))))
abbrev s__law_foreign : Stmt := top 14
abbrev n__law_foreign : List Str := ["value"]
theorem sc__law_foreign : FnScope n__law_foreign ["value"] (defScope s__law_foreign) := ⟨rfl, rfl, rfl, by decide +kernel, rfl, by decide +kernel, by decide +kernel⟩
noncomputable def g__law_foreign (C_BadPaper : Addr) (C_BadText : Addr) (C_BadValue : Addr) (C_NoStem : Addr) (C_StemError : Addr) (C_TakenStem : Addr) (C_TooMany : Addr) : Env3 → MM Fl3 := (seq (ifS (orT (tst (isX [(C_BadValue, false), (C_BadText, false), (C_BadPaper, false), (C_NoStem, false), (C_TakenStem, false), (C_TooMany, false)] (vr 0))) (tst (isX [(C_BadValue, false), (C_BadText, false), (C_BadPaper, false), (C_NoStem, false), (C_TakenStem, false), (C_TooMany, false)] (vr 0)))) (ret (cs (.bool true))) nxt) (ret (orV (isX [(C_BadValue, false), (C_BadText, false), (C_BadPaper, false), (C_NoStem, false), (C_TakenStem, false), (C_TooMany, false)] (vr 0)) (notV (isX [(C_BadValue, true), (C_BadText, true), (C_BadPaper, true), (C_NoStem, true), (C_TakenStem, true), (C_TooMany, true)] (vr 0))))))
noncomputable def m__law_foreign (C_BadPaper : Addr) (C_BadText : Addr) (C_BadValue : Addr) (C_NoStem : Addr) (C_StemError : Addr) (C_TakenStem : Addr) (C_TooMany : Addr) : List PyData → MM PyData := fun ds => runB (g__law_foreign C_BadPaper C_BadText C_BadValue C_NoStem C_StemError C_TakenStem C_TooMany) (startE 1 [.val] ds)
theorem real__law_foreign {f : Addr} {fd : FuncData} {C_BadPaper : Addr} {C_BadText : Addr} {C_BadValue : Addr} {C_NoStem : Addr} {C_StemError : Addr} {C_TakenStem : Addr} {C_TooMany : Addr} (T : Tops K mg) (F : Fun K "_law_foreign" "_law_foreign" s__law_foreign f fd) (hm : mg "_law_foreign" = some (.ref f)) (hb : Binds K fd ["value"] []) (EV : ErrV K mg C_BadPaper C_BadText C_BadValue C_NoStem C_StemError C_TakenStem C_TooMany) : Real P w K mg base 1 "_law_foreign" ["value"] [.val] (m__law_foreign C_BadPaper C_BadText C_BadValue C_NoStem C_StemError C_TakenStem C_TooMany) :=
  real_of F sc__law_foreign rfl hm hb fun cdv A outer s H E hr => (dss_cons (ds_if (DW.t (dw_or (dt_val (DG.b (de_isX T.b_isinstance (pe_bltn (v := .ty "ValueError") (by rfl) T.b_ValueError bb_ValueError rfl) (.ty "ValueError") (de_var (pv 0)) EV.k_ValueError))) (dw_or1 (dt_val (DG.b (de_isX T.b_isinstance (pe_bltn (v := .ty "LookupError") (by rfl) T.b_LookupError bb_LookupError rfl) (.ty "LookupError") (de_var (pv 0)) EV.k_LookupError)))))) (dss_one (ds_ret de_bl)) dss_nil) (dss_one (ds_ret (de_or (de_isX T.b_isinstance (pe_bltn (v := .ty "ArithmeticError") (by rfl) T.b_ArithmeticError bb_ArithmeticError rfl) (.ty "ArithmeticError") (de_var (pv 0)) EV.k_ArithmeticError) (de_one (de_not (de_isX T.b_isinstance (pe_bltn (v := .ty "Exception") (by rfl) T.b_Exception bb_Exception rfl) (.ty "Exception") (de_var (pv 0)) EV.k_Exception)))))))
abbrev s__law_caught : Stmt := top 15
abbrev n__law_caught : List Str := ["at", "wrong"]
theorem sc__law_caught : FnScope n__law_caught ["at"] (defScope s__law_caught) := ⟨rfl, rfl, rfl, by decide +kernel, rfl, by decide +kernel, by decide +kernel⟩
noncomputable def g__law_caught (C_BadPaper : Addr) (C_BadText : Addr) (C_BadValue : Addr) (C_NoStem : Addr) (C_StemError : Addr) (C_TakenStem : Addr) (C_TooMany : Addr) : Env3 → MM Fl3 := (tryB ["TooMany", "NoStem"] 1 (seq (ifS (tst (bin eqD (vr 0) (cs (.int 0)))) (rs "TooMany" (cs .none)) nxt) (rs "NoStem" (vr 0))) (retX (isP [("TooMany", false), ("NoStem", true)])))
noncomputable def m__law_caught (C_BadPaper : Addr) (C_BadText : Addr) (C_BadValue : Addr) (C_NoStem : Addr) (C_StemError : Addr) (C_TakenStem : Addr) (C_TooMany : Addr) : List PyData → MM PyData := fun ds => runB (g__law_caught C_BadPaper C_BadText C_BadValue C_NoStem C_StemError C_TakenStem C_TooMany) (startE 2 [.val] ds)
theorem real__law_caught {f : Addr} {fd : FuncData} {C_BadPaper : Addr} {C_BadText : Addr} {C_BadValue : Addr} {C_NoStem : Addr} {C_StemError : Addr} {C_TakenStem : Addr} {C_TooMany : Addr} (T : Tops K mg) (F : Fun K "_law_caught" "_law_caught" s__law_caught f fd) (hm : mg "_law_caught" = some (.ref f)) (hb : Binds K fd ["at"] []) (EV : ErrV K mg C_BadPaper C_BadText C_BadValue C_NoStem C_StemError C_TakenStem C_TooMany) : Real P w K mg base 1 "_law_caught" ["at"] [.val] (m__law_caught C_BadPaper C_BadText C_BadValue C_NoStem C_StemError C_TakenStem C_TooMany) :=
  real_of F sc__law_caught rfl hm hb fun cdv A outer s H E hr => (dss_one (ds_tryB takes_none5 EV.g_StemError EV.t_c sc__law_caught.nd rfl (fun _ _ _ tk1 po1 => (dss_cons (ds_if (dt_cmp (op3_eq hr.units) (DG.b (de_var (pv 0))) (DG.b de_int)) (dss_one (ds_raise0 T.e_TooMany.choose_spec tk1)) dss_nil) (dss_one (ds_raiseWord T.e_NoStem.choose_spec.choose_spec hr tk1 (de_var (pv 0)))))) (dhb_isP T.b_isinstance EV.g_NoStem EV.p_NoStem (i := 1) rfl (Or.inl rfl))))
abbrev s_law : Stmt := top 16
abbrev n_law : List Str := ["script", "row", "spot", "at", "other", "made", "every", "k", "one"]
theorem sc_law : FnScope n_law ["script"] (defScope s_law) := ⟨rfl, rfl, rfl, by decide +kernel, rfl, by decide +kernel, by decide +kernel⟩
noncomputable def g_law1 (K : PySem.W.Frag) : Env3 → MM Fl3 := (asg 1 (cal (m__law_numbers K) (asc K 0 an)))
noncomputable def g_law2 (K : PySem.W.Frag) : Env3 → MM Fl3 := (asgO 2 (lstV (ac (cs (.int 0)) an)))
noncomputable def g_law3 (K : PySem.W.Frag) (C_BadPaper : Addr) (C_BadText : Addr) (C_BadValue : Addr) (C_NoStem : Addr) (C_StemError : Addr) (C_TakenStem : Addr) (C_TooMany : Addr) : Env3 → MM Fl3 := (seq (asg 3 (bin subD (cal m__law_take (ac (vr 1) (asp 2 (ac (cs (.int 997)) an)))) (cs (.int 9)))) (seq (asg 4 (bin ixD (lstV (ac (cs .none) (ac (negV (vr 3)) (ac (cs (.str "x")) (ac (tupV (ac (vr 3) (ac (cs (.int 2)) an))) (ac (cs (.bool true)) an)))))) (cal m__law_take (ac (vr 1) (asp 2 (ac (cs (.int 5)) an)))))) (seq (forS (itV (lstV (ac (exV C_BadValue "at" (vr 3)) (ac (exV C_BadText "at" (vr 3)) (ac (exV C_BadPaper "at" (vr 3)) (ac (exV C_BadValue "at" (vr 3)) (ac (exV C_BadText "at" (vr 3)) (ac (exV C_BadPaper "at" (vr 3)) an)))))))) (tgN 5) (ifS (notT (tst (cal (m__law_so 8) (ac (fldE "at" [C_BadValue, C_BadText, C_BadPaper] (vr 5)) (ac (vr 3) an))))) (ret (cs (.bool false))) nxt)) (seq (forS (itV (lstV (ac (exV C_NoStem "word" (vr 4)) (ac (exV C_NoStem "word" (vr 4)) (ac (exV C_TakenStem "word" (vr 4)) (ac (exV C_TakenStem "word" (vr 4)) an)))))) (tgN 5) (ifS (notT (tst (cal (m__law_so 8) (ac (fldE "word" [C_NoStem, C_TakenStem] (vr 5)) (ac (vr 4) an))))) (ret (cs (.bool false))) nxt)) (seq (asg 6 (lstV (ac (exV C_BadValue "at" (vr 3)) (ac (exV C_BadText "at" (vr 3)) (ac (exV C_BadPaper "at" (vr 3)) (ac (exV C_NoStem "word" (vr 4)) (ac (exV C_TakenStem "word" (vr 4)) (ac (exV0 C_TooMany) an)))))))) (seq (forS (itA rg1 (ac (cs (.int 6)) an)) (tgN 7) (ifS (orT (tst (bin neD (cal (m__law_of C_BadPaper C_BadText C_BadValue C_NoStem C_StemError C_TakenStem C_TooMany) (ac (bin ixD (vr 6) (vr 7)) an)) (lcV (itA rg1 (ac (cs (.int 6)) an)) [8] (tgN 8) ty (bin eqD (vr 8) (vr 7))))) (orT (tst (cal (m__law_foreign C_BadPaper C_BadText C_BadValue C_NoStem C_StemError C_TakenStem C_TooMany) (ac (bin ixD (vr 6) (vr 7)) an))) (notT (tst (isX [(C_BadValue, true), (C_BadText, true), (C_BadPaper, true), (C_NoStem, true), (C_TakenStem, true), (C_TooMany, true)] (bin ixD (vr 6) (vr 7))))))) (ret (cs (.bool false))) nxt)) (ret (andV (notV (cal (m__law_caught C_BadPaper C_BadText C_BadValue C_NoStem C_StemError C_TakenStem C_TooMany) (ac (cs (.int 0)) an))) (cal (m__law_caught C_BadPaper C_BadText C_BadValue C_NoStem C_StemError C_TakenStem C_TooMany) (ac (bin addD (cs (.int 1)) (cal m__law_take (ac (vr 1) (asp 2 (ac (cs (.int 9)) an))))) an))))))))))
theorem real_law {f : Addr} {fd : FuncData} {C_BadPaper : Addr} {C_BadText : Addr} {C_BadValue : Addr} {C_NoStem : Addr} {C_StemError : Addr} {C_TakenStem : Addr} {C_TooMany : Addr} (T : Tops K mg) (F : Fun K "law" "law" s_law f fd) (EV : ErrV K mg C_BadPaper C_BadText C_BadValue C_NoStem C_StemError C_TakenStem C_TooMany) (R__law_caught : Real P w K mg base 1 "_law_caught" ["at"] [.val] (m__law_caught C_BadPaper C_BadText C_BadValue C_NoStem C_StemError C_TakenStem C_TooMany)) (R__law_foreign : Real P w K mg base 1 "_law_foreign" ["value"] [.val] (m__law_foreign C_BadPaper C_BadText C_BadValue C_NoStem C_StemError C_TakenStem C_TooMany)) (R__law_numbers : Real P w K mg base 1 "_law_numbers" ["script"] [.scr K] (m__law_numbers K)) (R__law_of : Real P w K mg base 1 "_law_of" ["value"] [.val] (m__law_of C_BadPaper C_BadText C_BadValue C_NoStem C_StemError C_TakenStem C_TooMany)) (R__law_so : Real P w K mg base 9 "_law_so" ["found", "meant"] [.val, .val] (m__law_so 8)) (R__law_take : Real P w K mg base 2 "_law_take" ["row", "spot", "limit"] [.val, .spot, .val] m__law_take) (run : ∀ ns : List Int, ns.length ≤ 63 → ∃ Δ1 k1 Δ2 k2 c k3, 0 ≤ c ∧ g_law1 K (startE 9 [.scr K] [.list (ns.map .int)]) 0 = .ok (.nx Δ1) k1 ∧ g_law2 K Δ1 k1 = .ok (.nx Δ2) k2 ∧ Δ2[2]? = some (some (.own (.list [.int c]))) ∧ g_law3 K C_BadPaper C_BadText C_BadValue C_NoStem C_StemError C_TakenStem C_TooMany (spotE 2 Δ2) c = .ok (.rt (.bool true)) k3) : FnOk P w K mg base CX0 10 f fd ["script"] (spLaw3 K 63) :=
  law_of F sc_law rfl (fun cdv A outer s H E hr => (ds_set (x := "row") (fun _ h => ps_set (i := 1) sc_law.nd rfl (Or.inl rfl) h) (de_call R__law_numbers hr (by decide) (dx_scr (pv 0) dx_nil)))) (fun cdv A outer s H E hr => (ds_own (fun _ h => ps_set (i := 2) sc_law.nd rfl (Or.inl rfl) h) (df_lst (da_cons p3_stays de_int da_nil)))) (fun cdv A outer s H E hr => (dss_cons (ds_set (x := "at") (fun _ h => ps_set (i := 3) sc_law.nd rfl (Or.inl rfl) h) (de_bin op3_sub (DG.b (de_call R__law_take hr (by decide) (dx_val (de_var (pv 1)) (dx_spot (pv 2) (dx_val de_int dx_nil))))) (DG.b de_int))) (dss_cons (ds_set (x := "other") (fun _ h => ps_set (i := 4) sc_law.nd rfl (Or.inl rfl) h) (de_ix hr.units (DG.b (DF.toE (df_lst (da_cons p3_stays de_non (da_cons p3_stays (de_neg (de_var (pv 3))) (da_cons p3_stays de_str (da_cons p3_stays (de_tup (da_cons p3_stays (de_var (pv 3)) (da_cons p3_stays de_int da_nil))) (da_cons p3_stays de_bl da_nil)))))))) (DG.b (de_call R__law_take hr (by decide) (dx_val (de_var (pv 1)) (dx_spot (pv 2) (dx_val de_int dx_nil))))))) (dss_cons (ds_for PassesOwn.never rfl (di_val (DF.toE (df_lst (da_cons p3_stays (de_newLowAt EV.l_BadValue.choose_spec hr (de_var (pv 3))) (da_cons p3_stays (de_newLowAt EV.l_BadText.choose_spec hr (de_var (pv 3))) (da_cons p3_stays (de_newLowAt EV.l_BadPaper.choose_spec hr (de_var (pv 3))) (da_cons p3_stays (de_newkwLowAt EV.l_BadValue.choose_spec hr (de_var (pv 3))) (da_cons p3_stays (de_newkwLowAt EV.l_BadText.choose_spec hr (de_var (pv 3))) (da_cons p3_stays (de_newkwLowAt EV.l_BadPaper.choose_spec hr (de_var (pv 3))) da_nil))))))))) (dt3_name (pg_name (i := 5) sc_law.nd rfl (Or.inl rfl))) (dss_one (ds_if (dt_not (dt_val (DG.b (de_call R__law_so hr (by decide) (dx_val (de_fldE (de_var (pv 5)) EV.f_at) (dx_val (de_var (pv 3)) dx_nil)))))) (dss_one (ds_ret de_bl)) dss_nil))) (dss_cons (ds_for PassesOwn.never rfl (di_val (DF.toE (df_lst (da_cons p3_stays (de_newLowWord EV.l_NoStem.choose_spec hr (de_var (pv 4))) (da_cons p3_stays (de_newkwLowWord EV.l_NoStem.choose_spec hr (de_var (pv 4))) (da_cons p3_stays (de_newLowWord EV.l_TakenStem.choose_spec hr (de_var (pv 4))) (da_cons p3_stays (de_newkwLowWord EV.l_TakenStem.choose_spec hr (de_var (pv 4))) da_nil))))))) (dt3_name (pg_name (i := 5) sc_law.nd rfl (Or.inl rfl))) (dss_one (ds_if (dt_not (dt_val (DG.b (de_call R__law_so hr (by decide) (dx_val (de_fldE (de_var (pv 5)) EV.f_word) (dx_val (de_var (pv 4)) dx_nil)))))) (dss_one (ds_ret de_bl)) dss_nil))) (dss_cons (ds_set (x := "every") (fun _ h => ps_set (i := 6) sc_law.nd rfl (Or.inl rfl) h) (DF.toE (df_lst (da_cons p3_stays (de_newLowAt EV.l_BadValue.choose_spec hr (de_var (pv 3))) (da_cons p3_stays (de_newLowAt EV.l_BadText.choose_spec hr (de_var (pv 3))) (da_cons p3_stays (de_newLowAt EV.l_BadPaper.choose_spec hr (de_var (pv 3))) (da_cons p3_stays (de_newLowWord EV.l_NoStem.choose_spec hr (de_var (pv 4))) (da_cons p3_stays (de_newLowWord EV.l_TakenStem.choose_spec hr (de_var (pv 4))) (da_cons p3_stays (de_new0 EV.l_TooMany) da_nil))))))))) (dss_cons (ds_for PassesOwn.never rfl (di_range1 T.b_range (da_cons b3_stays (DG.b de_int) da_nil)) (dt3_name (pg_name (i := 7) sc_law.nd rfl (Or.inr rfl))) (dss_one (ds_if (DW.t (dw_or (dt_cmp (op3_ne hr.units) (DG.b (de_call R__law_of hr (by decide) (dx_val (de_ix hr.units (DG.b (de_var (pv 6))) (DG.b (de_var (pv 7)))) dx_nil))) (DG.b (DF.toE (df_lcv rfl sc_law.nd (di_range1 T.b_range (da_cons b3_stays (DG.b de_int) da_nil)) (blkOk_by (own := [("one", 8)]) (N := n_law) (sc := defScope s_law) (by decide +kernel)) rfl (by decide) (fun _ _ _ _ _ => (dt3_name (pg_name (i := 8) sc_law.nd rfl (Or.inl rfl)))) (fun _ _ _ _ _ => dts_nil) (fun _ _ _ _ _ => (de_cmp (op3_eq hr.units) (DG.b (de_var (pv 8))) (DG.b (de_var (pv 7))))))))) (dw_or (dt_val (DG.b (de_call R__law_foreign hr (by decide) (dx_val (de_ix hr.units (DG.b (de_var (pv 6))) (DG.b (de_var (pv 7)))) dx_nil)))) (dw_or1 (dt_not (dt_val (DG.b (de_isX T.b_isinstance (pe_glob (by rfl) EV.g_StemError (show RelV (.ref C_StemError) (.ref C_StemError) from rfl)) (.own C_StemError) (de_ix hr.units (DG.b (de_var (pv 6))) (DG.b (de_var (pv 7)))) EV.k_StemError)))))))) (dss_one (ds_ret de_bl)) dss_nil))) (dss_one (ds_ret (de_and (de_not (de_call R__law_caught hr (by decide) (dx_val de_int dx_nil))) (de_one (de_call R__law_caught hr (by decide) (dx_val (de_bin op3_add (DG.b de_int) (DG.b (de_call R__law_take hr (by decide) (dx_val (de_var (pv 1)) (dx_spot (pv 2) (dx_val de_int dx_nil)))))) dx_nil))))))))))))) run
end
end KL

set_option Elab.async false
set_option linter.all false
set_option maxRecDepth 100000
set_option maxHeartbeats 4000000
namespace L3
open PySem PySem.Spec PyProof.Rows L2

/-- runs that end well, the counter never below 0 -/
def Rn {α : Type} (m : MM α) (P : α → Prop) : Prop := ∀ k, 0 ≤ k → ∃ a k', m k = .ok a k' ∧ 0 ≤ k' ∧ P a
section
variable {α β : Type} {m : MM α} {g : α → MM β} {P : β → Prop} {Q : α → Prop}
theorem Rn.rt {a : α} (h : Q a) : Rn (L3.rt a) Q := fun k hk => ⟨a, k, rfl, hk, h⟩
theorem Rn.bd (h : Rn m Q) (f : ∀ a, Q a → Rn (g a) P) : Rn (L3.bd m g) P := fun k hk => by
  obtain ⟨a, k', e, hk', q⟩ := h k hk
  unfold L3.bd
  rw [e]
  exact f a q k' hk'
theorem Rn.mono {Q' : α → Prop} (h : Rn m Q) (f : ∀ a, Q a → Q' a) : Rn m Q' := fun k hk => by
  obtain ⟨a, k', e, hk', q⟩ := h k hk
  exact ⟨a, k', e, hk', f a q⟩
theorem Rn.calmly (h : Rn m Q) : Rn (L3.calmly m) Q := fun k hk => by
  obtain ⟨a, k', e, hk', q⟩ := h k hk
  exact ⟨a, k', by unfold L3.calmly; rw [e], hk', q⟩
theorem Rn.tryE {Δ : Env3} {f : α → MM Fl3} {R : Fl3 → Prop} (h : Rn m Q) (c : ∀ a, Q a → Rn (f a) R) : Rn (L3.tryE m Δ f) R := fun k hk => by
  obtain ⟨a, k', e, hk', q⟩ := h k hk
  unfold L3.tryE
  rw [e]
  exact c a q k' hk'
theorem Rn.op {o : Option α} {a : α} (e : o = some a) (h : Q a) : Rn (L3.op o) Q := by
  rw [e]
  exact Rn.rt h
theorem Rn.ite {c : Prop} [Decidable c] {m' : MM α} (h : c → Rn m Q) (h' : ¬ c → Rn m' Q) : Rn (if c then m else m') Q := by
  split
  · exact h ‹_›
  · exact h' ‹_›
theorem Rn.and {Q' : α → Prop} (h : Rn m Q) (h' : Rn m Q') : Rn m fun a => Q a ∧ Q' a := fun k hk => by
  obtain ⟨a, k', e, hk', q⟩ := h k hk
  obtain ⟨a2, k2, e2, _, q2⟩ := h' k hk
  rw [e] at e2
  cases e2
  exact ⟨a, k', e, hk', q, q2⟩
theorem Rn.ok {k : Int} (h : Rn m Q) (hk : 0 ≤ k) : ∃ a k', m k = .ok a k' ∧ 0 ≤ k' ∧ Q a := h k hk
end
def runM (m : MM Fl3) : MM PyData := fun k => match m k with
  | .ok (.rt d) k' => .ok d k'
  | .ok (.nx _) k' => .ok .none k'
  | _ => .no
theorem runB_eq (g : Env3 → MM Fl3) (Δ : Env3) : runB g Δ = runM (g Δ) := rfl
@[simp] theorem runM_rt (d : PyData) : runM (rt (.rt d)) = rt d := Eq.trans rfl rfl
@[simp] theorem runM_nx (Δ : Env3) : runM (rt (.nx Δ)) = rt .none := Eq.trans rfl rfl
@[simp] theorem runM_fl : runM fl = fl := Eq.trans rfl rfl
@[simp] theorem runM_op {α : Type} (o : Option α) (f : α → MM Fl3) : runM (bd (op o) f) = bd (op o) fun a => runM (f a) := by cases o <;> rfl
@[simp] theorem runM_calmly {α : Type} (m : MM α) (f : α → MM Fl3) : runM (bd (calmly m) f) = bd (calmly m) fun a => runM (f a) := by
  funext k
  unfold runM bd calmly
  cases m k <;> rfl
@[simp] theorem runM_ite (c : Prop) [Decidable c] (a b : MM Fl3) : runM (if c then a else b) = if c then runM a else runM b := by split <;> rfl
theorem Rn.runM {m : MM Fl3} {P : PyData → Prop} (h : Rn m fun r => (∃ d, r = .rt d ∧ P d) ∨ ∃ Δ, r = .nx Δ ∧ P .none) : Rn (L3.runM m) P := fun k hk => by
  obtain ⟨r, k', e, hk', q⟩ := h k hk
  unfold L3.runM
  rw [e]
  rcases q with ⟨d, rfl, q⟩ | ⟨Δ, rfl, q⟩
  · exact ⟨d, k', rfl, hk', q⟩
  · exact ⟨_, k', rfl, hk', q⟩
@[simp] theorem tryE_bd {α β : Type} (m : MM α) (f : α → MM β) (Δ : Env3) (g : β → MM Fl3) : tryE (bd m f) Δ g = tryE m Δ fun a => tryE (f a) Δ g := by
  funext k
  unfold tryE bd
  cases m k <;> rfl
@[simp] theorem tryE_op {α : Type} (o : Option α) (Δ : Env3) (g : α → MM Fl3) : tryE (op o) Δ g = bd (op o) g := by cases o <;> rfl
@[simp] theorem tryE_calmly {α : Type} (m : MM α) (Δ : Env3) (g : α → MM Fl3) : tryE (calmly m) Δ g = bd (calmly m) g := by
  funext k
  unfold tryE bd calmly
  cases m k <;> rfl
@[simp] theorem tryE_ite {α : Type} (c : Prop) [Decidable c] (a b : MM α) (Δ : Env3) (g : α → MM Fl3) : tryE (if c then a else b) Δ g = if c then tryE a Δ g else tryE b Δ g := by split <;> rfl
@[simp] theorem bd_ite {α β : Type} (c : Prop) [Decidable c] (a b : MM α) (g : α → MM β) : bd (if c then a else b) g = if c then bd a g else bd b g := by split <;> rfl
@[simp] theorem calmly_calmly {α : Type} (m : MM α) : calmly (calmly m) = calmly m := by
  funext k
  unfold calmly
  cases m k <;> rfl
@[simp] theorem calmly_bd_op {α β : Type} (o : Option α) (f : α → MM β) : calmly (bd (op o) f) = bd (op o) fun a => calmly (f a) := by cases o <;> rfl
@[simp] theorem calmly_bd_calmly {α β : Type} (m : MM α) (f : α → MM β) : calmly (bd (calmly m) f) = bd (calmly m) fun a => calmly (f a) := by
  funext k
  show (match (match (match m k with | .ok a k' => O.ok a k' | _ => O.no) with | .ok a k' => f a k' | .ex x k' => .ex x k' | .no => .no) with | .ok a k' => O.ok a k' | _ => O.no) =
    (match (match m k with | .ok a k' => O.ok a k' | _ => O.no) with | .ok a k' => calmly (f a) k' | .ex x k' => .ex x k' | .no => .no)
  cases m k <;> rfl
@[simp] theorem calmly_op {α : Type} (o : Option α) : calmly (op o) = op o := by cases o <;> rfl
@[simp] theorem calmly_ite {α : Type} (c : Prop) [Decidable c] (a b : MM α) : calmly (if c then a else b) = if c then calmly a else calmly b := by split <;> rfl

def isIntD : PyData → Bool | .int _ => true | _ => false
def isBoolD : PyData → Bool | .bool _ => true | _ => false
def isStrD : PyData → Bool | .str _ => true | _ => false
def isTupleD : PyData → Bool | .tuple _ => true | _ => false
def isListD : PyData → Bool | .list _ => true | _ => false
@[simp] theorem kit_int (d : PyData) : kitB (tyN d) "int" = some (isIntD d || isBoolD d) := by cases d <;> simp only [tyN, isIntD, isBoolD, isStrD, isTupleD, isListD] <;> decide +kernel
@[simp] theorem kit_bool (d : PyData) : kitB (tyN d) "bool" = some (isBoolD d) := by cases d <;> simp only [tyN, isIntD, isBoolD, isStrD, isTupleD, isListD] <;> decide +kernel
@[simp] theorem kit_str (d : PyData) : kitB (tyN d) "str" = some (isStrD d) := by cases d <;> simp only [tyN, isIntD, isBoolD, isStrD, isTupleD, isListD] <;> decide +kernel
@[simp] theorem kit_tuple (d : PyData) : kitB (tyN d) "tuple" = some (isTupleD d) := by cases d <;> simp only [tyN, isIntD, isBoolD, isStrD, isTupleD, isListD] <;> decide +kernel
@[simp] theorem kit_list (d : PyData) : kitB (tyN d) "list" = some (isListD d) := by cases d <;> simp only [tyN, isIntD, isBoolD, isStrD, isTupleD, isListD] <;> decide +kernel

@[simp] theorem ev_seq (g h : Env3 → MM Fl3) (Δ : Env3) : seq g h Δ = (bd (g Δ) fun r => match r with
  | .nx Δ' => h Δ'
  | .rt d => rt (.rt d)
  | .bk Δ' => rt (.bk Δ')
  | .ct Δ' => rt (.ct Δ')
  | .xx x Δ' => rt (.xx x Δ')) := Eq.trans rfl rfl
@[simp] theorem ev_ifS (t : Env3 → MM Bool) (g h : Env3 → MM Fl3) (Δ : Env3) : ifS t g h Δ = (tryE (t Δ) Δ fun c => if c = true then g Δ else h Δ) := Eq.trans rfl rfl
@[simp] theorem ev_tst (f : Env3 → MM PyData) (Δ : Env3) : tst f Δ = (bd (f Δ) fun x => op (asB x)) := Eq.trans rfl rfl
@[simp] theorem ev_tru (f : Env3 → MM PyData) (Δ : Env3) : tru f Δ = (bd (f Δ) fun x => op (truD x)) := Eq.trans rfl rfl
@[simp] theorem ev_andT (f g : Env3 → MM Bool) (Δ : Env3) : andT f g Δ = (bd (f Δ) fun c => if c = true then g Δ else rt false) := Eq.trans rfl rfl
@[simp] theorem ev_orT (f g : Env3 → MM Bool) (Δ : Env3) : orT f g Δ = (bd (f Δ) fun c => if c = true then rt true else g Δ) := Eq.trans rfl rfl
@[simp] theorem ev_notT (f : Env3 → MM Bool) (Δ : Env3) : notT f Δ = (bd (f Δ) fun c => rt (!c)) := Eq.trans rfl rfl
@[simp] theorem ev_andV (f g : Env3 → MM PyData) (Δ : Env3) : andV f g Δ = (bd (f Δ) fun x => bd (op (asB x)) fun c => if c = true then g Δ else rt (.bool false)) := Eq.trans rfl rfl
@[simp] theorem ev_orV (f g : Env3 → MM PyData) (Δ : Env3) : orV f g Δ = (bd (f Δ) fun x => bd (op (asB x)) fun c => if c = true then rt (.bool true) else g Δ) := Eq.trans rfl rfl
@[simp] theorem ev_notV (f : Env3 → MM PyData) (Δ : Env3) : notV f Δ = (bd (f Δ) fun x => bd (op (asB x)) fun c => rt (.bool (!c))) := Eq.trans rfl rfl
@[simp] theorem ev_ifV (t : Env3 → MM Bool) (f g : Env3 → MM PyData) (Δ : Env3) : ifV t f g Δ = (bd (t Δ) fun c => if c = true then f Δ else g Δ) := Eq.trans rfl rfl
@[simp] theorem ev_bin (o : PyData → PyData → Option PyData) (f g : Env3 → MM PyData) (Δ : Env3) : bin o f g Δ = (bd (f Δ) fun x => bd (g Δ) fun y => op (o x y)) := Eq.trans rfl rfl
@[simp] theorem ev_chn (o o' : PyData → PyData → Option PyData) (f g h : Env3 → MM PyData) (Δ : Env3) : chn o o' f g h Δ = (bd (f Δ) fun x => bd (g Δ) fun y => bd (op ((o x y).bind asB)) fun c => if c = true then bd (h Δ) fun z => op (o' y z) else rt (.bool false)) := Eq.trans rfl rfl
@[simp] theorem ev_cs (d : PyData) (Δ : Env3) : cs d Δ = (rt d) := Eq.trans rfl rfl
@[simp] theorem ev_vr (i : Nat) (Δ : Env3) : vr i Δ = (op (slV Δ[i]?)) := Eq.trans rfl rfl
@[simp] theorem ev_vb (i : Nat) (Δ : Env3) : vb i Δ = (op (slB Δ[i]?)) := Eq.trans rfl rfl
@[simp] theorem ev_asg (i : Nat) (f : Env3 → MM PyData) (Δ : Env3) : asg i f Δ = (tryE (f Δ) Δ fun d => rt (.nx (Δ.set i (some (.val d))))) := Eq.trans rfl rfl
@[simp] theorem ev_asgO (i : Nat) (f : Env3 → MM PyData) (Δ : Env3) : asgO i f Δ = (tryE (f Δ) Δ fun d => rt (.nx (Δ.set i (some (.own d))))) := Eq.trans rfl rfl
@[simp] theorem ev_ret (f : Env3 → MM PyData) (Δ : Env3) : ret f Δ = (tryE (f Δ) Δ fun d => rt (.rt d)) := Eq.trans rfl rfl
@[simp] theorem ev_nxt (Δ : Env3) : nxt Δ = (rt (.nx Δ)) := Eq.trans rfl rfl
@[simp] theorem ev_fz (i : Nat) (g : Env3 → MM Fl3) (Δ : Env3) : fz i g Δ = (g (fzE i Δ)) := Eq.trans rfl rfl
@[simp] theorem ev_drp (f : Env3 → MM PyData) (Δ : Env3) : drp f Δ = (tryE (f Δ) Δ fun _ => rt (.nx Δ)) := Eq.trans rfl rfl
@[simp] theorem ev_an (Δ : Env3) : an Δ = (rt []) := Eq.trans rfl rfl
@[simp] theorem ev_itV (f : Env3 → MM PyData) (Δ : Env3) : itV f Δ = (bd (f Δ) fun x => op (iterD x)) := Eq.trans rfl rfl
@[simp] theorem ev_tgN (i : Nat) (Δ : Env3) (d : PyData) : tgN i Δ d = (some (Δ.set i (some (.val d)))) := Eq.trans rfl rfl
@[simp] theorem ev_tgT (u : Env3 → List PyData → Option Env3) (n : Nat) (Δ : Env3) (d : PyData) : tgT u n Δ d = (match d with | .tuple ds => if ds.length = n then u Δ ds else none | _ => none) := Eq.trans rfl rfl
@[simp] theorem ev_tgCons (t : Env3 → PyData → Option Env3) (u : Env3 → List PyData → Option Env3) (Δ : Env3) (ds : List PyData) : tgCons t u Δ ds = (match ds with | [] => none | d :: r => (t Δ d).bind fun Δ' => u Δ' r) := Eq.trans rfl rfl
@[simp] theorem ev_tgNil (Δ : Env3) (ds : List PyData) : tgNil Δ ds = (match ds with | [] => some Δ | _ => none) := Eq.trans rfl rfl
@[simp] theorem ev_isaV (T : String) (f : Env3 → MM PyData) (Δ : Env3) : isaV T f Δ = (bd (f Δ) fun d => op (if exS d = true then none else (kitB (tyN d) T).map .bool)) := Eq.trans rfl rfl
@[simp] theorem ev_negV (f : Env3 → MM PyData) (Δ : Env3) : negV f Δ = (bd (f Δ) fun x => match x with | .int i => rt (.int (-i)) | _ => fl) := Eq.trans rfl rfl
@[simp] theorem ev_joinV (f g : Env3 → MM PyData) (Δ : Env3) : joinV f g Δ = (bd (f Δ) fun x => bd (op (strOf x)) fun s => bd (g Δ) fun y => op (joinD s y)) := Eq.trans rfl rfl
@[simp] theorem ev_osm (f : Env3 → MM PyData) (Δ : Env3) : osm f Δ = (bd (f Δ) fun x => match x with | .int i => rt (some i) | _ => fl) := Eq.trans rfl rfl
@[simp] theorem ev_onn (Δ : Env3) : onn Δ = (rt none) := Eq.trans rfl rfl
@[simp] theorem ev_dst (i : Nat) (fk fv : Env3 → MM PyData) (Δ : Env3) : dst i fk fv Δ = (tryE (fv Δ) Δ fun v => bd (op (ownK Δ[i]?)) fun xs => tryE (fk Δ) Δ fun kk => bd (op (asKey kk)) fun key => if xs.length < sizeLine then rt (.nx (Δ.set i (some (.own (.dict (dput xs key v)))))) else fl) := Eq.trans rfl rfl
@[simp] theorem ev_app (i : Nat) (f : Env3 → MM PyData) (Δ : Env3) : app i f Δ = (bd (op (ownL Δ[i]?)) fun xs => tryE (f Δ) Δ fun y => if xs.length < sizeLine then rt (.nx (Δ.set i (some (.own (.list (xs ++ [y])))))) else fl) := Eq.trans rfl rfl
@[simp] theorem ev_ext (i : Nat) (f : Env3 → MM PyData) (Δ : Env3) : ext i f Δ = (bd (op (ownL Δ[i]?)) fun xs => tryE (f Δ) Δ fun y => match y with | .list ys => if xs.length + ys.length ≤ sizeLine then rt (.nx (Δ.set i (some (.own (.list (xs ++ ys)))))) else fl | _ => fl) := Eq.trans rfl rfl
@[simp] theorem ev_lst3 (i : Nat) (fk fv : Env3 → MM PyData) (Δ : Env3) : lst3 i fk fv Δ = (tryE (fv Δ) Δ fun v => bd (op (ownL Δ[i]?)) fun xs => tryE (fk Δ) Δ fun kk => match kk with | .int j => bd (op (ixN xs.length j)) fun jj => rt (.nx (Δ.set i (some (.own (.list (xs.set jj v)))))) | _ => fl) := Eq.trans rfl rfl
@[simp] theorem ev_asgT (tgt : Env3 → PyData → Option Env3) (f : Env3 → MM PyData) (Δ : Env3) : asgT tgt f Δ = (tryE (f Δ) Δ fun d => bd (op (tgt Δ d)) fun Δ' => rt (.nx Δ')) := Eq.trans rfl rfl
@[simp] theorem ev_ty (Δ : Env3) : ty Δ = (rt true) := Eq.trans rfl rfl
@[simp] theorem ev_aug (i : Nat) (F : PyData → PyData → Option PyData) (f : Env3 → MM PyData) (Δ : Env3) : aug i F f Δ = (bd (op (slV Δ[i]?)) fun x => tryE (f Δ) Δ fun y => bd (op (F x y)) fun z => rt (.nx (Δ.set i (some (.val z))))) := Eq.trans rfl rfl
@[simp] theorem ev_clV (F : List PyData → Option PyData) (g : Env3 → MM (List PyData)) (Δ : Env3) : clV F g Δ = (bd (g Δ) fun xs => op (F xs)) := Eq.trans rfl rfl
@[simp] theorem ev_ac (f : Env3 → MM PyData) (g : Env3 → MM (List PyData)) (Δ : Env3) : ac f g Δ = (bd (f Δ) fun x => bd (g Δ) fun xs => rt (x :: xs)) := Eq.trans rfl rfl
@[simp] theorem ev_as_ (f : Env3 → MM PyData) (g : Env3 → MM (List PyData)) (Δ : Env3) : as_ f g Δ = (bd (f Δ) fun x => bd (op (items x)) fun ys => bd (g Δ) fun xs => rt (ys ++ xs)) := Eq.trans rfl rfl
@[simp] theorem ev_cal (m : List PyData → MM PyData) (g : Env3 → MM (List PyData)) (Δ : Env3) : cal m g Δ = (bd (g Δ) fun ds => calmly (m ds)) := Eq.trans rfl rfl
@[simp] theorem ev_itA (F : List PyData → Option (List PyData)) (g : Env3 → MM (List PyData)) (Δ : Env3) : itA F g Δ = (bd (g Δ) fun xs => op (F xs)) := Eq.trans rfl rfl
@[simp] theorem ev_lcV (src : Env3 → MM (List PyData)) (vs : List Nat) (tg : Env3 → PyData → Option Env3) (tt : Env3 → MM Bool) (te : Env3 → MM PyData) (Δ : Env3) : lcV src vs tg tt te Δ = (bd (src Δ) fun ds => bd (lcGo tg tt te (wipeE Δ vs) ds []) fun xs => rt (.list xs)) := Eq.trans rfl rfl
@[simp] theorem ev_forS (src : Env3 → MM (List PyData)) (tgt : Env3 → PyData → Option Env3) (body : Env3 → MM Fl3) (Δ : Env3) : forS src tgt body Δ = (tryE (src Δ) Δ fun ds => forGo tgt body ds Δ) := Eq.trans rfl rfl
@[simp] theorem ev_tupV (g : Env3 → MM (List PyData)) (Δ : Env3) : tupV g Δ = (bd (g Δ) fun xs => if xs.length ≤ sizeLine then rt (.tuple xs) else fl) := Eq.trans rfl rfl
@[simp] theorem ev_lstV (g : Env3 → MM (List PyData)) (Δ : Env3) : lstV g Δ = (bd (g Δ) fun xs => if xs.length ≤ sizeLine then rt (.list xs) else fl) := Eq.trans rfl rfl
@[simp] theorem ev_slV3 (f : Env3 → MM PyData) (lo hi : Env3 → MM (Option Int)) (Δ : Env3) : slV3 f lo hi Δ = (bd (f Δ) fun x => bd (lo Δ) fun l => bd (hi Δ) fun u => op (slD x l u)) := Eq.trans rfl rfl
@[simp] theorem ev_slL3 (f : Env3 → MM PyData) (lo hi : Env3 → MM (Option Int)) (Δ : Env3) : slL3 f lo hi Δ = (bd (f Δ) fun x => bd (lo Δ) fun l => bd (hi Δ) fun u => match x with | .list xs => rt (.list (cutD xs l u)) | _ => L3.fl) := Eq.trans rfl rfl
@[simp] theorem ev_par (i j : Nat) (g : Env3 → MM (List PyData)) (Δ : Env3) : par i j g Δ = (tryE (g Δ) Δ fun ds => match ds with | [x, y] => rt (.nx ((Δ.set i (some (.val x))).set j (some (.val y)))) | _ => fl) := Eq.trans rfl rfl
@[simp] theorem ev_asp (i : Nat) (g : Env3 → MM (List PyData)) (Δ : Env3) : asp i g Δ = (if isSp Δ[i]? = true then bd (g Δ) fun xs => rt (.none :: xs) else fl) := Eq.trans rfl rfl
@[simp] theorem ev_runB (g : Env3 → MM Fl3) (Δ : Env3) : runB g Δ = runM (g Δ) := Eq.trans rfl rfl
@[simp] theorem ev_startE (n : Nat) (ks : List Kd) (ds : List PyData) : startE n ks ds = (List.zipWith kSl ks ds).map some ++ List.replicate (n - ds.length) none := Eq.trans rfl rfl
@[simp] theorem kSl_val (d : PyData) : kSl .val d = .val d := Eq.trans rfl rfl
@[simp] theorem kSl_bor (d : PyData) : kSl .bor d = .bor d := Eq.trans rfl rfl
@[simp] theorem kSl_spot (d : PyData) : kSl .spot d = .spot := Eq.trans rfl rfl
@[simp] theorem kSl_scr (K : PySem.W.Frag) (d : PyData) : kSl (.scr K) d = .scr K (scrNs d) := Eq.trans rfl rfl
@[simp] theorem slV_val (d : PyData) : slV (some (some (.val d))) = some d := Eq.trans rfl rfl
@[simp] theorem slB_val (d : PyData) : slB (some (some (.val d))) = some d := Eq.trans rfl rfl
@[simp] theorem slB_own (d : PyData) : slB (some (some (.own d))) = some d := Eq.trans rfl rfl
@[simp] theorem slB_bor (d : PyData) : slB (some (some (.bor d))) = some d := Eq.trans rfl rfl
@[simp] theorem ownL_own (xs : List PyData) : ownL (some (some (.own (.list xs)))) = some xs := Eq.trans rfl rfl
@[simp] theorem ownK_own (xs : List (PyData × PyData)) : ownK (some (some (.own (.dict xs)))) = some xs := Eq.trans rfl rfl
@[simp] theorem isSp_spot : isSp (some (some .spot)) = true := Eq.trans rfl rfl
@[simp] theorem wipeE_nil (Δ : Env3) : wipeE Δ [] = Δ := Eq.trans rfl rfl
@[simp] theorem wipeE_cons (Δ : Env3) (v : Nat) (vs : List Nat) : wipeE Δ (v :: vs) = (wipeE Δ vs).set v none := Eq.trans rfl rfl
@[simp] theorem ev_fzE (i : Nat) (Δ : Env3) : fzE i Δ = (match Δ[i]? with | some (some (.own d)) => Δ.set i (some (.val d)) | _ => Δ) := Eq.trans rfl rfl
end L3

set_option Elab.async false
set_option linter.all false
set_option maxRecDepth 100000
set_option maxHeartbeats 4000000
namespace L3
open PySem PySem.Spec PyProof.Rows L2

theorem big : sizeLine = 16777216 := sizeLine_eq
@[simp] theorem isIntD_none : isIntD (.none) = false := Eq.trans rfl rfl
@[simp] theorem isIntD_bool (b : Bool) : isIntD (.bool b) = false := Eq.trans rfl rfl
@[simp] theorem isIntD_int (i : Int) : isIntD (.int i) = true := Eq.trans rfl rfl
@[simp] theorem isIntD_str (z : Str) : isIntD (.str z) = false := Eq.trans rfl rfl
@[simp] theorem isIntD_list (xs : List PyData) : isIntD (.list xs) = false := Eq.trans rfl rfl
@[simp] theorem isIntD_tuple (xs : List PyData) : isIntD (.tuple xs) = false := Eq.trans rfl rfl
@[simp] theorem isIntD_dict (xs : List (PyData × PyData)) : isIntD (.dict xs) = false := Eq.trans rfl rfl
@[simp] theorem isBoolD_none : isBoolD (.none) = false := Eq.trans rfl rfl
@[simp] theorem isBoolD_bool (b : Bool) : isBoolD (.bool b) = true := Eq.trans rfl rfl
@[simp] theorem isBoolD_int (i : Int) : isBoolD (.int i) = false := Eq.trans rfl rfl
@[simp] theorem isBoolD_str (z : Str) : isBoolD (.str z) = false := Eq.trans rfl rfl
@[simp] theorem isBoolD_list (xs : List PyData) : isBoolD (.list xs) = false := Eq.trans rfl rfl
@[simp] theorem isBoolD_tuple (xs : List PyData) : isBoolD (.tuple xs) = false := Eq.trans rfl rfl
@[simp] theorem isBoolD_dict (xs : List (PyData × PyData)) : isBoolD (.dict xs) = false := Eq.trans rfl rfl
@[simp] theorem isStrD_none : isStrD (.none) = false := Eq.trans rfl rfl
@[simp] theorem isStrD_bool (b : Bool) : isStrD (.bool b) = false := Eq.trans rfl rfl
@[simp] theorem isStrD_int (i : Int) : isStrD (.int i) = false := Eq.trans rfl rfl
@[simp] theorem isStrD_str (z : Str) : isStrD (.str z) = true := Eq.trans rfl rfl
@[simp] theorem isStrD_list (xs : List PyData) : isStrD (.list xs) = false := Eq.trans rfl rfl
@[simp] theorem isStrD_tuple (xs : List PyData) : isStrD (.tuple xs) = false := Eq.trans rfl rfl
@[simp] theorem isStrD_dict (xs : List (PyData × PyData)) : isStrD (.dict xs) = false := Eq.trans rfl rfl
@[simp] theorem isTupleD_none : isTupleD (.none) = false := Eq.trans rfl rfl
@[simp] theorem isTupleD_bool (b : Bool) : isTupleD (.bool b) = false := Eq.trans rfl rfl
@[simp] theorem isTupleD_int (i : Int) : isTupleD (.int i) = false := Eq.trans rfl rfl
@[simp] theorem isTupleD_str (z : Str) : isTupleD (.str z) = false := Eq.trans rfl rfl
@[simp] theorem isTupleD_list (xs : List PyData) : isTupleD (.list xs) = false := Eq.trans rfl rfl
@[simp] theorem isTupleD_tuple (xs : List PyData) : isTupleD (.tuple xs) = true := Eq.trans rfl rfl
@[simp] theorem isTupleD_dict (xs : List (PyData × PyData)) : isTupleD (.dict xs) = false := Eq.trans rfl rfl
@[simp] theorem isListD_none : isListD (.none) = false := Eq.trans rfl rfl
@[simp] theorem isListD_bool (b : Bool) : isListD (.bool b) = false := Eq.trans rfl rfl
@[simp] theorem isListD_int (i : Int) : isListD (.int i) = false := Eq.trans rfl rfl
@[simp] theorem isListD_str (z : Str) : isListD (.str z) = false := Eq.trans rfl rfl
@[simp] theorem isListD_list (xs : List PyData) : isListD (.list xs) = true := Eq.trans rfl rfl
@[simp] theorem isListD_tuple (xs : List PyData) : isListD (.tuple xs) = false := Eq.trans rfl rfl
@[simp] theorem isListD_dict (xs : List (PyData × PyData)) : isListD (.dict xs) = false := Eq.trans rfl rfl
@[simp] theorem both_int (a b : Int) : both (.int a) (.int b) = true := by simp [both]
@[simp] theorem both_str (a b : Str) : both (.str a) (.str b) = true := by simp [both]
@[simp] theorem both_bool (a b : Bool) : both (.bool a) (.bool b) = true := by simp [both]
@[simp] theorem ordC_int (a b : Int) : ordC (.int a) (.int b) = true := by simp [ordC, PySem.W.alike]
@[simp] theorem ordC_str (a b : Str) : ordC (.str a) (.str b) = true := by simp [ordC, PySem.W.alike]
@[simp] theorem ltD_int (a b : Int) : ltD (.int a) (.int b) = some (.bool (decide (a < b))) := by simp [ltD, PySem.W.dataLt_int]
@[simp] theorem gtD_int (a b : Int) : gtD (.int a) (.int b) = some (.bool (decide (b < a))) := by simp [gtD, PySem.W.dataLt_int]
@[simp] theorem leD_int (a b : Int) : leD (.int a) (.int b) = some (.bool (decide (a ≤ b))) := by
  simp only [leD, ordC_int, if_true, PySem.W.dataLt_int]
  congr 2
  by_cases h : a ≤ b
  · rw [decide_eq_true h, decide_eq_false (by omega)]; rfl
  · rw [decide_eq_false h, decide_eq_true (by omega)]; rfl
@[simp] theorem geD_int (a b : Int) : geD (.int a) (.int b) = some (.bool (decide (b ≤ a))) := by
  simp only [geD, ordC_int, if_true, PySem.W.dataLt_int]
  congr 2
  by_cases h : b ≤ a
  · rw [decide_eq_true h, decide_eq_false (by omega)]; rfl
  · rw [decide_eq_false h, decide_eq_true (by omega)]; rfl
@[simp] theorem ltD_str (a b : Str) : ltD (.str a) (.str b) = some (.bool (PySem.W.dataLt (.str a) (.str b))) := by simp [ltD]
@[simp] theorem geD_str (a b : Str) : geD (.str a) (.str b) = some (.bool (!PySem.W.dataLt (.str a) (.str b))) := by simp [geD]
@[simp] theorem eqD_int (a b : Int) : eqD (.int a) (.int b) = some (.bool (a == b)) := by simp [eqD, PyData.eqv]
@[simp] theorem neD_int (a b : Int) : neD (.int a) (.int b) = some (.bool (!(a == b))) := by simp [neD, PyData.eqv]
@[simp] theorem eqD_str (a b : Str) : eqD (.str a) (.str b) = some (.bool (a == b)) := by simp [eqD, PyData.eqv]
@[simp] theorem neD_str (a b : Str) : neD (.str a) (.str b) = some (.bool (!(a == b))) := by simp [neD, PyData.eqv]
@[simp] theorem eqD_bool (a b : Bool) : eqD (.bool a) (.bool b) = some (.bool (a == b)) := by simp [eqD, PyData.eqv]
@[simp] theorem addD_int (a b : Int) : addD (.int a) (.int b) = some (.int (a + b)) := Eq.trans rfl rfl
@[simp] theorem subD_int (a b : Int) : subD (.int a) (.int b) = some (.int (a - b)) := Eq.trans rfl rfl
theorem modD_int {a b : Int} (h : 0 < b) : modD (.int a) (.int b) = some (.int (a % b)) := by
  show (if 0 < b then _ else _) = _
  rw [if_pos h]
@[simp] theorem intD_int (a : Int) : intD [.int a] = some (.int a) := Eq.trans rfl rfl
@[simp] theorem lenD_list (xs : List PyData) : lenD [.list xs] = some (.int xs.length) := Eq.trans rfl rfl
@[simp] theorem lenD_tuple (xs : List PyData) : lenD [.tuple xs] = some (.int xs.length) := Eq.trans rfl rfl
theorem lenD_str {z : Str} (h : z.length ≤ 100000) : lenD [.str z] = some (.int z.length) := by
  show (if z.length ≤ sizeLine then _ else _) = _
  rw [if_pos (by rw [big]; omega)]
@[simp] theorem tupD_list (xs : List PyData) : tupD [.list xs] = some (.tuple xs) := Eq.trans rfl rfl
@[simp] theorem tupD_tuple (xs : List PyData) : tupD [.tuple xs] = some (.tuple xs) := Eq.trans rfl rfl
@[simp] theorem lisD_dict (xs : List (PyData × PyData)) : lisD [.dict xs] = some (.list (keysD xs)) := Eq.trans rfl rfl
@[simp] theorem lisD_list (xs : List PyData) : lisD [.list xs] = some (.list xs) := Eq.trans rfl rfl
@[simp] theorem inD_str (a b : Str) : inD (.str a) (.str b) = some (.bool (inStr a b)) := Eq.trans rfl rfl
@[simp] theorem niD_str (a b : Str) : niD (.str a) (.str b) = some (.bool (!inStr a b)) := Eq.trans rfl rfl
@[simp] theorem iterD_list (xs : List PyData) : iterD (.list xs) = some xs := Eq.trans rfl rfl
@[simp] theorem iterD_tuple (xs : List PyData) : iterD (.tuple xs) = some xs := Eq.trans rfl rfl
@[simp] theorem iterD_str (z : Str) : iterD (.str z) = some (signs z) := Eq.trans rfl rfl
theorem rg1_int {j : Int} (h : 0 ≤ j) (h2 : j ≤ 1000000) : rg1 [.int j] = some (rngD 0 j.toNat) := by
  show (if small62 j = true then _ else _) = _
  rw [if_pos (by unfold small62; exact decide_eq_true (by omega))]
theorem rg2_int {i j : Int} (h : -1000000 ≤ i) (h2 : i ≤ 1000000) (h3 : -1000000 ≤ j) (h4 : j ≤ 1000000) : rg2 [.int i, .int j] = some (rngD i (j - i).toNat) := by
  show (if small62 i && small62 j then _ else _) = _
  rw [if_pos (by unfold small62; rw [decide_eq_true (by omega), decide_eq_true (by omega)]; rfl)]
theorem atI_nat {α : Type} (xs : List α) (n : Nat) : atI xs (n : Int) = xs[n]? := by
  unfold atI ixN
  rw [if_pos (by omega)]
  by_cases h : n < xs.length
  · rw [if_pos (by omega)]
    simp
  · rw [if_neg (by omega)]
    simp [List.getElem?_eq_none (by omega : xs.length ≤ n)]
@[simp] theorem ixD_list (xs : List PyData) (i : Int) : ixD (.list xs) (.int i) = atI xs i := Eq.trans rfl rfl
@[simp] theorem ixD_tuple (xs : List PyData) (i : Int) : ixD (.tuple xs) (.int i) = atI xs i := Eq.trans rfl rfl
theorem ixD_str {z : Str} (h : z.length ≤ 100000) (i : Int) : ixD (.str z) (.int i) = (atI z.cps.toList i).map fun c => .str ⟨#[c]⟩ := by
  show (if z.length ≤ sizeLine then _ else _) = _
  rw [if_pos (by rw [big]; omega)]
@[simp] theorem atI_0 {α : Type} (x : α) (xs : List α) : atI (x :: xs) 0 = some x := by rw [show (0 : Int) = ((0 : Nat) : Int) from rfl, atI_nat]; rfl
@[simp] theorem atI_1 {α : Type} (a x : α) (xs : List α) : atI (a :: x :: xs) 1 = some x := by rw [show (1 : Int) = ((1 : Nat) : Int) from rfl, atI_nat]; rfl
@[simp] theorem atI_2 {α : Type} (a b x : α) (xs : List α) : atI (a :: b :: x :: xs) 2 = some x := by rw [show (2 : Int) = ((2 : Nat) : Int) from rfl, atI_nat]; rfl
@[simp] theorem atI_3 {α : Type} (a b c x : α) (xs : List α) : atI (a :: b :: c :: x :: xs) 3 = some x := by rw [show (3 : Int) = ((3 : Nat) : Int) from rfl, atI_nat]; rfl
@[simp] theorem atI_4 {α : Type} (a b c d x : α) (xs : List α) : atI (a :: b :: c :: d :: x :: xs) 4 = some x := by rw [show (4 : Int) = ((4 : Nat) : Int) from rfl, atI_nat]; rfl
@[simp] theorem atI_5 {α : Type} (a b c d e x : α) (xs : List α) : atI (a :: b :: c :: d :: e :: x :: xs) 5 = some x := by rw [show (5 : Int) = ((5 : Nat) : Int) from rfl, atI_nat]; rfl
theorem lcGo_filter {tg : Env3 → PyData → Option Env3} {tt : Env3 → MM Bool} {te : Env3 → MM PyData} {Δ : Env3} (p : PyData → Bool) (f : PyData → PyData) : ∀ (ds acc : List PyData),
    (∀ d ∈ ds, ∃ Δ1, tg Δ d = some Δ1 ∧ tt Δ1 = rt (p d) ∧ (p d = true → te Δ1 = rt (f d))) → acc.length + ds.length ≤ 1000000 → lcGo tg tt te Δ ds acc = rt (acc ++ (ds.filter p).map f)
  | [], acc, _, _ => by simp [lcGo]
  | d :: ds, acc, h, hl => by
    obtain ⟨Δ1, h1, h2, h3⟩ := h d List.mem_cons_self
    have hr := fun acc' hl' => lcGo_filter p f ds acc' (fun d' hd => h d' (List.mem_cons_of_mem _ hd)) hl'
    rw [List.length_cons] at hl
    unfold lcGo
    rw [h1, op_some, bd_rt, h2]
    cases hp : p d with
    | true =>
      simp only [bd_rt, calmly_rt, if_true, h3 hp]
      rw [if_pos (by rw [big]; omega), hr _ (by simp; omega)]
      simp [hp]
    | false =>
      simp only [bd_rt, calmly_rt, Bool.false_eq_true, if_false]
      rw [hr _ (by omega)]
      simp [hp]
theorem lcGo_map {tg : Env3 → PyData → Option Env3} {te : Env3 → MM PyData} {Δ : Env3} (f : PyData → PyData) {ds : List PyData} (h : ∀ d ∈ ds, ∃ Δ1, tg Δ d = some Δ1 ∧ te Δ1 = rt (f d)) (hl : ds.length ≤ 1000000) :
    lcGo tg ty te Δ ds [] = rt (ds.map f) := by
  have := lcGo_filter (tg := tg) (tt := ty) (te := te) (Δ := Δ) (fun _ => true) f ds [] (fun d hd => by
    obtain ⟨Δ1, h1, h2⟩ := h d hd
    exact ⟨Δ1, h1, rfl, fun _ => h2⟩) (by simpa using hl)
  rw [this, List.nil_append, List.filter_eq_self.mpr (fun _ _ => rfl)]
/-- with draws -/
theorem lcGo_rn {tg : Env3 → PyData → Option Env3} {tt : Env3 → MM Bool} {te : Env3 → MM PyData} {Δ : Env3} (I : List PyData → Prop) (n : Nat) (hn : n ≤ 1000000) : ∀ (ds acc : List PyData),
    (∀ d ∈ ds, ∃ Δ1, tg Δ d = some Δ1 ∧ Rn (tt Δ1) (fun _ => True) ∧ ∀ acc, I acc → Rn (te Δ1) fun y => I (acc ++ [y])) → I acc → acc.length + ds.length ≤ n → Rn (lcGo tg tt te Δ ds acc) fun xs => I xs ∧ xs.length ≤ n
  | [], acc, _, hi, hl => by
    unfold lcGo
    exact Rn.rt ⟨hi, by simpa using hl⟩
  | d :: ds, acc, h, hi, hl => by
    obtain ⟨Δ1, h1, h2, h3⟩ := h d List.mem_cons_self
    rw [List.length_cons] at hl
    unfold lcGo
    rw [h1, op_some, bd_rt]
    refine Rn.bd h2.calmly fun b _ => ?_
    cases b with
    | true =>
      rw [if_pos rfl]
      refine Rn.bd (h3 acc hi).calmly fun y hy => ?_
      rw [if_pos (by rw [big]; omega)]
      exact lcGo_rn I n hn ds _ (fun d' hd => h d' (List.mem_cons_of_mem _ hd)) hy (by simp; omega)
    | false =>
      rw [if_neg Bool.false_ne_true]
      exact lcGo_rn I n hn ds _ (fun d' hd => h d' (List.mem_cons_of_mem _ hd)) hi (by omega)
/-- loops: I what is true before a turn, with what is left -/
theorem forGo_rn {tgt : Env3 → PyData → Option Env3} {body : Env3 → MM Fl3} {P : Fl3 → Prop} (I : List PyData → Env3 → Prop)
    (h : ∀ d ds Δ, I (d :: ds) Δ → ∃ Δ1, tgt Δ d = some Δ1 ∧ Rn (body Δ1) fun r => match r with | .nx Δ2 => I ds Δ2 | .ct Δ2 => I ds Δ2 | .bk Δ2 => P (.nx Δ2) | .rt d => P (.rt d) | .xx x Δ2 => P (.xx x Δ2))
    (he : ∀ Δ, I [] Δ → P (.nx Δ)) : ∀ ds Δ, I ds Δ → Rn (forGo tgt body ds Δ) P
  | [], Δ, hi => by
    unfold forGo
    exact Rn.rt (he Δ hi)
  | d :: ds, Δ, hi => by
    obtain ⟨Δ1, h1, h2⟩ := h d ds Δ hi
    unfold forGo
    rw [h1, op_some, bd_rt]
    refine Rn.bd h2 fun r hr => ?_
    cases r with
    | nx Δ2 => exact forGo_rn I h he ds Δ2 hr
    | ct Δ2 => exact forGo_rn I h he ds Δ2 hr
    | bk Δ2 => exact Rn.rt hr
    | rt d => exact Rn.rt hr
    | xx x Δ2 => exact Rn.rt hr
@[simp] theorem allD_map (bs : List Bool) : allD [.list (bs.map .bool)] = some (.bool (bs.all id)) := by simp [allD]
theorem allD_f (q : PyData → Bool) (ds : List PyData) : allD [.list (ds.map fun d => .bool (q d))] = some (.bool (ds.all q)) := by
  have h : (ds.map fun d => PyData.bool (q d)) = (ds.map q).map .bool := by rw [List.map_map]; rfl
  rw [h, allD_map, List.all_map]
  rfl
/-- a range's numbers -/
theorem mem_rng {lo : Int} {n : Nat} {d : PyData} (h : d ∈ rngD lo n) : ∃ j, j < n ∧ d = .int (lo + (j : Nat)) := by
  obtain ⟨j, h1, rfl⟩ := List.mem_map.mp h
  exact ⟨j, List.mem_range.mp h1, rfl⟩
theorem all_rng (lo : Int) (n : Nat) (q : PyData → Bool) : (rngD lo n).all q = (List.range n).all fun j => q (.int (lo + (j : Nat))) := by
  unfold rngD
  rw [List.all_map]
  rfl
theorem len_rng (lo : Int) (n : Nat) : (rngD lo n).length = n := by simp [rngD]
theorem len_signs (z : Str) : (L3.signs z).length = z.length := by simp [L3.signs, Str.length]
theorem calmly_lcGo {tg : Env3 → PyData → Option Env3} {tt : Env3 → MM Bool} {te : Env3 → MM PyData} {Δ : Env3} : ∀ (ds acc : List PyData), calmly (lcGo tg tt te Δ ds acc) = lcGo tg tt te Δ ds acc
  | [], acc => rfl
  | d :: ds, acc => by
    unfold lcGo
    rw [calmly_bd_op]
    congr 1
    funext Δ1
    rw [calmly_bd_calmly]
    congr 1
    funext b
    rw [calmly_ite, calmly_bd_calmly, calmly_lcGo ds acc]
    congr 2
    funext y
    rw [calmly_ite, calmly_lcGo ds (acc ++ [y])]
    rfl
@[simp] theorem tryE_lcGo {tg : Env3 → PyData → Option Env3} {tt : Env3 → MM Bool} {te : Env3 → MM PyData} {Δ Δ' : Env3} {ds acc : List PyData} {f : List PyData → MM Fl3} : tryE (lcGo tg tt te Δ ds acc) Δ' f = bd (lcGo tg tt te Δ ds acc) f := by
  rw [← calmly_lcGo, tryE_calmly]
@[simp] theorem runM_lcGo {tg : Env3 → PyData → Option Env3} {tt : Env3 → MM Bool} {te : Env3 → MM PyData} {Δ : Env3} {ds acc : List PyData} {f : List PyData → MM Fl3} : runM (bd (lcGo tg tt te Δ ds acc) f) = bd (lcGo tg tt te Δ ds acc) fun a => runM (f a) := by
  rw [← calmly_lcGo, runM_calmly]
@[simp] theorem calmly_bd_lcGo {β : Type} {tg : Env3 → PyData → Option Env3} {tt : Env3 → MM Bool} {te : Env3 → MM PyData} {Δ : Env3} {ds acc : List PyData} {f : List PyData → MM β} : calmly (bd (lcGo tg tt te Δ ds acc) f) = bd (lcGo tg tt te Δ ds acc) fun a => calmly (f a) := by
  rw [← calmly_lcGo, calmly_bd_calmly]
end L3

set_option Elab.async false
set_option linter.all false
set_option maxRecDepth 100000
set_option maxHeartbeats 4000000
namespace KL
open PySem L2 L3

def RowOk (row : PyData) : Prop := ∃ ns : List Int, row = .list (ns.map .int) ∧ 0 < ns.length ∧ ns.length ≤ 1000000
theorem mulD_int {i j : Int} (h1 : -1000000000000000000 ≤ j) (h2 : j ≤ 1000000000000000000) : mulD (.int i) (.int j) = some (.int (i * j)) := by
  have e : mulD (.int i) (.int j) = if (-(2 ^ 64) < i ∧ i < 2 ^ 64) ∨ (-(2 ^ 64) < j ∧ j < 2 ^ 64) then some (.int (i * j)) else none := rfl
  rw [e, if_pos (.inr (by omega))]
theorem row_at {ns : List Int} {i : Int} (h0 : 0 ≤ i) (h : i < ns.length) : ∃ n, ixD (.list (ns.map .int)) (.int i) = some (.int n) := by
  obtain ⟨j, rfl⟩ : ∃ j : Nat, i = j := ⟨i.toNat, by omega⟩
  have hj : j < ns.length := by omega
  refine ⟨ns[j], ?_⟩
  rw [ixD_list, L3.atI_nat, List.getElem?_map, List.getElem?_eq_getElem hj]
  rfl
def drawn (m : Int) (d : PyData) : Prop := ∃ i : Int, d = .int i ∧ 0 ≤ i ∧ i < m
theorem w_draw {row : PyData} {a m : Int} (hr : RowOk row) (ha : 0 ≤ a) (hm : 1 ≤ m) : ∃ d, m__law_draw [row, .int a, .int m] = rt d ∧ drawn m d := by
  obtain ⟨ns, rfl, h0, h1⟩ := hr
  unfold m__law_draw g__law_draw
  by_cases h : a < ns.length
  · obtain ⟨n, hn⟩ := row_at ha h
    refine ⟨.int (n % m), ?_, n % m, rfl, Int.emod_nonneg _ (by omega), Int.emod_lt_of_pos _ (by omega)⟩
    simp only [ixD_list] at hn
    simp [h, hn, modD_int (show 0 < m by omega)]
  · have hl : (0 : Int) < ns.length := by omega
    obtain ⟨n, hn⟩ := row_at (ns := ns) (i := a % ns.length) (Int.emod_nonneg _ (by omega)) (Int.emod_lt_of_pos _ hl)
    simp only [ixD_list] at hn
    refine ⟨.int ((((n * 40692 + a * 7919 + 3) % 2147483399 * 48271 + a) % 2147483647) % m), ?_, _, rfl, Int.emod_nonneg _ (by omega), Int.emod_lt_of_pos _ (by omega)⟩
    simp [h, modD_int hl, hn, mulD_int (show (-1000000000000000000 : Int) ≤ 40692 by omega) (by omega), mulD_int (show (-1000000000000000000 : Int) ≤ 7919 by omega) (by omega), mulD_int (show (-1000000000000000000 : Int) ≤ 48271 by omega) (by omega),
      modD_int (show (0 : Int) < 2147483399 by omega), modD_int (show (0 : Int) < 2147483647 by omega), modD_int (show 0 < m by omega)]
theorem w_take {row : PyData} {m : Int} (hr : RowOk row) (hm : 1 ≤ m) : Rn (m__law_take [row, .none, .int m]) (drawn m) := by
  intro k hk
  obtain ⟨d, hd, hq⟩ := w_draw (a := k) hr hk hm
  refine ⟨d, k + 1, ?_, by omega, hq⟩
  unfold m__law_take g__law_take
  show runM (seq (spS 1 (bin addD (spG 1) (cs (.int 1)))) (ret (cal m__law_draw (ac (vr 0) (ac (bin subD (spG 1) (cs (.int 1))) (ac (vr 2) an))))) [some (.val row), some .spot, some (.val (.int m))]) k = _
  have hk1 : 0 ≤ k + 1 := by omega
  have sg : ∀ j : Int, 0 ≤ j → spG 1 [some (.val row), some .spot, some (.val (.int m))] j = .ok (.int j) j := fun j hj => if_pos ⟨rfl, hj⟩
  have b1 : bin addD (spG 1) (cs (.int 1)) [some (.val row), some .spot, some (.val (.int m))] k = .ok (.int (k + 1)) k := by
    rw [ev_bin]
    unfold L3.bd
    rw [sg k hk]
    rfl
  have e1 : spS 1 (bin addD (spG 1) (cs (.int 1))) [some (.val row), some .spot, some (.val (.int m))] k = .ok (.nx [some (.val row), some .spot, some (.val (.int m))]) (k + 1) := by
    show (if isSp (some (some Sl.spot)) = true then tryE (bin addD (spG 1) (cs (.int 1)) [some (.val row), some .spot, some (.val (.int m))]) [some (.val row), some .spot, some (.val (.int m))] (fun y => match y with | .int n => fun k => if 0 ≤ k ∧ 0 ≤ n then .ok (.nx [some (.val row), some .spot, some (.val (.int m))]) n else .no | _ => fl) else fl) k = _
    rw [if_pos (show isSp (some (some Sl.spot)) = true from rfl)]
    unfold L3.tryE
    rw [b1]
    exact if_pos ⟨hk, hk1⟩
  have e2 : bin subD (spG 1) (cs (.int 1)) [some (.val row), some .spot, some (.val (.int m))] (k + 1) = .ok (.int (k + 1 - 1)) (k + 1) := by
    rw [ev_bin]
    unfold L3.bd
    rw [sg (k + 1) hk1]
    rfl
  have e3 : (k + 1 - 1) = k := by omega
  rw [e3] at e2
  unfold runM
  rw [ev_seq]
  unfold L3.bd
  rw [e1]
  simp only
  have e4 : ret (cal m__law_draw (ac (vr 0) (ac (bin subD (spG 1) (cs (.int 1))) (ac (vr 2) an)))) [some (.val row), some .spot, some (.val (.int m))] (k + 1) = .ok (.rt d) (k + 1) := by
    have e5 : ac (vr 0) (ac (bin subD (spG 1) (cs (.int 1))) (ac (vr 2) an)) [some (.val row), some .spot, some (.val (.int m))] (k + 1) = .ok [row, .int k, .int m] (k + 1) := by
      simp only [ev_ac, ev_vr, List.getElem?_cons_zero, List.getElem?_cons_succ, slV_val, op_some, bd_rt, ev_an]
      unfold L3.bd
      rw [e2]
      rfl
    rw [ev_ret]
    unfold L3.tryE
    rw [ev_cal]
    unfold L3.bd
    rw [e5]
    simp only
    rw [hd]
    rfl
  rw [e4]
def intsL (rs : List Int) : Option Sl := some (.own (.list (rs.map .int)))
theorem app_ints {rs : List Int} {i : Int} : rs.map PyData.int ++ [PyData.int i] = (rs ++ [i]).map .int := by simp
noncomputable def numB1 : Env3 → MM Fl3 := (seq (ifS (tst (bin eqD (vr 3) (cs (.int 0)))) (fun Δ => rt (.bk Δ)) nxt) (seq (app 1 (bin modD (clV intD (ac (vr 3) an)) (cs (.int 997)))) (asg 3 (bin fdivD (vr 3) (cs (.int 997))))))
noncomputable def numB2 : Env3 → MM Fl3 := (seq (asg 5 (bin modD (clV intD (ac (bin addD (bin addD (bin mulD (vr 2) (cs (.int 48271))) (bin mulD (vr 4) (cs (.int 69621)))) (cs (.int 11))) an)) (cs (.int 2147483647)))) (app 1 (bin modD (clV intD (ac (bin addD (bin mulD (vr 5) (cs (.int 16807))) (vr 4)) an)) (cs (.int 2147483629)))))
theorem fdivD_int {a b : Int} (h : 0 < b) (h2 : b < 1073741824) : fdivD (.int a) (.int b) = some (.int (a / b)) := by
  have e : fdivD (.int a) (.int b) = if 0 < b ∧ b < 1073741824 then some (.int (a / b)) else none := rfl
  rw [e, if_pos ⟨h, h2⟩]
theorem num1 (s0 c mm : Option Sl) (B : Nat) (hB : B ≤ 1000000) (ds : List PyData) (rs : List Int) (left : Int) (kk : Option Sl) (hd : ∀ d ∈ ds, ∃ i, d = PyData.int i) (hl : rs.length + ds.length ≤ B) :
    Rn (forGo (tgN 4) numB1 ds [s0, intsL rs, c, some (.val (.int left)), kk, mm]) fun r => ∃ (rs' : List Int) (l' k' : Option Sl), r = .nx [s0, intsL rs', c, l', k', mm] ∧ rs.length ≤ rs'.length ∧ rs'.length ≤ B := by
  refine forGo_rn (I := fun ds Δ => ∃ (rs' : List Int) (left : Int) (kk : Option Sl), Δ = [s0, intsL rs', c, some (.val (.int left)), kk, mm] ∧ rs.length ≤ rs'.length ∧ rs'.length + ds.length ≤ B ∧ ∀ d ∈ ds, ∃ i, d = PyData.int i) ?_ ?_ ds _ ⟨rs, left, kk, rfl, Nat.le_refl _, hl, hd⟩
  · rintro d ds Δ ⟨rs', left, kk, rfl, h1, h2, h3⟩
    obtain ⟨i, rfl⟩ := h3 d List.mem_cons_self
    rw [List.length_cons] at h2
    refine ⟨_, rfl, ?_⟩
    have hz : rs'.length < sizeLine := by rw [L3.big]; omega
    unfold numB1
    simp [intsL, modD_int (show (0 : Int) < 997 by omega), fdivD_int (show (0 : Int) < 997 by omega) (by omega), hz]
    by_cases h0 : left = 0
    · simp [h0]
      exact Rn.rt ⟨rs', by simp [intsL], h1, by omega⟩
    · simp [h0]
      refine Rn.rt ⟨rs' ++ [left % 997], ⟨_, _, by simp [intsL]; exact ⟨rfl, rfl⟩⟩, by simp; omega, by simp; omega, fun d hd => h3 d (List.mem_cons_of_mem _ hd)⟩
  · rintro Δ ⟨rs', left, kk, rfl, h1, h2, h3⟩
    exact ⟨rs', _, _, rfl, h1, by simpa using h2⟩
theorem num2 (s0 l : Option Sl) (cell : Int) (B : Nat) (hB : B ≤ 1000000) (ds : List PyData) (rs : List Int) (kk mm : Option Sl) (hd : ∀ d ∈ ds, ∃ i, d = PyData.int i) (hl : rs.length + ds.length ≤ B) :
    Rn (forGo (tgN 4) numB2 ds [s0, intsL rs, some (.val (.int cell)), l, kk, mm]) fun r => ∃ (rs' : List Int) (k' m' : Option Sl), r = .nx [s0, intsL rs', some (.val (.int cell)), l, k', m'] ∧ rs.length ≤ rs'.length ∧ rs'.length ≤ B := by
  refine forGo_rn (I := fun ds Δ => ∃ (rs' : List Int) (kk mm : Option Sl), Δ = [s0, intsL rs', some (.val (.int cell)), l, kk, mm] ∧ rs.length ≤ rs'.length ∧ rs'.length + ds.length ≤ B ∧ ∀ d ∈ ds, ∃ i, d = PyData.int i) ?_ ?_ ds _ ⟨rs, kk, mm, rfl, Nat.le_refl _, hl, hd⟩
  · rintro d ds Δ ⟨rs', kk, mm, rfl, h1, h2, h3⟩
    obtain ⟨i, rfl⟩ := h3 d List.mem_cons_self
    rw [List.length_cons] at h2
    refine ⟨_, rfl, ?_⟩
    have hz : rs'.length < sizeLine := by rw [L3.big]; omega
    unfold numB2
    simp [intsL, modD_int (show (0 : Int) < 2147483647 by omega), modD_int (show (0 : Int) < 2147483629 by omega), mulD_int (show (-1000000000000000000 : Int) ≤ 48271 by omega) (by omega), mulD_int (show (-1000000000000000000 : Int) ≤ 69621 by omega) (by omega), mulD_int (show (-1000000000000000000 : Int) ≤ 16807 by omega) (by omega), hz]
    refine Rn.rt ⟨rs' ++ [_], ⟨_, _, by simp [intsL]; exact ⟨rfl, rfl, rfl⟩⟩, by simp; omega, by simp; omega, fun d hd => h3 d (List.mem_cons_of_mem _ hd)⟩
  · rintro Δ ⟨rs', kk, mm, rfl, h1, h2, h3⟩
    exact ⟨rs', _, _, rfl, h1, by simpa using h2⟩
noncomputable def numB0 : Env3 → MM Fl3 := (ifS (tst (bin geD (vr 2) (bin powD (cs (.int 10)) (cs (.int 18))))) (seq (asg 3 (vr 2)) (forS (itA rg1 (ac (cs (.int 60)) an)) (tgN 4) numB1)) (forS (itA rg1 (ac (cs (.int 4)) an)) (tgN 4) numB2))
theorem pow18 : powD (.int 10) (.int 18) = some (.int 1000000000000000000) := by
  have e : powD (.int 10) (.int 18) = if (0 : Int) ≤ 18 ∧ (18 : Int) ≤ 1000000 ∧ (10 : Int).natAbs < 2 ^ 64 then some (.int ((10 : Int) ^ (18 : Int).toNat)) else none := rfl
  rw [e, if_pos ⟨by omega, by omega, by decide⟩]
  congr 2
theorem rng_ints (lo : Int) (n : Nat) : ∀ d ∈ rngD lo n, ∃ i, d = PyData.int i := fun d hd => by
  obtain ⟨j, _, e⟩ := mem_rng hd
  exact ⟨_, e⟩
theorem Rn.eq {α : Type} {m m' : MM α} {P : α → Prop} (e : m' = m) (h : Rn m P) : Rn m' P := by rw [e]; exact h
theorem num0 (s0 : Option Sl) : ∀ (ds : List PyData) (rs : List Int) (c l kk mm : Option Sl), (∀ d ∈ ds, ∃ i, d = PyData.int i) → rs.length + 60 * ds.length ≤ 10000 →
    Rn (forGo (tgN 2) numB0 ds [s0, intsL rs, c, l, kk, mm]) fun r => ∃ (rs' : List Int) (c' l' k' m' : Option Sl), r = .nx [s0, intsL rs', c', l', k', m'] ∧ rs'.length ≤ 10000 := by
  intro ds rs c l kk mm hd hl
  refine forGo_rn (I := fun ds Δ => ∃ (rs' : List Int) (c l kk mm : Option Sl), Δ = [s0, intsL rs', c, l, kk, mm] ∧ rs'.length + 60 * ds.length ≤ 10000 ∧ ∀ d ∈ ds, ∃ i, d = PyData.int i) ?_ ?_ ds _ ⟨rs, c, l, kk, mm, rfl, hl, hd⟩
  · rintro d ds Δ ⟨rs', c, l, kk, mm, rfl, h2, h3⟩
    obtain ⟨i, rfl⟩ := h3 d List.mem_cons_self
    rw [List.length_cons] at h2
    refine ⟨_, rfl, ?_⟩
    unfold numB0
    simp [pow18, rg1_int (show (0 : Int) ≤ 60 by omega) (by omega), rg1_int (show (0 : Int) ≤ 4 by omega) (by omega)]
    have h1 := num1 s0 (some (.val (.int i))) mm (rs'.length + 60) (by omega) (rngD 0 60) rs' i kk (rng_ints _ _) (by rw [len_rng]; omega)
    have h2' := num2 s0 l i (rs'.length + 60) (by omega) (rngD 0 4) rs' kk mm (rng_ints _ _) (by rw [len_rng]; omega)
    refine Rn.ite (fun _ => ?_) fun _ => ?_
    · refine h1.mono fun r hr => ?_
      obtain ⟨rs2, l', k', rfl, a1, a2⟩ := hr
      first | exact ⟨rs2, _, _, _, _, rfl, by omega, fun d hd => h3 d (List.mem_cons_of_mem _ hd)⟩ | exact ⟨⟨rs2, ⟨_, _, _, _, rfl⟩, by omega⟩, fun d hd => h3 d (List.mem_cons_of_mem _ hd)⟩ | exact ⟨⟨rs2, _, _, _, _, rfl, by omega⟩, fun d hd => h3 d (List.mem_cons_of_mem _ hd)⟩ | exact ⟨rs2, ⟨_, _, _, _, rfl⟩, by omega, fun d hd => h3 d (List.mem_cons_of_mem _ hd)⟩
    · refine h2'.mono fun r hr => ?_
      obtain ⟨rs2, l', k', rfl, a1, a2⟩ := hr
      first | exact ⟨rs2, _, _, _, _, rfl, by omega, fun d hd => h3 d (List.mem_cons_of_mem _ hd)⟩ | exact ⟨⟨rs2, ⟨_, _, _, _, rfl⟩, by omega⟩, fun d hd => h3 d (List.mem_cons_of_mem _ hd)⟩ | exact ⟨⟨rs2, _, _, _, _, rfl, by omega⟩, fun d hd => h3 d (List.mem_cons_of_mem _ hd)⟩ | exact ⟨rs2, ⟨_, _, _, _, rfl⟩, by omega, fun d hd => h3 d (List.mem_cons_of_mem _ hd)⟩
  · rintro Δ ⟨rs', c, l, kk, mm, rfl, h2, h3⟩
    exact ⟨rs', _, _, _, _, rfl, by simpa using h2⟩
theorem ev_scr (K : PySem.W.Frag) (ns : List Int) (hl : ns.length ≤ 63) (Δ : Env3) : ∃ ms : List Int, ms.length ≤ 63 ∧ scrV K 0 63 (some (.scr K ns) :: Δ) = rt (.list (ms.map .int)) := by
  refine ⟨(ns.drop (HT.sIx ns.length 0 Option.none)).take (HT.sIx ns.length ns.length (some 63) - HT.sIx ns.length 0 Option.none), ?_, ?_⟩
  · rw [List.length_take, List.length_drop]
    omega
  · have e : scrG K Option.none (some 63) ((some (Sl.scr K ns) :: Δ)[0]?) = _ := scrG_at K Option.none (some 63) ns
    unfold scrV
    rw [e]
    rfl
theorem w_numbers (K : PySem.W.Frag) (ns : List Int) (hl : ns.length ≤ 63) : Rn (m__law_numbers K [.list (ns.map .int)]) RowOk := by
  have eg : m__law_numbers K [.list (ns.map .int)] = runM (seq (asgO 1 (lstV an)) (seq (forS (itV (scrV K 0 63)) (tgN 2) numB0) (seq (ifS (tst (bin eqD (clV lenD (ac (vb 1) an)) (cs (.int 0)))) (app 1 (cs (.int 0))) nxt) (fz 1 (ret (vr 1))))) [some (.scr K ns), Option.none, Option.none, Option.none, Option.none, Option.none]) := by
    unfold m__law_numbers g__law_numbers numB0 numB1 numB2
    simp only [ev_runB, ev_startE]
    congr 1
    simp
  rw [eg]
  obtain ⟨ms, hm, e⟩ := ev_scr K ns hl [some (.own (.list [])), Option.none, Option.none, Option.none, Option.none]
  have hz : 0 ≤ sizeLine := Nat.zero_le _
  have hz2 : 0 < sizeLine := by rw [L3.big]; omega
  refine Rn.runM ?_
  simp [e]
  have h0 := num0 (some (.scr K ns)) (ms.map .int) [] Option.none Option.none Option.none Option.none (fun d hd => by
    obtain ⟨i, _, rfl⟩ := List.mem_map.mp hd
    exact ⟨i, rfl⟩) (by simp; omega)
  refine Rn.bd h0 fun r hr => ?_
  obtain ⟨rs, c', l', k', m', rfl, hrl⟩ := hr
  simp [intsL]
  by_cases h : rs = []
  · subst h
    simp [hz2]
    exact Rn.rt (.inl ⟨_, rfl, [0], by simp, by simp, by simp⟩)
  · simp [h]
    exact Rn.rt (.inl ⟨_, rfl, rs, rfl, List.length_pos_iff.mpr h, by omega⟩)
end KL


set_option Elab.async false
set_option linter.all false
set_option maxRecDepth 100000
set_option maxHeartbeats 4000000
namespace L3
open PySem L2

def th {α : Type} (x : Exn) : MM α := fun k => .ex x k
@[simp] theorem bd_th {α β : Type} (x : Exn) (f : α → MM β) : bd (th x) f = th x := Eq.trans rfl rfl
@[simp] theorem calmly_th {α : Type} (x : Exn) : calmly (th x : MM α) = fl := Eq.trans rfl rfl
@[simp] theorem tryE_th {α : Type} (x : Exn) (Δ : Env3) (f : α → MM Fl3) : tryE (th x) Δ f = rt (.xx x Δ) := Eq.trans rfl rfl
def runXM (m : MM Fl3) : MM PyData := fun k => match m k with
  | .ok (.rt d) k' => .ok d k'
  | .ok (.nx _) k' => .ok .none k'
  | .ok (.xx x _) k' => .ex x k'
  | _ => .no
@[simp] theorem ev_runX (g : Env3 → MM Fl3) (Δ : Env3) : runX g Δ = runXM (g Δ) := Eq.trans rfl rfl
@[simp] theorem runXM_rt (d : PyData) : runXM (rt (.rt d)) = rt d := Eq.trans rfl rfl
@[simp] theorem runXM_nx (Δ : Env3) : runXM (rt (.nx Δ)) = rt .none := Eq.trans rfl rfl
@[simp] theorem runXM_xx (x : Exn) (Δ : Env3) : runXM (rt (.xx x Δ)) = th x := Eq.trans rfl rfl
@[simp] theorem runXM_fl : runXM fl = fl := Eq.trans rfl rfl
@[simp] theorem ev_rs (c : Str) (f : Env3 → MM PyData) (Δ : Env3) : rs c f Δ = (tryE (f Δ) Δ fun d => rt (.xx ⟨c, d⟩ Δ)) := Eq.trans rfl rfl
@[simp] theorem ev_calX (m : List PyData → MM PyData) (g : Env3 → MM (List PyData)) (Δ : Env3) : calX m g Δ = (bd (g Δ) fun ds => m ds) := Eq.trans rfl rfl
@[simp] theorem ev_xfV (x : Exn) (Δ : Env3) : xfV x Δ = rt x.d := Eq.trans rfl rfl
@[simp] theorem ev_tup2X (f f' : Exn → Env3 → MM PyData) (x : Exn) (Δ : Env3) : tup2X f f' x Δ = (bd (f x Δ) fun y => bd (f' x Δ) fun y' => if 2 ≤ sizeLine then rt (.tuple [y, y']) else fl) := Eq.trans rfl rfl
@[simp] theorem ev_retX (f : Exn → Env3 → MM PyData) (x : Exn) (Δ : Env3) : retX f x Δ = (tryE (f x Δ) Δ fun d => rt (.rt d)) := Eq.trans rfl rfl
@[simp] theorem asKey_int (i : Int) : asKey (.int i) = some (.inl i) := Eq.trans rfl rfl
@[simp] theorem asKey_str (z : Str) : asKey (.str z) = some (.inr z) := Eq.trans rfl rfl
/-- try whose body is a value or an error -/
theorem rn_tryRt {c : Str} {i : Nat} {g : Env3 → MM Fl3} {h : Exn → Env3 → MM Fl3} {Δ : Env3} {P : Fl3 → Prop} {m : MM PyData} (e : g Δ = tryE m Δ fun d => rt (.rt d))
    (hm : ∀ k, 0 ≤ k → (∃ d k', m k = .ok d k' ∧ 0 ≤ k' ∧ P (.rt d)) ∨ ∃ x k', m k = .ex x k' ∧ 0 ≤ k' ∧ x.c = c ∧ i < Δ.length ∧ Rn (h x (Δ.set i none)) fun r => P (offE i r)) : Rn (tryN c i g h Δ) P := by
  intro k hk
  unfold tryN
  rw [e]
  rcases hm k hk with ⟨d, k', h1, h2, h3⟩ | ⟨x, k', h1, h2, h3, h4, h5⟩
  · refine ⟨.rt d, k', ?_, h2, h3⟩
    unfold bd tryE
    rw [h1]
    rfl
  · obtain ⟨r, k2, q1, q2, q3⟩ := h5 k' h2
    refine ⟨offE i r, k2, ?_, q2, q3⟩
    unfold bd tryE
    rw [h1]
    show (if x.c = c ∧ i < Δ.length then bd (h x (Δ.set i none)) fun r => rt (offE i r) else fl) k' = _
    rw [if_pos ⟨h3, h4⟩]
    unfold bd
    rw [q1]
    rfl
end L3

set_option Elab.async false
set_option linter.all false
set_option maxRecDepth 100000
set_option maxHeartbeats 4000000
namespace L3
open PySem L2
@[simp] theorem ev_exV (C : Addr) (fl : Str) (f : Env3 → MM PyData) (Δ : Env3) : exV C fl f Δ = bd (f Δ) fun d => rt (exD C fl d) := Eq.trans rfl rfl
@[simp] theorem ev_exV0 (C : Addr) (Δ : Env3) : exV0 C Δ = rt (exD0 C) := Eq.trans rfl rfl
@[simp] theorem ev_fldE (f : Str) (Cs : List Addr) (g : Env3 → MM PyData) (Δ : Env3) : fldE f Cs g Δ = bd (g Δ) fun d => op (fldD f Cs d) := Eq.trans rfl rfl
@[simp] theorem ev_isX (tbl : List (Addr × Bool)) (g : Env3 → MM PyData) (Δ : Env3) : isX tbl g Δ = bd (g Δ) fun d => op ((isXD tbl d).map .bool) := Eq.trans rfl rfl
@[simp] theorem ev_isP (tbl : List (Str × Bool)) (x : Exn) (Δ : Env3) : isP tbl x Δ = op ((tbl.lookup x.c).map .bool) := Eq.trans rfl rfl
theorem ev_tryB (Cs : List Str) (i : Nat) (g : Env3 → MM Fl3) (h : Exn → Env3 → MM Fl3) (Δ : Env3) : tryB Cs i g h Δ = bd (g Δ) fun r => match r with
  | .xx x Δ' => if x.c ∈ Cs ∧ i < Δ'.length then bd (h x (Δ'.set i none)) fun r => rt (offE i r) else fl
  | r => rt r := Eq.trans rfl rfl
end L3
namespace KL
open PySem L2 L3

theorem at_list2 {xs : List PyData} {m : Int} {d : PyData} (h : drawn m d) (hm : m = xs.length) : ∃ x, ixD (.list xs) d = some x ∧ x ∈ xs := by
  obtain ⟨i, rfl, h0, h1⟩ := h
  obtain ⟨j, rfl⟩ : ∃ j : Nat, i = j := ⟨i.toNat, by omega⟩
  have hj : j < xs.length := by omega
  refine ⟨xs[j], ?_, List.getElem_mem hj⟩
  rw [ixD_list, L3.atI_nat, List.getElem?_eq_getElem hj]
theorem so_none (n : Nat) : m__law_so (n + 1) [.none, .none] = rt (.bool true) := by
  unfold m__law_so g__law_so
  simp [isN, isNone]
theorem so_int (n : Nat) (i : Int) : m__law_so (n + 1) [.int i, .int i] = rt (.bool true) := by
  unfold m__law_so g__law_so
  simp [isN, isNone, exS]
theorem so_bool (n : Nat) (b : Bool) : m__law_so (n + 1) [.bool b, .bool b] = rt (.bool true) := by
  unfold m__law_so g__law_so
  simp [isN, isNone, exS]
theorem so_str (n : Nat) (z : Str) : m__law_so (n + 1) [.str z, .str z] = rt (.bool true) := by
  unfold m__law_so g__law_so
  simp [isN, isNone, exS]
theorem rng2 : rngD 0 2 = [.int 0, .int 1] := by rfl
theorem rng6 : rngD 0 6 = [.int 0, .int 1, .int 2, .int 3, .int 4, .int 5] := by rfl
theorem so_pair (n : Nat) (i j : Int) : m__law_so (n + 2) [.tuple [.int i, .int j], .tuple [.int i, .int j]] = rt (.bool true) := by
  unfold m__law_so g__law_so
  simp [isN, isNone, exS, rg1_int (show (0 : Int) ≤ 2 by omega) (show (2 : Int) ≤ 1000000 by omega)]
  rw [rng2]
  unfold forGo
  simp [so_int]
  unfold forGo
  simp [so_int]
  unfold forGo
  simp
/-- what else the law hands over -/
def others (a : Int) : List PyData := [.none, .int (-a), .str "x", .tuple [.int a, .int 2], .bool true]
theorem so_others {a : Int} : ∀ x ∈ others a, m__law_so 8 [x, x] = rt (.bool true) := by
  intro x hx
  simp only [others, List.mem_cons, List.not_mem_nil, or_false] at hx
  rcases hx with rfl | rfl | rfl | rfl | rfl
  · exact so_none 7
  · exact so_int 7 _
  · exact so_str 7 _
  · exact so_pair 6 _ _
  · exact so_bool 7 _
end KL

set_option Elab.async false
set_option linter.all false
set_option maxRecDepth 100000
set_option maxHeartbeats 4000000
namespace KL
open PySem L2 L3

variable {C1 C2 C3 C4 C5 C6 CS : Addr}
/-- the six errors -/
def errs (a : Int) (o : PyData) (C1 C2 C3 C4 C5 C6 : Addr) : List PyData := [exD C1 "at" (.int a), exD C2 "at" (.int a), exD C3 "at" (.int a), exD C4 "word" o, exD C5 "word" o, exD0 C6]
def cls6 (C1 C2 C3 C4 C5 C6 : Addr) : List Addr := [C1, C2, C3, C4, C5, C6]
theorem isXD_ex (tbl : List (Addr × Bool)) (C : Addr) (f : Str) (d : PyData) : isXD tbl (exD C f d) = (tbl.find? fun p => decide (p.1 = C)).map (·.2) := by
  have e : (fun p : Addr × Bool => decide (((p.1 : Nat) : Int) = ((C : Nat) : Int))) = fun p => decide (p.1 = C) := by
    funext p
    rw [decide_eq_decide]
    exact Int.ofNat_inj
  show (tbl.find? fun p => decide (((p.1 : Nat) : Int) = ((C : Nat) : Int))).map (·.2) = _
  rw [e]
theorem isXD_ex0 (tbl : List (Addr × Bool)) (C : Addr) : isXD tbl (exD0 C) = (tbl.find? fun p => decide (p.1 = C)).map (·.2) := by
  have e : (fun p : Addr × Bool => decide (((p.1 : Nat) : Int) = ((C : Nat) : Int))) = fun p => decide (p.1 = C) := by
    funext p
    rw [decide_eq_decide]
    exact Int.ofNat_inj
  show (tbl.find? fun p => decide (((p.1 : Nat) : Int) = ((C : Nat) : Int))).map (·.2) = _
  rw [e]
/-- told of a class by a table -/
def told6 (C : Addr) (tbl : List (Addr × Bool)) : Option Bool := (tbl.find? fun p => decide (p.1 = C)).map (·.2)
/-- an error of the class C -/
def IsErr (C : Addr) (d : PyData) : Prop := ∀ tbl, isXD tbl d = told6 C tbl
theorem isErr_ex (C : Addr) (f : Str) (d : PyData) : IsErr C (exD C f d) := fun tbl => isXD_ex tbl C f d
theorem isErr_ex0 (C : Addr) : IsErr C (exD0 C) := fun tbl => isXD_ex0 tbl C
/-- which of the six -/
def bools (k : Nat) : List PyData := (List.range 6).map fun j => .bool (decide (j = k))
structure Nd (C1 C2 C3 C4 C5 C6 : Addr) : Prop where
  h : [C1, C2, C3, C4, C5, C6].Nodup
theorem told_hit (nd : [C1, C2, C3, C4, C5, C6].Nodup) (b1 b2 b3 b4 b5 b6 : Bool) (k : Nat) (hk : k < 6) : told6 ([C1, C2, C3, C4, C5, C6][k]'hk) [(C1, b1), (C2, b2), (C3, b3), (C4, b4), (C5, b5), (C6, b6)] = some ([b1, b2, b3, b4, b5, b6][k]'hk) := by
  simp only [List.nodup_cons, List.mem_cons, List.not_mem_nil, or_false, not_or, not_false_eq_true, List.nodup_nil, and_true] at nd
  obtain ⟨⟨n12, n13, n14, n15, n16⟩, ⟨n23, n24, n25, n26⟩, ⟨n34, n35, n36⟩, ⟨n45, n46⟩, n56⟩ := nd
  unfold told6
  match k, hk with
  | 0, _ => simp
  | 1, _ => simp [n12]
  | 2, _ => simp [n13, n23]
  | 3, _ => simp [n14, n24, n34]
  | 4, _ => simp [n15, n25, n35, n45]
  | 5, _ => simp [n16, n26, n36, n46, n56]
theorem law_of_eq (nd : [C1, C2, C3, C4, C5, C6].Nodup) {d : PyData} {k : Nat} (hk : k < 6) (h : IsErr ([C1, C2, C3, C4, C5, C6][k]'hk) d) : m__law_of C3 C2 C1 C4 CS C5 C6 [d] = rt (.list (bools k)) := by
  have z3 : 3 ≤ sizeLine := by rw [L3.big]; omega
  have z6 : 6 ≤ sizeLine := by rw [L3.big]; omega
  have t : ∀ b1 b2 b3 b4 b5 b6, isXD [(C1, b1), (C2, b2), (C3, b3), (C4, b4), (C5, b5), (C6, b6)] d = some ([b1, b2, b3, b4, b5, b6][k]'hk) := fun b1 b2 b3 b4 b5 b6 => (h _).trans (told_hit nd b1 b2 b3 b4 b5 b6 k hk)
  have ea : ∀ xs ys : List PyData, xs.length + ys.length ≤ sizeLine → addD (.list xs) (.list ys) = some (.list (xs ++ ys)) := fun xs ys hl => by
    show (if xs.length + ys.length ≤ sizeLine then some (PyData.list (xs ++ ys)) else none) = _
    rw [if_pos hl]
  unfold m__law_of g__law_of
  simp [t, z3, ea, z6]
  match k, hk with
  | 0, _ => rfl
  | 1, _ => rfl
  | 2, _ => rfl
  | 3, _ => rfl
  | 4, _ => rfl
  | 5, _ => rfl
theorem law_foreign_eq (nd : [C1, C2, C3, C4, C5, C6].Nodup) {d : PyData} {k : Nat} (hk : k < 6) (h : IsErr ([C1, C2, C3, C4, C5, C6][k]'hk) d) : m__law_foreign C3 C2 C1 C4 CS C5 C6 [d] = rt (.bool false) := by
  have t : ∀ b1 b2 b3 b4 b5 b6, isXD [(C1, b1), (C2, b2), (C3, b3), (C4, b4), (C5, b5), (C6, b6)] d = some ([b1, b2, b3, b4, b5, b6][k]'hk) := fun b1 b2 b3 b4 b5 b6 => (h _).trans (told_hit nd b1 b2 b3 b4 b5 b6 k hk)
  have tf : isXD [(C1, false), (C2, false), (C3, false), (C4, false), (C5, false), (C6, false)] d = some false := by
    rw [t]
    match k, hk with
    | 0, _ => rfl
    | 1, _ => rfl
    | 2, _ => rfl
    | 3, _ => rfl
    | 4, _ => rfl
    | 5, _ => rfl
  have tt : isXD [(C1, true), (C2, true), (C3, true), (C4, true), (C5, true), (C6, true)] d = some true := by
    rw [t]
    match k, hk with
    | 0, _ => rfl
    | 1, _ => rfl
    | 2, _ => rfl
    | 3, _ => rfl
    | 4, _ => rfl
    | 5, _ => rfl
  unfold m__law_foreign g__law_foreign
  simp [tf, tt]
theorem law_caught_eq (a : Int) : m__law_caught C3 C2 C1 C4 CS C5 C6 [.int a] = rt (.bool (!decide (a = 0))) := by
  unfold m__law_caught g__law_caught
  simp only [ev_runB, ev_startE, List.zipWith_cons_cons, List.zipWith_nil_left, List.map_cons, List.map_nil, kSl_val, List.length_cons, List.length_nil, List.replicate, List.cons_append, List.nil_append]
  rw [ev_tryB]
  by_cases h : a = 0
  · subst h
    have ne : ¬ (("TooMany" : Str) = "NoStem") := by decide +kernel
    simp [offE]
    try rw [show List.lookup (Str.ofString "TooMany") [(Str.ofString "TooMany", false), (Str.ofString "NoStem", true)] = some false by decide +kernel]
    try simp [offE]
  · have e : ((a == 0) = false) := beq_false_of_ne h
    simp [h, e, offE]
    try rw [show List.lookup (Str.ofString "NoStem") [(Str.ofString "TooMany", false), (Str.ofString "NoStem", true)] = some true by decide +kernel]
    try simp [offE]
end KL

set_option Elab.async false
set_option linter.all false
set_option maxRecDepth 100000
set_option maxHeartbeats 4000000
namespace KL
open PySem L2 L3

variable {C1 C2 C3 C4 C5 C6 CS : Addr}
abbrev k0E (row : PyData) (o3 o4 o5 o6 o7 o8 : Option Sl) : Env3 := [Option.none, some (.val row), some .spot, o3, o4, o5, o6, o7, o8]
theorem fldD_ex {f : Str} {Cs : List Addr} {C : Addr} {d : PyData} (h : C ∈ Cs) : fldD f Cs (exD C f d) = some d := by
  unfold fldD exD
  exact if_pos ⟨rfl, List.mem_map.mpr ⟨C, h, rfl⟩⟩
noncomputable def k0A (C1 C2 C3 : Addr) : Env3 → MM Fl3 := (ifS (notT (tst (cal (m__law_so 8) (ac (fldE "at" [C1, C2, C3] (vr 5)) (ac (vr 3) an))))) (ret (cs (.bool false))) nxt)
noncomputable def k0B (C4 C5 : Addr) : Env3 → MM Fl3 := (ifS (notT (tst (cal (m__law_so 8) (ac (fldE "word" [C4, C5] (vr 5)) (ac (vr 4) an))))) (ret (cs (.bool false))) nxt)
noncomputable def k0C (C1 C2 C3 C4 C5 C6 CS : Addr) : Env3 → MM Fl3 := (ifS (orT (tst (bin neD (cal (m__law_of C3 C2 C1 C4 CS C5 C6) (ac (bin ixD (vr 6) (vr 7)) an)) (lcV (itA rg1 (ac (cs (.int 6)) an)) [8] (tgN 8) ty (bin eqD (vr 8) (vr 7))))) (orT (tst (cal (m__law_foreign C3 C2 C1 C4 CS C5 C6) (ac (bin ixD (vr 6) (vr 7)) an))) (notT (tst (isX [(C1, true), (C2, true), (C3, true), (C4, true), (C5, true), (C6, true)] (bin ixD (vr 6) (vr 7))))))) (ret (cs (.bool false))) nxt)
theorem k0A_turn {row : PyData} {a : Int} {o4 o6 o7 o8 : Option Sl} {C : Addr} (h : C ∈ [C1, C2, C3]) : k0A C1 C2 C3 (k0E row (some (.val (.int a))) o4 (some (.val (exD C "at" (.int a)))) o6 o7 o8) = rt (.nx (k0E row (some (.val (.int a))) o4 (some (.val (exD C "at" (.int a)))) o6 o7 o8)) := by
  have e := fldD_ex (f := "at") (d := .int a) h
  generalize exD C "at" (.int a) = E at e ⊢
  unfold k0A
  simp [e, so_int 7]
theorem k0B_turn {row : PyData} {a : Int} {o : PyData} {o6 o7 o8 : Option Sl} {C : Addr} (h : C ∈ [C4, C5]) (ho : o ∈ others a) : k0B C4 C5 (k0E row (some (.val (.int a))) (some (.val o)) (some (.val (exD C "word" o))) o6 o7 o8) = rt (.nx (k0E row (some (.val (.int a))) (some (.val o)) (some (.val (exD C "word" o))) o6 o7 o8)) := by
  have e := fldD_ex (f := "word") (d := o) h
  have s := so_others o ho
  generalize exD C "word" o = E at e ⊢
  unfold k0B
  simp [e, s]
theorem ne_six (b1 b2 b3 b4 b5 b6 : Bool) : neD (.list [.bool b1, .bool b2, .bool b3, .bool b4, .bool b5, .bool b6]) (.list [.bool b1, .bool b2, .bool b3, .bool b4, .bool b5, .bool b6]) = some (.bool false) := by
  simp [neD, both, sh, PyData.plain, PyData.plainAll, PyData.depth, PyData.depthAll, PyData.eqv, PyData.eqvAll]
theorem ne_bools (k : Nat) : neD (.list (bools k)) (.list (bools k)) = some (.bool false) := ne_six _ _ _ _ _ _
def fB (k : Nat) (y : PyData) : PyData := match y with
  | .int j => .bool (j == (k : Int))
  | _ => .none
theorem map_fB (k : Nat) : [PyData.int 0, .int 1, .int 2, .int 3, .int 4, .int 5].map (fB k) = bools k := by
  have e : ∀ j : Nat, ((j : Int) == (k : Int)) = decide (j = k) := fun j => by
    by_cases h : j = k
    · simp [h]
    · have : ((j : Int) == (k : Int)) = false := beq_false_of_ne (by omega)
      rw [this, decide_eq_false h]
  have e0 := e 0
  have e1 := e 1
  have e2 := e 2
  have e3 := e 3
  have e4 := e 4
  have e5 := e 5
  show [PyData.bool (((0 : Nat) : Int) == (k : Int)), .bool (((1 : Nat) : Int) == (k : Int)), .bool (((2 : Nat) : Int) == (k : Int)), .bool (((3 : Nat) : Int) == (k : Int)), .bool (((4 : Nat) : Int) == (k : Int)), .bool (((5 : Nat) : Int) == (k : Int))] = _
  rw [e0, e1, e2, e3, e4, e5]
  rfl
theorem errs_at {a : Int} {o : PyData} {k : Nat} (hk : k < 6) : ∃ d, ixD (.list (errs a o C1 C2 C3 C4 C5 C6)) (.int (k : Int)) = some d ∧ IsErr ([C1, C2, C3, C4, C5, C6][k]'hk) d := by
  match k, hk with
  | 0, _ => exact ⟨_, by rw [ixD_list, L3.atI_nat]; rfl, isErr_ex _ _ _⟩
  | 1, _ => exact ⟨_, by rw [ixD_list, L3.atI_nat]; rfl, isErr_ex _ _ _⟩
  | 2, _ => exact ⟨_, by rw [ixD_list, L3.atI_nat]; rfl, isErr_ex _ _ _⟩
  | 3, _ => exact ⟨_, by rw [ixD_list, L3.atI_nat]; rfl, isErr_ex _ _ _⟩
  | 4, _ => exact ⟨_, by rw [ixD_list, L3.atI_nat]; rfl, isErr_ex _ _ _⟩
  | 5, _ => exact ⟨_, by rw [ixD_list, L3.atI_nat]; rfl, isErr_ex0 _⟩
theorem k0C_turn (nd : [C1, C2, C3, C4, C5, C6].Nodup) {row : PyData} {a : Int} {o : PyData} {o3 o4 o5 o8 : Option Sl} {k : Nat} (hk : k < 6) : k0C C1 C2 C3 C4 C5 C6 CS (k0E row o3 o4 o5 (some (.val (.list (errs a o C1 C2 C3 C4 C5 C6)))) (some (.val (.int (k : Int)))) o8) = rt (.nx (k0E row o3 o4 o5 (some (.val (.list (errs a o C1 C2 C3 C4 C5 C6)))) (some (.val (.int (k : Int)))) o8)) := by
  obtain ⟨d, e1, h⟩ := errs_at (a := a) (o := o) (C1 := C1) (C2 := C2) (C3 := C3) (C4 := C4) (C5 := C5) (C6 := C6) hk
  have e2 := law_of_eq (CS := CS) nd hk h
  have e3 := law_foreign_eq (CS := CS) nd hk h
  have e4 : isXD [(C1, true), (C2, true), (C3, true), (C4, true), (C5, true), (C6, true)] d = some true := by
    rw [h, told_hit nd]
    match k, hk with
    | 0, _ => rfl
    | 1, _ => rfl
    | 2, _ => rfl
    | 3, _ => rfl
    | 4, _ => rfl
    | 5, _ => rfl
  have e5 := ne_bools k
  have e6 : ∀ L : PyData, lcV (itA rg1 (ac (cs (.int 6)) an)) [8] (tgN 8) ty (bin eqD (vr 8) (vr 7)) (k0E row o3 o4 o5 (some (.val L)) (some (.val (.int (k : Int)))) o8) = rt (.list (bools k)) := fun L => by
    rw [ev_lcV]
    have e7 : itA rg1 (ac (cs (.int 6)) an) (k0E row o3 o4 o5 (some (.val L)) (some (.val (.int (k : Int)))) o8) = rt (rngD 0 6) := by
      simp [rg1_int (show (0 : Int) ≤ 6 by omega) (show (6 : Int) ≤ 1000000 by omega)]
    rw [e7, bd_rt]
    have e8 := lcGo_map (tg := tgN 8) (te := bin eqD (vr 8) (vr 7)) (Δ := wipeE (k0E row o3 o4 o5 (some (.val L)) (some (.val (.int (k : Int)))) o8) [8]) (fB k) (ds := rngD 0 6) (fun y hy => by
      obtain ⟨j, _, rfl⟩ := mem_rng hy
      refine ⟨_, rfl, ?_⟩
      unfold fB
      generalize (0 : Int) + (j : Nat) = jj
      simp [wipeE]) (by rw [len_rng]; omega)
    rw [e8, bd_rt, rng6, map_fB]
  generalize PyData.list (errs a o C1 C2 C3 C4 C5 C6) = L at e1 ⊢
  have e6 := e6 L
  unfold k0C
  rw [ev_ifS, ev_orT, ev_tst, ev_bin, e6]
  have e9 : (cal (m__law_of C3 C2 C1 C4 CS C5 C6) (ac (bin ixD (vr 6) (vr 7)) an)) (k0E row o3 o4 o5 (some (.val L)) (some (.val (.int (k : Int)))) o8) = rt (.list (bools k)) := by
    simp only [ev_cal, ev_ac, ev_bin, ev_vr, ev_an, List.getElem?_cons_zero, List.getElem?_cons_succ, slV_val, op_some, bd_rt, e1, e2, calmly_rt]
  rw [e9, bd_rt, bd_rt, e5, op_some, bd_rt]
  generalize PyData.list (bools k) = BB at e2
  simp [e1, e3, e4]
end KL

set_option Elab.async false
set_option linter.all false
set_option maxRecDepth 100000
set_option maxHeartbeats 4000000
namespace L3
open PySem L2
theorem Rn.seqn {g h : Env3 → MM Fl3} {Δ : Env3} {P : Fl3 → Prop} (Q : Env3 → Prop) (h1 : Rn (g Δ) fun r => ∃ Δ', r = .nx Δ' ∧ Q Δ') (h2 : ∀ Δ', Q Δ' → Rn (h Δ') P) : Rn (seq g h Δ) P := by
  rw [ev_seq]
  refine Rn.bd h1 fun r hr => ?_
  obtain ⟨Δ', rfl, hq⟩ := hr
  exact h2 Δ' hq
end L3
namespace KL
open PySem L2 L3

variable {C1 C2 C3 C4 C5 C6 CS : Addr}
theorem ex_list6 (row : PyData) (a : Int) (o4 o5 o6 o7 o8 : Option Sl) : lstV (ac (exV C1 "at" (vr 3)) (ac (exV C2 "at" (vr 3)) (ac (exV C3 "at" (vr 3)) (ac (exV C1 "at" (vr 3)) (ac (exV C2 "at" (vr 3)) (ac (exV C3 "at" (vr 3)) an)))))) (k0E row (some (.val (.int a))) o4 o5 o6 o7 o8) = rt (.list ([C1, C2, C3, C1, C2, C3].map fun C => exD C "at" (.int a))) := by
  have z : 6 ≤ sizeLine := by rw [L3.big]; omega
  simp only [ev_lstV, ev_ac, ev_exV, ev_vr, ev_an, List.getElem?_cons_zero, List.getElem?_cons_succ, slV_val, op_some, bd_rt, List.length_cons, List.length_nil]
  rw [if_pos (by rw [L3.big]; omega)]
  rfl
theorem ex_list4 (row : PyData) (o : PyData) (o3 o5 o6 o7 o8 : Option Sl) : lstV (ac (exV C4 "word" (vr 4)) (ac (exV C4 "word" (vr 4)) (ac (exV C5 "word" (vr 4)) (ac (exV C5 "word" (vr 4)) an)))) (k0E row o3 (some (.val o)) o5 o6 o7 o8) = rt (.list ([C4, C4, C5, C5].map fun C => exD C "word" o)) := by
  simp only [ev_lstV, ev_ac, ev_exV, ev_vr, ev_an, List.getElem?_cons_zero, List.getElem?_cons_succ, slV_val, op_some, bd_rt, List.length_cons, List.length_nil]
  rw [if_pos (by rw [L3.big]; omega)]
  rfl
theorem ex_every (row : PyData) (a : Int) (o : PyData) (o5 o6 o7 o8 : Option Sl) : lstV (ac (exV C1 "at" (vr 3)) (ac (exV C2 "at" (vr 3)) (ac (exV C3 "at" (vr 3)) (ac (exV C4 "word" (vr 4)) (ac (exV C5 "word" (vr 4)) (ac (exV0 C6) an)))))) (k0E row (some (.val (.int a))) (some (.val o)) o5 o6 o7 o8) = rt (.list (errs a o C1 C2 C3 C4 C5 C6)) := by
  simp only [ev_lstV, ev_ac, ev_exV, ev_exV0, ev_vr, ev_an, List.getElem?_cons_zero, List.getElem?_cons_succ, slV_val, op_some, bd_rt, List.length_cons, List.length_nil]
  rw [if_pos (by rw [L3.big]; omega)]
  rfl
theorem law3 (K : PySem.W.Frag) (nd : [C1, C2, C3, C4, C5, C6].Nodup) {row : PyData} (hr : RowOk row) : Rn (g_law3 K C3 C2 C1 C4 CS C5 C6 (k0E row none none none none none none)) fun r => r = .rt (.bool true) := by
  have z2 : 2 ≤ sizeLine := by rw [L3.big]; omega
  have z5 : 5 ≤ sizeLine := by rw [L3.big]; omega
  unfold g_law3
  refine Rn.seqn (fun Δ => ∃ a : Int, Δ = k0E row (some (.val (.int a))) none none none none none) ?_ ?_
  · unfold k0E
    simp
    refine Rn.bd (w_take hr (by omega)).calmly fun d hd => ?_
    obtain ⟨i, rfl, _, _⟩ := hd
    simp
    exact Rn.rt ⟨_, rfl, i - 9, rfl⟩
  rintro _ ⟨a, rfl⟩
  refine Rn.seqn (fun Δ => ∃ o : PyData, Δ = k0E row (some (.val (.int a))) (some (.val o)) none none none none ∧ o ∈ others a) ?_ ?_
  · simp [z2, z5]
    refine Rn.bd (w_take hr (by omega)).calmly fun d hd => ?_
    obtain ⟨y, ey, hy⟩ := at_list2 (xs := others a) hd rfl
    have ey' := ey
    unfold others at ey'
    rw [ey', op_some, bd_rt]
    exact Rn.rt (by first | exact ⟨_, rfl, y, rfl, hy⟩ | exact ⟨y, rfl, hy⟩)
  rintro _ ⟨o, rfl, ho⟩
  refine Rn.seqn (fun Δ => ∃ o5, Δ = k0E row (some (.val (.int a))) (some (.val o)) o5 none none none) ?_ ?_
  · rw [ev_forS, ev_itV, ex_list6, bd_rt, iterD_list, op_some, tryE_rt]
    refine forGo_rn (I := fun ds Δ => (∃ o5, Δ = k0E row (some (.val (.int a))) (some (.val o)) o5 none none none) ∧ ∀ d ∈ ds, ∃ C ∈ [C1, C2, C3], d = exD C "at" (.int a)) ?_ ?_ _ _ ⟨⟨_, rfl⟩, fun d hd => ?_⟩
    · rintro d ds Δ ⟨⟨o5, rfl⟩, hds⟩
      obtain ⟨C, hC, rfl⟩ := hds d List.mem_cons_self
      refine ⟨k0E row (some (.val (.int a))) (some (.val o)) (some (.val (exD C "at" (.int a)))) none none none, rfl, ?_⟩
      have e := k0A_turn (row := row) (a := a) (o4 := some (.val o)) (o6 := none) (o7 := none) (o8 := none) hC
      unfold k0A at e
      rw [e]
      exact Rn.rt ⟨⟨_, rfl⟩, fun d hd => hds d (List.mem_cons_of_mem _ hd)⟩
    · rintro Δ ⟨⟨o5, rfl⟩, _⟩
      exact ⟨_, rfl, o5, rfl⟩
    · obtain ⟨C, hC, rfl⟩ := List.mem_map.mp hd
      refine ⟨C, ?_, rfl⟩
      simp only [List.mem_cons, List.not_mem_nil, or_false] at hC ⊢
      rcases hC with h | h | h | h | h | h <;> simp [h]
  rintro _ ⟨o5, rfl⟩
  refine Rn.seqn (fun Δ => ∃ o5, Δ = k0E row (some (.val (.int a))) (some (.val o)) o5 none none none) ?_ ?_
  · rw [ev_forS, ev_itV, ex_list4, bd_rt, iterD_list, op_some, tryE_rt]
    refine forGo_rn (I := fun ds Δ => (∃ o5, Δ = k0E row (some (.val (.int a))) (some (.val o)) o5 none none none) ∧ ∀ d ∈ ds, ∃ C ∈ [C4, C5], d = exD C "word" o) ?_ ?_ _ _ ⟨⟨_, rfl⟩, fun d hd => ?_⟩
    · rintro d ds Δ ⟨⟨o5, rfl⟩, hds⟩
      obtain ⟨C, hC, rfl⟩ := hds d List.mem_cons_self
      refine ⟨k0E row (some (.val (.int a))) (some (.val o)) (some (.val (exD C "word" o))) none none none, rfl, ?_⟩
      have e := k0B_turn (row := row) (a := a) (o := o) (o6 := none) (o7 := none) (o8 := none) hC ho
      unfold k0B at e
      rw [e]
      exact Rn.rt ⟨⟨_, rfl⟩, fun d hd => hds d (List.mem_cons_of_mem _ hd)⟩
    · rintro Δ ⟨⟨o5, rfl⟩, _⟩
      exact ⟨_, rfl, o5, rfl⟩
    · obtain ⟨C, hC, rfl⟩ := List.mem_map.mp hd
      refine ⟨C, ?_, rfl⟩
      simp only [List.mem_cons, List.not_mem_nil, or_false] at hC ⊢
      rcases hC with h | h | h | h <;> simp [h]
  clear o5
  rintro _ ⟨o5, rfl⟩
  refine Rn.seqn (fun Δ => Δ = k0E row (some (.val (.int a))) (some (.val o)) o5 (some (.val (.list (errs a o C1 C2 C3 C4 C5 C6)))) none none) ?_ ?_
  · rw [ev_asg, ex_every, tryE_rt]
    exact Rn.rt ⟨_, rfl, rfl⟩
  rintro _ rfl
  refine Rn.seqn (fun Δ => ∃ o7, Δ = k0E row (some (.val (.int a))) (some (.val o)) o5 (some (.val (.list (errs a o C1 C2 C3 C4 C5 C6)))) o7 none) ?_ ?_
  · rw [ev_forS]
    have e7 : itA rg1 (ac (cs (.int 6)) an) (k0E row (some (.val (.int a))) (some (.val o)) o5 (some (.val (.list (errs a o C1 C2 C3 C4 C5 C6)))) none none) = rt (rngD 0 6) := by
      generalize PyData.list (errs a o C1 C2 C3 C4 C5 C6) = L
      simp [rg1_int (show (0 : Int) ≤ 6 by omega) (show (6 : Int) ≤ 1000000 by omega)]
    rw [e7, tryE_rt]
    refine forGo_rn (I := fun ds Δ => (∃ o7, Δ = k0E row (some (.val (.int a))) (some (.val o)) o5 (some (.val (.list (errs a o C1 C2 C3 C4 C5 C6)))) o7 none) ∧ ∀ d ∈ ds, ∃ k : Nat, k < 6 ∧ d = .int (k : Int)) ?_ ?_ _ _ ⟨⟨_, rfl⟩, fun d hd => ?_⟩
    · rintro d ds Δ ⟨⟨o7, rfl⟩, hds⟩
      obtain ⟨k, hk, rfl⟩ := hds d List.mem_cons_self
      refine ⟨k0E row (some (.val (.int a))) (some (.val o)) o5 (some (.val (.list (errs a o C1 C2 C3 C4 C5 C6)))) (some (.val (.int (k : Int)))) none, rfl, ?_⟩
      have e := k0C_turn (CS := CS) nd (row := row) (a := a) (o := o) (o3 := some (.val (.int a))) (o4 := some (.val o)) (o5 := o5) (o8 := none) hk
      unfold k0C at e
      rw [e]
      exact Rn.rt ⟨⟨_, rfl⟩, fun d hd => hds d (List.mem_cons_of_mem _ hd)⟩
    · rintro Δ ⟨⟨o7, rfl⟩, _⟩
      exact ⟨_, rfl, o7, rfl⟩
    · obtain ⟨j, hj, rfl⟩ := mem_rng hd
      exact ⟨j, hj, by rw [Int.zero_add]⟩
  rintro _ ⟨o7, rfl⟩
  generalize PyData.list (errs a o C1 C2 C3 C4 C5 C6) = L
  simp [law_caught_eq]
  refine Rn.bd (w_take hr (by omega)).calmly fun d hd => ?_
  obtain ⟨i, rfl, h0, h1⟩ := hd
  have hne : ¬ (1 + i = 0) := by omega
  simp [law_caught_eq, hne]
  first | exact Rn.rt rfl | exact Rn.rt ⟨_, rfl⟩
theorem law1 (K : PySem.W.Frag) {ns : List Int} (hl : ns.length ≤ 63) : Rn (g_law1 K (startE 9 [.scr K] [.list (ns.map .int)])) fun r => ∃ row, r = .nx [some (.scr K ns), some (.val row), none, none, none, none, none, none, none] ∧ RowOk row := by
  have e : g_law1 K (startE 9 [.scr K] [.list (ns.map .int)]) = bd (calmly (m__law_numbers K [.list (ns.map .int)])) fun d => rt (.nx [some (.scr K ns), some (.val d), none, none, none, none, none, none, none]) := by
    unfold g_law1
    have ea : asc K 0 an [some (Sl.scr K ns), none, none, none, none, none, none, none, none] = rt [.list (ns.map .int)] := by
      unfold asc
      simp
    simp [ea]
  rw [e]
  exact Rn.bd (w_numbers K ns hl).calmly fun d hd => Rn.rt ⟨d, rfl, hd⟩
theorem law_run (K : PySem.W.Frag) (nd : [C1, C2, C3, C4, C5, C6].Nodup) : ∀ ns : List Int, ns.length ≤ 63 → ∃ Δ1 k1 Δ2 k2 c k3, 0 ≤ c ∧ g_law1 K (startE 9 [.scr K] [.list (ns.map .int)]) 0 = .ok (.nx Δ1) k1 ∧ g_law2 K Δ1 k1 = .ok (.nx Δ2) k2 ∧ Δ2[2]? = some (some (.own (.list [.int c]))) ∧ g_law3 K C3 C2 C1 C4 CS C5 C6 (spotE 2 Δ2) c = .ok (.rt (.bool true)) k3 := by
  intro ns hl
  obtain ⟨r, k1, e1, h1, row, rfl, hr⟩ := law1 K hl 0 (Int.le_refl 0)
  have h2 : g_law2 K [some (.scr K ns), some (.val row), none, none, none, none, none, none, none] k1 = .ok (.nx [some (.scr K ns), some (.val row), some (.own (.list [.int 0])), none, none, none, none, none, none]) k1 := by
    have z1 : 1 ≤ sizeLine := by rw [L3.big]; omega
    have : g_law2 K [some (.scr K ns), some (.val row), none, none, none, none, none, none, none] = rt (.nx [some (.scr K ns), some (.val row), some (.own (.list [.int 0])), none, none, none, none, none, none]) := by
      unfold g_law2
      simp [z1]
    rw [this]
    rfl
  obtain ⟨r3, k3, e3, _, rfl⟩ := law3 K (CS := CS) nd hr 0 (Int.le_refl 0)
  exact ⟨_, _, _, _, 0, k3, Int.le_refl 0, e1, h2, rfl, e3⟩
end KL

set_option Elab.async false
set_option linter.all false
set_option maxRecDepth 100000
set_option maxHeartbeats 4000000
namespace KL
open PySem PySem.Spec PyProof.Rows L2 L3

/-- of one class over StemError, at S -/
structure ErrF (K : PySem.W.Frag) (mg : Str → Option Value) (c : Str) (C S : Addr) : Prop where
  m : mg c = some (.ref C)
  e : ∃ cd, PySem.W.clsIn K C = some cd ∧ cd.mro = [.ref C, .ref S, .type "Exception", .type "BaseException", .type "object"] ∧ cd.hasDict = true
  t : PySem.W.typeIn K (.ref C) = some (.type "type")
  ga : PySem.W.findIn K (.ref C) "__getattribute__" = some (some (.builtin "BaseException.__getattribute__"))
  gg : PySem.W.findIn K (.ref C) "__getattr__" = some none
  cl : PySem.W.findIn K (.ref C) "__class__" = some (some (.builtin "object.__class__"))
/-- of all seven -/
structure ErrA (K : PySem.W.Frag) (mg : Str → Option Value) (C3 C2 C1 C4 S C5 C6 : Addr) : Prop where
  sm : mg "StemError" = some (.ref S)
  si : PySem.W.isClsIn K S = true
  st : PySem.W.typeIn K (.ref S) = some (.type "type")
  sb : PySem.W.subIn K (.ref S) (.type "BaseException") = some true
  sp : PySem.W.specialIn K (.builtin "object.__class__") "__get__" = some (some (.builtin "getset_descriptor.__get__"))
  tk : PySem.W.takesIn K (.builtin "object.__class__") = some true
  v1 : ErrF K mg "BadValue" C1 S
  v2 : ErrF K mg "BadText" C2 S
  v3 : ErrF K mg "BadPaper" C3 S
  v4 : ErrF K mg "NoStem" C4 S
  v5 : ErrF K mg "TakenStem" C5 S
  v6 : ErrF K mg "TooMany" C6 S
  nd : [S, C1, C2, C3, C4, C5, C6].Nodup
section
variable {K : PySem.W.Frag} {mg : Str → Option Value} {c c' : Str} {C C' D S : Addr}
theorem ErrF.sub (h : ErrF K mg c C S) (b : Value) : PySem.W.subIn K (.ref C) b = some ([Value.ref C, .ref S, .type "Exception", .type "BaseException", .type "object"].contains b) := by
  obtain ⟨cd, e1, e2, _⟩ := h.e
  show PySem.W.mroIn K C b = _
  unfold PySem.W.mroIn
  rw [e1, Option.bind_some, e2, if_neg (by simp)]
theorem ErrF.errC (h : ErrF K mg c C S) (sp : PySem.W.specialIn K (.builtin "object.__class__") "__get__" = some (some (.builtin "getset_descriptor.__get__"))) (tk : PySem.W.takesIn K (.builtin "object.__class__") = some true) : ErrC K C := by
  obtain ⟨cd, e1, e2, e3⟩ := h.e
  refine ⟨h.ga, h.gg, ?_, ?_, by rw [e1]; rfl, h.cl, sp, tk, ?_⟩
  · rw [h.sub]
    simp
  · unfold PySem.W.hasDictIn
    rw [e1]
    exact e3
  · have := h.sub (.type "object")
    have e4 : PySem.W.mroIn K C (.type "object") = PySem.W.subIn K (.ref C) (.type "object") := rfl
    rw [e4, this]
    simp
theorem ErrF.kitOwn (h : ErrF K mg c C S) (iD : (PySem.W.clsIn K D).isSome = true) (tD : PySem.W.typeIn K (.ref D) = some (.type "type")) (b : Bool) (hb : b = true ↔ (D = C ∨ D = S)) : PySem.W.kitOne K (.ref C) (.ref D) = some b := by
  have key : [Value.ref C, .ref S, .type "Exception", .type "BaseException", .type "object"].contains (.ref D) = b := by
    rw [Bool.eq_iff_iff, List.contains_iff_mem, hb]
    simp
  by_cases e : (Value.ref C == Value.ref D) = true
  · have e2 : C = D := Value.ref.inj (beq_iff_eq.mp e)
    have : b = true := hb.mpr (.inl e2.symm)
    unfold PySem.W.kitOne
    rw [if_pos e, this]
  · unfold PySem.W.kitOne
    rw [if_neg e]
    show (if ((PySem.W.clsIn K D).isSome && PySem.W.typeIn K (.ref D) == some (.type "type")) = true then PySem.W.subIn K (.ref C) (.ref D) else none) = _
    rw [if_pos (by rw [iD, tD] <;> rfl), h.sub, key]
theorem ErrF.kitTy (h : ErrF K mg c C S) {T : String} (hm : PySem.W.kitMeta T = true) (b : Bool) (hb : ([.type "Exception", .type "BaseException", .type "object"] : List Value).contains (.type T) = b) : PySem.W.kitOne K (.ref C) (.type T) = some b := by
  unfold PySem.W.kitOne
  rw [if_neg (by simp)]
  show (if PySem.W.kitMeta T = true then PySem.W.subIn K (.ref C) (.type T) else none) = _
  have q1 : (Value.type T == Value.ref C) = false := beq_false_of_ne fun z => by cases z
  have q2 : (Value.type T == Value.ref S) = false := beq_false_of_ne fun z => by cases z
  rw [if_pos hm, h.sub, List.contains_cons, List.contains_cons, hb, q1, q2]
  rfl
theorem ErrF.has (h : ErrF K mg c C S) : (PySem.W.clsIn K C).isSome = true := by
  obtain ⟨cd, e1, _⟩ := h.e
  rw [e1]
  rfl
theorem ErrF.exm (h : ErrF K mg c C S) (sb : PySem.W.subIn K (.ref S) (.type "BaseException") = some true) (si : PySem.W.isClsIn K S = true) (st : PySem.W.typeIn K (.ref S) = some (.type "type")) : PySem.W.exmOne K (.ref C) (.ref S) = some true := by
  have e1 : (PySem.W.subIn K (.ref S) (.type "BaseException") == some true) = true := by rw [sb] <;> rfl
  have i2 : (PySem.W.clsIn K S).isSome = true := si
  unfold PySem.W.exmOne
  rw [if_pos e1]
  show (if ((PySem.W.clsIn K S).isSome && PySem.W.typeIn K (.ref S) == some (.type "type")) = true then PySem.W.subIn K (.ref C) (.ref S) else none) = _
  rw [if_pos (by rw [i2, st] <;> rfl), h.sub]
  simp
end
theorem meta_Exception : PySem.W.kitMeta "Exception" = true := by decide +kernel
theorem meta_ValueError : PySem.W.kitMeta "ValueError" = true := by decide +kernel
theorem meta_LookupError : PySem.W.kitMeta "LookupError" = true := by decide +kernel
theorem meta_ArithmeticError : PySem.W.kitMeta "ArithmeticError" = true := by decide +kernel
theorem all6 {α : Type} {P : α → Prop} {a b c d e f : α} (h1 : P a) (h2 : P b) (h3 : P c) (h4 : P d) (h5 : P e) (h6 : P f) : ∀ z ∈ [a, b, c, d, e, f], P z := fun z hz => by
  simp only [List.mem_cons, List.not_mem_nil, or_false] at hz
  rcases hz with rfl | rfl | rfl | rfl | rfl | rfl <;> assumption
theorem errV_of {K : PySem.W.Frag} {mg : Str → Option Value} {C3 C2 C1 C4 S C5 C6 : Addr} (T : Tops K mg) (A : ErrA K mg C3 C2 C1 C4 S C5 C6) : ErrV K mg C3 C2 C1 C4 S C5 C6 := by
  have nd := A.nd
  simp only [List.nodup_cons, List.mem_cons, List.not_mem_nil, or_false, not_or, not_false_eq_true, List.nodup_nil, and_true] at nd
  obtain ⟨⟨s1, s2, s3, s4, s5, s6⟩, ⟨n12, n13, n14, n15, n16⟩, ⟨n23, n24, n25, n26⟩, ⟨n34, n35, n36⟩, ⟨n45, n46⟩, n56⟩ := nd
  have k1 := A.v1.errC A.sp A.tk
  have k2 := A.v2.errC A.sp A.tk
  have k3 := A.v3.errC A.sp A.tk
  have k4 := A.v4.errC A.sp A.tk
  have k5 := A.v5.errC A.sp A.tk
  have k6 := A.v6.errC A.sp A.tk
  have own : ∀ {D : Addr}, (PySem.W.clsIn K D).isSome = true → PySem.W.typeIn K (.ref D) = some (.type "type") → ∀ b1 b2 b3 b4 b5 b6 : Bool, (b1 = true ↔ (D = C1 ∨ D = S)) → (b2 = true ↔ (D = C2 ∨ D = S)) → (b3 = true ↔ (D = C3 ∨ D = S)) → (b4 = true ↔ (D = C4 ∨ D = S)) → (b5 = true ↔ (D = C5 ∨ D = S)) → (b6 = true ↔ (D = C6 ∨ D = S)) →
      ∀ z ∈ [(C1, b1), (C2, b2), (C3, b3), (C4, b4), (C5, b5), (C6, b6)], ErrC K z.1 ∧ PySem.W.kitOne K (.ref z.1) (.ref D) = some z.2 := fun iD tD b1 b2 b3 b4 b5 b6 h1 h2 h3 h4 h5 h6 =>
    all6 ⟨k1, A.v1.kitOwn iD tD b1 h1⟩ ⟨k2, A.v2.kitOwn iD tD b2 h2⟩ ⟨k3, A.v3.kitOwn iD tD b3 h3⟩ ⟨k4, A.v4.kitOwn iD tD b4 h4⟩ ⟨k5, A.v5.kitOwn iD tD b5 h5⟩ ⟨k6, A.v6.kitOwn iD tD b6 h6⟩
  have ty : ∀ {T : String}, PySem.W.kitMeta T = true → ∀ b : Bool, ([.type "Exception", .type "BaseException", .type "object"] : List Value).contains (.type T) = b → ∀ z ∈ [(C1, b), (C2, b), (C3, b), (C4, b), (C5, b), (C6, b)], ErrC K z.1 ∧ PySem.W.kitOne K (.ref z.1) (.type T) = some z.2 := fun hm b hb =>
    all6 ⟨k1, A.v1.kitTy hm b hb⟩ ⟨k2, A.v2.kitTy hm b hb⟩ ⟨k3, A.v3.kitTy hm b hb⟩ ⟨k4, A.v4.kitTy hm b hb⟩ ⟨k5, A.v5.kitTy hm b hb⟩ ⟨k6, A.v6.kitTy hm b hb⟩
  have l1 : ∃ fI, PySem.LowAt.LowTxt K mg "BadValue" "BadValue.__init__" C1 fI := by
    obtain ⟨C, fI, L⟩ := T.e_BadValue
    have e := L.gC.symm.trans A.v1.m
    cases e
    exact ⟨fI, L⟩
  have l2 : ∃ fI, PySem.LowAt.LowTxt K mg "BadText" "BadText.__init__" C2 fI := by
    obtain ⟨C, fI, L⟩ := T.e_BadText
    have e := L.gC.symm.trans A.v2.m
    cases e
    exact ⟨fI, L⟩
  have l3 : ∃ fI, PySem.LowAt.LowTxt K mg "BadPaper" "BadPaper.__init__" C3 fI := by
    obtain ⟨C, fI, L⟩ := T.e_BadPaper
    have e := L.gC.symm.trans A.v3.m
    cases e
    exact ⟨fI, L⟩
  have l4 : ∃ fI, PySem.LowWord.LowTxt K mg "NoStem" "NoStem.__init__" C4 fI := by
    obtain ⟨C, fI, L⟩ := T.e_NoStem
    have e := L.gC.symm.trans A.v4.m
    cases e
    exact ⟨fI, L⟩
  have l5 : ∃ fI, PySem.LowWord.LowTxt K mg "TakenStem" "TakenStem.__init__" C5 fI := by
    obtain ⟨C, fI, L⟩ := T.e_TakenStem
    have e := L.gC.symm.trans A.v5.m
    cases e
    exact ⟨fI, L⟩
  have l6 : BareC K mg "TooMany" C6 := by
    obtain ⟨C, L⟩ := T.e_TooMany
    have e := L.gC.symm.trans A.v6.m
    cases e
    exact L
  have f1 := l1.choose_spec.noN
  have f2 := l2.choose_spec.noN
  have f3 := l3.choose_spec.noN
  have f4 := l4.choose_spec.noN
  have f5 := l5.choose_spec.noN
  have t1 : ¬ C1 = S := fun q => s1 q.symm
  have t2 : ¬ C2 = S := fun q => s2 q.symm
  have t3 : ¬ C3 = S := fun q => s3 q.symm
  have t4 : ¬ C4 = S := fun q => s4 q.symm
  have t5 : ¬ C5 = S := fun q => s5 q.symm
  have t6 : ¬ C6 = S := fun q => s6 q.symm
  have n21 : ¬ C2 = C1 := fun q => n12 q.symm
  have n31 : ¬ C3 = C1 := fun q => n13 q.symm
  have n41 : ¬ C4 = C1 := fun q => n14 q.symm
  have n51 : ¬ C5 = C1 := fun q => n15 q.symm
  have n61 : ¬ C6 = C1 := fun q => n16 q.symm
  have n32 : ¬ C3 = C2 := fun q => n23 q.symm
  have n42 : ¬ C4 = C2 := fun q => n24 q.symm
  have n52 : ¬ C5 = C2 := fun q => n25 q.symm
  have n62 : ¬ C6 = C2 := fun q => n26 q.symm
  have n43 : ¬ C4 = C3 := fun q => n34 q.symm
  have n53 : ¬ C5 = C3 := fun q => n35 q.symm
  have n63 : ¬ C6 = C3 := fun q => n36 q.symm
  have n54 : ¬ C5 = C4 := fun q => n45 q.symm
  have n64 : ¬ C6 = C4 := fun q => n46 q.symm
  have n65 : ¬ C6 = C5 := fun q => n56 q.symm
  have h_at : ∀ C ∈ [C1, C2, C3], ErrC K C ∧ PySem.W.findIn K (.ref C) "at" = some none := by
    intro C hC
    simp only [List.mem_cons, List.not_mem_nil, or_false] at hC
    rcases hC with rfl | rfl | rfl
    · exact ⟨k1, f1⟩
    · exact ⟨k2, f2⟩
    · exact ⟨k3, f3⟩
  have h_word : ∀ C ∈ [C4, C5], ErrC K C ∧ PySem.W.findIn K (.ref C) "word" = some none := by
    intro C hC
    simp only [List.mem_cons, List.not_mem_nil, or_false] at hC
    rcases hC with rfl | rfl
    · exact ⟨k4, f4⟩
    · exact ⟨k5, f5⟩
  have h_c : ∀ z ∈ (["TooMany", "NoStem"] : List Str), ∃ C, mg z = some (.ref C) ∧ PySem.W.exmOne K (.ref C) (.ref S) = some true := by
    intro z hz
    simp only [List.mem_cons, List.not_mem_nil, or_false] at hz
    rcases hz with rfl | rfl
    · exact ⟨C6, A.v6.m, A.v6.exm A.sb A.si A.st⟩
    · exact ⟨C4, A.v4.m, A.v4.exm A.sb A.si A.st⟩
  have h_p : ∀ z ∈ ([("TooMany", false), ("NoStem", true)] : List (Str × Bool)), ∃ C, mg z.1 = some (.ref C) ∧ ErrC K C ∧ PySem.W.kitOne K (.ref C) (.ref C4) = some z.2 := by
    intro z hz
    simp only [List.mem_cons, List.not_mem_nil, or_false] at hz
    rcases hz with rfl | rfl
    · exact ⟨C6, A.v6.m, k6, A.v6.kitOwn A.v4.has A.v4.t false (by simp; exact ⟨n46, fun q => s4 q.symm⟩)⟩
    · exact ⟨C4, A.v4.m, k4, A.v4.kitOwn A.v4.has A.v4.t true (by simp)⟩
  exact { g_StemError := A.sm, g_BadValue := A.v1.m, l_BadValue := l1, g_BadText := A.v2.m, l_BadText := l2, g_BadPaper := A.v3.m, l_BadPaper := l3, g_NoStem := A.v4.m, l_NoStem := l4, g_TakenStem := A.v5.m, l_TakenStem := l5, g_TooMany := A.v6.m, l_TooMany := l6, f_at := h_at, f_word := h_word, nd := (List.nodup_cons.mp A.nd).2, k_StemError := own A.si A.st _ _ _ _ _ _ (by simp [t1, t2, t3, t4, t5, t6, n21, n12, n31, n13, n41, n14, n51, n15, n61, n16, n32, n23, n42, n24, n52, n25, n62, n26, n43, n34, n53, n35, n63, n36, n54, n45, n64, n46, n65, n56, s1, s2, s3, s4, s5, s6]) (by simp [t1, t2, t3, t4, t5, t6, n21, n12, n31, n13, n41, n14, n51, n15, n61, n16, n32, n23, n42, n24, n52, n25, n62, n26, n43, n34, n53, n35, n63, n36, n54, n45, n64, n46, n65, n56, s1, s2, s3, s4, s5, s6]) (by simp [t1, t2, t3, t4, t5, t6, n21, n12, n31, n13, n41, n14, n51, n15, n61, n16, n32, n23, n42, n24, n52, n25, n62, n26, n43, n34, n53, n35, n63, n36, n54, n45, n64, n46, n65, n56, s1, s2, s3, s4, s5, s6]) (by simp [t1, t2, t3, t4, t5, t6, n21, n12, n31, n13, n41, n14, n51, n15, n61, n16, n32, n23, n42, n24, n52, n25, n62, n26, n43, n34, n53, n35, n63, n36, n54, n45, n64, n46, n65, n56, s1, s2, s3, s4, s5, s6]) (by simp [t1, t2, t3, t4, t5, t6, n21, n12, n31, n13, n41, n14, n51, n15, n61, n16, n32, n23, n42, n24, n52, n25, n62, n26, n43, n34, n53, n35, n63, n36, n54, n45, n64, n46, n65, n56, s1, s2, s3, s4, s5, s6]) (by simp [t1, t2, t3, t4, t5, t6, n21, n12, n31, n13, n41, n14, n51, n15, n61, n16, n32, n23, n42, n24, n52, n25, n62, n26, n43, n34, n53, n35, n63, n36, n54, n45, n64, n46, n65, n56, s1, s2, s3, s4, s5, s6]), k_BadValue := own A.v1.has A.v1.t _ _ _ _ _ _ (by simp [t1, t2, t3, t4, t5, t6, n21, n12, n31, n13, n41, n14, n51, n15, n61, n16, n32, n23, n42, n24, n52, n25, n62, n26, n43, n34, n53, n35, n63, n36, n54, n45, n64, n46, n65, n56, s1, s2, s3, s4, s5, s6]) (by simp [t1, t2, t3, t4, t5, t6, n21, n12, n31, n13, n41, n14, n51, n15, n61, n16, n32, n23, n42, n24, n52, n25, n62, n26, n43, n34, n53, n35, n63, n36, n54, n45, n64, n46, n65, n56, s1, s2, s3, s4, s5, s6]) (by simp [t1, t2, t3, t4, t5, t6, n21, n12, n31, n13, n41, n14, n51, n15, n61, n16, n32, n23, n42, n24, n52, n25, n62, n26, n43, n34, n53, n35, n63, n36, n54, n45, n64, n46, n65, n56, s1, s2, s3, s4, s5, s6]) (by simp [t1, t2, t3, t4, t5, t6, n21, n12, n31, n13, n41, n14, n51, n15, n61, n16, n32, n23, n42, n24, n52, n25, n62, n26, n43, n34, n53, n35, n63, n36, n54, n45, n64, n46, n65, n56, s1, s2, s3, s4, s5, s6]) (by simp [t1, t2, t3, t4, t5, t6, n21, n12, n31, n13, n41, n14, n51, n15, n61, n16, n32, n23, n42, n24, n52, n25, n62, n26, n43, n34, n53, n35, n63, n36, n54, n45, n64, n46, n65, n56, s1, s2, s3, s4, s5, s6]) (by simp [t1, t2, t3, t4, t5, t6, n21, n12, n31, n13, n41, n14, n51, n15, n61, n16, n32, n23, n42, n24, n52, n25, n62, n26, n43, n34, n53, n35, n63, n36, n54, n45, n64, n46, n65, n56, s1, s2, s3, s4, s5, s6]), k_BadText := own A.v2.has A.v2.t _ _ _ _ _ _ (by simp [t1, t2, t3, t4, t5, t6, n21, n12, n31, n13, n41, n14, n51, n15, n61, n16, n32, n23, n42, n24, n52, n25, n62, n26, n43, n34, n53, n35, n63, n36, n54, n45, n64, n46, n65, n56, s1, s2, s3, s4, s5, s6]) (by simp [t1, t2, t3, t4, t5, t6, n21, n12, n31, n13, n41, n14, n51, n15, n61, n16, n32, n23, n42, n24, n52, n25, n62, n26, n43, n34, n53, n35, n63, n36, n54, n45, n64, n46, n65, n56, s1, s2, s3, s4, s5, s6]) (by simp [t1, t2, t3, t4, t5, t6, n21, n12, n31, n13, n41, n14, n51, n15, n61, n16, n32, n23, n42, n24, n52, n25, n62, n26, n43, n34, n53, n35, n63, n36, n54, n45, n64, n46, n65, n56, s1, s2, s3, s4, s5, s6]) (by simp [t1, t2, t3, t4, t5, t6, n21, n12, n31, n13, n41, n14, n51, n15, n61, n16, n32, n23, n42, n24, n52, n25, n62, n26, n43, n34, n53, n35, n63, n36, n54, n45, n64, n46, n65, n56, s1, s2, s3, s4, s5, s6]) (by simp [t1, t2, t3, t4, t5, t6, n21, n12, n31, n13, n41, n14, n51, n15, n61, n16, n32, n23, n42, n24, n52, n25, n62, n26, n43, n34, n53, n35, n63, n36, n54, n45, n64, n46, n65, n56, s1, s2, s3, s4, s5, s6]) (by simp [t1, t2, t3, t4, t5, t6, n21, n12, n31, n13, n41, n14, n51, n15, n61, n16, n32, n23, n42, n24, n52, n25, n62, n26, n43, n34, n53, n35, n63, n36, n54, n45, n64, n46, n65, n56, s1, s2, s3, s4, s5, s6]), k_BadPaper := own A.v3.has A.v3.t _ _ _ _ _ _ (by simp [t1, t2, t3, t4, t5, t6, n21, n12, n31, n13, n41, n14, n51, n15, n61, n16, n32, n23, n42, n24, n52, n25, n62, n26, n43, n34, n53, n35, n63, n36, n54, n45, n64, n46, n65, n56, s1, s2, s3, s4, s5, s6]) (by simp [t1, t2, t3, t4, t5, t6, n21, n12, n31, n13, n41, n14, n51, n15, n61, n16, n32, n23, n42, n24, n52, n25, n62, n26, n43, n34, n53, n35, n63, n36, n54, n45, n64, n46, n65, n56, s1, s2, s3, s4, s5, s6]) (by simp [t1, t2, t3, t4, t5, t6, n21, n12, n31, n13, n41, n14, n51, n15, n61, n16, n32, n23, n42, n24, n52, n25, n62, n26, n43, n34, n53, n35, n63, n36, n54, n45, n64, n46, n65, n56, s1, s2, s3, s4, s5, s6]) (by simp [t1, t2, t3, t4, t5, t6, n21, n12, n31, n13, n41, n14, n51, n15, n61, n16, n32, n23, n42, n24, n52, n25, n62, n26, n43, n34, n53, n35, n63, n36, n54, n45, n64, n46, n65, n56, s1, s2, s3, s4, s5, s6]) (by simp [t1, t2, t3, t4, t5, t6, n21, n12, n31, n13, n41, n14, n51, n15, n61, n16, n32, n23, n42, n24, n52, n25, n62, n26, n43, n34, n53, n35, n63, n36, n54, n45, n64, n46, n65, n56, s1, s2, s3, s4, s5, s6]) (by simp [t1, t2, t3, t4, t5, t6, n21, n12, n31, n13, n41, n14, n51, n15, n61, n16, n32, n23, n42, n24, n52, n25, n62, n26, n43, n34, n53, n35, n63, n36, n54, n45, n64, n46, n65, n56, s1, s2, s3, s4, s5, s6]), k_NoStem := own A.v4.has A.v4.t _ _ _ _ _ _ (by simp [t1, t2, t3, t4, t5, t6, n21, n12, n31, n13, n41, n14, n51, n15, n61, n16, n32, n23, n42, n24, n52, n25, n62, n26, n43, n34, n53, n35, n63, n36, n54, n45, n64, n46, n65, n56, s1, s2, s3, s4, s5, s6]) (by simp [t1, t2, t3, t4, t5, t6, n21, n12, n31, n13, n41, n14, n51, n15, n61, n16, n32, n23, n42, n24, n52, n25, n62, n26, n43, n34, n53, n35, n63, n36, n54, n45, n64, n46, n65, n56, s1, s2, s3, s4, s5, s6]) (by simp [t1, t2, t3, t4, t5, t6, n21, n12, n31, n13, n41, n14, n51, n15, n61, n16, n32, n23, n42, n24, n52, n25, n62, n26, n43, n34, n53, n35, n63, n36, n54, n45, n64, n46, n65, n56, s1, s2, s3, s4, s5, s6]) (by simp [t1, t2, t3, t4, t5, t6, n21, n12, n31, n13, n41, n14, n51, n15, n61, n16, n32, n23, n42, n24, n52, n25, n62, n26, n43, n34, n53, n35, n63, n36, n54, n45, n64, n46, n65, n56, s1, s2, s3, s4, s5, s6]) (by simp [t1, t2, t3, t4, t5, t6, n21, n12, n31, n13, n41, n14, n51, n15, n61, n16, n32, n23, n42, n24, n52, n25, n62, n26, n43, n34, n53, n35, n63, n36, n54, n45, n64, n46, n65, n56, s1, s2, s3, s4, s5, s6]) (by simp [t1, t2, t3, t4, t5, t6, n21, n12, n31, n13, n41, n14, n51, n15, n61, n16, n32, n23, n42, n24, n52, n25, n62, n26, n43, n34, n53, n35, n63, n36, n54, n45, n64, n46, n65, n56, s1, s2, s3, s4, s5, s6]), k_TakenStem := own A.v5.has A.v5.t _ _ _ _ _ _ (by simp [t1, t2, t3, t4, t5, t6, n21, n12, n31, n13, n41, n14, n51, n15, n61, n16, n32, n23, n42, n24, n52, n25, n62, n26, n43, n34, n53, n35, n63, n36, n54, n45, n64, n46, n65, n56, s1, s2, s3, s4, s5, s6]) (by simp [t1, t2, t3, t4, t5, t6, n21, n12, n31, n13, n41, n14, n51, n15, n61, n16, n32, n23, n42, n24, n52, n25, n62, n26, n43, n34, n53, n35, n63, n36, n54, n45, n64, n46, n65, n56, s1, s2, s3, s4, s5, s6]) (by simp [t1, t2, t3, t4, t5, t6, n21, n12, n31, n13, n41, n14, n51, n15, n61, n16, n32, n23, n42, n24, n52, n25, n62, n26, n43, n34, n53, n35, n63, n36, n54, n45, n64, n46, n65, n56, s1, s2, s3, s4, s5, s6]) (by simp [t1, t2, t3, t4, t5, t6, n21, n12, n31, n13, n41, n14, n51, n15, n61, n16, n32, n23, n42, n24, n52, n25, n62, n26, n43, n34, n53, n35, n63, n36, n54, n45, n64, n46, n65, n56, s1, s2, s3, s4, s5, s6]) (by simp [t1, t2, t3, t4, t5, t6, n21, n12, n31, n13, n41, n14, n51, n15, n61, n16, n32, n23, n42, n24, n52, n25, n62, n26, n43, n34, n53, n35, n63, n36, n54, n45, n64, n46, n65, n56, s1, s2, s3, s4, s5, s6]) (by simp [t1, t2, t3, t4, t5, t6, n21, n12, n31, n13, n41, n14, n51, n15, n61, n16, n32, n23, n42, n24, n52, n25, n62, n26, n43, n34, n53, n35, n63, n36, n54, n45, n64, n46, n65, n56, s1, s2, s3, s4, s5, s6]), k_TooMany := own A.v6.has A.v6.t _ _ _ _ _ _ (by simp [t1, t2, t3, t4, t5, t6, n21, n12, n31, n13, n41, n14, n51, n15, n61, n16, n32, n23, n42, n24, n52, n25, n62, n26, n43, n34, n53, n35, n63, n36, n54, n45, n64, n46, n65, n56, s1, s2, s3, s4, s5, s6]) (by simp [t1, t2, t3, t4, t5, t6, n21, n12, n31, n13, n41, n14, n51, n15, n61, n16, n32, n23, n42, n24, n52, n25, n62, n26, n43, n34, n53, n35, n63, n36, n54, n45, n64, n46, n65, n56, s1, s2, s3, s4, s5, s6]) (by simp [t1, t2, t3, t4, t5, t6, n21, n12, n31, n13, n41, n14, n51, n15, n61, n16, n32, n23, n42, n24, n52, n25, n62, n26, n43, n34, n53, n35, n63, n36, n54, n45, n64, n46, n65, n56, s1, s2, s3, s4, s5, s6]) (by simp [t1, t2, t3, t4, t5, t6, n21, n12, n31, n13, n41, n14, n51, n15, n61, n16, n32, n23, n42, n24, n52, n25, n62, n26, n43, n34, n53, n35, n63, n36, n54, n45, n64, n46, n65, n56, s1, s2, s3, s4, s5, s6]) (by simp [t1, t2, t3, t4, t5, t6, n21, n12, n31, n13, n41, n14, n51, n15, n61, n16, n32, n23, n42, n24, n52, n25, n62, n26, n43, n34, n53, n35, n63, n36, n54, n45, n64, n46, n65, n56, s1, s2, s3, s4, s5, s6]) (by simp [t1, t2, t3, t4, t5, t6, n21, n12, n31, n13, n41, n14, n51, n15, n61, n16, n32, n23, n42, n24, n52, n25, n62, n26, n43, n34, n53, n35, n63, n36, n54, n45, n64, n46, n65, n56, s1, s2, s3, s4, s5, s6]), k_Exception := ty meta_Exception true (by decide +kernel), k_ValueError := ty meta_ValueError false (by decide +kernel), k_LookupError := ty meta_LookupError false (by decide +kernel), k_ArithmeticError := ty meta_ArithmeticError false (by decide +kernel), t_c := h_c, p_NoStem := h_p }
end KL

set_option Elab.async false
set_option linter.all false
set_option maxRecDepth 100000
set_option maxHeartbeats 4000000
namespace KL
open PySem PySem.Spec PyProof.Rows L2 L3

/-- a def of the text, as the top has made it -/
def FnIn (K : PySem.W.Frag) (mg : Str → Option Value) (x : Str) (st : Stmt) : Prop := ∃ f fd, mg x = some (.ref f) ∧ Fun K x x st f fd
theorem fnIn_mk {K : PySem.W.Frag} {h : Heap} {mg : Str → Option Value} {x : Str} {st : Stmt} {f : Addr} {oc : Value} {od an : Option Addr} {osl : Array (Option Value)} {kV doc pm cdv ct : Value} (X : K.In h) (G : h.Ns mainGlobals mg)
    (a : PySem.W.nsIn K mainGlobals x = some (some (.ref f))) (l : K.lookup f = some ⟨oc, od, .func (PySem.W.fnOf x x (defArgs st) (defBody st) (defScope st) .none kV doc pm an cdv ct), osl⟩) (c : PySem.W.codeIn K cdv x = true) (k : PySem.W.keepIn K (.ref f) = true) : FnIn K mg x st :=
  ⟨f, _, PySem.W.mg_of X G a, fun_mk (st := st) l c k⟩
theorem con_mk {K : PySem.W.Frag} {h : Heap} {mg : Str → Option Value} {x : Str} {v : Value} {p : Nat → Value} (X : K.In h) (G : h.Ns mainGlobals mg) (a : PySem.W.nsIn K mainGlobals x = some (some v)) (e : ∃ t, v = p t) : ∃ t, mg x = some (p t) := by
  obtain ⟨t, rfl⟩ := e
  exact ⟨t, PySem.W.mg_of X G a⟩

theorem exm_self {K : PySem.W.Frag} {S : Addr} (h1 : PySem.W.subIn K (.ref S) (.type "BaseException") = some true) (h2 : PySem.W.isClsIn K S = true) (h3 : PySem.W.typeIn K (.ref S) = some (.type "type")) (h4 : PySem.W.subIn K (.ref S) (.ref S) = some true) :
    PySem.W.exmOne K (.ref S) (.ref S) = some true := by
  have e1 : (PySem.W.subIn K (.ref S) (.type "BaseException") == some true) = true := by rw [h1] <;> rfl
  have e2 : ((PySem.W.clsIn K S).isSome && PySem.W.typeIn K (.ref S) == some (.type "type")) = true := by
    have h2' : (PySem.W.clsIn K S).isSome = true := h2
    rw [h2', h3] <;> rfl
  show (if (PySem.W.subIn K (.ref S) (.type "BaseException") == some true) = true then (if ((PySem.W.clsIn K S).isSome && PySem.W.typeIn K (.ref S) == some (.type "type")) = true then PySem.W.subIn K (.ref S) (.ref S) else none) else none) = some true
  rw [if_pos e1, if_pos e2]
  exact h4

theorem mk_bare {K : PySem.W.Frag} {h : Heap} {mg : Str → Option Value} {c : Str} {C : Addr} (X : K.In h) (G : h.Ns mainGlobals mg) (aC : PySem.W.nsIn K mainGlobals c = some (some (.ref C)))
    (q : PySem.W.excIn K C [.type "Exception", .type "BaseException", .type "object"] "Exception.__new__" = true) (kC : PySem.W.keepIn K (.ref C) = true) (eC : PySem.W.subIn K (.ref C) (.type "BaseException") = some true) (tC : PySem.W.typeIn K (.ref C) = some (.type "type")) (iC : PySem.W.isClsIn K C = true) (sC : PySem.W.subIn K (.ref C) (.ref C) = some true) : ∃ C, BareC K mg c C :=
  ⟨C, ⟨PySem.W.mg_of X G aC, q, kC, eC, tC, exm_self eC iC tC sC⟩⟩

theorem mk_LowAt {K : PySem.W.Frag} {h : Heap} {mg : Str → Option Value} {c q0 : Str} {C f1 : Addr} (X : K.In h) (G : h.Ns mainGlobals mg)
    {nm q : Str} {N : Addr} {bs bm : List Value} {sn : List Str} {sub : List Value} {ab : Bool} {col : Option Bool} {dd : Option Addr} {m0 m1 m2 m3 m5 : Option Value}
    {od1 an1 : Option Addr} {sl1 : Array (Option Value)} {oc1 dc1 pm1 cd1 ct1 : Value} {p1 p2 q1 q2 q3 q4 : Pos}
    (aC : PySem.W.nsIn K mainGlobals c = some (some (.ref C)))
    (xL : K.lookup C = some (excClassObj nm q C N bs bm true sn sub ab col dd m0 m1 m2 m3 m5 "Exception.__new__")) (ht : PySem.W.excTail PySem.HandEX.exTl bm = true)
    (sa : PySem.W.findIn K (.ref C) "__setattr__" = some (some (.builtin "object.__setattr__"))) (ga : PySem.W.findIn K (.ref C) "__getattribute__" = some (some (.builtin "BaseException.__getattribute__"))) (gg : PySem.W.findIn K (.ref C) "__getattr__" = some none) (nb : PySem.W.findIn K (.ref C) "at" = some none)
    (a1 : PySem.W.findIn K (.ref C) "__init__" = some (some (.ref f1))) (t1 : PySem.W.typeIn K (.ref f1) = some (.type "function"))
    (l1 : K.lookup f1 = some ⟨oc1, od1, .func (PySem.W.fnOf "__init__" q0 (PySem.LowAt.iA p1 p2) (PySem.LowAt.iB q1 q2 q3 q4) PySem.LowAt.iS .none .none dc1 pm1 an1 cd1 ct1), sl1⟩) (c1 : PySem.W.codeIn K cd1 q0 = true)
    (kC : PySem.W.keepIn K (.ref C) = true) (eC : PySem.W.subIn K (.ref C) (.type "BaseException") = some true) (tC : PySem.W.typeIn K (.ref C) = some (.type "type")) (hC : PySem.W.hasDictIn K C = true) (iC : PySem.W.isClsIn K C = true) (sC : PySem.W.subIn K (.ref C) (.ref C) = some true) :
    ∃ C fI, PySem.LowAt.LowTxt K mg c q0 C fI :=
  ⟨C, f1, { gC := PySem.W.mg_of X G aC, cls := ⟨nm, q, N, bs, bm, sn, sub, ab, col, dd, m0, m1, m2, m3, m5, xL, ht⟩, sa := sa, ga := ga, gg := gg, noN := nb, iC := a1, tC := t1, kC := kC, exC := eC, tyC := tC, hdC := hC, te := exm_self eC iC tC sC, fn := ⟨_, _, _, _, _, _, _, _, _, _, _, _, _, _, l1, c1⟩ }⟩

theorem mk_LowWord {K : PySem.W.Frag} {h : Heap} {mg : Str → Option Value} {c q0 : Str} {C f1 : Addr} (X : K.In h) (G : h.Ns mainGlobals mg)
    {nm q : Str} {N : Addr} {bs bm : List Value} {sn : List Str} {sub : List Value} {ab : Bool} {col : Option Bool} {dd : Option Addr} {m0 m1 m2 m3 m5 : Option Value}
    {od1 an1 : Option Addr} {sl1 : Array (Option Value)} {oc1 dc1 pm1 cd1 ct1 : Value} {p1 p2 q1 q2 q3 q4 : Pos}
    (aC : PySem.W.nsIn K mainGlobals c = some (some (.ref C)))
    (xL : K.lookup C = some (excClassObj nm q C N bs bm true sn sub ab col dd m0 m1 m2 m3 m5 "Exception.__new__")) (ht : PySem.W.excTail PySem.HandEX.exTl bm = true)
    (sa : PySem.W.findIn K (.ref C) "__setattr__" = some (some (.builtin "object.__setattr__"))) (ga : PySem.W.findIn K (.ref C) "__getattribute__" = some (some (.builtin "BaseException.__getattribute__"))) (gg : PySem.W.findIn K (.ref C) "__getattr__" = some none) (nb : PySem.W.findIn K (.ref C) "word" = some none)
    (a1 : PySem.W.findIn K (.ref C) "__init__" = some (some (.ref f1))) (t1 : PySem.W.typeIn K (.ref f1) = some (.type "function"))
    (l1 : K.lookup f1 = some ⟨oc1, od1, .func (PySem.W.fnOf "__init__" q0 (PySem.LowWord.iA p1 p2) (PySem.LowWord.iB q1 q2 q3 q4) PySem.LowWord.iS .none .none dc1 pm1 an1 cd1 ct1), sl1⟩) (c1 : PySem.W.codeIn K cd1 q0 = true)
    (kC : PySem.W.keepIn K (.ref C) = true) (eC : PySem.W.subIn K (.ref C) (.type "BaseException") = some true) (tC : PySem.W.typeIn K (.ref C) = some (.type "type")) (hC : PySem.W.hasDictIn K C = true) (iC : PySem.W.isClsIn K C = true) (sC : PySem.W.subIn K (.ref C) (.ref C) = some true) :
    ∃ C fI, PySem.LowWord.LowTxt K mg c q0 C fI :=
  ⟨C, f1, { gC := PySem.W.mg_of X G aC, cls := ⟨nm, q, N, bs, bm, sn, sub, ab, col, dd, m0, m1, m2, m3, m5, xL, ht⟩, sa := sa, ga := ga, gg := gg, noN := nb, iC := a1, tC := t1, kC := kC, exC := eC, tyC := tC, hdC := hC, te := exm_self eC iC tC sC, fn := ⟨_, _, _, _, _, _, _, _, _, _, _, _, _, _, l1, c1⟩ }⟩

theorem mk_errF {K : PySem.W.Frag} {h : Heap} {mg : Str → Option Value} {c : Str} {C S : Addr} (X : K.In h) (G : h.Ns mainGlobals mg) {nm q : Str} {N : Addr} {bs : List Value} {sn : List Str} {sub : List Value} {ab : Bool} {col : Option Bool} {dd : Option Addr} {m0 m1 m2 m3 m5 : Option Value}
    (aC : PySem.W.nsIn K mainGlobals c = some (some (.ref C))) (xL : K.lookup C = some (excClassObj nm q C N bs [.ref S, .type "Exception", .type "BaseException", .type "object"] true sn sub ab col dd m0 m1 m2 m3 m5 "Exception.__new__"))
    (tC : PySem.W.typeIn K (.ref C) = some (.type "type")) (ga : PySem.W.findIn K (.ref C) "__getattribute__" = some (some (.builtin "BaseException.__getattribute__"))) (gg : PySem.W.findIn K (.ref C) "__getattr__" = some none) (cl : PySem.W.findIn K (.ref C) "__class__" = some (some (.builtin "object.__class__"))) : ErrF K mg c C S := by
  have hcl : PySem.W.clsIn K C = some { name := nm, bases := bs, mro := .ref C :: [.ref S, .type "Exception", .type "BaseException", .type "object"], ns := N, qualname := q, hasDict := true, slotNames := sn, subclasses := sub, abstract := ab, collection := col, hasDel := false } := by
    unfold PySem.W.clsIn
    rw [xL] <;> rfl
  exact ⟨PySem.W.mg_of X G aC, ⟨_, hcl, rfl, rfl⟩, tC, ga, gg, cl⟩

structure Fns (K : PySem.W.Frag) (mg : Str → Option Value) (C_BadPaper : Addr) (C_BadText : Addr) (C_BadValue : Addr) (C_NoStem : Addr) (C_StemError : Addr) (C_TakenStem : Addr) (C_TooMany : Addr) : Prop where
  ea : ErrA K mg C_BadPaper C_BadText C_BadValue C_NoStem C_StemError C_TakenStem C_TooMany
  f__law_so : FnIn K mg "_law_so" s__law_so
  f__law_numbers : FnIn K mg "_law_numbers" s__law_numbers
  f__law_draw : FnIn K mg "_law_draw" s__law_draw
  f__law_take : FnIn K mg "_law_take" s__law_take
  f__law_of : FnIn K mg "_law_of" s__law_of
  f__law_foreign : FnIn K mg "_law_foreign" s__law_foreign
  f__law_caught : FnIn K mg "_law_caught" s__law_caught
  f_law : FnIn K mg "law" s_law

section
variable {P : Program} {w : World} {K : PySem.W.Frag} {mg : Str → Option Value} {base : Heap}

theorem law_ok {C_BadPaper : Addr} {C_BadText : Addr} {C_BadValue : Addr} {C_NoStem : Addr} {C_StemError : Addr} {C_TakenStem : Addr} {C_TooMany : Addr} (T : Tops K mg) (Fs : Fns K mg C_BadPaper C_BadText C_BadValue C_NoStem C_StemError C_TakenStem C_TooMany) : ∃ f fd, mg "law" = some (.ref f) ∧ Fun K "law" "law" s_law f fd ∧ FnOk P w K mg base CX0 10 f fd ["script"] (spLaw3 K 63) := by
  have EV := errV_of T Fs.ea
  obtain ⟨f__law_so, fd__law_so, h__law_so, F__law_so⟩ := Fs.f__law_so
  have R__law_so := @real__law_so P w K mg base _ _ T F__law_so h__law_so (F__law_so.binds (ps := ["found", "meant"]) fun _ _ _ _ _ _ us hl => match us, hl with | [_, _], _ => rfl) 8
  obtain ⟨f__law_numbers, fd__law_numbers, h__law_numbers, F__law_numbers⟩ := Fs.f__law_numbers
  have R__law_numbers := @real__law_numbers P w K mg base _ _ T F__law_numbers h__law_numbers (F__law_numbers.binds (ps := ["script"]) fun _ _ _ _ _ _ us hl => match us, hl with | [_], _ => rfl)
  obtain ⟨f__law_draw, fd__law_draw, h__law_draw, F__law_draw⟩ := Fs.f__law_draw
  have R__law_draw := @real__law_draw P w K mg base _ _ T F__law_draw h__law_draw (F__law_draw.binds (ps := ["row", "at", "limit"]) fun _ _ _ _ _ _ us hl => match us, hl with | [_, _, _], _ => rfl)
  obtain ⟨f__law_take, fd__law_take, h__law_take, F__law_take⟩ := Fs.f__law_take
  have R__law_take := @real__law_take P w K mg base _ _ T F__law_take h__law_take (F__law_take.binds (ps := ["row", "spot", "limit"]) fun _ _ _ _ _ _ us hl => match us, hl with | [_, _, _], _ => rfl) R__law_draw
  obtain ⟨f__law_of, fd__law_of, h__law_of, F__law_of⟩ := Fs.f__law_of
  have R__law_of := @real__law_of P w K mg base _ _ C_BadPaper C_BadText C_BadValue C_NoStem C_StemError C_TakenStem C_TooMany T F__law_of h__law_of (F__law_of.binds (ps := ["value"]) fun _ _ _ _ _ _ us hl => match us, hl with | [_], _ => rfl) EV
  obtain ⟨f__law_foreign, fd__law_foreign, h__law_foreign, F__law_foreign⟩ := Fs.f__law_foreign
  have R__law_foreign := @real__law_foreign P w K mg base _ _ C_BadPaper C_BadText C_BadValue C_NoStem C_StemError C_TakenStem C_TooMany T F__law_foreign h__law_foreign (F__law_foreign.binds (ps := ["value"]) fun _ _ _ _ _ _ us hl => match us, hl with | [_], _ => rfl) EV
  obtain ⟨f__law_caught, fd__law_caught, h__law_caught, F__law_caught⟩ := Fs.f__law_caught
  have R__law_caught := @real__law_caught P w K mg base _ _ C_BadPaper C_BadText C_BadValue C_NoStem C_StemError C_TakenStem C_TooMany T F__law_caught h__law_caught (F__law_caught.binds (ps := ["at"]) fun _ _ _ _ _ _ us hl => match us, hl with | [_], _ => rfl) EV
  obtain ⟨f_law, fd_law, h_law, F_law⟩ := Fs.f_law
  exact ⟨f_law, fd_law, h_law, F_law, real_law (C_BadPaper := C_BadPaper) (C_BadText := C_BadText) (C_BadValue := C_BadValue) (C_NoStem := C_NoStem) (C_StemError := C_StemError) (C_TakenStem := C_TakenStem) (C_TooMany := C_TooMany) T F_law EV R__law_caught R__law_foreign R__law_numbers R__law_of R__law_so R__law_take (law_run K EV.nd)⟩

end

theorem fun_det {K : PySem.W.Frag} {x qual : Str} {st : Stmt} {f : Addr} {fd fd' : FuncData} (F : Fun K x qual st f fd) (F' : Fun K x qual st f fd') : fd = fd' := by
  obtain ⟨oc, od, kV, doc, pm, an, cdv, ct, osl, rfl, lk, hcd⟩ := F.ex
  obtain ⟨oc', od', kV', doc', pm', an', cdv', ct', osl', rfl, lk', hcd'⟩ := F'.ex
  rw [lk] at lk'
  cases lk'
  rfl
theorem all_ok {l : PySem.W.OpenLaw} {w : World} {K : PySem.W.Frag} {mg : Str → Option Value} {fa : Addr} (hfa : mg "law" = some (.ref fa)) {C_BadPaper : Addr} {C_BadText : Addr} {C_BadValue : Addr} {C_NoStem : Addr} {C_StemError : Addr} {C_TakenStem : Addr} {C_TooMany : Addr} (T : Tops K mg) (Fs : Fns K mg C_BadPaper C_BadText C_BadValue C_NoStem C_StemError C_TakenStem C_TooMany) :
    ∃ fd : FuncData, (∀ (s : Shared) (v : Value), BindsTo s fd ⟨[v], []⟩ [("script", v)]) ∧ ∀ base : Heap, K.In base → base.Ns mainGlobals mg → FnOk l.prog w K mg base CX0 10 fa fd ["script"] (spLaw3 K 63) := by
  obtain ⟨f, fd, h, F⟩ := Fs.f_law
  have e := hfa.symm.trans h
  cases e
  refine ⟨fd, fun s v => ?_, fun base _ _ => ?_⟩
  · obtain ⟨oc, od, kV, doc, pm, an, cdv, ct, osl, rfl, lk, hcd⟩ := F.ex
    exact .of_eq rfl
  · obtain ⟨f', fd', h', F', ok⟩ := law_ok (P := l.prog) (w := w) (base := base) T Fs
    have e := h.symm.trans h'
    cases e
    cases fun_det F F'
    exact ok
theorem walk {l : PySem.W.OpenLaw} {q : Program} {loose : List Str} {XP : (Str → Option Value) → Heap → Prop} {YP : World → Heap → Prop} {d : DefRec} {K : Params → PySem.W.Frag} (hn : l.most = some 63) (hdf : d.params.defaults = [])
    (hY : ∀ (w : World) (h : Heap), YP w h → (K w.params).In h)
    (F : ∀ (w : World) (mg : Str → Option Value) (fa : Addr) (h : Heap), (K w.params).In h → h.Ns mainGlobals mg → mg d.name = some (.ref fa) →
      ∃ fd : FuncData, (∀ (s : Shared) (u : Value), BindsTo s fd ⟨[u], []⟩ [("script", u)]) ∧ ∀ base : Heap, (K w.params).In base → base.Ns mainGlobals mg → FnOk l.prog w (K w.params) mg base CX0 10 fa fd ["script"] (spLaw3 (K w.params) 63)) :
    PySem.W.WalkO q loose XP YP l.row.toRowW d [] (fun f vs => PySem.call f vs) :=
  L2.walk_of (n := 63) (k := 10) (x := "script") (CX := fun _ => CX0) (sp := fun w => spLaw3 (K w.params) 63) hn (by decide) hdf ⟨rfl, by decide, by decide⟩ hY F (fun _ _ a ns hl _ hS => ⟨a, ns, rfl, hS, hl, fun _ => rfl⟩) fun _ _ _ _ _ z => z
end KL

set_option Elab.async false
set_option linter.all false
open PySem PySem.W PyProof.Rows
set_option maxRecDepth 100000 in
set_option maxHeartbeats 0 in
theorem PySem.Challenge.cw_stemsure_k00_errors_holds : PySem.Challenge.rw_stemsure_k00_errors.Holds := by
  w_on; o_law; k_head; (case hw => w_witness2)
  k_fill
  refine KL.walk (l := PySem.Challenge.rw_stemsure_k00_errors) rfl rfl (fun w h Y => PySem.W.kIn_of Y) ?F
  case F =>
    intro w mg fa h KX G hmg
    refine' KL.all_ok hmg ⟨?b_ArithmeticError, ?b_Exception, ?b_LookupError, ?b_ValueError, ?b_all, ?b_any, ?b_bool, ?b_dict, ?b_int, ?b_isinstance, ?b_len, ?b_list, ?b_max, ?b_min, ?b_range, ?b_set, ?b_sorted, ?b_str, ?b_sum, ?b_tuple, ?e_BadValue, ?e_BadText, ?e_BadPaper, ?e_NoStem, ?e_TakenStem, ?e_TooMany⟩ ⟨?ea, ?f__law_so, ?f__law_numbers, ?f__law_draw, ?f__law_take, ?f__law_of, ?f__law_foreign, ?f__law_caught, ?f_law⟩
    case b_ArithmeticError => refine PySem.W.mg_none_of KX G ?_; k_is
    case b_Exception => refine PySem.W.mg_none_of KX G ?_; k_is
    case b_LookupError => refine PySem.W.mg_none_of KX G ?_; k_is
    case b_ValueError => refine PySem.W.mg_none_of KX G ?_; k_is
    case b_all => refine PySem.W.mg_none_of KX G ?_; k_is
    case b_any => refine PySem.W.mg_none_of KX G ?_; k_is
    case b_bool => refine PySem.W.mg_none_of KX G ?_; k_is
    case b_dict => refine PySem.W.mg_none_of KX G ?_; k_is
    case b_int => refine PySem.W.mg_none_of KX G ?_; k_is
    case b_isinstance => refine PySem.W.mg_none_of KX G ?_; k_is
    case b_len => refine PySem.W.mg_none_of KX G ?_; k_is
    case b_list => refine PySem.W.mg_none_of KX G ?_; k_is
    case b_max => refine PySem.W.mg_none_of KX G ?_; k_is
    case b_min => refine PySem.W.mg_none_of KX G ?_; k_is
    case b_range => refine PySem.W.mg_none_of KX G ?_; k_is
    case b_set => refine PySem.W.mg_none_of KX G ?_; k_is
    case b_sorted => refine PySem.W.mg_none_of KX G ?_; k_is
    case b_str => refine PySem.W.mg_none_of KX G ?_; k_is
    case b_sum => refine PySem.W.mg_none_of KX G ?_; k_is
    case b_tuple => refine PySem.W.mg_none_of KX G ?_; k_is
    case e_BadValue => refine' KL.mk_LowAt (q0 := "BadValue.__init__") KX G ?aC ?xL ?ht ?sa ?ga ?gg ?nb ?a1 ?t1 ?l1 ?c1 ?kC ?eC ?tC ?hC ?iC ?sC; (case aC => k_is); (case xL => k_is); (case ht => rfl); (case sa => k_is); (case ga => k_is); (case gg => k_is); (case nb => k_is); (case a1 => k_is); (case t1 => k_is); (case l1 => k_is); (case c1 => k_is); (case kC => k_is); (case eC => k_is); (case tC => k_is); (case hC => k_is); (case iC => k_is); (case sC => first | rfl | k_is)
    case e_BadText => refine' KL.mk_LowAt (q0 := "BadText.__init__") KX G ?aC ?xL ?ht ?sa ?ga ?gg ?nb ?a1 ?t1 ?l1 ?c1 ?kC ?eC ?tC ?hC ?iC ?sC; (case aC => k_is); (case xL => k_is); (case ht => rfl); (case sa => k_is); (case ga => k_is); (case gg => k_is); (case nb => k_is); (case a1 => k_is); (case t1 => k_is); (case l1 => k_is); (case c1 => k_is); (case kC => k_is); (case eC => k_is); (case tC => k_is); (case hC => k_is); (case iC => k_is); (case sC => first | rfl | k_is)
    case e_BadPaper => refine' KL.mk_LowAt (q0 := "BadPaper.__init__") KX G ?aC ?xL ?ht ?sa ?ga ?gg ?nb ?a1 ?t1 ?l1 ?c1 ?kC ?eC ?tC ?hC ?iC ?sC; (case aC => k_is); (case xL => k_is); (case ht => rfl); (case sa => k_is); (case ga => k_is); (case gg => k_is); (case nb => k_is); (case a1 => k_is); (case t1 => k_is); (case l1 => k_is); (case c1 => k_is); (case kC => k_is); (case eC => k_is); (case tC => k_is); (case hC => k_is); (case iC => k_is); (case sC => first | rfl | k_is)
    case e_NoStem => refine' KL.mk_LowWord (q0 := "NoStem.__init__") KX G ?aC ?xL ?ht ?sa ?ga ?gg ?nb ?a1 ?t1 ?l1 ?c1 ?kC ?eC ?tC ?hC ?iC ?sC; (case aC => k_is); (case xL => k_is); (case ht => rfl); (case sa => k_is); (case ga => k_is); (case gg => k_is); (case nb => k_is); (case a1 => k_is); (case t1 => k_is); (case l1 => k_is); (case c1 => k_is); (case kC => k_is); (case eC => k_is); (case tC => k_is); (case hC => k_is); (case iC => k_is); (case sC => first | rfl | k_is)
    case e_TakenStem => refine' KL.mk_LowWord (q0 := "TakenStem.__init__") KX G ?aC ?xL ?ht ?sa ?ga ?gg ?nb ?a1 ?t1 ?l1 ?c1 ?kC ?eC ?tC ?hC ?iC ?sC; (case aC => k_is); (case xL => k_is); (case ht => rfl); (case sa => k_is); (case ga => k_is); (case gg => k_is); (case nb => k_is); (case a1 => k_is); (case t1 => k_is); (case l1 => k_is); (case c1 => k_is); (case kC => k_is); (case eC => k_is); (case tC => k_is); (case hC => k_is); (case iC => k_is); (case sC => first | rfl | k_is)
    case e_TooMany => refine' KL.mk_bare KX G ?aC ?qe ?kC ?eC ?tC ?iC ?sC; (case aC => k_is); (case qe => k_exc); (case kC => k_is); (case eC => k_is); (case tC => k_is); (case iC => k_is); (case sC => first | rfl | k_is)
    case ea =>
      refine' { sm := PySem.W.mg_of KX G ?sm, si := ?si, st := ?st, sb := ?sb, sp := ?sp, tk := ?tk, v1 := ?v1, v2 := ?v2, v3 := ?v3, v4 := ?v4, v5 := ?v5, v6 := ?v6, nd := ?nd }
      (case sm => k_is)
      (case si => k_is)
      (case st => k_is)
      (case sb => k_is)
      (case sp => k_is)
      (case tk => k_is)
      (case v1 => refine' KL.mk_errF KX G ?aC ?xL ?tC ?ga ?gg ?cl; (case aC => k_is); (case xL => k_is); (case tC => k_is); (case ga => k_is); (case gg => k_is); (case cl => k_is))
      (case v2 => refine' KL.mk_errF KX G ?aC ?xL ?tC ?ga ?gg ?cl; (case aC => k_is); (case xL => k_is); (case tC => k_is); (case ga => k_is); (case gg => k_is); (case cl => k_is))
      (case v3 => refine' KL.mk_errF KX G ?aC ?xL ?tC ?ga ?gg ?cl; (case aC => k_is); (case xL => k_is); (case tC => k_is); (case ga => k_is); (case gg => k_is); (case cl => k_is))
      (case v4 => refine' KL.mk_errF KX G ?aC ?xL ?tC ?ga ?gg ?cl; (case aC => k_is); (case xL => k_is); (case tC => k_is); (case ga => k_is); (case gg => k_is); (case cl => k_is))
      (case v5 => refine' KL.mk_errF KX G ?aC ?xL ?tC ?ga ?gg ?cl; (case aC => k_is); (case xL => k_is); (case tC => k_is); (case ga => k_is); (case gg => k_is); (case cl => k_is))
      (case v6 => refine' KL.mk_errF KX G ?aC ?xL ?tC ?ga ?gg ?cl; (case aC => k_is); (case xL => k_is); (case tC => k_is); (case ga => k_is); (case gg => k_is); (case cl => k_is))
      (case nd => decide)
    case f__law_so => refine' KL.fnIn_mk KX G ?a ?l ?c ?k; (case a => k_is); (case l => k_is); (case c => k_is); (case k => k_is)
    case f__law_numbers => refine' KL.fnIn_mk KX G ?a ?l ?c ?k; (case a => k_is); (case l => k_is); (case c => k_is); (case k => k_is)
    case f__law_draw => refine' KL.fnIn_mk KX G ?a ?l ?c ?k; (case a => k_is); (case l => k_is); (case c => k_is); (case k => k_is)
    case f__law_take => refine' KL.fnIn_mk KX G ?a ?l ?c ?k; (case a => k_is); (case l => k_is); (case c => k_is); (case k => k_is)
    case f__law_of => refine' KL.fnIn_mk KX G ?a ?l ?c ?k; (case a => k_is); (case l => k_is); (case c => k_is); (case k => k_is)
    case f__law_foreign => refine' KL.fnIn_mk KX G ?a ?l ?c ?k; (case a => k_is); (case l => k_is); (case c => k_is); (case k => k_is)
    case f__law_caught => refine' KL.fnIn_mk KX G ?a ?l ?c ?k; (case a => k_is); (case l => k_is); (case c => k_is); (case k => k_is)
    case f_law => refine' KL.fnIn_mk KX G ?a ?l ?c ?k; (case a => k_is); (case l => k_is); (case c => k_is); (case k => k_is)
#print axioms PySem.Challenge.cw_stemsure_k00_errors_holds

