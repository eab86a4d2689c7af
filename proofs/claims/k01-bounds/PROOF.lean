import PyProof.Rows.All
import Wide.All
import OpenK.AllK
import Wide.FinOn
import HandS.ForExc
import HandS.Comp
import HandS.Dict
import HandS.Iter
import HandS.IsInst
import HandS.ExcIs
import HandS.TupLe
import HandS.TupAny
import HandS.Zip
import HandS.Evl
import PySem.Challenge.RW_ringcrown_k01_bounds
set_option Elab.async false
set_option linter.all false
set_option maxRecDepth 100000
set_option maxHeartbeats 4000000
/-! # RcMirror: the program as plain Lean functions (hand, ring), no Python in sight -/
namespace RC

inductive Wd where | ask | answer | crown
  deriving DecidableEq

/-- a letter -/
structure Lt where
  way : Int
  word : Wd
  num : Int
  stg : Int
  stp : Int

/-- a hand -/
structure Hd where
  num : Int
  awake : Bool
  beaten : Bool
  crowned : Bool
  stage : Int
  far : Int
  came : Int
  known : Option Int

def Hd.new (k : Int) : Hd := ⟨k, false, false, false, 0, 1, 0, none⟩
def Hd.asks (h : Hd) : List Lt := [⟨1, .ask, h.num, h.stage, h.far⟩, ⟨-1, .ask, h.num, h.stage, h.far⟩]
def Hd.wk (h : Hd) : Hd := { h with awake := true }
def Hd.wls (h : Hd) : List Lt := if h.awake then [] else h.asks
def Hd.up (h : Hd) : Hd := { h with came := 0, stage := h.stage + 1, far := 2 * h.far }
def Hd.asked (h : Hd) (l : Lt) : Hd × List Lt :=
  if l.num = h.num ∧ h.crowned = false then ({ h with crowned := true, known := some l.num }, [⟨1, .crown, l.num, 0, 0⟩])
  else if l.num ≤ h.num then (h, [])
  else if 1 < l.stp then ({ h with beaten := true }, [⟨l.way, l.word, l.num, l.stg, l.stp - 1⟩])
  else ({ h with beaten := true }, [⟨-l.way, .answer, l.num, l.stg, 0⟩])
def Hd.answered (h : Hd) (l : Lt) : Hd × List Lt :=
  if l.num ≠ h.num then (h, [l])
  else if h.came + 1 < 2 ∨ h.beaten = true then ({ h with came := h.came + 1 }, [])
  else (h.up, h.up.asks)
def Hd.told (h : Hd) (l : Lt) : Hd × List Lt :=
  if l.num = h.num then (h, []) else ({ h with known := some l.num }, [l])
def Hd.proc (h : Hd) (l : Lt) : Hd × List Lt :=
  match l.word with
  | .ask => h.asked l
  | .answer => h.answered l
  | .crown => h.told l
def Hd.take (h : Hd) (l : Lt) : Hd × List Lt := ((h.wk.proc l).1, h.wls ++ (h.wk.proc l).2)

/-- a ring: its hands by places, the mails under way (each with its place), how many letters were sent -/
structure Rg where
  hands : List Hd
  post : List (Nat × Lt)
  many : Nat

def nxt (n p : Nat) (way : Int) : Nat := (((p : Int) + way) % (n : Int)).toNat
def Rg.new (ks : List Int) : Rg := ⟨ks.map Hd.new, [], 0⟩
def Rg.h (S : Rg) (p : Nat) : Hd := S.hands.getD p (Hd.new 0)
def Rg.put (S : Rg) (q : Nat) (ls : List Lt) : Rg :=
  { S with post := S.post ++ ls.map (fun l => (nxt S.hands.length q l.way, l)), many := S.many + ls.length }
def Rg.setH (S : Rg) (q : Nat) (h : Hd) : Rg := { S with hands := S.hands.set q h }
def Rg.wake (S : Rg) (q : Nat) : Rg := (S.setH q (S.h q).wk).put q (S.h q).wls
def Rg.drop (S : Rg) (i : Nat) : Rg := { S with post := S.post.eraseIdx i }
/-- the hand at q takes the letter l -/
def Rg.give (S : Rg) (q : Nat) (l : Lt) : Rg := (S.setH q ((S.h q).take l).1).put q ((S.h q).take l).2
/-- the hand at q, awake already, takes the letter l -/
def Rg.give1 (S : Rg) (q : Nat) (l : Lt) : Rg := (S.setH q ((S.h q).proc l).1).put q ((S.h q).proc l).2
def Rg.mail (S : Rg) (i : Nat) : Nat × Lt := S.post.getD i (0, ⟨1, .crown, 0, 0, 0⟩)
def Rg.bring (S : Rg) (i : Nat) : Rg := (S.drop i).give (S.mail i).1 (S.mail i).2

theorem h_setH {S : Rg} {q : Nat} {x : Hd} (hq : q < S.hands.length) (p : Nat) : (S.setH q x).h p = if p = q then x else S.h p := by
  unfold Rg.setH Rg.h
  show (S.hands.set q x).getD p _ = _
  rw [List.getD_eq_getElem?_getD, List.getD_eq_getElem?_getD, List.getElem?_set]
  by_cases e : p = q
  · subst e
    simp [hq]
  · rw [if_neg (fun z => e z.symm), if_neg e]
theorem h_put {S : Rg} {q : Nat} {ls : List Lt} (p : Nat) : (S.put q ls).h p = S.h p := rfl
theorem wk_awake {h : Hd} (e : h.awake = true) : h.wk = h := by
  cases h
  simp only [Hd.wk] at *
  subst e
  rfl

/-- bringing a mail: the hand is woken first, then it takes the letter -/
theorem bring_eq {S : Rg} {i : Nat} (hi : i < S.post.length) (hq : (S.mail i).1 < S.hands.length) :
    S.bring i = ((S.wake (S.mail i).1).drop i).give1 (S.mail i).1 (S.mail i).2 := by
  have hl : ((S.setH (S.mail i).1 (S.h (S.mail i).1).wk).hands).length = S.hands.length := by unfold Rg.setH; simp
  have e1 : ((S.wake (S.mail i).1).drop i).h (S.mail i).1 = (S.h (S.mail i).1).wk := by
    show (S.setH (S.mail i).1 (S.h (S.mail i).1).wk).h (S.mail i).1 = _
    rw [h_setH hq, if_pos rfl]
  unfold Rg.give1
  rw [e1]
  unfold Rg.bring Rg.give Rg.wake Rg.drop Rg.put Rg.setH Hd.take
  simp only [List.length_set, List.map_append, List.length_append, List.set_set]
  have e2 : ({ hands := S.hands, post := S.post.eraseIdx i, many := S.many } : Rg).h (S.mail i).1 = S.h (S.mail i).1 := rfl
  rw [e2]
  congr 1
  · rw [List.eraseIdx_append_of_lt_length hi, List.append_assoc]
  · omega

end RC
/-! # RcMath1: places of the ring, tokens, the invariant -/
namespace RC

def sg (w : Bool) : Int := if w then 1 else -1
/-- the place d steps from p, to the right (w) or to the left -/
def pt (n : Nat) (w : Bool) (p d : Nat) : Nat :=
  if w then (if p + d < n then p + d else p + d - n) else (if d ≤ p then p - d else p + n - d)
theorem pt_lt {n p d : Nat} {w : Bool} (hp : p < n) (hd : d ≤ n) : pt n w p d < n := by
  unfold pt
  cases w <;> simp <;> split <;> omega
theorem pt_zero {n p : Nat} {w : Bool} (hp : p < n) : pt n w p 0 = p := by
  unfold pt
  cases w <;> simp <;> omega
theorem pt_n {n p : Nat} {w : Bool} (hp : p < n) : pt n w p n = p := by
  unfold pt
  cases w <;> simp <;> omega
theorem pt_self {n p d : Nat} {w : Bool} (hp : p < n) (h1 : 1 ≤ d) (hd : d ≤ n) (e : pt n w p d = p) : d = n := by
  unfold pt at e
  cases w <;> simp at e <;> split at e <;> omega
theorem pt_inj {n p d e : Nat} {w : Bool} (hp : p < n) (hd : d < n) (he : e < n) (h : pt n w p d = pt n w p e) : d = e := by
  unfold pt at h
  cases w <;> simp at h <;> split at h <;> split at h <;> omega
/-- every other place is met within n - 1 steps -/
theorem pt_all {n p q : Nat} (w : Bool) (hp : p < n) (hq : q < n) (hne : q ≠ p) : ∃ j, 1 ≤ j ∧ j ≤ n - 1 ∧ pt n w p j = q := by
  cases w with
  | true =>
    by_cases h : p < q
    · exact ⟨q - p, by omega, by omega, by unfold pt; simp; split <;> omega⟩
    · exact ⟨q + n - p, by omega, by omega, by unfold pt; simp; split <;> omega⟩
  | false =>
    by_cases h : p < q
    · exact ⟨p + n - q, by omega, by omega, by unfold pt; simp; split <;> omega⟩
    · exact ⟨p - q, by omega, by omega, by unfold pt; simp; omega⟩
theorem nxt_right {n q : Nat} (hq : q < n) : nxt n q 1 = pt n true q 1 := by
  unfold nxt pt
  simp
  by_cases h : q + 1 < n
  · rw [if_pos h, Int.emod_eq_of_lt (by omega) (by omega)]
    omega
  · have e : (q : Int) + 1 = (n : Int) := by omega
    rw [if_neg h, e, Int.emod_self]
    omega
theorem nxt_left {n q : Nat} (hq : q < n) : nxt n q (-1) = pt n false q 1 := by
  unfold nxt pt
  simp
  by_cases h : 1 ≤ q
  · rw [if_pos h, Int.emod_eq_of_lt (by omega) (by omega)]
    omega
  · have e0 : q = 0 := by omega
    subst e0
    have e1 : (((0 : Nat) : Int) + -1) % (n : Int) = (n : Int) - 1 := by
      have : (((0 : Nat) : Int) + -1) = ((n : Int) - 1) + (n : Int) * (-1) := by omega
      rw [this, Int.add_mul_emod_self_left, Int.emod_eq_of_lt (by omega) (by omega)]
    rw [e1]
    simp
theorem nxt_sg {n q : Nat} (w : Bool) (hq : q < n) : nxt n q (sg w) = pt n w q 1 := by
  cases w with
  | true => exact nxt_right hq
  | false => exact nxt_left hq
theorem nxt_nsg {n q : Nat} (w : Bool) (hq : q < n) : nxt n q (- sg w) = pt n (!w) q 1 := by
  cases w with
  | true => exact nxt_left hq
  | false => exact nxt_right hq
theorem pt_on {n p d : Nat} {w : Bool} (hp : p < n) (hd : d + 1 ≤ n) : pt n w (pt n w p d) 1 = pt n w p (d + 1) := by
  unfold pt
  cases w <;> simp <;> (repeat' split) <;> omega
theorem pt_back {n p d : Nat} {w : Bool} (hp : p < n) (hd : d + 1 ≤ n) : pt n (!w) (pt n w p (d + 1)) 1 = pt n w p d := by
  unfold pt
  cases w <;> simp <;> (repeat' split) <;> omega

/-- the numbers up to d places from p, on the side w, are lesser -/
def low (n : Nat) (nums : Nat → Int) (w : Bool) (p d : Nat) : Prop := ∀ j, 1 ≤ j → j ≤ d → nums (pt n w p j) < nums p
theorem low.mono {n : Nat} {nums : Nat → Int} {w : Bool} {p d e : Nat} (h : low n nums w p d) (he : e ≤ d) : low n nums w p e := fun j h1 h2 => h j h1 (Nat.le_trans h2 he)
theorem low.all {n : Nat} {nums : Nat → Int} {w : Bool} {p : Nat} (hp : p < n) (h : low n nums w p (n - 1)) {q : Nat} (hq : q < n) (hne : q ≠ p) : nums q < nums p := by
  obtain ⟨j, h1, h2, e⟩ := pt_all w hp hq hne
  have := h j h1 h2
  rwa [e] at this

/-- what is under way, told by whose it is: an ask (or its answer) of the hand at p on the side w, of stage s, d places away from p; a crown d places from p -/
structure Tk where
  kind : Wd
  p : Nat
  w : Bool
  s : Nat
  d : Nat
def Tk.mail (n : Nat) (nums : Nat → Int) (t : Tk) : Nat × Lt :=
  match t.kind with
  | .ask => (pt n t.w t.p t.d, ⟨sg t.w, .ask, nums t.p, (t.s : Int), ((2 ^ t.s : Nat) : Int) - (t.d : Int) + 1⟩)
  | .answer => (pt n t.w t.p t.d, ⟨- sg t.w, .answer, nums t.p, (t.s : Int), 0⟩)
  | .crown => (pt n true t.p t.d, ⟨1, .crown, nums t.p, 0, 0⟩)
def Tk.tok (p : Nat) (w : Bool) (t : Tk) : Bool := decide (t.kind ≠ .crown) && decide (t.p = p) && decide (t.w = w)
def Tk.rem (n : Nat) (t : Tk) : Nat :=
  match t.kind with
  | .ask => if 2 ^ t.s < n then 2 ^ t.s - t.d + 2 ^ t.s else n - t.d
  | .answer => t.d
  | .crown => n - t.d
def Good (n : Nat) (nums : Nat → Int) (h : Nat → Hd) (t : Tk) : Prop :=
  match t.kind with
  | .ask => t.p < n ∧ (h t.p).awake = true ∧ (h t.p).stage = (t.s : Int) ∧ 1 ≤ t.d ∧ t.d ≤ 2 ^ t.s ∧ t.d ≤ n ∧ low n nums t.w t.p (t.d - 1)
  | .answer => t.p < n ∧ (h t.p).awake = true ∧ (h t.p).stage = (t.s : Int) ∧ t.d < 2 ^ t.s ∧ 2 ^ t.s < n ∧ low n nums t.w t.p (2 ^ t.s)
  | .crown => t.p < n ∧ (h t.p).crowned = true ∧ 1 ≤ t.d ∧ t.d ≤ n ∧ ∀ j, 1 ≤ j → j < t.d → (h (pt n true t.p j)).known ≠ none

def b2i (b : Bool) : Int := if b then 1 else 0
/-- the letters that one ask of stage s may cost -/
def cS (n s : Nat) : Nat := if 2 ^ s < n then 2 * 2 ^ s else n
def costUp (n : Nat) : Nat → Nat
  | 0 => 2 * cS n 0
  | s + 1 => costUp n s + 2 * cS n (s + 1)
def costH (n : Nat) (h : Hd) : Nat := if h.awake then costUp n h.stage.toNat else 0
def sumTo (f : Nat → Nat) : Nat → Nat
  | 0 => 0
  | k + 1 => sumTo f k + f k
theorem sumTo_congr {f g : Nat → Nat} : ∀ {n : Nat}, (∀ p, p < n → f p = g p) → sumTo f n = sumTo g n
  | 0, _ => rfl
  | n + 1, h => by
    show sumTo f n + f n = sumTo g n + g n
    rw [sumTo_congr (n := n) fun p hp => h p (by omega), h n (by omega)]
theorem sumTo_upd {f g : Nat → Nat} {q : Nat} : ∀ {n : Nat}, q < n → (∀ p, p < n → p ≠ q → g p = f p) → sumTo g n + f q = sumTo f n + g q
  | 0, hq, _ => by omega
  | n + 1, hq, h => by
    show sumTo g n + g n + f q = sumTo f n + f n + g q
    by_cases e : q = n
    · subst e
      rw [sumTo_congr (f := g) (g := f) fun p hp => h p (by omega) (by omega)]
      omega
    · have := sumTo_upd (f := f) (g := g) (q := q) (n := n) (by omega) fun p hp hne => h p (by omega) hne
      have e2 := h n (by omega) (fun z => e z.symm)
      omega
theorem sumTo_le {f g : Nat → Nat} : ∀ {n : Nat}, (∀ p, p < n → f p ≤ g p) → sumTo f n ≤ sumTo g n
  | 0, _ => Nat.le_refl _
  | n + 1, h => by
    have a := sumTo_le (n := n) fun p hp => h p (by omega)
    have b := h n (by omega)
    show sumTo f n + f n ≤ sumTo g n + g n
    omega

/-- THE INVARIANT. gs: the mails under way by their owners; dn p w: whether the answer of the side w has come at the stage of p -/
structure Inv (n : Nat) (nums : Nat → Int) (S : Rg) (gs : List Tk) (dn : Nat → Bool → Bool) : Prop where
  len : S.hands.length = n
  num : ∀ p, p < n → (S.h p).num = nums p
  post : S.post = gs.map (Tk.mail n nums)
  good : ∀ t, t ∈ gs → Good n nums S.h t
  one : ∀ p w, gs.countP (Tk.tok p w) ≤ 1
  dn0 : ∀ p, p < n → ∀ w, dn p w = true → gs.countP (Tk.tok p w) = 0 ∧ (S.h p).awake = true ∧ ∃ s : Nat, (S.h p).stage = (s : Int) ∧ 2 ^ s < n ∧ low n nums w p (2 ^ s)
  came : ∀ p, p < n → (S.h p).came = b2i (dn p true) + b2i (dn p false)
  ndn : ∀ p, p < n → (S.h p).beaten = false → ¬ (dn p true = true ∧ dn p false = true)
  stg : ∀ p, p < n → ∃ s : Nat, (S.h p).stage = (s : Int) ∧ (S.h p).far = ((2 ^ s : Nat) : Int) ∧ (s = 0 ∨ (2 ^ (s - 1) < n ∧ ∀ w, low n nums w p (2 ^ (s - 1))))
  slp : ∀ p, p < n → (S.h p).awake = false → (S.h p).stage = 0 ∧ (S.h p).crowned = false ∧ (S.h p).known = none ∧ (S.h p).beaten = false
  top : ∀ p, p < n → (S.h p).crowned = true → ∀ q, q < n → nums q ≤ nums p
  ckn : ∀ p, p < n → (S.h p).crowned = true → (S.h p).known = some (nums p)
  kn : ∀ p, p < n → ∀ x, (S.h p).known = some x → ∃ m, m < n ∧ (S.h m).crowned = true ∧ x = nums m
  bt : ∀ p, p < n → (S.h p).beaten = true → ∃ q, q < n ∧ nums p < nums q
  live : ∀ p, p < n → (S.h p).awake = true → (∀ q, q < n → nums q ≤ nums p) → (S.h p).crowned = false → ∀ w, dn p w = false → gs.countP (Tk.tok p w) = 1
  crn : ∀ p, p < n → (S.h p).crowned = true → (∃ t, t ∈ gs ∧ t.kind = .crown) ∨ ∀ q, q < n → (S.h q).known ≠ none
  nei : ∀ p, p < n → (S.h p).awake = true → ∀ w, (S.h (pt n w p 1)).awake = true ∨ ∃ t, t ∈ gs ∧ (t.mail n nums).1 = pt n w p 1
  pot : ∃ c : Nat, S.many + (gs.map (Tk.rem n)).sum ≤ sumTo (fun p => costH n (S.h p)) n + c ∧ (c = 0 ∨ (c = n ∧ ∃ p, p < n ∧ (S.h p).crowned = true))
end RC
/-! # RcMath2: the invariant at the start, behind a waking, behind a mail that comes -/
namespace RC
variable {n : Nat} {nums : Nat → Int} {S S' : Rg} {gs A B ns : List Tk} {dn : Nat → Bool → Bool} {t : Tk} {q : Nat} {x' : Hd}

theorem sumTo_zero {f : Nat → Nat} : ∀ {n : Nat}, (∀ p, p < n → f p = 0) → sumTo f n = 0
  | 0, _ => rfl
  | n + 1, h => by
    show sumTo f n + f n = 0
    rw [sumTo_zero (n := n) fun p hp => h p (by omega), h n (by omega)]

theorem inv_new {ks : List Int} (hn : ks.length = n) (hk : ∀ p, p < n → ks.getD p 0 = nums p) : Inv n nums (Rg.new ks) [] (fun _ _ => false) := by
  have hh : ∀ p, p < n → (Rg.new ks).h p = Hd.new (nums p) := fun p hp => by
    rw [← hk p hp]
    unfold Rg.h Rg.new
    simp only [List.getD_eq_getElem?_getD, List.getElem?_map]
    have e : ks[p]? = some ks[p] := List.getElem?_eq_getElem (by omega)
    rw [e]
    rfl
  have tp : ∀ p, p < n → pt n true p 1 < n ∧ pt n false p 1 < n := fun p hp => ⟨pt_lt hp (by omega), pt_lt hp (by omega)⟩
  constructor
  · unfold Rg.new; simp [hn]
  · intro p hp; rw [hh p hp]; rfl
  · rfl
  · intro t ht; cases ht
  · intro p w; exact Nat.zero_le _
  · intro p hp w h; cases h
  · intro p hp; rw [hh p hp]; rfl
  · intro p hp _ h; cases h.1
  · intro p hp; rw [hh p hp]; exact ⟨0, rfl, rfl, Or.inl rfl⟩
  · intro p hp _; rw [hh p hp]; exact ⟨rfl, rfl, rfl, rfl⟩
  · intro p hp h; rw [hh p hp] at h; cases h
  · intro p hp h; rw [hh p hp] at h; cases h
  · intro p hp x h; rw [hh p hp] at h; cases h
  · intro p hp h; rw [hh p hp] at h; cases h
  · intro p hp h; rw [hh p hp] at h; cases h
  · intro p hp h; rw [hh p hp] at h; cases h
  · intro p hp h; rw [hh p hp] at h; cases h
  · exact ⟨0, by
      rw [sumTo_zero fun p hp => by rw [hh p hp]; rfl]
      exact Nat.le_refl _, Or.inl rfl⟩

/-- a greatest one is nobody's lesser -/
theorem not_beaten_top (I : Inv n nums S gs dn) {p : Nat} (hp : p < n) (h : ∀ q, q < n → nums q ≤ nums p) : (S.h p).beaten = false := by
  cases e : (S.h p).beaten with
  | false => rfl
  | true =>
    obtain ⟨q, hq, hl⟩ := I.bt p hp e
    have := h q hq
    omega

theorem mem_mid {α : Type} {A B : List α} {t x : α} : x ∈ A ++ t :: B ↔ x = t ∨ x ∈ A ++ B := by
  simp only [List.mem_append, List.mem_cons]
  constructor
  · rintro (h | h | h)
    · exact Or.inr (Or.inl h)
    · exact Or.inl h
    · exact Or.inr (Or.inr h)
  · rintro (h | h | h)
    · exact Or.inr (Or.inl h)
    · exact Or.inl h
    · exact Or.inr (Or.inr h)
theorem cp_mid {α : Type} {f : α → Bool} {A B : List α} {t : α} : (A ++ t :: B).countP f = (A ++ B).countP f + (if f t = true then 1 else 0) := by
  simp only [List.countP_append, List.countP_cons]
  omega
theorem rem_mid {f : Tk → Nat} {A B : List Tk} {t : Tk} : ((A ++ t :: B).map f).sum = ((A ++ B).map f).sum + f t := by
  simp only [List.map_append, List.map_cons, List.sum_append, List.sum_cons]
  omega

/-- A MOVE: the token t becomes ns (none or one), the hand at q keeps all but «beaten» and «known» -/
theorem Inv.move (I : Inv n nums S (A ++ t :: B) dn) (hq : q < n) (ha : (S.h q).awake = true) (htq : (t.mail n nums).1 = q)
    (len' : S'.hands.length = n) (h' : ∀ p, S'.h p = if p = q then x' else S.h p) (post' : S'.post = (A ++ B ++ ns).map (Tk.mail n nums)) (many' : S'.many = S.many + ns.length)
    (xnum : x'.num = (S.h q).num) (xaw : x'.awake = (S.h q).awake) (xcr : x'.crowned = (S.h q).crowned) (xst : x'.stage = (S.h q).stage) (xfar : x'.far = (S.h q).far) (xcame : x'.came = (S.h q).came)
    (xbt : x'.beaten = (S.h q).beaten ∨ (x'.beaten = true ∧ ∃ p, p < n ∧ nums q < nums p))
    (xkn : x'.known = (S.h q).known ∨ ∃ m, m < n ∧ (S.h m).crowned = true ∧ x'.known = some (nums m))
    (gns : ∀ u, u ∈ ns → Good n nums S'.h u) (cns : ∀ p w, ns.countP (Tk.tok p w) ≤ if Tk.tok p w t = true then 1 else 0)
    (lns : ∀ w, (∀ z, z < n → nums z ≤ nums t.p) → (S.h t.p).crowned = false → Tk.tok t.p w t = true → ns.countP (Tk.tok t.p w) = 1)
    (kns : t.kind = .crown → (∃ u, u ∈ ns ∧ u.kind = .crown) ∨ ∀ z, z < n → (S'.h z).known ≠ none)
    (rns : (ns.map (Tk.rem n)).sum + ns.length ≤ t.rem n) : Inv n nums S' (A ++ B ++ ns) dn := by
  have fld : ∀ {α : Type} (f : Hd → α), f x' = f (S.h q) → ∀ p, f (S'.h p) = f (S.h p) := fun f e p => by
    rw [h' p]
    by_cases hp : p = q
    · rw [if_pos hp, e, hp]
    · rw [if_neg hp]
  have fnum := fld (·.num) xnum
  have faw := fld (·.awake) xaw
  have fcr := fld (·.crowned) xcr
  have fst := fld (·.stage) xst
  have ffar := fld (·.far) xfar
  have fcame := fld (·.came) xcame
  have tp : t.p < n := by
    have g := I.good t (mem_mid.mpr (Or.inl rfl))
    unfold Good at g
    cases e : t.kind <;> rw [e] at g <;> exact g.1
  -- who knew knows
  have knm : ∀ p, (S.h p).known ≠ none → (S'.h p).known ≠ none := fun p hk => by
    rw [h' p]
    by_cases hp : p = q
    · rw [if_pos hp]
      rcases xkn with e | ⟨m, _, _, e⟩
      · rw [e, ← hp]; exact hk
      · rw [e]; simp
    · rw [if_neg hp]; exact hk
  have old : ∀ u, u ∈ A ++ B → Good n nums S'.h u := fun u hu => by
    have g := I.good u (mem_mid.mpr (Or.inr hu))
    unfold Good at *
    cases e : u.kind <;> simp only [e] at g ⊢
    · rw [faw, fst]; exact g
    · rw [faw, fst]; exact g
    · rw [fcr]
      exact ⟨g.1, g.2.1, g.2.2.1, g.2.2.2.1, fun j h1 h2 => knm _ (g.2.2.2.2 j h1 h2)⟩
  have cnt : ∀ p w, (A ++ B ++ ns).countP (Tk.tok p w) ≤ (A ++ t :: B).countP (Tk.tok p w) := fun p w => by
    rw [List.countP_append, cp_mid]
    have := cns p w
    omega
  constructor
  · exact len'
  · intro p hp; rw [fnum]; exact I.num p hp
  · exact post'
  · intro u hu
    rcases List.mem_append.mp hu with hu | hu
    · exact old u hu
    · exact gns u hu
  · intro p w
    exact Nat.le_trans (cnt p w) (I.one p w)
  · intro p hp w hd
    obtain ⟨h1, h2, h3⟩ := I.dn0 p hp w hd
    refine ⟨?_, by rw [faw]; exact h2, by rw [fst]; exact h3⟩
    have := cnt p w
    omega
  · intro p hp; rw [fcame]; exact I.came p hp
  · intro p hp hb
    refine I.ndn p hp ?_
    rw [h' p] at hb
    by_cases e : p = q
    · rw [if_pos e] at hb
      rw [e]
      rcases xbt with z | ⟨z, _⟩
      · rw [← z]; exact hb
      · rw [z] at hb; cases hb
    · rw [if_neg e] at hb; exact hb
  · intro p hp; rw [fst, ffar]; exact I.stg p hp
  · intro p hp hw
    rw [faw] at hw
    have e : p ≠ q := fun z => by rw [z, ha] at hw; cases hw
    rw [h' p, if_neg e]
    exact I.slp p hp hw
  · intro p hp; rw [fcr]; exact I.top p hp
  · intro p hp hc
    rw [fcr] at hc
    have k := I.ckn p hp hc
    rw [h' p]
    by_cases e : p = q
    · rw [if_pos e]
      rcases xkn with z | ⟨m, hm, hmc, z⟩
      · rw [z, ← e]; exact k
      · rw [z]
        have a := I.top p hp hc m hm
        have b := I.top m hm hmc p hp
        have : nums m = nums p := by omega
        rw [this]
    · rw [if_neg e]; exact k
  · intro p hp x hx
    rw [h' p] at hx
    by_cases e : p = q
    · rw [if_pos e] at hx
      rcases xkn with z | ⟨m, hm, hmc, z⟩
      · rw [z, ← e] at hx
        obtain ⟨m, hm, hc, ex⟩ := I.kn p hp x hx
        exact ⟨m, hm, by rw [fcr]; exact hc, ex⟩
      · rw [z] at hx
        exact ⟨m, hm, by rw [fcr]; exact hmc, (Option.some.inj hx).symm⟩
    · rw [if_neg e] at hx
      obtain ⟨m, hm, hc, ex⟩ := I.kn p hp x hx
      exact ⟨m, hm, by rw [fcr]; exact hc, ex⟩
  · intro p hp hb
    rw [h' p] at hb
    by_cases e : p = q
    · rw [if_pos e] at hb
      rcases xbt with z | ⟨_, m, hm, hl⟩
      · rw [z, ← e] at hb; exact I.bt p hp hb
      · rw [e]; exact ⟨m, hm, hl⟩
    · rw [if_neg e] at hb; exact I.bt p hp hb
  · intro p hp hw ht hc w hd
    rw [faw] at hw
    rw [fcr] at hc
    have a := I.live p hp hw ht hc w hd
    rw [cp_mid] at a
    rw [List.countP_append]
    by_cases z : Tk.tok p w t = true
    · rw [if_pos z] at a
      have e : t.p = p := by
        unfold Tk.tok at z
        simp at z
        exact z.1.2
      have b := lns w (by rw [e]; exact ht) (by rw [e]; exact hc) (by rw [e]; exact z)
      rw [e] at b
      omega
    · rw [if_neg z] at a
      have b := cns p w
      rw [if_neg z] at b
      omega
  · intro p hp hc
    rw [fcr] at hc
    rcases I.crn p hp hc with ⟨u, hu, ek⟩ | hk
    · rcases mem_mid.mp hu with e | hu
      · rw [e] at ek
        rcases kns ek with ⟨v, hv, ev⟩ | hk
        · exact Or.inl ⟨v, List.mem_append.mpr (Or.inr hv), ev⟩
        · exact Or.inr hk
      · exact Or.inl ⟨u, List.mem_append.mpr (Or.inl hu), ek⟩
    · exact Or.inr fun z hz => knm z (hk z hz)
  · intro p hp hw w
    rw [faw] at hw
    rw [faw]
    rcases I.nei p hp hw w with h | ⟨u, hu, eu⟩
    · exact Or.inl h
    · rcases mem_mid.mp hu with e | hu
      · rw [e, htq] at eu
        rw [← eu]
        exact Or.inl ha
      · exact Or.inr ⟨u, List.mem_append.mpr (Or.inl hu), eu⟩
  · obtain ⟨c, hc, ho⟩ := I.pot
    refine ⟨c, ?_, ?_⟩
    · rw [rem_mid] at hc
      rw [many', List.map_append, List.sum_append]
      have e : sumTo (fun p => costH n (S'.h p)) n = sumTo (fun p => costH n (S.h p)) n := sumTo_congr fun p _ => by
        show costH n (S'.h p) = costH n (S.h p)
        unfold costH
        rw [faw, fst]
      rw [e]
      omega
    · rcases ho with h | ⟨h, m, hm, hmc⟩
      · exact Or.inl h
      · exact Or.inr ⟨h, m, hm, by rw [fcr]; exact hmc⟩
end RC
/-! # RcMath3: the other three deeds: a crown is made, an answer is counted, a stage is gone up; waking -/
namespace RC
variable {n : Nat} {nums : Nat → Int} {S S' : Rg} {gs A B ns : List Tk} {dn : Nat → Bool → Bool} {t : Tk} {q : Nat} {x' : Hd}

/-- the crown as the hand at q sends it -/
def crown1 (q : Nat) : List Tk := [⟨.crown, q, true, 0, 1⟩]
/-- its own ask has come round: the hand at q is the first -/
theorem Inv.crown (inj : ∀ p q, p < n → q < n → nums p = nums q → p = q) (I : Inv n nums S (A ++ t :: B) dn) (hq : q < n) (ha : (S.h q).awake = true) (hc : (S.h q).crowned = false)
    (tk : t.kind = .ask) (tp : t.p = q) (td : t.d = n)
    (len' : S'.hands.length = n) (h' : ∀ p, S'.h p = if p = q then x' else S.h p) (post' : S'.post = (A ++ B ++ crown1 q).map (Tk.mail n nums)) (many' : S'.many = S.many + 1)
    (ex : x' = { S.h q with crowned := true, known := some (nums q) }) : Inv n nums S' (A ++ B ++ crown1 q) dn := by
  have g := I.good t (mem_mid.mpr (Or.inl rfl))
  unfold Good at g
  rw [tk] at g
  simp only at g
  obtain ⟨g1, g2, g3, g4, g5, g6, g7⟩ := g
  rw [td, tp] at g7
  have htop : ∀ z, z < n → nums z ≤ nums q := fun z hz => by
    by_cases e : z = q
    · rw [e]; exact Int.le_refl _
    · have := low.all hq g7 hz e; omega
  have noc : ∀ p, p < n → (S.h p).crowned = false := fun p hp => by
    cases e : (S.h p).crowned with
    | false => rfl
    | true =>
      have a := I.top p hp e q hq
      have b := htop p hp
      have : p = q := inj p q hp hq (by omega)
      rw [this, hc] at e; cases e
  have nok : ∀ p, p < n → (S.h p).known = none := fun p hp => by
    cases e : (S.h p).known with
    | none => rfl
    | some x =>
      obtain ⟨m, hm, hmc, _⟩ := I.kn p hp x e
      rw [noc m hm] at hmc; cases hmc
  have fld : ∀ {α : Type} (f : Hd → α), f x' = f (S.h q) → ∀ p, f (S'.h p) = f (S.h p) := fun f e p => by
    rw [h' p]
    by_cases hp : p = q
    · rw [if_pos hp, e, hp]
    · rw [if_neg hp]
  have fnum := fld (·.num) (by rw [ex])
  have faw := fld (·.awake) (by rw [ex])
  have fst := fld (·.stage) (by rw [ex])
  have ffar := fld (·.far) (by rw [ex])
  have fcame := fld (·.came) (by rw [ex])
  have fbt := fld (·.beaten) (by rw [ex])
  have hqq : S'.h q = x' := by rw [h' q, if_pos rfl]
  have cq : (S'.h q).crowned = true := by rw [hqq, ex]
  have cn : ∀ p, p < n → (S'.h p).crowned = true → p = q := fun p hp h => by
    by_cases e : p = q
    · exact e
    · rw [h' p, if_neg e, noc p hp] at h; cases h
  have kn' : ∀ p, p < n → ∀ x, (S'.h p).known = some x → p = q ∧ x = nums q := fun p hp x h => by
    by_cases e : p = q
    · rw [e, hqq, ex] at h
      exact ⟨e, (Option.some.inj h).symm⟩
    · rw [h' p, if_neg e, nok p hp] at h; cases h
  have hcp : ∀ p w, (A ++ B ++ crown1 q).countP (Tk.tok p w) = (A ++ B).countP (Tk.tok p w) := fun p w => by
    rw [List.countP_append]; rfl
  have nocr : ∀ u, u ∈ A ++ B → u.kind ≠ .crown := fun u hu e => by
    have g := I.good u (mem_mid.mpr (Or.inr hu))
    unfold Good at g
    rw [e] at g
    simp only at g
    rw [noc u.p g.1] at g
    cases g.2.1
  constructor
  · exact len'
  · intro p hp; rw [fnum]; exact I.num p hp
  · exact post'
  · intro u hu
    rcases List.mem_append.mp hu with hu | hu
    · have g := I.good u (mem_mid.mpr (Or.inr hu))
      have ne := nocr u hu
      unfold Good at *
      cases e : u.kind <;> simp only [e] at g ⊢
      · rw [faw, fst]; exact g
      · rw [faw, fst]; exact g
      · exact absurd e ne
    · unfold crown1 at hu
      rw [List.mem_singleton] at hu
      rw [hu]
      refine ⟨hq, cq, Nat.le_refl _, ?_, fun j h1 h2 => absurd h2 (by show ¬ j < 1; omega)⟩
      show 1 ≤ n
      omega
  · intro p w
    have := I.one p w
    rw [cp_mid] at this
    rw [hcp]
    omega
  · intro p hp w hd
    obtain ⟨h1, h2, h3⟩ := I.dn0 p hp w hd
    refine ⟨?_, by rw [faw]; exact h2, by rw [fst]; exact h3⟩
    rw [cp_mid] at h1
    rw [hcp]
    omega
  · intro p hp; rw [fcame]; exact I.came p hp
  · intro p hp hb; rw [fbt] at hb; exact I.ndn p hp hb
  · intro p hp; rw [fst, ffar]; exact I.stg p hp
  · intro p hp hw
    rw [faw] at hw
    have e : p ≠ q := fun z => by rw [z, ha] at hw; cases hw
    rw [h' p, if_neg e]
    exact I.slp p hp hw
  · intro p hp h; rw [cn p hp h]; exact htop
  · intro p hp h; rw [cn p hp h, hqq, ex]
  · intro p hp x hx
    exact ⟨q, hq, cq, (kn' p hp x hx).2⟩
  · intro p hp hb; rw [fbt] at hb; exact I.bt p hp hb
  · intro p hp hw ht h w hd
    have : p ≠ q := fun e => by rw [e, cq] at h; cases h
    exact absurd (inj p q hp hq (by have a := ht q hq; have b := htop p hp; omega)) this
  · intro p hp h
    exact Or.inl ⟨_, List.mem_append.mpr (Or.inr (List.mem_singleton.mpr rfl)), rfl⟩
  · intro p hp hw w
    rw [faw] at hw
    rw [faw]
    rcases I.nei p hp hw w with h | ⟨u, hu, eu⟩
    · exact Or.inl h
    · rcases mem_mid.mp hu with e | hu
      · have : (t.mail n nums).1 = q := by
          unfold Tk.mail
          rw [tk]
          show pt n t.w t.p t.d = q
          rw [tp, td]
          exact pt_n hq
        rw [e, this] at eu
        rw [← eu]
        exact Or.inl ha
      · exact Or.inr ⟨u, List.mem_append.mpr (Or.inl hu), eu⟩
  · obtain ⟨c, hc', ho⟩ := I.pot
    refine ⟨n, ?_, Or.inr ⟨rfl, q, hq, cq⟩⟩
    have c0 : c = 0 := by
      rcases ho with h | ⟨_, m, hm, hmc⟩
      · exact h
      · rw [noc m hm] at hmc; cases hmc
    rw [rem_mid] at hc'
    rw [many', List.map_append, List.sum_append]
    have e : sumTo (fun p => costH n (S'.h p)) n = sumTo (fun p => costH n (S.h p)) n := sumTo_congr fun p _ => by
      show costH n (S'.h p) = costH n (S.h p)
      unfold costH
      rw [faw, fst]
    have er : (List.map (Tk.rem n) (crown1 q)).sum = n - 1 := by
      show n - 1 + 0 = n - 1
      omega
    rw [e, er]
    omega

/-- an answer to an ask of its own has come and is counted, no more -/
theorem Inv.count (I : Inv n nums S (A ++ t :: B) dn) (hq : q < n) (ha : (S.h q).awake = true)
    (tk : t.kind = .answer) (tp : t.p = q) (td : t.d = 0) (hb : (S.h q).came + 1 < 2 ∨ (S.h q).beaten = true)
    (len' : S'.hands.length = n) (h' : ∀ p, S'.h p = if p = q then x' else S.h p) (post' : S'.post = (A ++ B).map (Tk.mail n nums)) (many' : S'.many = S.many)
    (ex : x' = { S.h q with came := (S.h q).came + 1 }) : Inv n nums S' (A ++ B) (fun p w => if p = q ∧ w = t.w then true else dn p w) := by
  have g := I.good t (mem_mid.mpr (Or.inl rfl))
  unfold Good at g
  rw [tk] at g
  simp only at g
  obtain ⟨g1, g2, g3, g4, g5, g6⟩ := g
  rw [tp] at g3 g6
  have fld : ∀ {α : Type} (f : Hd → α), f x' = f (S.h q) → ∀ p, f (S'.h p) = f (S.h p) := fun f e p => by
    rw [h' p]
    by_cases hp : p = q
    · rw [if_pos hp, e, hp]
    · rw [if_neg hp]
  have fnum := fld (·.num) (by rw [ex])
  have faw := fld (·.awake) (by rw [ex])
  have fcr := fld (·.crowned) (by rw [ex])
  have fst := fld (·.stage) (by rw [ex])
  have ffar := fld (·.far) (by rw [ex])
  have fkn := fld (·.known) (by rw [ex])
  have fbt := fld (·.beaten) (by rw [ex])
  have hqq : S'.h q = x' := by rw [h' q, if_pos rfl]
  have ttok : Tk.tok q t.w t = true := by
    unfold Tk.tok
    rw [tk, tp]
    simp
  have c0 : (A ++ B).countP (Tk.tok q t.w) = 0 := by
    have := I.one q t.w
    rw [cp_mid, if_pos ttok] at this
    omega
  have dnt : dn q t.w = false := by
    cases e : dn q t.w with
    | false => rfl
    | true =>
      have := (I.dn0 q hq t.w e).1
      rw [cp_mid, if_pos ttok] at this
      omega
  have came0 : (S.h q).came = b2i (dn q (!t.w)) := by
    have := I.came q hq
    cases e : t.w <;> rw [e] at dnt <;> rw [dnt] at this <;> rw [this] <;> unfold b2i <;> simp
  constructor
  · exact len'
  · intro p hp; rw [fnum]; exact I.num p hp
  · exact post'
  · intro u hu
    have g := I.good u (mem_mid.mpr (Or.inr hu))
    unfold Good at *
    cases e : u.kind <;> simp only [e] at g ⊢
    · rw [faw, fst]; exact g
    · rw [faw, fst]; exact g
    · rw [fcr]
      exact ⟨g.1, g.2.1, g.2.2.1, g.2.2.2.1, fun j h1 h2 => by rw [fkn]; exact g.2.2.2.2 j h1 h2⟩
  · intro p w
    have := I.one p w
    rw [cp_mid] at this
    omega
  · intro p hp w hd
    by_cases e : p = q ∧ w = t.w
    · rw [e.1, e.2]
      exact ⟨c0, by rw [faw]; exact ha, t.s, by rw [fst]; exact g3, g5, g6⟩
    · rw [if_neg e] at hd
      obtain ⟨h1, h2, h3⟩ := I.dn0 p hp w hd
      refine ⟨?_, by rw [faw]; exact h2, by rw [fst]; exact h3⟩
      rw [cp_mid] at h1
      omega
  · intro p hp
    by_cases e : p = q
    · rw [e, hqq, ex]
      show (S.h q).came + 1 = _
      rw [came0]
      cases ew : t.w <;> rw [ew] at dnt <;> simp [dnt, b2i] <;> omega
    · rw [h' p, if_neg e, I.came p hp]
      simp [e]
  · intro p hp hbt
    rw [fbt] at hbt
    by_cases e : p = q
    · intro ⟨h1, h2⟩
      rw [e] at hbt
      rcases hb with hb | hb
      · rw [came0] at hb
        cases ew : t.w <;> rw [ew] at hb <;> rw [e] at h1 h2 <;> simp [ew] at h1 h2 hb
        · rw [h1] at hb; exact absurd hb (by decide)
        · rw [h2] at hb; exact absurd hb (by decide)
      · rw [hb] at hbt; cases hbt
    · intro ⟨h1, h2⟩
      rw [if_neg (fun z => e z.1)] at h1 h2
      exact I.ndn p hp hbt ⟨h1, h2⟩
  · intro p hp; rw [fst, ffar]; exact I.stg p hp
  · intro p hp hw
    rw [faw] at hw
    have e : p ≠ q := fun z => by rw [z, ha] at hw; cases hw
    rw [h' p, if_neg e]
    exact I.slp p hp hw
  · intro p hp; rw [fcr]; exact I.top p hp
  · intro p hp; rw [fcr, fkn]; exact I.ckn p hp
  · intro p hp x hx
    rw [fkn] at hx
    obtain ⟨m, hm, hc, e⟩ := I.kn p hp x hx
    exact ⟨m, hm, by rw [fcr]; exact hc, e⟩
  · intro p hp hb; rw [fbt] at hb; exact I.bt p hp hb
  · intro p hp hw ht hc w hd
    rw [faw] at hw
    rw [fcr] at hc
    by_cases e : p = q ∧ w = t.w
    · rw [if_pos e] at hd; cases hd
    · rw [if_neg e] at hd
      have a := I.live p hp hw ht hc w hd
      rw [cp_mid] at a
      have z : ¬ Tk.tok p w t = true := fun z => by
        unfold Tk.tok at z
        simp at z
        exact e ⟨by rw [← z.1.2]; exact tp, z.2.symm⟩
      rw [if_neg z] at a
      omega
  · intro p hp hc
    rw [fcr] at hc
    rcases I.crn p hp hc with ⟨u, hu, ek⟩ | hk
    · rcases mem_mid.mp hu with e | hu
      · rw [e, tk] at ek; cases ek
      · exact Or.inl ⟨u, hu, ek⟩
    · exact Or.inr fun z hz => by rw [fkn]; exact hk z hz
  · intro p hp hw w
    rw [faw] at hw
    rw [faw]
    rcases I.nei p hp hw w with h | ⟨u, hu, eu⟩
    · exact Or.inl h
    · rcases mem_mid.mp hu with e | hu
      · have : (t.mail n nums).1 = q := by
          unfold Tk.mail
          rw [tk]
          show pt n t.w t.p t.d = q
          rw [tp, td]
          exact pt_zero hq
        rw [e, this] at eu
        rw [← eu]
        exact Or.inl ha
      · exact Or.inr ⟨u, hu, eu⟩
  · obtain ⟨c, hc, ho⟩ := I.pot
    refine ⟨c, ?_, ?_⟩
    · rw [rem_mid] at hc
      rw [many']
      have e : sumTo (fun p => costH n (S'.h p)) n = sumTo (fun p => costH n (S.h p)) n := sumTo_congr fun p _ => by
        show costH n (S'.h p) = costH n (S.h p)
        unfold costH
        rw [faw, fst]
      rw [e]
      omega
    · rcases ho with h | ⟨h, m, hm, hmc⟩
      · exact Or.inl h
      · exact Or.inr ⟨h, m, hm, by rw [fcr]; exact hmc⟩

/-- the two asks of the hand at q, of the stage s -/
def asks2 (q s : Nat) : List Tk := [⟨.ask, q, true, s, 1⟩, ⟨.ask, q, false, s, 1⟩]
theorem asks2_tok (q s p : Nat) (w : Bool) : (asks2 q s).countP (Tk.tok p w) = if p = q then 1 else 0 := by
  unfold asks2
  simp only [List.countP_cons, List.countP_nil, Tk.tok]
  by_cases e : p = q
  · subst e
    cases w <;> simp
  · have e' : ¬ q = p := fun z => e z.symm
    simp [e, e']
theorem asks2_rem (q s : Nat) (hn : 0 < n) : ((asks2 q s).map (Tk.rem n)).sum + 2 ≤ 2 * cS n s := by
  unfold asks2 cS
  have h2 : 1 ≤ 2 ^ s := Nat.one_le_two_pow
  simp only [List.map_cons, List.map_nil, List.sum_cons, List.sum_nil, Tk.rem]
  split <;> omega
theorem asks2_good {h : Nat → Hd} (hq : q < n) (ha : (h q).awake = true) {s : Nat} (hs : (h q).stage = (s : Int)) : ∀ u, u ∈ asks2 q s → Good n nums h u := by
  intro u hu
  have h2 : 1 ≤ 2 ^ s := Nat.one_le_two_pow
  unfold asks2 at hu
  simp only [List.mem_cons, List.not_mem_nil, or_false] at hu
  rcases hu with e | e <;> rw [e] <;> exact ⟨hq, ha, hs, Nat.le_refl _, h2, by show 1 ≤ n; omega, fun j h1 h3 => absurd h3 (by show ¬ j ≤ 1 - 1; omega)⟩
theorem asks2_mail {h : Hd} (hq : q < n) (hnum : h.num = nums q) {s : Nat} (hs : h.stage = (s : Int)) (hf : h.far = ((2 ^ s : Nat) : Int)) :
    h.asks.map (fun l => (nxt n q l.way, l)) = (asks2 q s).map (Tk.mail n nums) := by
  unfold Hd.asks asks2
  simp only [List.map_cons, List.map_nil, Tk.mail, hnum, hs, hf]
  have e : ((2 ^ s : Nat) : Int) - ((1 : Nat) : Int) + 1 = ((2 ^ s : Nat) : Int) := by omega
  rw [nxt_right hq, nxt_left hq, e]
  rfl

/-- the second answer has come, nobody greater has: a stage up -/
theorem Inv.climb (I : Inv n nums S (A ++ t :: B) dn) (hq : q < n) (ha : (S.h q).awake = true)
    (tk : t.kind = .answer) (tp : t.p = q) (td : t.d = 0) (hb : ¬ ((S.h q).came + 1 < 2 ∨ (S.h q).beaten = true))
    (len' : S'.hands.length = n) (h' : ∀ p, S'.h p = if p = q then x' else S.h p) (post' : S'.post = (A ++ B ++ asks2 q (t.s + 1)).map (Tk.mail n nums)) (many' : S'.many = S.many + 2)
    (ex : x' = (S.h q).up) : Inv n nums S' (A ++ B ++ asks2 q (t.s + 1)) (fun p w => if p = q then false else dn p w) := by
  have g := I.good t (mem_mid.mpr (Or.inl rfl))
  unfold Good at g
  rw [tk] at g
  simp only at g
  obtain ⟨g1, g2, g3, g4, g5, g6⟩ := g
  rw [tp] at g3 g6
  have fld : ∀ {α : Type} (f : Hd → α), f x' = f (S.h q) → ∀ p, f (S'.h p) = f (S.h p) := fun f e p => by
    rw [h' p]
    by_cases hp : p = q
    · rw [if_pos hp, e, hp]
    · rw [if_neg hp]
  have fnum := fld (·.num) (by rw [ex]; rfl)
  have faw := fld (·.awake) (by rw [ex]; rfl)
  have fcr := fld (·.crowned) (by rw [ex]; rfl)
  have fkn := fld (·.known) (by rw [ex]; rfl)
  have fbt := fld (·.beaten) (by rw [ex]; rfl)
  have hqq : S'.h q = x' := by rw [h' q, if_pos rfl]
  have hne : ∀ p, p ≠ q → S'.h p = S.h p := fun p e => by rw [h' p, if_neg e]
  have st' : (S'.h q).stage = ((t.s + 1 : Nat) : Int) := by
    rw [hqq, ex]
    show (S.h q).stage + 1 = _
    rw [g3]; rfl
  have ttok : Tk.tok q t.w t = true := by
    unfold Tk.tok
    rw [tk, tp]
    simp
  have c0 : (A ++ B).countP (Tk.tok q t.w) = 0 := by
    have := I.one q t.w
    rw [cp_mid, if_pos ttok] at this
    omega
  have dnt : dn q t.w = false := by
    cases e : dn q t.w with
    | false => rfl
    | true =>
      have := (I.dn0 q hq t.w e).1
      rw [cp_mid, if_pos ttok] at this
      omega
  have came0 : (S.h q).came = b2i (dn q (!t.w)) := by
    have := I.came q hq
    cases e : t.w <;> rw [e] at dnt <;> rw [dnt] at this <;> rw [this] <;> unfold b2i <;> simp
  have nlt : ¬ (S.h q).came + 1 < 2 := fun z => hb (Or.inl z)
  have nbt : (S.h q).beaten = false := by
    cases e : (S.h q).beaten with
    | false => rfl
    | true => exact absurd (Or.inr e) hb
  have dno : dn q (!t.w) = true := by
    cases e : dn q (!t.w) with
    | true => rfl
    | false => rw [e] at came0; rw [came0] at nlt; exact absurd (by decide) nlt
  obtain ⟨z1, z2, s', z3, z4, z5⟩ := I.dn0 q hq (!t.w) dno
  have ess : s' = t.s := by rw [g3] at z3; exact (Int.ofNat_inj.mp z3).symm
  rw [ess] at z5
  have nt0 : ∀ w, (A ++ B).countP (Tk.tok q w) = 0 := fun w => by
    by_cases e : w = t.w
    · rw [e]; exact c0
    · have e' : w = !t.w := by cases w <;> cases h : t.w <;> simp [h] at e ⊢
      rw [e']
      rw [cp_mid] at z1
      omega
  have lows : ∀ w, low n nums w q (2 ^ t.s) := fun w => by
    by_cases e : w = t.w
    · rw [e]; exact g6
    · have e' : w = !t.w := by cases w <;> cases h : t.w <;> simp [h] at e ⊢
      rw [e']; exact z5
  have own : ∀ u, u ∈ A ++ B → u.kind ≠ .crown → u.p ≠ q := fun u hu k e => by
    have := nt0 u.w
    rw [List.countP_eq_zero] at this
    have := this u hu
    unfold Tk.tok at this
    simp [k, e] at this
  constructor
  · exact len'
  · intro p hp; rw [fnum]; exact I.num p hp
  · exact post'
  · intro u hu
    rcases List.mem_append.mp hu with hu | hu
    · have g := I.good u (mem_mid.mpr (Or.inr hu))
      unfold Good at *
      cases e : u.kind <;> simp only [e] at g ⊢
      · rw [hne _ (own u hu (by rw [e]; decide))]; exact g
      · rw [hne _ (own u hu (by rw [e]; decide))]; exact g
      · rw [fcr]
        exact ⟨g.1, g.2.1, g.2.2.1, g.2.2.2.1, fun j h1 h2 => by rw [fkn]; exact g.2.2.2.2 j h1 h2⟩
    · exact asks2_good hq (by rw [faw]; exact ha) st' u hu
  · intro p w
    rw [List.countP_append, asks2_tok]
    by_cases e : p = q
    · rw [e, nt0, if_pos rfl]; exact Nat.le_refl _
    · have := I.one p w
      rw [cp_mid] at this
      rw [if_neg e]
      omega
  · intro p hp w hd
    by_cases e : p = q
    · rw [if_pos e] at hd; cases hd
    · rw [if_neg e] at hd
      obtain ⟨h1, h2, h3⟩ := I.dn0 p hp w hd
      rw [hne p e]
      refine ⟨?_, h2, h3⟩
      rw [cp_mid] at h1
      rw [List.countP_append, asks2_tok, if_neg e]
      omega
  · intro p hp
    by_cases e : p = q
    · rw [e, hqq, ex, if_pos rfl, if_pos rfl]; rfl
    · rw [hne p e, if_neg e, if_neg e]; exact I.came p hp
  · intro p hp hbt
    by_cases e : p = q
    · rw [if_pos e, if_pos e]; intro z; cases z.1
    · rw [if_neg e, if_neg e]; rw [hne p e] at hbt; exact I.ndn p hp hbt
  · intro p hp
    by_cases e : p = q
    · rw [e]
      obtain ⟨s, h1, h2, _⟩ := I.stg q hq
      have es : s = t.s := by rw [g3] at h1; exact (Int.ofNat_inj.mp h1).symm
      refine ⟨t.s + 1, st', ?_, Or.inr ⟨g5, lows⟩⟩
      rw [hqq, ex]
      show 2 * (S.h q).far = _
      rw [h2, es, Nat.pow_succ]
      omega
    · rw [hne p e]; exact I.stg p hp
  · intro p hp hw
    rw [faw] at hw
    have e : p ≠ q := fun z => by rw [z, ha] at hw; cases hw
    rw [hne p e]
    exact I.slp p hp hw
  · intro p hp; rw [fcr]; exact I.top p hp
  · intro p hp; rw [fcr, fkn]; exact I.ckn p hp
  · intro p hp x hx
    rw [fkn] at hx
    obtain ⟨m, hm, hc, e⟩ := I.kn p hp x hx
    exact ⟨m, hm, by rw [fcr]; exact hc, e⟩
  · intro p hp hb; rw [fbt] at hb; exact I.bt p hp hb
  · intro p hp hw ht hc w hd
    rw [List.countP_append, asks2_tok]
    by_cases e : p = q
    · rw [if_pos e, e, nt0]
    · rw [if_neg e] at hd
      rw [hne p e] at hw hc
      have a := I.live p hp hw ht hc w hd
      rw [cp_mid] at a
      have z : ¬ Tk.tok p w t = true := fun z => by
        unfold Tk.tok at z
        simp at z
        exact e (by rw [← z.1.2]; exact tp)
      rw [if_neg z] at a
      rw [if_neg e]
      omega
  · intro p hp hc
    rw [fcr] at hc
    rcases I.crn p hp hc with ⟨u, hu, ek⟩ | hk
    · rcases mem_mid.mp hu with e | hu
      · rw [e, tk] at ek; cases ek
      · exact Or.inl ⟨u, List.mem_append.mpr (Or.inl hu), ek⟩
    · exact Or.inr fun z hz => by rw [fkn]; exact hk z hz
  · intro p hp hw w
    rw [faw] at hw
    rw [faw]
    rcases I.nei p hp hw w with h | ⟨u, hu, eu⟩
    · exact Or.inl h
    · rcases mem_mid.mp hu with e | hu
      · have : (t.mail n nums).1 = q := by
          unfold Tk.mail
          rw [tk]
          show pt n t.w t.p t.d = q
          rw [tp, td]
          exact pt_zero hq
        rw [e, this] at eu
        rw [← eu]
        exact Or.inl ha
      · exact Or.inr ⟨u, List.mem_append.mpr (Or.inl hu), eu⟩
  · obtain ⟨c, hc, ho⟩ := I.pot
    refine ⟨c, ?_, ?_⟩
    · rw [rem_mid] at hc
      rw [many', List.map_append, List.sum_append]
      have hsum := sumTo_upd (f := fun p => costH n (S.h p)) (g := fun p => costH n (S'.h p)) (q := q) (n := n) hq fun p hp e => by
        show costH n (S'.h p) = costH n (S.h p)
        rw [hne p e]
      have c1 : costH n (S.h q) = costUp n t.s := by
        unfold costH
        rw [ha, if_pos rfl, g3]; rfl
      have c2 : costH n (S'.h q) = costUp n t.s + 2 * cS n (t.s + 1) := by
        unfold costH
        rw [faw, ha, if_pos rfl, st']; rfl
      have hr := asks2_rem (n := n) q (t.s + 1) (by omega)
      rw [c1, c2] at hsum
      omega
    · rcases ho with h | ⟨h, m, hm, hmc⟩
      · exact Or.inl h
      · exact Or.inr ⟨h, m, hm, by rw [fcr]; exact hmc⟩

/-- a sleeping hand is woken -/
theorem Inv.woken (I : Inv n nums S gs dn) (hq : q < n) (ha : (S.h q).awake = false)
    (len' : S'.hands.length = n) (h' : ∀ p, S'.h p = if p = q then x' else S.h p) (post' : S'.post = (gs ++ asks2 q 0).map (Tk.mail n nums)) (many' : S'.many = S.many + 2)
    (ex : x' = (S.h q).wk) : Inv n nums S' (gs ++ asks2 q 0) dn := by
  obtain ⟨sl1, sl2, sl3, sl4⟩ := I.slp q hq ha
  have fld : ∀ {α : Type} (f : Hd → α), f x' = f (S.h q) → ∀ p, f (S'.h p) = f (S.h p) := fun f e p => by
    rw [h' p]
    by_cases hp : p = q
    · rw [if_pos hp, e, hp]
    · rw [if_neg hp]
  have fnum := fld (·.num) (by rw [ex]; rfl)
  have fcr := fld (·.crowned) (by rw [ex]; rfl)
  have fkn := fld (·.known) (by rw [ex]; rfl)
  have fbt := fld (·.beaten) (by rw [ex]; rfl)
  have fst := fld (·.stage) (by rw [ex]; rfl)
  have ffar := fld (·.far) (by rw [ex]; rfl)
  have fcame := fld (·.came) (by rw [ex]; rfl)
  have hqq : S'.h q = x' := by rw [h' q, if_pos rfl]
  have hne : ∀ p, p ≠ q → S'.h p = S.h p := fun p e => by rw [h' p, if_neg e]
  have aq : (S'.h q).awake = true := by rw [hqq, ex]; rfl
  have aw : ∀ p, (S.h p).awake = true → (S'.h p).awake = true := fun p h => by
    by_cases e : p = q
    · rw [e]; exact aq
    · rw [hne p e]; exact h
  have dnq : ∀ w, dn q w = false := fun w => by
    cases e : dn q w with
    | false => rfl
    | true =>
      have := (I.dn0 q hq w e).2.1
      rw [ha] at this; cases this
  have own : ∀ u, u ∈ gs → u.kind ≠ .crown → u.p ≠ q := fun u hu k e => by
    have g := I.good u hu
    unfold Good at g
    cases ek : u.kind <;> simp only [ek] at g
    · rw [e, ha] at g; cases g.2.1
    · rw [e, ha] at g; cases g.2.1
    · exact k ek
  have nt0 : ∀ w, gs.countP (Tk.tok q w) = 0 := fun w => by
    rw [List.countP_eq_zero]
    intro u hu z
    unfold Tk.tok at z
    simp at z
    exact own u hu z.1.1 z.1.2
  constructor
  · exact len'
  · intro p hp; rw [fnum]; exact I.num p hp
  · exact post'
  · intro u hu
    rcases List.mem_append.mp hu with hu | hu
    · have g := I.good u hu
      unfold Good at *
      cases e : u.kind <;> simp only [e] at g ⊢
      · exact ⟨g.1, aw _ g.2.1, by rw [fst]; exact g.2.2.1, g.2.2.2⟩
      · exact ⟨g.1, aw _ g.2.1, by rw [fst]; exact g.2.2.1, g.2.2.2⟩
      · rw [fcr]
        exact ⟨g.1, g.2.1, g.2.2.1, g.2.2.2.1, fun j h1 h2 => by rw [fkn]; exact g.2.2.2.2 j h1 h2⟩
    · exact asks2_good hq aq (by rw [fst]; exact sl1) u hu
  · intro p w
    rw [List.countP_append, asks2_tok]
    by_cases e : p = q
    · rw [e, nt0, if_pos rfl]; exact Nat.le_refl _
    · have := I.one p w
      rw [if_neg e]
      omega
  · intro p hp w hd
    have e : p ≠ q := fun z => by rw [z, dnq] at hd; cases hd
    obtain ⟨h1, h2, h3⟩ := I.dn0 p hp w hd
    rw [hne p e]
    refine ⟨?_, h2, h3⟩
    rw [List.countP_append, asks2_tok, if_neg e]
    omega
  · intro p hp; rw [fcame]; exact I.came p hp
  · intro p hp hbt; rw [fbt] at hbt; exact I.ndn p hp hbt
  · intro p hp; rw [fst, ffar]; exact I.stg p hp
  · intro p hp hw
    have e : p ≠ q := fun z => by rw [z, aq] at hw; cases hw
    rw [hne p e] at hw ⊢
    exact I.slp p hp hw
  · intro p hp; rw [fcr]; exact I.top p hp
  · intro p hp; rw [fcr, fkn]; exact I.ckn p hp
  · intro p hp x hx
    rw [fkn] at hx
    obtain ⟨m, hm, hc, e⟩ := I.kn p hp x hx
    exact ⟨m, hm, by rw [fcr]; exact hc, e⟩
  · intro p hp hb; rw [fbt] at hb; exact I.bt p hp hb
  · intro p hp hw ht hc w hd
    rw [List.countP_append, asks2_tok]
    by_cases e : p = q
    · rw [if_pos e, e, nt0]
    · rw [hne p e] at hw hc
      have a := I.live p hp hw ht hc w hd
      rw [if_neg e]
      omega
  · intro p hp hc
    rw [fcr] at hc
    rcases I.crn p hp hc with ⟨u, hu, ek⟩ | hk
    · exact Or.inl ⟨u, List.mem_append.mpr (Or.inl hu), ek⟩
    · exact Or.inr fun z hz => by rw [fkn]; exact hk z hz
  · intro p hp hw w
    by_cases e : p = q
    · refine Or.inr ⟨⟨.ask, q, w, 0, 1⟩, List.mem_append.mpr (Or.inr ?_), ?_⟩
      · unfold asks2
        cases w <;> simp
      · rw [e]; rfl
    · rw [hne p e] at hw
      rcases I.nei p hp hw w with h | ⟨u, hu, eu⟩
      · exact Or.inl (aw _ h)
      · exact Or.inr ⟨u, List.mem_append.mpr (Or.inl hu), eu⟩
  · obtain ⟨c, hc, ho⟩ := I.pot
    refine ⟨c, ?_, ?_⟩
    · rw [many', List.map_append, List.sum_append]
      have hsum := sumTo_upd (f := fun p => costH n (S.h p)) (g := fun p => costH n (S'.h p)) (q := q) (n := n) hq fun p hp e => by
        show costH n (S'.h p) = costH n (S.h p)
        rw [hne p e]
      have c1 : costH n (S.h q) = 0 := by
        unfold costH
        rw [ha]; rfl
      have c2 : costH n (S'.h q) = 2 * cS n 0 := by
        unfold costH
        rw [aq, if_pos rfl, fst, sl1]; rfl
      have hr := asks2_rem (n := n) q 0 (by omega)
      rw [c1, c2] at hsum
      omega
    · rcases ho with h | ⟨h, m, hm, hmc⟩
      · exact Or.inl h
      · exact Or.inr ⟨h, m, hm, by rw [fcr]; exact hmc⟩
end RC
/-! # RcMath4: every deed keeps the invariant -/
namespace RC
variable {n : Nat} {nums : Nat → Int} {S S' : Rg} {gs A B ns : List Tk} {dn : Nat → Bool → Bool} {t : Tk} {q : Nat}

theorem getD_set_self {α : Type} {l : List α} {i : Nat} {d : α} : l.set i (l.getD i d) = l := by
  apply List.ext_getElem
  · simp
  · intro j h1 h2
    rw [List.getElem_set]
    split
    · rename_i e
      subst e
      rw [List.getD_eq_getElem?_getD, List.getElem?_eq_getElem h2]
      rfl
    · rfl
theorem wake_awake {S : Rg} {q : Nat} (h : (S.h q).awake = true) : S.wake q = S := by
  unfold Rg.wake Rg.setH Rg.put Hd.wls
  rw [if_pos h, wk_awake h]
  unfold Rg.h
  rw [getD_set_self]
  cases S
  simp
theorem wake_h {S : Rg} {q : Nat} (hq : q < S.hands.length) (p : Nat) : (S.wake q).h p = if p = q then (S.h q).wk else S.h p := h_setH hq p
theorem wake_aw {S : Rg} {q : Nat} (hq : q < S.hands.length) : ((S.wake q).h q).awake = true := by
  rw [wake_h hq, if_pos rfl]; rfl
theorem wake_len {S : Rg} {q : Nat} : (S.wake q).hands.length = S.hands.length := by
  unfold Rg.wake Rg.setH Rg.put; simp

theorem Inv.wake (I : Inv n nums S gs dn) (hq : q < n) : ∃ gs', Inv n nums (S.wake q) (gs ++ gs') dn := by
  cases ha : (S.h q).awake with
  | true => exact ⟨[], by rw [wake_awake ha, List.append_nil]; exact I⟩
  | false =>
    have sl := I.slp q hq ha
    obtain ⟨s, h1, h2, h3⟩ := I.stg q hq
    have s0 : s = 0 := by
      have := sl.1
      rw [h1] at this
      exact Int.ofNat_inj.mp this
    subst s0
    refine ⟨asks2 q 0, I.woken hq ha (x' := (S.h q).wk) (by rw [wake_len]; exact I.len) (fun p => wake_h (by rw [I.len]; exact hq) p) ?_ ?_ rfl⟩
    · show S.post ++ (S.h q).wls.map (fun l => (nxt (S.setH q (S.h q).wk).hands.length q l.way, l)) = _
      have e : (S.setH q (S.h q).wk).hands.length = n := by unfold Rg.setH; simp; exact I.len
      unfold Hd.wls
      rw [ha, e, List.map_append, I.post]
      rw [if_neg (by decide), asks2_mail hq (I.num q hq) h1 h2]
    · show S.many + (S.h q).wls.length = _
      unfold Hd.wls
      rw [ha]; rfl

theorem erase_mid {α : Type} : ∀ {l : List α} {i : Nat} {t : α}, l[i]? = some t → ∃ A B, l = A ++ t :: B ∧ l.eraseIdx i = A ++ B ∧ A.length = i
  | [], i, t, h => by simp at h
  | a :: l, 0, t, h => by
    have : a = t := by simpa using h
    subst this
    exact ⟨[], l, rfl, rfl, rfl⟩
  | a :: l, i + 1, t, h => by
    obtain ⟨A, B, e1, e2, e3⟩ := erase_mid (l := l) (i := i) (t := t) (by simpa using h)
    refine ⟨a :: A, B, by rw [e1]; rfl, ?_, by simp [e3]⟩
    show a :: l.eraseIdx i = a :: (A ++ B)
    rw [e2]

theorem map_erase {α β : Type} {f : α → β} : ∀ {l : List α} {i : Nat}, (l.map f).eraseIdx i = (l.eraseIdx i).map f
  | [], i => by simp
  | a :: l, 0 => rfl
  | a :: l, i + 1 => by
    show f a :: (l.map f).eraseIdx i = f a :: (l.eraseIdx i).map f
    rw [map_erase]
/-- a letter comes to a hand that is awake -/
theorem Inv.deliver (inj : ∀ p q, p < n → q < n → nums p = nums q → p = q) (I : Inv n nums S gs dn) {i : Nat} (hi : gs[i]? = some t) (ha : (S.h (t.mail n nums).1).awake = true) :
    ∃ gs' dn', Inv n nums ((S.drop i).give1 (t.mail n nums).1 (t.mail n nums).2) gs' dn' := by
  obtain ⟨A, B, eg, ee, _⟩ := erase_mid hi
  have g := I.good t (List.mem_of_getElem? hi)
  generalize hqq : (t.mail n nums).1 = q at ha ⊢
  generalize hll : (t.mail n nums).2 = l at ⊢
  have hdp : (S.drop i).post = (A ++ B).map (Tk.mail n nums) := by
    show S.post.eraseIdx i = _
    rw [I.post, map_erase, ee]
  -- what the deed leaves, told once
  have key : ∀ (hq : q < n) (x' : Hd) (ls : List Lt), (S.h q).proc l = (x', ls) →
      ((S.drop i).give1 q l).hands.length = n ∧ (∀ p, ((S.drop i).give1 q l).h p = if p = q then x' else S.h p) ∧
      ((S.drop i).give1 q l).post = (A ++ B).map (Tk.mail n nums) ++ ls.map (fun l => (nxt n q l.way, l)) ∧ ((S.drop i).give1 q l).many = S.many + ls.length := by
    intro hq x' ls e
    have e1 : (S.drop i).h q = S.h q := rfl
    unfold Rg.give1
    rw [e1, e]
    refine ⟨?_, ?_, ?_, rfl⟩
    · unfold Rg.put Rg.setH Rg.drop; simp; exact I.len
    · intro p
      show ((S.drop i).setH q x').h p = _
      rw [h_setH (by show q < S.hands.length; rw [I.len]; exact hq)]
      rfl
    · show (S.drop i).post ++ ls.map (fun l => (nxt ((S.drop i).setH q x').hands.length q l.way, l)) = _
      have : ((S.drop i).setH q x').hands.length = n := by unfold Rg.setH Rg.drop; simp; exact I.len
      rw [this, hdp]
  have e1 : (A ++ B).map (Tk.mail n nums) ++ ([] : List Lt).map (fun l => (nxt n q l.way, l)) = (A ++ B ++ []).map (Tk.mail n nums) := by simp
  subst eg
  cases tk : t.kind with
  | ask =>
    unfold Good at g
    rw [tk] at g
    simp only at g
    obtain ⟨g1, g2, g3, g4, g5, g6, g7⟩ := g
    have em : t.mail n nums = (pt n t.w t.p t.d, ⟨sg t.w, .ask, nums t.p, (t.s : Int), ((2 ^ t.s : Nat) : Int) - (t.d : Int) + 1⟩) := by unfold Tk.mail; rw [tk]
    rw [em] at hqq hll
    simp only at hqq hll
    have hq : q < n := by rw [← hqq]; exact pt_lt g1 g6
    have epr : (S.h q).proc l = (S.h q).asked l := by rw [← hll]; rfl
    have eln : l.num = nums t.p := by rw [← hll]
    have ehn : (S.h q).num = nums q := I.num q hq
    by_cases c1 : l.num = (S.h q).num ∧ (S.h q).crowned = false
    · have ep : t.p = q := inj _ _ g1 hq (by rw [← eln, c1.1, ehn])
      have ed : t.d = n := pt_self g1 g4 g6 (by rw [hqq, ep])
      have epr' : (S.h q).proc l = ({ S.h q with crowned := true, known := some l.num }, [⟨1, .crown, l.num, 0, 0⟩]) := by
        rw [epr]; unfold Hd.asked; rw [if_pos c1]
      obtain ⟨k1, k2, k3, k4⟩ := key hq _ _ epr'
      refine ⟨_, _, I.crown inj hq ha c1.2 tk ep ed k1 k2 ?_ k4 (by rw [c1.1, ehn])⟩
      rw [k3, List.map_append (l₁ := A ++ B)]
      congr 1
      show [(nxt n q 1, (⟨1, .crown, l.num, 0, 0⟩ : Lt))] = [(pt n true q 1, (⟨1, .crown, nums q, 0, 0⟩ : Lt))]
      rw [nxt_right hq, c1.1, ehn]
    · by_cases c2 : l.num ≤ (S.h q).num
      · have epr' : (S.h q).proc l = (S.h q, []) := by
          rw [epr]; unfold Hd.asked; rw [if_neg c1, if_pos c2]
        obtain ⟨k1, k2, k3, k4⟩ := key hq _ _ epr'
        refine ⟨_, _, I.move (ns := []) (x' := S.h q) hq ha (by rw [em]; exact hqq) k1 k2 (by rw [k3]; exact e1) k4 rfl rfl rfl rfl rfl rfl (Or.inl rfl) (Or.inl rfl) (fun u hu => by cases hu) (fun _ _ => Nat.zero_le _) ?_ (fun z => by rw [tk] at z; cases z) (Nat.zero_le _)⟩
        intro w htop hcr _
        exfalso
        rw [eln, ehn] at c2
        have := htop q hq
        have ep : t.p = q := inj _ _ g1 hq (by omega)
        exact c1 ⟨by rw [eln, ehn, ep], by rw [← ep]; exact hcr⟩
      · have hlt : nums q < nums t.p := by rw [eln, ehn] at c2; omega
        have hpq : t.d < n := by
          rcases Nat.lt_or_eq_of_le g6 with h | h
          · exact h
          · rw [h, pt_n g1] at hqq; rw [hqq] at hlt; omega
        by_cases c3 : 1 < l.stp
        · have epr' : (S.h q).proc l = ({ S.h q with beaten := true }, [⟨l.way, l.word, l.num, l.stg, l.stp - 1⟩]) := by
            rw [epr]; unfold Hd.asked; rw [if_neg c1, if_neg c2, if_pos c3]
          obtain ⟨k1, k2, k3, k4⟩ := key hq _ _ epr'
          have hd2 : t.d + 1 ≤ 2 ^ t.s := by rw [← hll] at c3; simp only at c3; omega
          refine ⟨_, _, I.move (ns := [⟨.ask, t.p, t.w, t.s, t.d + 1⟩]) (x' := { S.h q with beaten := true }) hq ha (by rw [em]; exact hqq) k1 k2 ?_ k4 rfl rfl rfl rfl rfl rfl (Or.inr ⟨rfl, t.p, g1, hlt⟩) (Or.inl rfl) ?_ ?_ ?_ (fun z => by rw [tk] at z; cases z) ?_⟩
          · rw [k3, List.map_append (l₁ := A ++ B)]
            congr 1
            show [(nxt n q l.way, (⟨l.way, l.word, l.num, l.stg, l.stp - 1⟩ : Lt))] = [(pt n t.w t.p (t.d + 1), (⟨sg t.w, .ask, nums t.p, (t.s : Int), ((2 ^ t.s : Nat) : Int) - ((t.d + 1 : Nat) : Int) + 1⟩ : Lt))]
            rw [← hll]
            simp only
            rw [nxt_sg _ hq, ← hqq, pt_on g1 (by omega)]
            have : ((2 ^ t.s : Nat) : Int) - (t.d : Int) + 1 - 1 = ((2 ^ t.s : Nat) : Int) - ((t.d + 1 : Nat) : Int) + 1 := by omega
            rw [this]
          · intro u hu
            rw [List.mem_singleton] at hu
            rw [hu]
            have fw : (((S.drop i).give1 q l).h t.p).awake = true := by
              rw [k2]
              by_cases e : t.p = q
              · rw [if_pos e]; exact ha
              · rw [if_neg e]; exact g2
            have fs : (((S.drop i).give1 q l).h t.p).stage = (t.s : Int) := by
              rw [k2]
              by_cases e : t.p = q
              · rw [if_pos e]; rw [e] at g3; exact g3
              · rw [if_neg e]; exact g3
            refine ⟨g1, fw, fs, by show 1 ≤ t.d + 1; omega, hd2, by show t.d + 1 ≤ n; omega, ?_⟩
            intro j h1 h2
            by_cases e : j ≤ t.d - 1
            · exact g7 j h1 e
            · have : j = t.d := by have : j ≤ t.d + 1 - 1 := h2; omega
              show nums (pt n t.w t.p j) < nums t.p
              rw [this, hqq]; exact hlt
          · intro p w
            rw [List.countP_cons, List.countP_nil]
            have : Tk.tok p w ⟨.ask, t.p, t.w, t.s, t.d + 1⟩ = Tk.tok p w t := by unfold Tk.tok; rw [tk]
            rw [this]
            omega
          · intro w _ _ z
            rw [List.countP_cons, List.countP_nil]
            have : Tk.tok t.p w ⟨.ask, t.p, t.w, t.s, t.d + 1⟩ = Tk.tok t.p w t := by unfold Tk.tok; rw [tk]
            rw [this, if_pos z]
          · simp only [List.map_cons, List.map_nil, List.sum_cons, List.sum_nil, List.length_cons, List.length_nil]
            unfold Tk.rem
            rw [tk]
            simp only
            split <;> omega
        · have epr' : (S.h q).proc l = ({ S.h q with beaten := true }, [⟨-l.way, .answer, l.num, l.stg, 0⟩]) := by
            rw [epr]; unfold Hd.asked; rw [if_neg c1, if_neg c2, if_neg c3]
          obtain ⟨k1, k2, k3, k4⟩ := key hq _ _ epr'
          have hd2 : t.d = 2 ^ t.s := by rw [← hll] at c3; simp only at c3; omega
          obtain ⟨e, he⟩ : ∃ e, t.d = e + 1 := ⟨t.d - 1, by omega⟩
          refine ⟨_, _, I.move (ns := [⟨.answer, t.p, t.w, t.s, e⟩]) (x' := { S.h q with beaten := true }) hq ha (by rw [em]; exact hqq) k1 k2 ?_ k4 rfl rfl rfl rfl rfl rfl (Or.inr ⟨rfl, t.p, g1, hlt⟩) (Or.inl rfl) ?_ ?_ ?_ (fun z => by rw [tk] at z; cases z) ?_⟩
          · rw [k3, List.map_append (l₁ := A ++ B)]
            congr 1
            show [(nxt n q (-l.way), (⟨-l.way, .answer, l.num, l.stg, 0⟩ : Lt))] = [(pt n t.w t.p e, (⟨- sg t.w, .answer, nums t.p, (t.s : Int), 0⟩ : Lt))]
            rw [← hll]
            simp only
            rw [nxt_nsg _ hq, ← hqq, he, pt_back g1 (by omega)]
          · intro u hu
            rw [List.mem_singleton] at hu
            rw [hu]
            have fw : (((S.drop i).give1 q l).h t.p).awake = true := by
              rw [k2]
              by_cases e : t.p = q
              · rw [if_pos e]; exact ha
              · rw [if_neg e]; exact g2
            have fs : (((S.drop i).give1 q l).h t.p).stage = (t.s : Int) := by
              rw [k2]
              by_cases e : t.p = q
              · rw [if_pos e]; rw [e] at g3; exact g3
              · rw [if_neg e]; exact g3
            refine ⟨g1, fw, fs, by show e < 2 ^ t.s; omega, by show 2 ^ t.s < n; omega, ?_⟩
            intro j h1 h2
            have h2' : j ≤ 2 ^ t.s := h2
            by_cases e : j ≤ t.d - 1
            · exact g7 j h1 e
            · have : j = t.d := by omega
              show nums (pt n t.w t.p j) < nums t.p
              rw [this, hqq]; exact hlt
          · intro p w
            rw [List.countP_cons, List.countP_nil]
            have : Tk.tok p w ⟨.answer, t.p, t.w, t.s, e⟩ = Tk.tok p w t := by unfold Tk.tok; rw [tk]; rfl
            rw [this]
            omega
          · intro w _ _ z
            rw [List.countP_cons, List.countP_nil]
            have : Tk.tok t.p w ⟨.answer, t.p, t.w, t.s, e⟩ = Tk.tok t.p w t := by unfold Tk.tok; rw [tk]; rfl
            rw [this, if_pos z]
          · simp only [List.map_cons, List.map_nil, List.sum_cons, List.sum_nil, List.length_cons, List.length_nil]
            unfold Tk.rem
            rw [tk]
            simp only
            split <;> omega
  | answer =>
    unfold Good at g
    rw [tk] at g
    simp only at g
    obtain ⟨g1, g2, g3, g4, g5, g6⟩ := g
    have em : t.mail n nums = (pt n t.w t.p t.d, ⟨- sg t.w, .answer, nums t.p, (t.s : Int), 0⟩) := by unfold Tk.mail; rw [tk]
    rw [em] at hqq hll
    simp only at hqq hll
    have hq : q < n := by rw [← hqq]; exact pt_lt g1 (by omega)
    have epr : (S.h q).proc l = (S.h q).answered l := by rw [← hll]; rfl
    have eln : l.num = nums t.p := by rw [← hll]
    have ehn : (S.h q).num = nums q := I.num q hq
    by_cases c1 : l.num ≠ (S.h q).num
    · have epr' : (S.h q).proc l = (S.h q, [l]) := by
        rw [epr]; unfold Hd.answered; rw [if_pos c1]
      obtain ⟨k1, k2, k3, k4⟩ := key hq _ _ epr'
      have hd0 : t.d ≠ 0 := fun z => by
        rw [z, pt_zero g1] at hqq
        exact c1 (by rw [eln, ehn, hqq])
      obtain ⟨e, he⟩ : ∃ e, t.d = e + 1 := ⟨t.d - 1, by omega⟩
      refine ⟨_, _, I.move (ns := [⟨.answer, t.p, t.w, t.s, e⟩]) (x' := S.h q) hq ha (by rw [em]; exact hqq) k1 k2 ?_ k4 rfl rfl rfl rfl rfl rfl (Or.inl rfl) (Or.inl rfl) ?_ ?_ ?_ (fun z => by rw [tk] at z; cases z) ?_⟩
      · rw [k3, List.map_append (l₁ := A ++ B)]
        congr 1
        show [(nxt n q l.way, l)] = [(pt n t.w t.p e, (⟨- sg t.w, .answer, nums t.p, (t.s : Int), 0⟩ : Lt))]
        rw [← hll]
        simp only
        rw [nxt_nsg _ hq, ← hqq, he, pt_back g1 (by omega)]
      · intro u hu
        rw [List.mem_singleton] at hu
        rw [hu]
        have fh : ((S.drop i).give1 q l).h t.p = S.h t.p := by
          rw [k2]
          by_cases e : t.p = q
          · rw [if_pos e, e]
          · rw [if_neg e]
        refine ⟨g1, by rw [fh]; exact g2, by rw [fh]; exact g3, by show e < 2 ^ t.s; omega, g5, g6⟩
      · intro p w
        rw [List.countP_cons, List.countP_nil]
        have : Tk.tok p w ⟨.answer, t.p, t.w, t.s, e⟩ = Tk.tok p w t := by unfold Tk.tok; rw [tk]
        rw [this]
        omega
      · intro w _ _ z
        rw [List.countP_cons, List.countP_nil]
        have : Tk.tok t.p w ⟨.answer, t.p, t.w, t.s, e⟩ = Tk.tok t.p w t := by unfold Tk.tok; rw [tk]
        rw [this, if_pos z]
      · simp only [List.map_cons, List.map_nil, List.sum_cons, List.sum_nil, List.length_cons, List.length_nil]
        unfold Tk.rem
        rw [tk]
        simp only
        omega
    · have ep : t.p = q := inj _ _ g1 hq (by rw [← eln, ← ehn]; exact Decidable.of_not_not c1)
      have ed : t.d = 0 := by
        by_cases z : t.d = 0
        · exact z
        · have : t.d = n := pt_self (w := t.w) g1 (by omega) (by omega) (by rw [hqq, ep])
          omega
      by_cases c2 : (S.h q).came + 1 < 2 ∨ (S.h q).beaten = true
      · have epr' : (S.h q).proc l = ({ S.h q with came := (S.h q).came + 1 }, []) := by
          rw [epr]; unfold Hd.answered; rw [if_neg c1, if_pos c2]
        obtain ⟨k1, k2, k3, k4⟩ := key hq _ _ epr'
        exact ⟨_, _, I.count hq ha tk ep ed c2 k1 k2 (by rw [k3]; simp) k4 rfl⟩
      · have epr' : (S.h q).proc l = ((S.h q).up, (S.h q).up.asks) := by
          rw [epr]; unfold Hd.answered; rw [if_neg c1, if_neg c2]
        obtain ⟨k1, k2, k3, k4⟩ := key hq _ _ epr'
        obtain ⟨s, h1, h2, _⟩ := I.stg q hq
        have es : s = t.s := by
          rw [ep, h1] at g3
          exact Int.ofNat_inj.mp g3
        subst es
        refine ⟨_, _, I.climb hq ha tk ep ed c2 k1 k2 ?_ k4 rfl⟩
        rw [k3, List.map_append (l₁ := A ++ B)]
        congr 1
        refine asks2_mail (h := (S.h q).up) hq ehn ?_ ?_
        · show (S.h q).stage + 1 = _
          rw [h1]; rfl
        · show 2 * (S.h q).far = _
          rw [h2, Nat.pow_succ]; omega
  | crown =>
    unfold Good at g
    rw [tk] at g
    simp only at g
    obtain ⟨g1, g2, g3, g4, g5⟩ := g
    have em : t.mail n nums = (pt n true t.p t.d, ⟨1, .crown, nums t.p, 0, 0⟩) := by unfold Tk.mail; rw [tk]
    rw [em] at hqq hll
    simp only at hqq hll
    have hq : q < n := by rw [← hqq]; exact pt_lt g1 g4
    have epr : (S.h q).proc l = (S.h q).told l := by rw [← hll]; rfl
    have eln : l.num = nums t.p := by rw [← hll]
    have ehn : (S.h q).num = nums q := I.num q hq
    have ntok : ∀ p w, Tk.tok p w t = false := fun p w => by unfold Tk.tok; rw [tk]; rfl
    by_cases c1 : l.num = (S.h q).num
    · have ep : t.p = q := inj _ _ g1 hq (by rw [← eln, ← ehn]; exact c1)
      have ed : t.d = n := pt_self g1 g3 g4 (by rw [hqq, ep])
      have epr' : (S.h q).proc l = (S.h q, []) := by
        rw [epr]; unfold Hd.told; rw [if_pos c1]
      obtain ⟨k1, k2, k3, k4⟩ := key hq _ _ epr'
      have fh : ∀ p, ((S.drop i).give1 q l).h p = S.h p := fun p => by
        rw [k2]
        by_cases e : p = q
        · rw [if_pos e, e]
        · rw [if_neg e]
      refine ⟨_, _, I.move (ns := []) (x' := S.h q) hq ha (by rw [em]; exact hqq) k1 k2 (by rw [k3]; exact e1) k4 rfl rfl rfl rfl rfl rfl (Or.inl rfl) (Or.inl rfl) (fun u hu => by cases hu) (fun _ _ => Nat.zero_le _) (fun w _ _ z => by rw [ntok] at z; cases z) (fun _ => Or.inr fun z hz => ?_) (Nat.zero_le _)⟩
      rw [fh]
      by_cases e : z = t.p
      · rw [e, I.ckn _ g1 g2]; simp
      · obtain ⟨j, h1, h2, e'⟩ := pt_all true g1 hz e
        have := g5 j h1 (by omega)
        rw [e'] at this; exact this
    · have epr' : (S.h q).proc l = ({ S.h q with known := some l.num }, [l]) := by
        rw [epr]; unfold Hd.told; rw [if_neg c1]
      obtain ⟨k1, k2, k3, k4⟩ := key hq _ _ epr'
      have hdn : t.d < n := by
        rcases Nat.lt_or_eq_of_le g4 with h | h
        · exact h
        · rw [h, pt_n g1] at hqq; exact absurd (by rw [eln, ehn, hqq]) c1
      refine ⟨_, _, I.move (ns := [⟨.crown, t.p, t.w, t.s, t.d + 1⟩]) (x' := { S.h q with known := some l.num }) hq ha (by rw [em]; exact hqq) k1 k2 ?_ k4 rfl rfl rfl rfl rfl rfl (Or.inl rfl) (Or.inr ⟨t.p, g1, g2, by rw [eln]⟩) ?_ ?_ (fun w _ _ z => by rw [ntok] at z; cases z) (fun _ => Or.inl ⟨_, List.mem_singleton.mpr rfl, rfl⟩) ?_⟩
      · rw [k3, List.map_append (l₁ := A ++ B)]
        congr 1
        show [(nxt n q l.way, l)] = [(pt n true t.p (t.d + 1), (⟨1, .crown, nums t.p, 0, 0⟩ : Lt))]
        rw [← hll]
        simp only
        rw [nxt_right hq, ← hqq, pt_on g1 (by omega)]
      · intro u hu
        rw [List.mem_singleton] at hu
        rw [hu]
        refine ⟨g1, ?_, by show 1 ≤ t.d + 1; omega, by show t.d + 1 ≤ n; omega, ?_⟩
        · rw [k2]
          by_cases e : t.p = q
          · rw [if_pos e]; rw [e] at g2; exact g2
          · rw [if_neg e]; exact g2
        · intro j h1 h2
          have h2' : j < t.d + 1 := h2
          show (((S.drop i).give1 q l).h (pt n true t.p j)).known ≠ none
          rw [k2]
          by_cases e : pt n true t.p j = q
          · rw [if_pos e]; simp
          · rw [if_neg e]
            refine g5 j h1 ?_
            have : j ≠ t.d := fun z => e (by rw [z]; exact hqq)
            omega
      · intro p w
        rw [ntok, List.countP_cons, List.countP_nil]
        exact Nat.le_refl _
      · simp only [List.map_cons, List.map_nil, List.sum_cons, List.sum_nil, List.length_cons, List.length_nil]
        unfold Tk.rem
        rw [tk]
        simp only
        omega

theorem Inv.place (I : Inv n nums S gs dn) {i : Nat} (hi : i < S.post.length) : (S.mail i).1 < n := by
  have hg : i < gs.length := by have := hi; rw [I.post, List.length_map] at this; exact this
  have g := I.good gs[i] (List.getElem_mem hg)
  have e : S.mail i = (gs[i]).mail n nums := by
    unfold Rg.mail
    rw [I.post, List.getD_eq_getElem?_getD, List.getElem?_map, List.getElem?_eq_getElem hg]
    rfl
  rw [e]
  unfold Good at g
  unfold Tk.mail
  cases k : gs[i].kind <;> simp only [k] at g ⊢
  · exact pt_lt g.1 g.2.2.2.2.2.1
  · exact pt_lt g.1 (by omega)
  · exact pt_lt g.1 g.2.2.2.1

theorem Inv.bring (inj : ∀ p q, p < n → q < n → nums p = nums q → p = q) (I : Inv n nums S gs dn) {i : Nat} (hi : i < S.post.length) : ∃ gs' dn', Inv n nums (S.bring i) gs' dn' := by
  have hq := I.place hi
  rw [bring_eq hi (by rw [I.len]; exact hq)]
  obtain ⟨gs', J⟩ := I.wake hq
  have hg : i < gs.length := by have := hi; rw [I.post, List.length_map] at this; exact this
  have e : S.mail i = (gs[i]).mail n nums := by
    unfold Rg.mail
    rw [I.post, List.getD_eq_getElem?_getD, List.getElem?_map, List.getElem?_eq_getElem hg]
    rfl
  have ei : (gs ++ gs')[i]? = some gs[i] := by rw [List.getElem?_append_left hg, List.getElem?_eq_getElem hg]
  have := J.deliver inj ei (by rw [← e]; exact wake_aw (by rw [I.len]; exact hq))
  rw [← e] at this
  exact this
end RC
/-! # RcMath5: what follows from the invariant: the bound, the end, who is the first -/
namespace RC
variable {n : Nat} {nums : Nat → Int} {S S' : Rg} {gs : List Tk} {dn : Nat → Bool → Bool}

/-! ### as many as go round the ring -/
def ind (f : Nat → Bool) (p : Nat) : Nat := if f p then 1 else 0
theorem pack_go {f : Nat → Bool} {g : Nat} (hs : ∀ p q, f p = true → f q = true → p < q → q < n → g < q - p ∧ g < n - (q - p)) :
    ∀ k, k ≤ n → sumTo (ind f) k = 0 ∨ ∃ a b, a ≤ b ∧ b < k ∧ f a = true ∧ f b = true ∧ sumTo (ind f) k * (g + 1) ≤ b - a + (g + 1)
  | 0, _ => Or.inl rfl
  | k + 1, hk => by
    have ih := pack_go hs k (by omega)
    have e : sumTo (ind f) (k + 1) = sumTo (ind f) k + ind f k := rfl
    cases hf : f k with
    | false =>
      have z : ind f k = 0 := by unfold ind; rw [hf]; rfl
      rw [e, z, Nat.add_zero]
      rcases ih with h | ⟨a, b, h1, h2, h3⟩
      · exact Or.inl h
      · exact Or.inr ⟨a, b, h1, by omega, h3⟩
    | true =>
      have z : ind f k = 1 := by unfold ind; rw [hf]; rfl
      rw [e, z]
      right
      rcases ih with h | ⟨a, b, h1, h2, h3, h4, h5⟩
      · exact ⟨k, k, Nat.le_refl _, by omega, hf, hf, by rw [h]; omega⟩
      · refine ⟨a, k, by omega, by omega, h3, hf, ?_⟩
        have := (hs b k h4 hf h2 (by omega)).1
        rw [Nat.add_mul, Nat.one_mul]
        omega
theorem pack {f : Nat → Bool} {g : Nat} (hg : g < n) (hs : ∀ p q, f p = true → f q = true → p < q → q < n → g < q - p ∧ g < n - (q - p)) : sumTo (ind f) n ≤ n / (g + 1) := by
  rw [Nat.le_div_iff_mul_le (by omega)]
  rcases pack_go hs n (Nat.le_refl _) with h | ⟨a, b, h1, h2, h3, h4, h5⟩
  · rw [h, Nat.zero_mul]; exact Nat.zero_le _
  · by_cases e : a = b
    · subst e; omega
    · have := (hs a b h3 h4 (by omega) h2).2
      omega

theorem pow_low {s : Nat} (hn : n ≤ 64) (h : 2 ^ (s - 1) < n) : s ≤ 6 := by
  by_cases c : s ≤ 6
  · exact c
  · have : 2 ^ 6 ≤ 2 ^ (s - 1) := Nat.pow_le_pow_right (by decide) (by omega)
    have e : 2 ^ 6 = 64 := rfl
    omega
theorem Inv.stage6 (I : Inv n nums S gs dn) (hn : n ≤ 64) {p : Nat} (hp : p < n) : ∃ s : Nat, (S.h p).stage = (s : Int) ∧ s ≤ 6 ∧ (s = 0 ∨ (2 ^ (s - 1) < n ∧ ∀ w, low n nums w p (2 ^ (s - 1)))) := by
  obtain ⟨s, h1, _, h3⟩ := I.stg p hp
  refine ⟨s, h1, ?_, h3⟩
  rcases h3 with h | h
  · omega
  · exact pow_low hn h.1

/-- who is awake at the stage s or beyond -/
def atS (S : Rg) (s : Nat) (p : Nat) : Bool := (S.h p).awake && decide ((s : Int) ≤ (S.h p).stage)
theorem Inv.sep (I : Inv n nums S gs dn) {s : Nat} {p q : Nat} (hp : p < n) (hq : q < n) (ap : atS S (s + 1) p = true) (aq : atS S (s + 1) q = true) (h : p < q) : 2 ^ s < q - p ∧ 2 ^ s < n - (q - p) := by
  have lo : ∀ x, x < n → atS S (s + 1) x = true → ∀ w, low n nums w x (2 ^ s) := fun x hx ax w => by
    unfold atS at ax
    simp at ax
    obtain ⟨s', h1, _, h3⟩ := I.stg x hx
    have l : s + 1 ≤ s' := by rw [h1] at ax; omega
    rcases h3 with h | h
    · omega
    · exact (h.2 w).mono (Nat.pow_le_pow_right (by decide) (by omega))
  constructor
  · by_cases c : 2 ^ s < q - p
    · exact c
    · exfalso
      have a := lo p hp ap true (q - p) (by omega) (by omega)
      have b := lo q hq aq false (q - p) (by omega) (by omega)
      have e1 : pt n true p (q - p) = q := by unfold pt; simp; split <;> omega
      have e2 : pt n false q (q - p) = p := by unfold pt; simp; omega
      rw [e1] at a
      rw [e2] at b
      omega
  · by_cases c : 2 ^ s < n - (q - p)
    · exact c
    · exfalso
      have a := lo p hp ap false (n - (q - p)) (by omega) (by omega)
      have b := lo q hq aq true (n - (q - p)) (by omega) (by omega)
      have e1 : pt n false p (n - (q - p)) = q := by unfold pt; simp; split <;> omega
      have e2 : pt n true q (n - (q - p)) = p := by unfold pt; simp; split <;> omega
      rw [e1] at a
      rw [e2] at b
      omega
/-- fewer than all hands come to a stage -/
def nS (n : Nat) : Nat → Nat
  | 0 => n
  | s + 1 => if 2 ^ s < n then n / (2 ^ s + 1) else 0
theorem sumTo_ind_le {f : Nat → Bool} : ∀ k, sumTo (ind f) k ≤ k
  | 0 => Nat.le_refl _
  | k + 1 => by
    have := sumTo_ind_le (f := f) k
    show sumTo (ind f) k + ind f k ≤ k + 1
    have : ind f k ≤ 1 := by unfold ind; split <;> omega
    omega
theorem Inv.few (I : Inv n nums S gs dn) : ∀ s, sumTo (ind (atS S s)) n ≤ nS n s
  | 0 => sumTo_ind_le n
  | s + 1 => by
    show _ ≤ if 2 ^ s < n then n / (2 ^ s + 1) else 0
    by_cases c : 2 ^ s < n
    · rw [if_pos c]
      have e : sumTo (ind (atS S (s + 1))) n = sumTo (ind fun p => decide (p < n) && atS S (s + 1) p) n := sumTo_congr fun p hp => by
        unfold ind
        simp [hp]
      rw [e]
      refine pack c fun p q hp hq h hqn => ?_
      simp at hp hq
      exact I.sep hp.1 hq.1 hp.2 hq.2 h
    · rw [if_neg c]
      refine Nat.le_of_eq (sumTo_zero fun p hp => ?_)
      unfold ind
      cases e : atS S (s + 1) p with
      | false => rfl
      | true =>
        unfold atS at e
        simp at e
        obtain ⟨s', h1, _, h3⟩ := I.stg p hp
        have l : s + 1 ≤ s' := by rw [h1] at e; omega
        rcases h3 with h | h
        · omega
        · have : 2 ^ s ≤ 2 ^ (s' - 1) := Nat.pow_le_pow_right (by decide) (by omega)
          omega

theorem sumTo_add {f g : Nat → Nat} : ∀ {k : Nat}, sumTo (fun p => f p + g p) k = sumTo f k + sumTo g k
  | 0 => rfl
  | k + 1 => by
    show sumTo (fun p => f p + g p) k + (f k + g k) = sumTo f k + f k + (sumTo g k + g k)
    rw [sumTo_add]
    omega
theorem sumTo_mul {f : Nat → Nat} {c : Nat} : ∀ {k : Nat}, sumTo (fun p => c * f p) k = c * sumTo f k
  | 0 => rfl
  | k + 1 => by
    show sumTo (fun p => c * f p) k + c * f k = c * (sumTo f k + f k)
    rw [sumTo_mul, Nat.mul_add]
/-- the bound of the document -/
def bnd (n : Nat) : Nat :=
  7 * n + (if 2 < n then 4 * 2 * (n / 2) else 0) + (if 4 < n then 4 * 4 * (n / 3) else 0) + (if 8 < n then 4 * 8 * (n / 5) else 0) + (if 16 < n then 4 * 16 * (n / 9) else 0)
    + (if 32 < n then 4 * 32 * (n / 17) else 0) + (if 64 < n then 4 * 64 * (n / 33) else 0)
def upSum (n : Nat) (c : Nat → Nat) : Nat := 2 * cS n 0 * c 0 + 2 * cS n 1 * c 1 + 2 * cS n 2 * c 2 + 2 * cS n 3 * c 3 + 2 * cS n 4 * c 4 + 2 * cS n 5 * c 5 + 2 * cS n 6 * c 6
theorem upSum_le {c d : Nat → Nat} (h : ∀ s, c s ≤ d s) : upSum n c ≤ upSum n d := by
  unfold upSum
  have m : ∀ s, 2 * cS n s * c s ≤ 2 * cS n s * d s := fun s => Nat.mul_le_mul_left _ (h s)
  have := m 0; have := m 1; have := m 2; have := m 3; have := m 4; have := m 5; have := m 6
  omega
theorem cost_up (I : Inv n nums S gs dn) (hn : n ≤ 64) {p : Nat} (hp : p < n) : costH n (S.h p) = upSum n fun s => ind (atS S s) p := by
  obtain ⟨s, h1, h2, _⟩ := I.stage6 hn hp
  unfold costH upSum ind atS
  cases ha : (S.h p).awake with
  | false => simp
  | true =>
    rw [h1]
    have : s = 0 ∨ s = 1 ∨ s = 2 ∨ s = 3 ∨ s = 4 ∨ s = 5 ∨ s = 6 := by omega
    rcases this with rfl | rfl | rfl | rfl | rfl | rfl | rfl <;> simp [costUp]
theorem cost_all (I : Inv n nums S gs dn) (hn : n ≤ 64) : sumTo (fun p => costH n (S.h p)) n = upSum n fun s => sumTo (ind (atS S s)) n := by
  rw [sumTo_congr fun p hp => cost_up I hn hp]
  unfold upSum
  simp only [sumTo_add, sumTo_mul]
theorem bnd_ok : ∀ n, n < 65 → 1 ≤ n → upSum n (nS n) + n ≤ bnd n := by decide +kernel
/-- never more letters than the bound -/
theorem Inv.bound (I : Inv n nums S gs dn) (h1 : 1 ≤ n) (hn : n ≤ 64) : S.many ≤ bnd n := by
  obtain ⟨c, hc, ho⟩ := I.pot
  have a := cost_all I hn
  have b : upSum n (fun s => sumTo (ind (atS S s)) n) ≤ upSum n (nS n) := upSum_le fun s => I.few s
  have d := bnd_ok n (by omega) h1
  have : c ≤ n := by
    rcases ho with h | h <;> omega
  omega

/-! ### the end -/
/-- as many mails came as letters were sent and are not under way: the mails under way were sent -/
theorem Inv.all_awake (I : Inv n nums S gs dn) (hp : S.post = []) (h : ∃ p, p < n ∧ (S.h p).awake = true) : ∀ q, q < n → (S.h q).awake = true := by
  have hg : gs = [] := by
    have := I.post
    rw [hp] at this
    cases gs with
    | nil => rfl
    | cons a l => cases this
  obtain ⟨p, hpn, ha⟩ := h
  have nb : ∀ x, x < n → (S.h x).awake = true → (S.h (pt n true x 1)).awake = true := fun x hx h => by
    rcases I.nei x hx h true with h | ⟨t, ht, _⟩
    · exact h
    · rw [hg] at ht; cases ht
  have go : ∀ d, d ≤ n - 1 → (S.h (pt n true p d)).awake = true := by
    intro d
    induction d with
    | zero => intro _; rw [pt_zero hpn]; exact ha
    | succ d ih =>
      intro hd
      have := nb _ (pt_lt hpn (by omega)) (ih (by omega))
      rwa [pt_on hpn (by omega)] at this
  intro q hq
  by_cases e : q = p
  · rw [e]; exact ha
  · obtain ⟨j, h1, h2, e'⟩ := pt_all true hpn hq e
    rw [← e']; exact go j h2
theorem Inv.ended (I : Inv n nums S gs dn) (hp : S.post = []) (h : ∃ p, p < n ∧ (S.h p).awake = true) {m : Nat} (hm : m < n) (htop : ∀ q, q < n → nums q ≤ nums m) :
    (S.h m).crowned = true ∧ ∀ q, q < n → (S.h q).known = some (nums m) := by
  have aw := I.all_awake hp h
  have hg : gs = [] := by
    have := I.post
    rw [hp] at this
    cases gs with
    | nil => rfl
    | cons a l => cases this
  have hc : (S.h m).crowned = true := by
    cases e : (S.h m).crowned with
    | true => rfl
    | false =>
      exfalso
      have d : ∀ w, dn m w = true := fun w => by
        cases e' : dn m w with
        | true => rfl
        | false =>
          have := I.live m hm (aw m hm) htop e w e'
          rw [hg] at this; cases this
      exact I.ndn m hm (not_beaten_top I hm htop) ⟨d true, d false⟩
  refine ⟨hc, fun q hq => ?_⟩
  rcases I.crn m hm hc with ⟨t, ht, _⟩ | hk
  · rw [hg] at ht; cases ht
  · cases e : (S.h q).known with
    | none => exact absurd e (hk q hq)
    | some x =>
      obtain ⟨z, hz, hzc, ex⟩ := I.kn q hq x e
      have a := I.top z hz hzc m hm
      have b := htop z hz
      rw [ex]
      have : nums z = nums m := by omega
      rw [this]

/-! ### what never falls -/
/-- who is the first, who knows, who is awake: so behind each deed; no stage falls -/
structure Up (x y : Hd) : Prop where
  cr : x.crowned = true → y.crowned = true
  kn : x.known ≠ none → y.known ≠ none
  aw : x.awake = true → y.awake = true
  st : x.stage ≤ y.stage
theorem Up.refl (x : Hd) : Up x x := ⟨id, id, id, Int.le_refl _⟩
theorem Up.trans {x y z : Hd} (a : Up x y) (b : Up y z) : Up x z := ⟨fun h => b.cr (a.cr h), fun h => b.kn (a.kn h), fun h => b.aw (a.aw h), Int.le_trans a.st b.st⟩
theorem up_wk (x : Hd) : Up x x.wk := ⟨id, id, fun _ => rfl, Int.le_refl _⟩
theorem up_proc (x : Hd) (l : Lt) : Up x (x.proc l).1 := by
  unfold Hd.proc
  cases l.word with
  | ask =>
    show Up x (x.asked l).1
    unfold Hd.asked
    repeat' split
    · exact ⟨fun _ => rfl, fun _ => by simp, id, Int.le_refl _⟩
    · exact Up.refl x
    · exact ⟨id, id, id, Int.le_refl _⟩
    · exact ⟨id, id, id, Int.le_refl _⟩
  | answer =>
    show Up x (x.answered l).1
    unfold Hd.answered
    repeat' split
    · exact Up.refl x
    · exact ⟨id, id, id, Int.le_refl _⟩
    · exact ⟨id, id, id, by show x.stage ≤ x.stage + 1; omega⟩
  | crown =>
    show Up x (x.told l).1
    unfold Hd.told
    split
    · exact Up.refl x
    · exact ⟨id, fun _ => by simp, id, Int.le_refl _⟩
theorem up_take (x : Hd) (l : Lt) : Up x (x.take l).1 := (up_wk x).trans (up_proc x.wk l)
theorem up_wake {q : Nat} (hq : q < S.hands.length) (p : Nat) : Up (S.h p) ((S.wake q).h p) := by
  rw [wake_h hq]
  by_cases e : p = q
  · rw [if_pos e, e]; exact up_wk _
  · rw [if_neg e]; exact Up.refl _
theorem bring_h {i : Nat} (hq : (S.mail i).1 < S.hands.length) (p : Nat) : (S.bring i).h p = if p = (S.mail i).1 then ((S.h p).take (S.mail i).2).1 else S.h p := by
  show ((S.drop i).setH (S.mail i).1 (((S.drop i).h (S.mail i).1).take (S.mail i).2).1).h p = _
  rw [h_setH (by exact hq)]
  by_cases e : p = (S.mail i).1
  · rw [if_pos e, if_pos e, e]; rfl
  · rw [if_neg e, if_neg e]; rfl
theorem up_bring {i : Nat} (hq : (S.mail i).1 < S.hands.length) (p : Nat) : Up (S.h p) ((S.bring i).h p) := by
  rw [bring_h hq]
  by_cases e : p = (S.mail i).1
  · rw [if_pos e]; exact up_take _ _
  · rw [if_neg e]; exact Up.refl _

/-! ### how many mails -/
theorem wake_count {q : Nat} : (S.wake q).many + S.post.length = S.many + (S.wake q).post.length := by
  unfold Rg.wake Rg.put Rg.setH
  simp
  omega
theorem bring_count {i : Nat} (hi : i < S.post.length) : (S.bring i).many + S.post.length = S.many + (S.bring i).post.length + 1 := by
  unfold Rg.bring Rg.give Rg.put Rg.setH Rg.drop
  simp [List.length_eraseIdx]
  rw [if_pos hi]
  omega
end RC
/-! # RcKit: some rules of my own over the hand layer -/
namespace L2
open PySem PySem.Spec PyProof.Rows

/-- what an own error class must say -/
structure XCls (K : PySem.W.Frag) (C : Addr) : Prop where
  xP : PySem.W.excIn K C [.type "ValueError", .type "Exception", .type "BaseException", .type "object"] "ValueError.__new__" = true
  kP : PySem.W.keepIn K (.ref C) = true
  bP : PySem.W.subIn K (.ref C) (.type "BaseException") = some true
  tP : PySem.W.typeIn K (.ref C) = some (.type "type")
  iP : PySem.W.isClsIn K C = true
  vP : PySem.W.subIn K (.ref C) (.type "ValueError") = some true
  eC : ExcC K C
theorem XCls.raises {X : Cx} {C : Addr} (x : XCls X.K C) : Raises X (.ref C) := raises_own x.bP x.tP
/-- an error of the class at D before «except C» -/
theorem XCls.exm {K : PySem.W.Frag} {C D : Addr} {b : Bool} (x : XCls K C) (h : PySem.W.subIn K (.ref D) (.ref C) = some b) : PySem.W.exmOne K (.ref D) (.ref C) = some b :=
  PySem.W.exm_ref x.bP x.eC.hd x.tP h
/-- isinstance(an error of the class at D, C) -/
theorem XCls.kit {K : PySem.W.Frag} {C D : Addr} {b : Bool} (x : XCls K C) (h : PySem.W.subIn K (.ref D) (.ref C) = some b) (hn : D = C → b = true) : PySem.W.kitOne K (.ref D) (.ref C) = some b := by
  unfold PySem.W.kitOne
  by_cases e : D = C
  · subst e
    rw [hn rfl, if_pos (beq_self_eq_true _)]
  · have z : ¬ (Value.ref D == Value.ref C) = true := fun q => e (Value.ref.inj (beq_iff_eq.mp q))
    rw [if_neg z]
    unfold PySem.W.kitCls
    have i : ((PySem.W.clsIn K C).isSome && PySem.W.typeIn K (.ref C) == some (.type "type")) = true := by
      have i1 : (PySem.W.clsIn K C).isSome = true := x.iP
      rw [i1, x.tP] <;> rfl
    show (if ((PySem.W.clsIn K C).isSome && PySem.W.typeIn K (.ref C) == some (.type "type")) = true then PySem.W.subIn K (.ref D) (.ref C) else none) = some b
    rw [if_pos i]
    exact h
theorem XCls.kitV {K : PySem.W.Frag} {D : Addr} (x : XCls K D) : PySem.W.kitOne K (.ref D) (.type "ValueError") = some true := by
  unfold PySem.W.kitOne
  have z : ¬ (Value.ref D == Value.type "ValueError") = true := fun q => nomatch beq_iff_eq.mp q
  rw [if_neg z]
  unfold PySem.W.kitCls
  have i : PySem.W.kitMeta "ValueError" = true := by decide +kernel
  show (if PySem.W.kitMeta "ValueError" = true then PySem.W.subIn K (.ref D) (.type "ValueError") else none) = some true
  rw [if_pos i]
  exact x.vP

section
variable {X : Cx}
/-- a callee's error goes on out of a def that may raise -/
theorem passR {W : WX} {E : XK} (hW : ∀ cls d σ H, E cls d H → W cls d σ H) (tk : Takes X W) : Passes (L2.CX X.prog X.w) X E := passes_call tk hW
theorem pe_gint {x : Str} {i : Int} {pos : Pos} (hg : Gl X x) (hm : ∃ t, X.mg x = some (.int i t)) (hd : (x == ("__debug__" : Str)) = false := by decide) : PE X (.Name x pos) (tC (.int i)) := by
  obtain ⟨t, e⟩ := hm
  exact pe_glob hg e ⟨t, rfl⟩ hd
/-- a suite for an error whose class (one without a dict) is told where it is raised -/
theorem pss_err {st : List Stmt} {K : PySem.W.Frag} {cls : Value} {d : Option Addr} {oe : Obj} {t : Addr → TS} (hz : Zc cls d oe) (h : ∀ D', ExcC K D' → Zc (.ref D') none oe → PSs X st (t D')) :
    PSs X st (fun Dn σ H => ∃ D', ExcC K D' ∧ cls = .ref D' ∧ d = none ∧ t D' Dn σ H) := by
  refine ⟨fun pins s σ H Dn I hh => ?_⟩
  obtain ⟨D', hE, e1, e2, q⟩ := hh
  subst e1 e2
  exact (h D' hE hz).run pins s σ H Dn I q

variable {CX : CXT} {k : Nat} {f C : Addr} {fd : FuncData} {ps : List Str} {sp : Sp} {E : St → XK} {x m : Str} {p pos apos : Pos} {e o : Expr} {es : List Expr} {ta : TE} {t : TA}
/-- o.m(e, ..) where what is raised is wished for at the caller's slots -/
def tMethW (C : Addr) (m : Str) (sp : Sp) (E : St → XK) (ta : TE) (t : TA) : TE := fun σ H Q =>
  ta σ H fun x H1 => ∃ a dx fs, x = .ref a ∧ H1 a = some (.ins C dx fs) ∧ fs.lookup m = none ∧ t σ H1 fun vs H2 => sp (x :: vs) H2 Q (E σ)
theorem pe_methW {pl : Sem Bool} (ho : PE X o ta) (hc : Cls X.K C) (hM : Meth X.K C m f) (G : FnOk X.prog X.w X.K X.mg X.base CX k f fd ps sp) (room : Room k X.A) (bi : Binds X.K fd ps []) (hp : ∀ σ, PassesAt CX X σ (E σ)) (args : PA X (e :: es) t)
    (h1 : starEach (e :: es) X.env = (false, eval e X.env) :: starEach es X.env := by rfl) (h2 : (backTo pos (starEach es X.env)).any (·.1) = false := by rfl)
    (h3 : eval (.Call (.Attribute o m apos) (e :: es) [] pos) X.env = (do
      let obj ← eval o X.env
      standAt apos.atName
      let (fn, own) ← holding [obj] (getMethod obj m pl)
      callWith pos fn own (backTo pos (starEach (e :: es) X.env)) (backToKw pos (keywordEach [] X.env))) := by rfl) :
    PE X (.Call (.Attribute o m apos) (e :: es) [] pos) (tMethW C m sp E ta t) := ⟨fun pins s σ H Q I h => by
  refine PySem.W.methodCall_KW (pl := pl) (thn (ho.run pins s σ H _ I h) ?_) h3
  rintro w s1 ⟨v, H1, I1, rv, a, dx, fs, rfl, ea, nl, q⟩
  cases (show w = Value.ref a from rv)
  refine getmeth_ok I1 ea hc hM nl ?_
  refine PySem.W.callWith_K (first := [.ref a]) (h₀ := X.base) I.ok.mod.kin hM.kp (thn (args.run pos pins s1 σ H1 _ I1 q) ?_) h1 h2
  rintro us s2 ⟨vs, H2, I2, rs, q2⟩
  exact ⟨I2.kIn, run_fnS (us := .ref a :: us) (vs := .ref a :: vs) G room bi (hp σ) I2 (.cons rfl rs) q2⟩⟩
/-- C(e, ..) likewise -/
def tMakeW (C : Addr) (sp : Sp) (E : St → XK) (t : TA) : TE := fun σ H Q => t σ H fun vs H1 => ∀ x dx, H1 x = none → H1 dx = none → dx ≠ x →
  sp (.ref x :: vs) (upd (upd H1 dx (.own x)) x (.ins C dx [])) (fun v H2 => v = .non ∧ Q (.ref x) H2) (E σ)
end
end L2
namespace L2
open PySem PySem.Spec PyProof.Rows
/-! ### rules under names -/
section
variable {X : Cx}
def rLen (K : PySem.W.Frag) : List V → Hp → VK → Prop := fun xs H Q => ∃ p ys, xs = [.ref p] ∧ (SqL K H p ys ∨ SqT K H p ys) ∧ Q (.int ys.length) H
theorem call_lenN : CallR X (.builtin "len") (rLen X.K) := call_len_seq
def rAbs : List V → Hp → VK → Prop := fun xs H Q => ∃ i, xs = [.int i] ∧ Q (.int (if i < 0 then -i else i)) H
theorem call_absN : CallR X (.builtin "abs") rAbs := call_abs
def rInt1 : List V → Hp → VK → Prop := fun xs H Q => (∃ i, xs = [.int i] ∧ Q (.int i) H) ∨ ∃ k, xs = [.bl k] ∧ Q (.int (if k then 1 else 0)) H
theorem call_intN : CallR X (.type "int") rInt1 := call_int1
def rListOf (K : PySem.W.Frag) : List V → Hp → VK → Prop := fun xs H Q => ∃ p ys, xs = [.ref p] ∧ (SqL K H p ys ∨ SqT K H p ys) ∧ ∀ l, H l = none → Q (.ref l) (upd H l (.lst ys))
theorem call_listN : CallR X (.type "list") (rListOf X.K) := call_list_of
def rIsNo : R2 := fun x y H Q => y = .non ∧ Q (.bl (decide (x = .non))) H
theorem op_isNo : OpR X (compareOp .Is) rIsNo := op_isN
def rNotNo : R2 := fun x y H Q => y = .non ∧ Q (.bl (!decide (x = .non))) H
theorem op_notNo : OpR X (compareOp .IsNot) rNotNo := op_notN
def rIsBo : R2 := fun x y H Q => ∃ a b, x = .bl a ∧ y = .bl b ∧ Q (.bl (decide (a = b))) H
theorem op_isBo : OpR X (compareOp .Is) rIsBo := op_is_bl
def rNotBo : R2 := fun x y H Q => ∃ a b, x = .bl a ∧ y = .bl b ∧ Q (.bl (!decide (a = b))) H
theorem op_notBo : OpR X (compareOp .IsNot) rNotBo := op_isnot_bl
end
/-- an attribute's value -/
def rFld (K : PySem.W.Frag) (f : Str) : V → Hp → VK → Prop := fun x H Q => ∃ a C dx fs v, x = .ref a ∧ H a = some (.ins C dx fs) ∧ Cls K C ∧ NoAttr K C f ∧ fs.lookup f = some v ∧ Q v H
/-- an attribute stored -/
def rPut (K : PySem.W.Frag) (f : Str) (y : V) : V → Hp → (Hp → Prop) → Prop := fun x H R => ∃ a C dx fs, x = .ref a ∧ H a = some (.ins C dx fs) ∧ Cls K C ∧ NoAttr K C f ∧ fs.length < 1000 ∧ R (upd H a (.ins C dx (putF f y fs)))
/-- the receiver of a method -/
def rRecv (C : Addr) (m : Str) : V → Hp → Prop → Prop := fun x H R => ∃ a dx fs, x = .ref a ∧ H a = some (.ins C dx fs) ∧ fs.lookup m = none ∧ R
/-! ### readings, one step each -/
section
variable {K : PySem.W.Frag} {σ : St} {H : Hp} {D : Ends} {te ta tb tc : TE} {ts tr : TS} {t u : TT} {tl : TA} {Q : VK} {x y v w : V} {i j : Int} {n : Nat} {a C dx : Addr} {fs : List (Str × V)} {f : Str}
theorem rd_seq {nx : St → Hp → Prop} {rt : VK} {bk ct : St → Hp → Prop} (h : ts ⟨tr ⟨nx, rt, bk, ct⟩, rt, bk, ct⟩ σ H) : tSeq ts tr ⟨nx, rt, bk, ct⟩ σ H := h
theorem rd_asg (h : te σ H fun x H1 => D.nx (σ.set n (some x)) H1) : tAsg te (gName n) D σ H := h
theorem rd_asgG {g : TG} (h : te σ H fun x H1 => g x σ H1 D.nx) : tAsg te g D σ H := h
theorem rd_ret (h : te σ H D.rt) : tRet te D σ H := h
theorem rd_retN (h : D.rt .non H) : tRetN D σ H := h
theorem rd_drop (h : te σ H fun _ H1 => D.nx σ H1) : tDrop te D σ H := h
theorem rd_next (h : D.nx σ H) : tNext D σ H := h
theorem rd_if {c : TT} (h : c σ H fun b H1 => if b = true then ts D σ H1 else tr D σ H1) : tIfS c ts tr D σ H := h
theorem rd_var {k : Nat} (e : σ[k]? = some (some v)) (h : Q v H) : tVar k σ H Q := ⟨v, e, h⟩
theorem rd_c (h : Q v H) : tC v σ H Q := h
theorem rd_op {r : R2} (h : ta σ H fun x H1 => tb σ H1 fun y H2 => r x y H2 Q) : tOp r ta tb σ H Q := h
theorem rd_un {r : V → Hp → VK → Prop} (h : ta σ H fun x H1 => r x H1 Q) : tUn r ta σ H Q := h
theorem rd_I0 {g : Int → Int → V} (h : Q (g i j) H) : rI0 g (.int i) (.int j) H Q := ⟨i, j, rfl, rfl, h⟩
theorem rd_I {c : Int → Int → Prop} {g : Int → Int → V} (hc : c i j) (h : Q (g i j) H) : rI c g (.int i) (.int j) H Q := ⟨i, j, rfl, rfl, hc, h⟩
theorem rd_U {g : Int → V} (h : Q (g i) H) : rU g (.int i) H Q := ⟨i, rfl, h⟩
theorem rd_eq (hs : scal x y = true) (h : Q (.bl (decide (x = y))) H) : rEq x y H Q := ⟨hs, h⟩
theorem rd_ne (hs : scal x y = true) (h : Q (.bl (!decide (x = y))) H) : rNe x y H Q := ⟨hs, h⟩
theorem rd_eqI (h : Q (.bl (decide (i = j))) H) : rEq (.int i) (.int j) H Q := ⟨rfl, by
  have e : decide (V.int i = V.int j) = decide (i = j) := by
    by_cases z : i = j
    · rw [z]; simp
    · rw [decide_eq_false z, decide_eq_false fun q => z (V.int.inj q)]
  rw [e]; exact h⟩
theorem rd_neI (h : Q (.bl (!decide (i = j))) H) : rNe (.int i) (.int j) H Q := ⟨rfl, by
  have e : decide (V.int i = V.int j) = decide (i = j) := by
    by_cases z : i = j
    · rw [z]; simp
    · rw [decide_eq_false z, decide_eq_false fun q => z (V.int.inj q)]
  rw [e]; exact h⟩
theorem rd_test {Q : Bool → Hp → Prop} (h : te σ H fun x H' => ∃ k, x = .bl k ∧ Q k H') : tTest te σ H Q := h
theorem rd_B {Q : Bool → Hp → Prop} (h : te σ H fun x H' => ∃ k, x = .bl k ∧ Q k H') : tB te σ H Q := h
theorem rd_bl {b : Bool} {P : Bool → Prop} (h : P b) : ∃ k, V.bl b = .bl k ∧ P k := ⟨b, rfl, h⟩
theorem rd_and {Q : Bool → Hp → Prop} (h : t σ H fun c H1 => if c = true then u σ H1 Q else Q false H1) : tAnd t u σ H Q := h
theorem rd_or {Q : Bool → Hp → Prop} (h : t σ H fun c H1 => if c = true then Q true H1 else u σ H1 Q) : tOr t u σ H Q := h
theorem rd_not {Q : Bool → Hp → Prop} (h : t σ H fun c H1 => Q (!c) H1) : tNot t σ H Q := h
theorem rd_andV (h : ta σ H fun x H1 => ∃ c, x = .bl c ∧ if c = true then tb σ H1 Q else Q (.bl false) H1) : tAndV ta tb σ H Q := h
theorem rd_orV (h : ta σ H fun x H1 => ∃ c, x = .bl c ∧ if c = true then Q (.bl true) H1 else tb σ H1 Q) : tOrV ta tb σ H Q := h
theorem rd_notV (h : ta σ H fun x H1 => ∃ c, x = .bl c ∧ Q (.bl (!c)) H1) : tNotV ta σ H Q := h
theorem rd_ifE {c : TT} (h : c σ H fun b H1 => if b = true then ta σ H1 Q else tb σ H1 Q) : tIf c ta tb σ H Q := h
theorem rd_nil {Q : List V → Hp → Prop} (h : Q [] H) : tNil σ H Q := h
theorem rd_cons {Q : List V → Hp → Prop} (h : ta σ H fun x H1 => tl σ H1 fun xs H2 => Q (x :: xs) H2) : tCons ta tl σ H Q := h
theorem rd_CB {r : List V → Hp → VK → Prop} (h : tl σ H fun vs H1 => r vs H1 Q) : tCB r tl σ H Q := h
theorem rd_call {sp : Sp} {E : XK} (h : tl σ H fun vs H1 => sp vs H1 Q E) : tCall sp [] E tl σ H Q := by
  have e : (fun vs H1 => sp (vs ++ []) H1 Q E) = fun vs H1 => sp vs H1 Q E := by funext vs H1; rw [List.append_nil]
  show tl σ H fun vs H1 => sp (vs ++ []) H1 Q E
  rw [e]; exact h
theorem rd_callS {sp : Sp} {E : St → XK} (h : tl σ H fun vs H1 => sp vs H1 Q (E σ)) : tCallS sp E tl σ H Q := h
theorem rd_mk {sp : Sp} {E : XK} (h : tl σ H fun vs H1 => ∀ x dx, H1 x = none → H1 dx = none → dx ≠ x → sp (.ref x :: vs) (upd (upd H1 dx (.own x)) x (.ins C dx [])) (fun v H2 => v = .non ∧ Q (.ref x) H2) E) : tMake C sp [] E tl σ H Q := by
  show tl σ H fun vs H1 => ∀ x dx, H1 x = none → H1 dx = none → dx ≠ x → sp (.ref x :: (vs ++ [])) (upd (upd H1 dx (.own x)) x (.ins C dx [])) (fun v H2 => v = .non ∧ Q (.ref x) H2) E
  simp only [List.append_nil]
  exact h
theorem rd_tFld (h : ta σ H fun x H1 => rFld K f x H1 Q) : tFld K ta f σ H Q := h
theorem rd_fld (e : H a = some (.ins C dx fs)) (c : Cls K C) (nA : NoAttr K C f) (l : fs.lookup f = some v) (h : Q v H) : rFld K f (.ref a) H Q := ⟨a, C, dx, fs, v, rfl, e, c, nA, l, h⟩
theorem rd_sFld (h : te σ H fun y H1 => ta σ H1 fun x H2 => rPut K f y x H2 fun H3 => D.nx σ H3) : sFld K ta te f D σ H := h
theorem rd_put {R : Hp → Prop} (e : H a = some (.ins C dx fs)) (c : Cls K C) (nA : NoAttr K C f) (l : fs.length < 1000) (h : R (upd H a (.ins C dx (putF f y fs)))) : rPut K f y (.ref a) H R := ⟨a, C, dx, fs, rfl, e, c, nA, l, h⟩
theorem rd_meth {m : Str} {sp : Sp} {E : XK} (h : ta σ H fun x H1 => rRecv C m x H1 (tl σ H1 fun vs H2 => sp (x :: vs) H2 Q E)) : tMeth C m sp [] E ta tl σ H Q := by
  have e : ∀ x : V, (fun vs H1 => sp (x :: (vs ++ [])) H1 Q E) = fun vs H1 => sp (x :: vs) H1 Q E := fun x => by funext vs H1; rw [List.append_nil]
  show ta σ H fun x H1 => ∃ a dx fs, x = .ref a ∧ H1 a = some (.ins C dx fs) ∧ fs.lookup m = none ∧ tl σ H1 fun vs H2 => sp (x :: (vs ++ [])) H2 Q E
  simp only [e]
  exact h
theorem rd_methW {m : Str} {sp : Sp} {E : St → XK} (h : ta σ H fun x H1 => rRecv C m x H1 (tl σ H1 fun vs H2 => sp (x :: vs) H2 Q (E σ))) : tMethW C m sp E ta tl σ H Q := h
theorem rd_recv {m : Str} {R : Prop} (e : H a = some (.ins C dx fs)) (l : fs.lookup m = none) (h : R) : rRecv C m (.ref a) H R := ⟨a, dx, fs, rfl, e, l, h⟩
theorem rd_len {xs : List V} (e : SqL K H a xs) (h : Q (.int xs.length) H) : rLen K [.ref a] H Q := ⟨a, xs, rfl, .inl e, h⟩
theorem rd_abs (h : Q (.int (if i < 0 then -i else i)) H) : rAbs [.int i] H Q := ⟨i, rfl, h⟩
theorem rd_int1 {b : Bool} (h : Q (.int (if b then 1 else 0)) H) : rInt1 [.bl b] H Q := .inr ⟨b, rfl, h⟩
theorem rd_listL {xs : List V} (e : SqL K H a xs) (h : ∀ l, H l = none → Q (.ref l) (upd H l (.lst xs))) : rListOf K [.ref a] H Q := ⟨a, xs, rfl, .inl e, h⟩
theorem rd_listT {xs : List V} (e : SqT K H a xs) (h : ∀ l, H l = none → Q (.ref l) (upd H l (.lst xs))) : rListOf K [.ref a] H Q := ⟨a, xs, rfl, .inr e, h⟩
theorem rd_isNo (h : Q (.bl (decide (x = .non))) H) : rIsNo x .non H Q := ⟨rfl, h⟩
theorem rd_notNo (h : Q (.bl (!decide (x = .non))) H) : rNotNo x .non H Q := ⟨rfl, h⟩
theorem rd_isBo {b c : Bool} (h : Q (.bl (decide (b = c))) H) : rIsBo (.bl b) (.bl c) H Q := ⟨b, c, rfl, rfl, h⟩
theorem rd_notBo {b c : Bool} (h : Q (.bl (!decide (b = c))) H) : rNotBo (.bl b) (.bl c) H Q := ⟨b, c, rfl, rfl, h⟩
theorem rd_lst (h : tl σ H fun xs H1 => xs.length ≤ sizeLine ∧ ∀ p, H1 p = none → Q (.ref p) (upd H1 p (.lst xs))) : tLst tl σ H Q := h
theorem rd_tup (h : tl σ H fun xs H1 => xs.length ≤ sizeLine ∧ ∀ p, H1 p = none → Q (.ref p) (upd H1 p (.tup xs))) : tTup tl σ H Q := h
theorem rd_ixL {xs : List V} {k : Nat} (e : SqL K H a xs) (hi : i = (k : Int)) (hx : xs[k]? = some v) (h : Q v H) : rIxL K (.ref a) (.int i) H Q := ⟨a, xs, i, v, rfl, rfl, e, by rw [hi]; exact atI_nat hx, h⟩
theorem rd_ixT {xs : List V} {k : Nat} (e : SqT K H a xs) (hi : i = (k : Int)) (hx : xs[k]? = some v) (h : Q v H) : rIxT K (.ref a) (.int i) H Q := ⟨a, xs, i, v, rfl, rfl, e, by rw [hi]; exact atI_nat hx, h⟩
theorem rd_isi {m n : String} {b : Bool} (ty : TyX K H v (.type n)) (k : kitB n m = some b) (h : Q (.bl b) H) : rIsi K [v, .ty m] H Q := ⟨v, .ty m, .type n, .type m, b, rfl, .ty m, ty, kit_ty k, h⟩
theorem rd_isE {D C : Addr} {b : Bool} (k : PySem.W.kitOne K (.ref D) (.ref C) = some b) (h : Q (.bl b) H) : rIsE K D a [.ref a, .ref C] H Q := ⟨.ref C, .ref C, b, rfl, fun _ r => r, k, h⟩
theorem rd_isEV {D : Addr} {b : Bool} {m : String} (k : PySem.W.kitOne K (.ref D) (.type m) = some b) (h : Q (.bl b) H) : rIsE K D a [.ref a, .ty m] H Q := ⟨.ty m, .type m, b, rfl, fun _ r => r, k, h⟩
theorem rd_ite {b : Bool} {A B : Prop} (h1 : b = true → A) (h2 : b = false → B) : if b = true then A else B := by
  cases b with
  | true => exact (if_pos rfl).mpr (h1 rfl)
  | false => exact (if_neg Bool.false_ne_true).mpr (h2 rfl)
theorem rd_dec {p A B : Prop} [Decidable p] (h1 : p → A) (h2 : ¬ p → B) : if decide p = true then A else B := by
  by_cases h : p
  · rw [decide_eq_true h]; exact (if_pos rfl).mpr (h1 h)
  · rw [decide_eq_false h]; exact (if_neg Bool.false_ne_true).mpr (h2 h)
theorem rd_ndec {p A B : Prop} [Decidable p] (h1 : ¬ p → A) (h2 : p → B) : if (!decide p) = true then A else B := by
  by_cases h : p
  · rw [decide_eq_true h]; exact (if_neg Bool.false_ne_true).mpr (h2 h)
  · rw [decide_eq_false h]; exact (if_pos rfl).mpr (h1 h)
end
end L2

namespace L2
open PySem PySem.Spec PyProof.Rows Evl
/-! ### loops and comprehensions, one step each -/
section
variable {K : PySem.W.Frag} {σ : St} {H : Hp} {D : Ends} {te : TE} {tb : TS} {tl : TA} {tx : TE} {tt c : TT} {g : TG} {Q : VK} {x : V} {a : Addr} {xs : List V} {j : Nat} {vs : List Nat}
/-- a loop over what J gives -/
def rFor (g : TG) (tb : TS) (D : Ends) (σ : St) : It → Hp → Prop := fun J H1 => ∃ W : Nat → Nat → St → Hp → Prop, (∃ m, W 0 m σ H1) ∧ ∀ i m σ H, W i m σ H →
  (J.stop i H ∧ D.nx σ H) ∨ (J.go i H ∧ ∃ N : St → Hp → Prop, (∀ σ' H', N σ' H' → ∃ m', m' < m ∧ W (i + 1) m' σ' H') ∧ ∀ x H', J.yld i H x H' → g x σ H' fun σ2 H2 => tb { D with nx := N, ct := N, bk := D.nx } σ2 H2)
def rForL (K : PySem.W.Frag) (g : TG) (tb : TS) (D : Ends) (σ : St) : V → Hp → Prop := fun x H1 => ∃ a, x = .ref a ∧ (∃ xs, SqL K H1 a xs) ∧ rFor g tb D σ (Itl K a) H1
def rForT (K : PySem.W.Frag) (g : TG) (tb : TS) (D : Ends) (σ : St) : V → Hp → Prop := fun x H1 => ∃ a, x = .ref a ∧ (∃ xs, SqT K H1 a xs) ∧ rFor g tb D σ (Itt K a) H1
def rForR1 (g : TG) (tb : TS) (D : Ends) (σ : St) : List V → Hp → Prop := fun vs H1 => ∃ j : Int, vs = [.int j] ∧ -(2 ^ 62) ≤ j ∧ j < 2 ^ 62 ∧ rFor g tb D σ (Itr 0 j.toNat) H1
def rForR2 (g : TG) (tb : TS) (D : Ends) (σ : St) : List V → Hp → Prop := fun vs H1 => ∃ i j : Int, vs = [.int i, .int j] ∧ (-(2 ^ 62) ≤ i ∧ i < 2 ^ 62 ∧ -(2 ^ 62) ≤ j ∧ j < 2 ^ 62) ∧ rFor g tb D σ (Itr i (j - i).toNat) H1
theorem rd_forL (h : tx σ H fun x H1 => rForL K g tb D σ x H1) : tFor (iList K tx) g tb D σ H := h
theorem rd_forT (h : tx σ H fun x H1 => rForT K g tb D σ x H1) : tFor (iTup K tx) g tb D σ H := h
theorem rd_forR1 (h : tl σ H fun vs H1 => rForR1 g tb D σ vs H1) : tFor (iRng1 tl) g tb D σ H := h
theorem rd_forR2 (h : tl σ H fun vs H1 => rForR2 g tb D σ vs H1) : tFor (iRng2 tl) g tb D σ H := h
section
variable {nx : St → Hp → Prop} {rt : VK} {bk ct : St → Hp → Prop}
theorem for_L (e : SqL K H a xs) (Pv : Nat → St → Hp → Prop) (h0 : Pv 0 σ H) (hl : ∀ i σ H, i ≤ xs.length → Pv i σ H → SqL K H a xs)
    (hs : ∀ i x σ H, xs[i]? = some x → Pv i σ H → tb ⟨Pv (i + 1), rt, nx, Pv (i + 1)⟩ (σ.set j (some x)) H) (hd : ∀ σ H, Pv xs.length σ H → nx σ H) : rForL K (gName j) tb ⟨nx, rt, bk, ct⟩ σ (.ref a) H :=
  ⟨a, rfl, ⟨xs, e⟩, for_list (D := ⟨nx, rt, bk, ct⟩) (g := gName j) Pv h0 hl hs hd⟩
theorem for_T (e : SqT K H a xs) (Pv : Nat → St → Hp → Prop) (h0 : Pv 0 σ H) (hl : ∀ i σ H, i ≤ xs.length → Pv i σ H → SqT K H a xs)
    (hs : ∀ i x σ H, xs[i]? = some x → Pv i σ H → tb ⟨Pv (i + 1), rt, nx, Pv (i + 1)⟩ (σ.set j (some x)) H) (hd : ∀ σ H, Pv xs.length σ H → nx σ H) : rForT K (gName j) tb ⟨nx, rt, bk, ct⟩ σ (.ref a) H :=
  ⟨a, rfl, ⟨xs, e⟩, for_tup (D := ⟨nx, rt, bk, ct⟩) (g := gName j) Pv h0 hl hs hd⟩
theorem for_R1 {n : Nat} (hn : n < 2 ^ 62) (Pv : Nat → St → Hp → Prop) (h0 : Pv 0 σ H)
    (hs : ∀ i σ H, i < n → Pv i σ H → tb ⟨Pv (i + 1), rt, nx, Pv (i + 1)⟩ (σ.set j (some (.int ((i : Nat) : Int)))) H) (hd : ∀ σ H, Pv n σ H → nx σ H) : rForR1 (gName j) tb ⟨nx, rt, bk, ct⟩ σ [.int ((n : Nat) : Int)] H :=
  ⟨(n : Int), rfl, by omega, by omega, for_range (D := ⟨nx, rt, bk, ct⟩) (lo := 0) (n := ((n : Nat) : Int).toNat) (g := gName j) Pv h0 (fun i σ H hi p => by
    have e0 : (0 : Int) + ((i : Nat) : Int) = ((i : Nat) : Int) := Int.zero_add _
    show tb ⟨Pv (i + 1), rt, nx, Pv (i + 1)⟩ (σ.set j (some (.int ((0 : Int) + ((i : Nat) : Int))))) H
    rw [e0]
    exact hs i σ H (by simpa using hi) p) (by simpa using hd)⟩
theorem for_R2 {lo n : Nat} (hn : lo + n < 2 ^ 62) (Pv : Nat → St → Hp → Prop) (h0 : Pv 0 σ H)
    (hs : ∀ i σ H, i < n → Pv i σ H → tb ⟨Pv (i + 1), rt, nx, Pv (i + 1)⟩ (σ.set j (some (.int ((lo + i : Nat) : Int)))) H) (hd : ∀ σ H, Pv n σ H → nx σ H) : rForR2 (gName j) tb ⟨nx, rt, bk, ct⟩ σ [.int ((lo : Nat) : Int), .int ((lo + n : Nat) : Int)] H := by
  have en : (((lo + n : Nat) : Int) - ((lo : Nat) : Int)).toNat = n := by omega
  refine ⟨_, _, rfl, ⟨by omega, by omega, by omega, by omega⟩, ?_⟩
  rw [en]
  refine for_range (D := ⟨nx, rt, bk, ct⟩) (lo := ((lo : Nat) : Int)) (n := n) (g := gName j) Pv h0 (fun i σ H hi p => ?_) hd
  have e0 : ((lo : Nat) : Int) + ((i : Nat) : Int) = ((lo + i : Nat) : Int) := by omega
  show tb ⟨Pv (i + 1), rt, nx, Pv (i + 1)⟩ (σ.set j (some (.int (((lo : Nat) : Int) + ((i : Nat) : Int))))) H
  rw [e0]
  exact hs i σ H hi p
/-- a while, by a word and a number that falls -/
theorem rd_while (W : Nat → St → Hp → Prop) (m0 : Nat) (h0 : W m0 σ H)
    (hs : ∀ m σ H, W m σ H → c σ H fun b H1 => if b = true then ∃ N : St → Hp → Prop, (∀ σ' H', N σ' H' → ∃ m', m' < m ∧ W m' σ' H') ∧ tb ⟨N, rt, nx, N⟩ σ H1 else nx σ H1) : tWhile c tb ⟨nx, rt, bk, ct⟩ σ H := ⟨W, ⟨m0, h0⟩, hs⟩
/-- the next turn of a while -/
theorem rd_turn {W : Nat → St → Hp → Prop} {m : Nat} (h : tb ⟨fun σ' H' => ∃ m', m' < m ∧ W m' σ' H', rt, nx, fun σ' H' => ∃ m', m' < m ∧ W m' σ' H'⟩ σ H) :
    ∃ N : St → Hp → Prop, (∀ σ' H', N σ' H' → ∃ m', m' < m ∧ W m' σ' H') ∧ tb ⟨N, rt, nx, N⟩ σ H := ⟨_, fun _ _ z => z, h⟩
end
/-- a comprehension over what J gives -/
def rLc (g : TG) (tt : TT) (te : TE) (vs : List Nat) (σ : St) (Q : VK) : It → Hp → Prop := fun J H1 => ∀ D, H1 D = none → ∃ W : Nat → Nat → Hp → Prop, (∃ m, W 0 m (upd H1 D (.lst []))) ∧ ∀ i m H, W i m H →
  (J.stop i H ∧ Q (.ref D) H) ∨ (J.go i H ∧ ∃ Nx : Hp → Prop, (∀ H', Nx H' → ∃ m', m' < m ∧ W (i + 1) m' H') ∧ ∀ x H', J.yld i H x H' → g x (wipe σ vs) H' fun σ2 H2 => wipe σ2 vs = wipe σ vs ∧ tt σ2 H2 fun b H3 =>
    if b = true then te σ2 H3 fun y H4 => ∃ acc, H4 D = some (.lst acc) ∧ acc.length < sizeLine ∧ Nx (upd H4 D (.lst (acc ++ [y]))) else Nx H3)
def rLcL (K : PySem.W.Frag) (g : TG) (tt : TT) (te : TE) (vs : List Nat) (σ : St) (Q : VK) : V → Hp → Prop := fun x H1 => ∃ a, x = .ref a ∧ (∃ xs, SqL K H1 a xs) ∧ rLc g tt te vs σ Q (Itl K a) H1
def rLcT (K : PySem.W.Frag) (g : TG) (tt : TT) (te : TE) (vs : List Nat) (σ : St) (Q : VK) : V → Hp → Prop := fun x H1 => ∃ a, x = .ref a ∧ (∃ xs, SqT K H1 a xs) ∧ rLc g tt te vs σ Q (Itt K a) H1
def rLcR1 (g : TG) (tt : TT) (te : TE) (vs : List Nat) (σ : St) (Q : VK) : List V → Hp → Prop := fun us H1 => ∃ j : Int, us = [.int j] ∧ -(2 ^ 62) ≤ j ∧ j < 2 ^ 62 ∧ rLc g tt te vs σ Q (Itr 0 j.toNat) H1
theorem rd_lcL (h : tx σ H fun x H1 => rLcL K g tt te vs σ Q x H1) : tLc (iList K tx) g tt te vs σ H Q := h
theorem rd_lcT (h : tx σ H fun x H1 => rLcT K g tt te vs σ Q x H1) : tLc (iTup K tx) g tt te vs σ H Q := h
theorem rd_lcR1 (h : tl σ H fun us H1 => rLcR1 g tt te vs σ Q us H1) : tLc (iRng1 tl) g tt te vs σ H Q := h
theorem wipe_one (σ : St) (j : Nat) (x : V) : wipe ((wipe σ [j]).set j (some x)) [j] = wipe σ [j] := by
  show ((σ.set j none).set j (some x)).set j none = σ.set j none
  rw [List.set_set, List.set_set]
theorem given_true (n : Nat) (v : Nat → V) : given n (fun _ => true) v = (List.range n).map v := by
  unfold given
  rw [List.filter_eq_self.mpr fun _ _ => rfl]
/-- each item's value told, nothing left but new things -/
theorem lc_L (e : SqL K H a xs) (hz : xs.length ≤ 40000) (ys : Nat → V) (he : ∀ (i : Nat) (x : V) H1, Ex H H1 → xs[i]? = some x → Ev te ((σ.set j none).set j (some x)) H1 (ys i))
    (k : ∀ p H1, H p = none → Ex H H1 → H1 p = some (.lst ((List.range xs.length).map ys)) → Q (.ref p) H1) : rLcL K (gName j) tYes te [j] σ Q (.ref a) H := by
  have z := el_lcL (K := K) (σ := σ) (H := H) (te := te) (t := tYes) (a := a) (xs := xs) (tl := tC (.ref a)) (j := j) (vs := [j]) (fun _ => true) ys ev_c e hz (wipe_one σ j) (fun i x H1 _ _ => fun H2 _ Q q => q H2 (Ex.refl H2)) (fun i x H1 e1 hi _ => he i x H1 e1 hi)
  refine z H (Ex.refl H) Q fun p H2 hp e2 h2 => k p H2 hp e2 ?_
  rw [given_true] at h2
  exact h2
theorem lc_R1 {n : Nat} (hz : n ≤ 40000) (ys : Nat → V) (he : ∀ (i : Nat) H1, Ex H H1 → i < n → Ev te ((σ.set j none).set j (some (.int ((i : Nat) : Int)))) H1 (ys i))
    (k : ∀ p H1, H p = none → Ex H H1 → H1 p = some (.lst ((List.range n).map ys)) → Q (.ref p) H1) : rLcR1 (gName j) tYes te [j] σ Q [.int ((n : Nat) : Int)] H := by
  have z := el_lcR1 (σ := σ) (H := H) (te := te) (t := tYes) (ta := fun _ H Q => Q [.int ((n : Nat) : Int)] H) (j := j) (vs := [j]) (n := ((n : Nat) : Int)) (fun _ => true) ys (fun H1 _ Q q => q H1 (Ex.refl H1)) ⟨by omega, by omega⟩ (wipe_one σ j) (fun i H1 _ _ => fun H2 _ Q q => q H2 (Ex.refl H2))
    (fun i H1 e1 hi _ => he i H1 e1 (by omega))
  refine z H (Ex.refl H) Q fun p H2 hp e2 h2 => k p H2 hp e2 ?_
  rw [given_true] at h2
  simpa using h2
theorem rd_chain {r r' : R2} {ta tb' tc : TE} (h : ta σ H fun x H1 => tb' σ H1 fun y H2 => r x y H2 fun z H3 => ∃ k, z = .bl k ∧ if k = true then tc σ H3 fun w H4 => r' y w H4 Q else Q (.bl false) H3) : tChain r r' ta tb' tc σ H Q := h
theorem rd_pop {n : String} {r : V → List V → Hp → VK → Prop} (h : tx σ H fun x H1 => tyV K n x H1 ∧ tl σ H1 fun us H2 => r x us H2 Q) : tBM K n r tx tl σ H Q := h
end
end L2

namespace Rc
open PySem L2 Evl
/-! ### what kind of thing a value is -/
def wholeV : V → Bool
  | .int i => decide (0 ≤ i)
  | _ => false
def isI : V → Bool
  | .int _ => true
  | _ => false
/-- a value whose kind isinstance can tell: whether it is an int, no bool -/
def Knd (K : PySem.W.Frag) (H : Hp) (v : V) : Prop := ∃ n bi bb, TyX K H v (.type n) ∧ kitB n "int" = some bi ∧ kitB n "bool" = some bb ∧ (bi && !bb) = isI v
section
variable {K : PySem.W.Frag} {H : Hp} {a : Addr}
theorem knd_int (i : Int) : Knd K H (.int i) := ⟨"int", true, false, .base (.int i), by decide +kernel, by decide +kernel, rfl⟩
theorem knd_bl (b : Bool) : Knd K H (.bl b) := ⟨"bool", true, true, .base (.bl b), by decide +kernel, by decide +kernel, rfl⟩
theorem knd_non : Knd K H .non := ⟨"NoneType", false, false, .base .non, by decide +kernel, by decide +kernel, rfl⟩
theorem knd_str (x : Str) : Knd K H (.str x) := ⟨"str", false, false, .base (.str x), by decide +kernel, by decide +kernel, rfl⟩
theorem knd_lst {xs : List V} (h : H a = some (.lst xs)) : Knd K H (.ref a) := ⟨"list", false, false, .base (.lst h), by decide +kernel, by decide +kernel, rfl⟩
theorem knd_tup {xs : List V} (h : H a = some (.tup xs)) : Knd K H (.ref a) := ⟨"tuple", false, false, .base (.tup h), by decide +kernel, by decide +kernel, rfl⟩
theorem knd_dK {kvs : List (Key × V)} (h : H a = some (.dK kvs)) : Knd K H (.ref a) := ⟨"dict", false, false, .base (.dK h), by decide +kernel, by decide +kernel, rfl⟩
theorem whole_isI {v : V} (h : isI v = false) : wholeV v = false := by cases v <;> first | rfl | cases h
theorem isI_int {v : V} (h : isI v = true) : ∃ i, v = .int i := by cases v <;> first | exact ⟨_, rfl⟩ | cases h
end
/-- is_whole(thing) -/
def spWhole (K : PySem.W.Frag) : Sp := fun vs H Q _ => ∃ v, vs = [v] ∧ Knd K H v ∧ Q (.bl (wholeV v)) H
/-- _law_whole(found) -/
def spInt (K : PySem.W.Frag) : Sp := fun vs H Q _ => ∃ v, vs = [v] ∧ Knd K H v ∧ Q (.bl (isI v)) H
/-- _law_cell_at(script, k) -/
def cell (ns : List Int) (k : Nat) : Int := ns.getD k 0
def spCell (K : PySem.W.Frag) : Sp := fun vs H Q _ => ∃ a ns k, vs = [.ref a, .int ((k : Nat) : Int)] ∧ SqL K H a (ns.map V.int) ∧ Q (.int (cell ns k)) H
end Rc
namespace Rc
open PySem L2 Evl
def top (i : Nat) : Stmt := PySem.Challenge.pw_ringcrown_k01_bounds.main.body.getD i (.Pass ⟨0, 0, 0, 0⟩)
abbrev s_is_whole : Stmt := top 8
abbrev s_bound : Stmt := top 10
abbrev s__law_cell_at : Stmt := top 12
abbrev s__law_whole : Stmt := top 13
abbrev s__law_due : Stmt := top 14
abbrev s__law_refused : Stmt := top 15
abbrev s_law : Stmt := top 16
/-- where the defs and classes stand -/
structure Adr where
  c_RingError : Addr
  c_BadRing : Addr
  c_NoHand : Addr
  c_NoMail : Addr
  c_BadCount : Addr
  f_is_whole : Addr
  fd_is_whole : FuncData
  f_bound : Addr
  fd_bound : FuncData
  f__law_cell_at : Addr
  fd__law_cell_at : FuncData
  f__law_whole : Addr
  fd__law_whole : FuncData
  f__law_due : Addr
  fd__law_due : FuncData
  f__law_refused : Addr
  fd__law_refused : FuncData
  f_law : Addr
  fd_law : FuncData
/-- what the top has written -/
structure Txt (K : PySem.W.Frag) (mg : Str → Option Value) (A : Adr) : Prop where
  no_ValueError : mg "ValueError" = none
  no_abs : mg "abs" = none
  no_bool : mg "bool" = none
  no_int : mg "int" = none
  no_isinstance : mg "isinstance" = none
  no_len : mg "len" = none
  no_range : mg "range" = none
  mg_MOST_HANDS : ∃ t, mg "MOST_HANDS" = some (.int (64) t)
  mg_RingError : mg "RingError" = some (.ref A.c_RingError)
  x_RingError : XCls K A.c_RingError
  mg_BadRing : mg "BadRing" = some (.ref A.c_BadRing)
  x_BadRing : XCls K A.c_BadRing
  mg_NoHand : mg "NoHand" = some (.ref A.c_NoHand)
  x_NoHand : XCls K A.c_NoHand
  mg_NoMail : mg "NoMail" = some (.ref A.c_NoMail)
  x_NoMail : XCls K A.c_NoMail
  mg_BadCount : mg "BadCount" = some (.ref A.c_BadCount)
  x_BadCount : XCls K A.c_BadCount
  sub_RingError_RingError : PySem.W.subIn K (.ref A.c_RingError) (.ref A.c_RingError) = some true
  sub_RingError_BadRing : PySem.W.subIn K (.ref A.c_RingError) (.ref A.c_BadRing) = some false
  ne_RingError_BadRing : A.c_RingError ≠ A.c_BadRing
  sub_RingError_NoHand : PySem.W.subIn K (.ref A.c_RingError) (.ref A.c_NoHand) = some false
  ne_RingError_NoHand : A.c_RingError ≠ A.c_NoHand
  sub_RingError_NoMail : PySem.W.subIn K (.ref A.c_RingError) (.ref A.c_NoMail) = some false
  ne_RingError_NoMail : A.c_RingError ≠ A.c_NoMail
  sub_RingError_BadCount : PySem.W.subIn K (.ref A.c_RingError) (.ref A.c_BadCount) = some false
  ne_RingError_BadCount : A.c_RingError ≠ A.c_BadCount
  sub_BadRing_RingError : PySem.W.subIn K (.ref A.c_BadRing) (.ref A.c_RingError) = some true
  ne_BadRing_RingError : A.c_BadRing ≠ A.c_RingError
  sub_BadRing_BadRing : PySem.W.subIn K (.ref A.c_BadRing) (.ref A.c_BadRing) = some true
  sub_BadRing_NoHand : PySem.W.subIn K (.ref A.c_BadRing) (.ref A.c_NoHand) = some false
  ne_BadRing_NoHand : A.c_BadRing ≠ A.c_NoHand
  sub_BadRing_NoMail : PySem.W.subIn K (.ref A.c_BadRing) (.ref A.c_NoMail) = some false
  ne_BadRing_NoMail : A.c_BadRing ≠ A.c_NoMail
  sub_BadRing_BadCount : PySem.W.subIn K (.ref A.c_BadRing) (.ref A.c_BadCount) = some false
  ne_BadRing_BadCount : A.c_BadRing ≠ A.c_BadCount
  sub_NoHand_RingError : PySem.W.subIn K (.ref A.c_NoHand) (.ref A.c_RingError) = some true
  ne_NoHand_RingError : A.c_NoHand ≠ A.c_RingError
  sub_NoHand_BadRing : PySem.W.subIn K (.ref A.c_NoHand) (.ref A.c_BadRing) = some false
  ne_NoHand_BadRing : A.c_NoHand ≠ A.c_BadRing
  sub_NoHand_NoHand : PySem.W.subIn K (.ref A.c_NoHand) (.ref A.c_NoHand) = some true
  sub_NoHand_NoMail : PySem.W.subIn K (.ref A.c_NoHand) (.ref A.c_NoMail) = some false
  ne_NoHand_NoMail : A.c_NoHand ≠ A.c_NoMail
  sub_NoHand_BadCount : PySem.W.subIn K (.ref A.c_NoHand) (.ref A.c_BadCount) = some false
  ne_NoHand_BadCount : A.c_NoHand ≠ A.c_BadCount
  sub_NoMail_RingError : PySem.W.subIn K (.ref A.c_NoMail) (.ref A.c_RingError) = some true
  ne_NoMail_RingError : A.c_NoMail ≠ A.c_RingError
  sub_NoMail_BadRing : PySem.W.subIn K (.ref A.c_NoMail) (.ref A.c_BadRing) = some false
  ne_NoMail_BadRing : A.c_NoMail ≠ A.c_BadRing
  sub_NoMail_NoHand : PySem.W.subIn K (.ref A.c_NoMail) (.ref A.c_NoHand) = some false
  ne_NoMail_NoHand : A.c_NoMail ≠ A.c_NoHand
  sub_NoMail_NoMail : PySem.W.subIn K (.ref A.c_NoMail) (.ref A.c_NoMail) = some true
  sub_NoMail_BadCount : PySem.W.subIn K (.ref A.c_NoMail) (.ref A.c_BadCount) = some false
  ne_NoMail_BadCount : A.c_NoMail ≠ A.c_BadCount
  sub_BadCount_RingError : PySem.W.subIn K (.ref A.c_BadCount) (.ref A.c_RingError) = some true
  ne_BadCount_RingError : A.c_BadCount ≠ A.c_RingError
  sub_BadCount_BadRing : PySem.W.subIn K (.ref A.c_BadCount) (.ref A.c_BadRing) = some false
  ne_BadCount_BadRing : A.c_BadCount ≠ A.c_BadRing
  sub_BadCount_NoHand : PySem.W.subIn K (.ref A.c_BadCount) (.ref A.c_NoHand) = some false
  ne_BadCount_NoHand : A.c_BadCount ≠ A.c_NoHand
  sub_BadCount_NoMail : PySem.W.subIn K (.ref A.c_BadCount) (.ref A.c_NoMail) = some false
  ne_BadCount_NoMail : A.c_BadCount ≠ A.c_NoMail
  sub_BadCount_BadCount : PySem.W.subIn K (.ref A.c_BadCount) (.ref A.c_BadCount) = some true
  fun_is_whole : Fun K "is_whole" "is_whole" s_is_whole A.f_is_whole A.fd_is_whole
  b_is_whole : Binds K A.fd_is_whole ["thing"] []
  mg_is_whole : mg "is_whole" = some (.ref A.f_is_whole)
  fun_bound : Fun K "bound" "bound" s_bound A.f_bound A.fd_bound
  b_bound : Binds K A.fd_bound ["many"] []
  mg_bound : mg "bound" = some (.ref A.f_bound)
  fun__law_cell_at : Fun K "_law_cell_at" "_law_cell_at" s__law_cell_at A.f__law_cell_at A.fd__law_cell_at
  b__law_cell_at : Binds K A.fd__law_cell_at ["_law_script", "_law_k"] []
  mg__law_cell_at : mg "_law_cell_at" = some (.ref A.f__law_cell_at)
  fun__law_whole : Fun K "_law_whole" "_law_whole" s__law_whole A.f__law_whole A.fd__law_whole
  b__law_whole : Binds K A.fd__law_whole ["_law_found"] []
  mg__law_whole : mg "_law_whole" = some (.ref A.f__law_whole)
  fun__law_due : Fun K "_law_due" "_law_due" s__law_due A.f__law_due A.fd__law_due
  b__law_due : Binds K A.fd__law_due ["_law_many"] []
  mg__law_due : mg "_law_due" = some (.ref A.f__law_due)
  fun__law_refused : Fun K "_law_refused" "_law_refused" s__law_refused A.f__law_refused A.fd__law_refused
  b__law_refused : Binds K A.fd__law_refused ["_law_thing"] []
  mg__law_refused : mg "_law_refused" = some (.ref A.f__law_refused)
  fun_law : Fun K "law" "law" s_law A.f_law A.fd_law
  b_law : Binds K A.fd_law ["_law_script"] []
  mg_law : mg "law" = some (.ref A.f_law)
theorem mkTxt {K : PySem.W.Frag} {h : Heap} {mg : Str → Option Value} {c_RingError c_BadRing c_NoHand c_NoMail c_BadCount f_is_whole f_bound f__law_cell_at f__law_whole f__law_due f__law_refused f_law : Addr} (X : K.In h) (G : h.Ns mainGlobals mg)
    {od5 an5 : Option Addr} {sl5 : Array (Option Value)} {oc5 kV5 dc5 pm5 cd5 ct5 : Value}
    {od6 an6 : Option Addr} {sl6 : Array (Option Value)} {oc6 kV6 dc6 pm6 cd6 ct6 : Value}
    {od7 an7 : Option Addr} {sl7 : Array (Option Value)} {oc7 kV7 dc7 pm7 cd7 ct7 : Value}
    {od8 an8 : Option Addr} {sl8 : Array (Option Value)} {oc8 kV8 dc8 pm8 cd8 ct8 : Value}
    {od9 an9 : Option Addr} {sl9 : Array (Option Value)} {oc9 kV9 dc9 pm9 cd9 ct9 : Value}
    {od10 an10 : Option Addr} {sl10 : Array (Option Value)} {oc10 kV10 dc10 pm10 cd10 ct10 : Value}
    {od11 an11 : Option Addr} {sl11 : Array (Option Value)} {oc11 kV11 dc11 pm11 cd11 ct11 : Value}
    {tc49 : Tok}
    (g0 : PySem.W.nsIn K mainGlobals "RingError" = some (some (.ref c_RingError)))
    (g1 : PySem.W.nsIn K mainGlobals "BadRing" = some (some (.ref c_BadRing)))
    (g2 : PySem.W.nsIn K mainGlobals "NoHand" = some (some (.ref c_NoHand)))
    (g3 : PySem.W.nsIn K mainGlobals "NoMail" = some (some (.ref c_NoMail)))
    (g4 : PySem.W.nsIn K mainGlobals "BadCount" = some (some (.ref c_BadCount)))
    (a5 : PySem.W.nsIn K mainGlobals "is_whole" = some (some (.ref f_is_whole)))
    (l5 : K.lookup f_is_whole = some ⟨oc5, od5, .func (PySem.W.fnOf "is_whole" "is_whole" (defArgs s_is_whole) (defBody s_is_whole) (defScope s_is_whole) .none kV5 dc5 pm5 an5 cd5 ct5), sl5⟩)
    (d5 : PySem.W.codeIn K cd5 "is_whole" = true)
    (k5 : PySem.W.keepIn K (.ref f_is_whole) = true)
    (a6 : PySem.W.nsIn K mainGlobals "bound" = some (some (.ref f_bound)))
    (l6 : K.lookup f_bound = some ⟨oc6, od6, .func (PySem.W.fnOf "bound" "bound" (defArgs s_bound) (defBody s_bound) (defScope s_bound) .none kV6 dc6 pm6 an6 cd6 ct6), sl6⟩)
    (d6 : PySem.W.codeIn K cd6 "bound" = true)
    (k6 : PySem.W.keepIn K (.ref f_bound) = true)
    (a7 : PySem.W.nsIn K mainGlobals "_law_cell_at" = some (some (.ref f__law_cell_at)))
    (l7 : K.lookup f__law_cell_at = some ⟨oc7, od7, .func (PySem.W.fnOf "_law_cell_at" "_law_cell_at" (defArgs s__law_cell_at) (defBody s__law_cell_at) (defScope s__law_cell_at) .none kV7 dc7 pm7 an7 cd7 ct7), sl7⟩)
    (d7 : PySem.W.codeIn K cd7 "_law_cell_at" = true)
    (k7 : PySem.W.keepIn K (.ref f__law_cell_at) = true)
    (a8 : PySem.W.nsIn K mainGlobals "_law_whole" = some (some (.ref f__law_whole)))
    (l8 : K.lookup f__law_whole = some ⟨oc8, od8, .func (PySem.W.fnOf "_law_whole" "_law_whole" (defArgs s__law_whole) (defBody s__law_whole) (defScope s__law_whole) .none kV8 dc8 pm8 an8 cd8 ct8), sl8⟩)
    (d8 : PySem.W.codeIn K cd8 "_law_whole" = true)
    (k8 : PySem.W.keepIn K (.ref f__law_whole) = true)
    (a9 : PySem.W.nsIn K mainGlobals "_law_due" = some (some (.ref f__law_due)))
    (l9 : K.lookup f__law_due = some ⟨oc9, od9, .func (PySem.W.fnOf "_law_due" "_law_due" (defArgs s__law_due) (defBody s__law_due) (defScope s__law_due) .none kV9 dc9 pm9 an9 cd9 ct9), sl9⟩)
    (d9 : PySem.W.codeIn K cd9 "_law_due" = true)
    (k9 : PySem.W.keepIn K (.ref f__law_due) = true)
    (a10 : PySem.W.nsIn K mainGlobals "_law_refused" = some (some (.ref f__law_refused)))
    (l10 : K.lookup f__law_refused = some ⟨oc10, od10, .func (PySem.W.fnOf "_law_refused" "_law_refused" (defArgs s__law_refused) (defBody s__law_refused) (defScope s__law_refused) .none kV10 dc10 pm10 an10 cd10 ct10), sl10⟩)
    (d10 : PySem.W.codeIn K cd10 "_law_refused" = true)
    (k10 : PySem.W.keepIn K (.ref f__law_refused) = true)
    (a11 : PySem.W.nsIn K mainGlobals "law" = some (some (.ref f_law)))
    (l11 : K.lookup f_law = some ⟨oc11, od11, .func (PySem.W.fnOf "law" "law" (defArgs s_law) (defBody s_law) (defScope s_law) .none kV11 dc11 pm11 an11 cd11 ct11), sl11⟩)
    (d11 : PySem.W.codeIn K cd11 "law" = true)
    (k11 : PySem.W.keepIn K (.ref f_law) = true)
    (x12 : PySem.W.excIn K c_RingError [.type "ValueError", .type "Exception", .type "BaseException", .type "object"] "ValueError.__new__" = true)
    (k12 : PySem.W.keepIn K (.ref c_RingError) = true)
    (b12 : PySem.W.subIn K (.ref c_RingError) (.type "BaseException") = some true)
    (t12 : PySem.W.typeIn K (.ref c_RingError) = some (.type "type"))
    (i12 : PySem.W.isClsIn K c_RingError = true)
    (h12 : PySem.W.hasDictIn K c_RingError = true)
    (v12 : PySem.W.subIn K (.ref c_RingError) (.type "ValueError") = some true)
    (ga12 : PySem.W.findIn K (.ref c_RingError) "__getattribute__" = some (some (.builtin "BaseException.__getattribute__")))
    (gg12 : PySem.W.findIn K (.ref c_RingError) "__getattr__" = some none)
    (ca12 : PySem.W.findIn K (.ref c_RingError) "__class__" = some (some (.builtin "object.__class__")))
    (mo12 : PySem.W.mroIn K c_RingError (.type "object") = some true)
    (x13 : PySem.W.excIn K c_BadRing [.type "ValueError", .type "Exception", .type "BaseException", .type "object"] "ValueError.__new__" = true)
    (k13 : PySem.W.keepIn K (.ref c_BadRing) = true)
    (b13 : PySem.W.subIn K (.ref c_BadRing) (.type "BaseException") = some true)
    (t13 : PySem.W.typeIn K (.ref c_BadRing) = some (.type "type"))
    (i13 : PySem.W.isClsIn K c_BadRing = true)
    (h13 : PySem.W.hasDictIn K c_BadRing = true)
    (v13 : PySem.W.subIn K (.ref c_BadRing) (.type "ValueError") = some true)
    (ga13 : PySem.W.findIn K (.ref c_BadRing) "__getattribute__" = some (some (.builtin "BaseException.__getattribute__")))
    (gg13 : PySem.W.findIn K (.ref c_BadRing) "__getattr__" = some none)
    (ca13 : PySem.W.findIn K (.ref c_BadRing) "__class__" = some (some (.builtin "object.__class__")))
    (mo13 : PySem.W.mroIn K c_BadRing (.type "object") = some true)
    (x14 : PySem.W.excIn K c_NoHand [.type "ValueError", .type "Exception", .type "BaseException", .type "object"] "ValueError.__new__" = true)
    (k14 : PySem.W.keepIn K (.ref c_NoHand) = true)
    (b14 : PySem.W.subIn K (.ref c_NoHand) (.type "BaseException") = some true)
    (t14 : PySem.W.typeIn K (.ref c_NoHand) = some (.type "type"))
    (i14 : PySem.W.isClsIn K c_NoHand = true)
    (h14 : PySem.W.hasDictIn K c_NoHand = true)
    (v14 : PySem.W.subIn K (.ref c_NoHand) (.type "ValueError") = some true)
    (ga14 : PySem.W.findIn K (.ref c_NoHand) "__getattribute__" = some (some (.builtin "BaseException.__getattribute__")))
    (gg14 : PySem.W.findIn K (.ref c_NoHand) "__getattr__" = some none)
    (ca14 : PySem.W.findIn K (.ref c_NoHand) "__class__" = some (some (.builtin "object.__class__")))
    (mo14 : PySem.W.mroIn K c_NoHand (.type "object") = some true)
    (x15 : PySem.W.excIn K c_NoMail [.type "ValueError", .type "Exception", .type "BaseException", .type "object"] "ValueError.__new__" = true)
    (k15 : PySem.W.keepIn K (.ref c_NoMail) = true)
    (b15 : PySem.W.subIn K (.ref c_NoMail) (.type "BaseException") = some true)
    (t15 : PySem.W.typeIn K (.ref c_NoMail) = some (.type "type"))
    (i15 : PySem.W.isClsIn K c_NoMail = true)
    (h15 : PySem.W.hasDictIn K c_NoMail = true)
    (v15 : PySem.W.subIn K (.ref c_NoMail) (.type "ValueError") = some true)
    (ga15 : PySem.W.findIn K (.ref c_NoMail) "__getattribute__" = some (some (.builtin "BaseException.__getattribute__")))
    (gg15 : PySem.W.findIn K (.ref c_NoMail) "__getattr__" = some none)
    (ca15 : PySem.W.findIn K (.ref c_NoMail) "__class__" = some (some (.builtin "object.__class__")))
    (mo15 : PySem.W.mroIn K c_NoMail (.type "object") = some true)
    (x16 : PySem.W.excIn K c_BadCount [.type "ValueError", .type "Exception", .type "BaseException", .type "object"] "ValueError.__new__" = true)
    (k16 : PySem.W.keepIn K (.ref c_BadCount) = true)
    (b16 : PySem.W.subIn K (.ref c_BadCount) (.type "BaseException") = some true)
    (t16 : PySem.W.typeIn K (.ref c_BadCount) = some (.type "type"))
    (i16 : PySem.W.isClsIn K c_BadCount = true)
    (h16 : PySem.W.hasDictIn K c_BadCount = true)
    (v16 : PySem.W.subIn K (.ref c_BadCount) (.type "ValueError") = some true)
    (ga16 : PySem.W.findIn K (.ref c_BadCount) "__getattribute__" = some (some (.builtin "BaseException.__getattribute__")))
    (gg16 : PySem.W.findIn K (.ref c_BadCount) "__getattr__" = some none)
    (ca16 : PySem.W.findIn K (.ref c_BadCount) "__class__" = some (some (.builtin "object.__class__")))
    (mo16 : PySem.W.mroIn K c_BadCount (.type "object") = some true)
    (sp1 : PySem.W.specialIn K (.builtin "object.__class__") "__get__" = some (some (.builtin "getset_descriptor.__get__")))
    (tk1 : PySem.W.takesIn K (.builtin "object.__class__") = some true)
    (u17 : PySem.W.subIn K (.ref c_RingError) (.ref c_RingError) = some true)
    (u18 : PySem.W.subIn K (.ref c_RingError) (.ref c_BadRing) = some false)
    (w18 : c_RingError ≠ c_BadRing)
    (u19 : PySem.W.subIn K (.ref c_RingError) (.ref c_NoHand) = some false)
    (w19 : c_RingError ≠ c_NoHand)
    (u20 : PySem.W.subIn K (.ref c_RingError) (.ref c_NoMail) = some false)
    (w20 : c_RingError ≠ c_NoMail)
    (u21 : PySem.W.subIn K (.ref c_RingError) (.ref c_BadCount) = some false)
    (w21 : c_RingError ≠ c_BadCount)
    (u22 : PySem.W.subIn K (.ref c_BadRing) (.ref c_RingError) = some true)
    (w22 : c_BadRing ≠ c_RingError)
    (u23 : PySem.W.subIn K (.ref c_BadRing) (.ref c_BadRing) = some true)
    (u24 : PySem.W.subIn K (.ref c_BadRing) (.ref c_NoHand) = some false)
    (w24 : c_BadRing ≠ c_NoHand)
    (u25 : PySem.W.subIn K (.ref c_BadRing) (.ref c_NoMail) = some false)
    (w25 : c_BadRing ≠ c_NoMail)
    (u26 : PySem.W.subIn K (.ref c_BadRing) (.ref c_BadCount) = some false)
    (w26 : c_BadRing ≠ c_BadCount)
    (u27 : PySem.W.subIn K (.ref c_NoHand) (.ref c_RingError) = some true)
    (w27 : c_NoHand ≠ c_RingError)
    (u28 : PySem.W.subIn K (.ref c_NoHand) (.ref c_BadRing) = some false)
    (w28 : c_NoHand ≠ c_BadRing)
    (u29 : PySem.W.subIn K (.ref c_NoHand) (.ref c_NoHand) = some true)
    (u30 : PySem.W.subIn K (.ref c_NoHand) (.ref c_NoMail) = some false)
    (w30 : c_NoHand ≠ c_NoMail)
    (u31 : PySem.W.subIn K (.ref c_NoHand) (.ref c_BadCount) = some false)
    (w31 : c_NoHand ≠ c_BadCount)
    (u32 : PySem.W.subIn K (.ref c_NoMail) (.ref c_RingError) = some true)
    (w32 : c_NoMail ≠ c_RingError)
    (u33 : PySem.W.subIn K (.ref c_NoMail) (.ref c_BadRing) = some false)
    (w33 : c_NoMail ≠ c_BadRing)
    (u34 : PySem.W.subIn K (.ref c_NoMail) (.ref c_NoHand) = some false)
    (w34 : c_NoMail ≠ c_NoHand)
    (u35 : PySem.W.subIn K (.ref c_NoMail) (.ref c_NoMail) = some true)
    (u36 : PySem.W.subIn K (.ref c_NoMail) (.ref c_BadCount) = some false)
    (w36 : c_NoMail ≠ c_BadCount)
    (u37 : PySem.W.subIn K (.ref c_BadCount) (.ref c_RingError) = some true)
    (w37 : c_BadCount ≠ c_RingError)
    (u38 : PySem.W.subIn K (.ref c_BadCount) (.ref c_BadRing) = some false)
    (w38 : c_BadCount ≠ c_BadRing)
    (u39 : PySem.W.subIn K (.ref c_BadCount) (.ref c_NoHand) = some false)
    (w39 : c_BadCount ≠ c_NoHand)
    (u40 : PySem.W.subIn K (.ref c_BadCount) (.ref c_NoMail) = some false)
    (w40 : c_BadCount ≠ c_NoMail)
    (u41 : PySem.W.subIn K (.ref c_BadCount) (.ref c_BadCount) = some true)
    (z42 : PySem.W.nsIn K mainGlobals "ValueError" = some none)
    (z43 : PySem.W.nsIn K mainGlobals "abs" = some none)
    (z44 : PySem.W.nsIn K mainGlobals "bool" = some none)
    (z45 : PySem.W.nsIn K mainGlobals "int" = some none)
    (z46 : PySem.W.nsIn K mainGlobals "isinstance" = some none)
    (z47 : PySem.W.nsIn K mainGlobals "len" = some none)
    (z48 : PySem.W.nsIn K mainGlobals "range" = some none)
    (c49 : PySem.W.nsIn K mainGlobals "MOST_HANDS" = some (some (.int (64) tc49))) :
    ∃ A : Adr, Txt K mg A := by
  refine ⟨⟨c_RingError, c_BadRing, c_NoHand, c_NoMail, c_BadCount, f_is_whole, PySem.W.fnOf "is_whole" "is_whole" (defArgs s_is_whole) (defBody s_is_whole) (defScope s_is_whole) .none kV5 dc5 pm5 an5 cd5 ct5, f_bound, PySem.W.fnOf "bound" "bound" (defArgs s_bound) (defBody s_bound) (defScope s_bound) .none kV6 dc6 pm6 an6 cd6 ct6, f__law_cell_at, PySem.W.fnOf "_law_cell_at" "_law_cell_at" (defArgs s__law_cell_at) (defBody s__law_cell_at) (defScope s__law_cell_at) .none kV7 dc7 pm7 an7 cd7 ct7, f__law_whole, PySem.W.fnOf "_law_whole" "_law_whole" (defArgs s__law_whole) (defBody s__law_whole) (defScope s__law_whole) .none kV8 dc8 pm8 an8 cd8 ct8, f__law_due, PySem.W.fnOf "_law_due" "_law_due" (defArgs s__law_due) (defBody s__law_due) (defScope s__law_due) .none kV9 dc9 pm9 an9 cd9 ct9, f__law_refused, PySem.W.fnOf "_law_refused" "_law_refused" (defArgs s__law_refused) (defBody s__law_refused) (defScope s__law_refused) .none kV10 dc10 pm10 an10 cd10 ct10, f_law, PySem.W.fnOf "law" "law" (defArgs s_law) (defBody s_law) (defScope s_law) .none kV11 dc11 pm11 an11 cd11 ct11⟩, ?_⟩
  exact {
    mg_RingError := PySem.W.mg_of X G g0,
    mg_BadRing := PySem.W.mg_of X G g1,
    mg_NoHand := PySem.W.mg_of X G g2,
    mg_NoMail := PySem.W.mg_of X G g3,
    mg_BadCount := PySem.W.mg_of X G g4,
    mg_is_whole := PySem.W.mg_of X G a5,
    fun_is_whole := fun_mk (st := s_is_whole) l5 d5 k5,
    b_is_whole := (fun_mk (st := s_is_whole) l5 d5 k5).binds (ps := ["thing"]) fun _ _ _ _ _ _ us hl => match us, hl with | [_], _ => rfl,
    mg_bound := PySem.W.mg_of X G a6,
    fun_bound := fun_mk (st := s_bound) l6 d6 k6,
    b_bound := (fun_mk (st := s_bound) l6 d6 k6).binds (ps := ["many"]) fun _ _ _ _ _ _ us hl => match us, hl with | [_], _ => rfl,
    mg__law_cell_at := PySem.W.mg_of X G a7,
    fun__law_cell_at := fun_mk (st := s__law_cell_at) l7 d7 k7,
    b__law_cell_at := (fun_mk (st := s__law_cell_at) l7 d7 k7).binds (ps := ["_law_script", "_law_k"]) fun _ _ _ _ _ _ us hl => match us, hl with | [_, _], _ => rfl,
    mg__law_whole := PySem.W.mg_of X G a8,
    fun__law_whole := fun_mk (st := s__law_whole) l8 d8 k8,
    b__law_whole := (fun_mk (st := s__law_whole) l8 d8 k8).binds (ps := ["_law_found"]) fun _ _ _ _ _ _ us hl => match us, hl with | [_], _ => rfl,
    mg__law_due := PySem.W.mg_of X G a9,
    fun__law_due := fun_mk (st := s__law_due) l9 d9 k9,
    b__law_due := (fun_mk (st := s__law_due) l9 d9 k9).binds (ps := ["_law_many"]) fun _ _ _ _ _ _ us hl => match us, hl with | [_], _ => rfl,
    mg__law_refused := PySem.W.mg_of X G a10,
    fun__law_refused := fun_mk (st := s__law_refused) l10 d10 k10,
    b__law_refused := (fun_mk (st := s__law_refused) l10 d10 k10).binds (ps := ["_law_thing"]) fun _ _ _ _ _ _ us hl => match us, hl with | [_], _ => rfl,
    mg_law := PySem.W.mg_of X G a11,
    fun_law := fun_mk (st := s_law) l11 d11 k11,
    b_law := (fun_mk (st := s_law) l11 d11 k11).binds (ps := ["_law_script"]) fun _ _ _ _ _ _ us hl => match us, hl with | [_], _ => rfl,
    x_RingError := ⟨x12, k12, b12, t12, i12, v12, ⟨ga12, gg12, b12, h12, ca12, sp1, tk1, mo12⟩⟩,
    x_BadRing := ⟨x13, k13, b13, t13, i13, v13, ⟨ga13, gg13, b13, h13, ca13, sp1, tk1, mo13⟩⟩,
    x_NoHand := ⟨x14, k14, b14, t14, i14, v14, ⟨ga14, gg14, b14, h14, ca14, sp1, tk1, mo14⟩⟩,
    x_NoMail := ⟨x15, k15, b15, t15, i15, v15, ⟨ga15, gg15, b15, h15, ca15, sp1, tk1, mo15⟩⟩,
    x_BadCount := ⟨x16, k16, b16, t16, i16, v16, ⟨ga16, gg16, b16, h16, ca16, sp1, tk1, mo16⟩⟩,
    sub_RingError_RingError := u17,
    sub_RingError_BadRing := u18,
    ne_RingError_BadRing := w18,
    sub_RingError_NoHand := u19,
    ne_RingError_NoHand := w19,
    sub_RingError_NoMail := u20,
    ne_RingError_NoMail := w20,
    sub_RingError_BadCount := u21,
    ne_RingError_BadCount := w21,
    sub_BadRing_RingError := u22,
    ne_BadRing_RingError := w22,
    sub_BadRing_BadRing := u23,
    sub_BadRing_NoHand := u24,
    ne_BadRing_NoHand := w24,
    sub_BadRing_NoMail := u25,
    ne_BadRing_NoMail := w25,
    sub_BadRing_BadCount := u26,
    ne_BadRing_BadCount := w26,
    sub_NoHand_RingError := u27,
    ne_NoHand_RingError := w27,
    sub_NoHand_BadRing := u28,
    ne_NoHand_BadRing := w28,
    sub_NoHand_NoHand := u29,
    sub_NoHand_NoMail := u30,
    ne_NoHand_NoMail := w30,
    sub_NoHand_BadCount := u31,
    ne_NoHand_BadCount := w31,
    sub_NoMail_RingError := u32,
    ne_NoMail_RingError := w32,
    sub_NoMail_BadRing := u33,
    ne_NoMail_BadRing := w33,
    sub_NoMail_NoHand := u34,
    ne_NoMail_NoHand := w34,
    sub_NoMail_NoMail := u35,
    sub_NoMail_BadCount := u36,
    ne_NoMail_BadCount := w36,
    sub_BadCount_RingError := u37,
    ne_BadCount_RingError := w37,
    sub_BadCount_BadRing := u38,
    ne_BadCount_BadRing := w38,
    sub_BadCount_NoHand := u39,
    ne_BadCount_NoHand := w39,
    sub_BadCount_NoMail := u40,
    ne_BadCount_NoMail := w40,
    sub_BadCount_BadCount := u41,
    no_ValueError := PySem.W.mg_none_of X G z42,
    no_abs := PySem.W.mg_none_of X G z43,
    no_bool := PySem.W.mg_none_of X G z44,
    no_int := PySem.W.mg_none_of X G z45,
    no_isinstance := PySem.W.mg_none_of X G z46,
    no_len := PySem.W.mg_none_of X G z47,
    no_range := PySem.W.mg_none_of X G z48,
    mg_MOST_HANDS := ⟨_, PySem.W.mg_of X G c49⟩ }
local macro_rules | `(tactic| walk_at "rd1") => `(tactic| first
  | (with_reducible refine rd_seq ?_)
  | (with_reducible refine rd_asg ?_)
  | (with_reducible refine rd_if ?_)
  | ((with_reducible refine' rd_var ?e ?_); (case e => rfl))
  | (with_reducible refine rd_c ?_)
  | (with_reducible refine rd_op ?_)
  | (with_reducible refine rd_I0 ?_)
  | ((with_reducible refine rd_I ?e ?_); case e => first | exact (show (0 : Int) < _ by decide) | exact (show _ ∧ _ from ⟨by decide, by decide⟩) | exact Or.inl ⟨by decide, by decide⟩ | exact Or.inr ⟨by decide, by decide⟩)
  | (with_reducible refine rd_eqI ?_)
  | (with_reducible refine rd_neI ?_)
  | (with_reducible refine rd_bl ?_)
  | (with_reducible refine rd_test ?_)
  | (with_reducible refine rd_and ?_)
  | (with_reducible refine rd_or ?_)
  | (with_reducible refine rd_not ?_)
  | (with_reducible refine rd_andV ?_)
  | (with_reducible refine rd_orV ?_)
  | (with_reducible refine rd_notV ?_)
  | (with_reducible refine rd_B ?_)
  | (with_reducible refine rd_ifE ?_)
  | (with_reducible refine rd_cons ?_)
  | (with_reducible refine rd_nil ?_)
  | (with_reducible refine rd_CB ?_)
  | (with_reducible refine rd_call ?_)
  | (with_reducible refine rd_callS ?_)
  | (with_reducible refine rd_meth ?_)
  | (with_reducible refine rd_mk ?_)
  | (with_reducible refine rd_lst ?_)
  | (with_reducible refine rd_tup ?_)
  | (with_reducible refine rd_un ?_)
  | (with_reducible refine rd_U ?_)
  | (with_reducible refine rd_tFld ?_)
  | (with_reducible refine rd_sFld ?_)
  | (with_reducible refine rd_methW ?_)
  | (with_reducible refine rd_abs ?_)
  | (with_reducible refine rd_int1 ?_)
  | (with_reducible refine rd_isNo ?_)
  | (with_reducible refine rd_notNo ?_)
  | (with_reducible refine rd_isBo ?_)
  | (with_reducible refine rd_notBo ?_)
  | (with_reducible refine rd_forL ?_)
  | (with_reducible refine rd_forT ?_)
  | (with_reducible refine rd_forR1 ?_)
  | (with_reducible refine rd_forR2 ?_)
  | (with_reducible refine rd_lcL ?_)
  | (with_reducible refine rd_lcT ?_)
  | (with_reducible refine rd_lcR1 ?_)
  | (with_reducible refine rd_chain ?_)
  | (with_reducible refine rd_ret ?_)
  | (with_reducible refine rd_retN ?_)
  | (with_reducible refine rd_drop ?_)
  | (with_reducible refine rd_next ?_)
  | (with_reducible refine rd_asgG ?_))
local macro_rules | `(tactic| walk_at "rd") => `(tactic| repeat (walk_at "rd1"))

section
variable {P : Program} {w : World} {K : PySem.W.Frag} {mg : Str → Option Value} {base : Heap} {A : Adr}
theorem sc_is_whole : FnScope ["thing"] ["thing"] (defScope s_is_whole) := ⟨rfl, rfl, rfl, by decide +kernel, rfl, by decide +kernel, by decide +kernel⟩
theorem ok_is_whole (T : Txt K mg A) : FnOk P w K mg base CX0 1 A.f_is_whole A.fd_is_whole ["thing"] (spWhole K) := by
  refine T.fun_is_whole.ok sc_is_whole (fun vs H Q E h => ?_) (fun cdv Ar outer s H vs Q E hr h => ?_)
  · obtain ⟨v, rfl, _⟩ := h
    rfl
  · obtain ⟨v, rfl, ⟨n, bi, bb, ty, k1, k2, k3⟩, q⟩ := h
    refine ⟨_, (pss_one (ps_ret (pe_and (pe_callB call_isi (by rfl) T.no_isinstance (by decide +kernel) (pa_cons (pv 0) (pa_cons (pe_bltn (v := .ty "int") (by rfl) T.no_int (by decide +kernel) rfl) pa_nil))) (pe_and (pe_not (pe_callB call_isi (by rfl) T.no_isinstance (by decide +kernel) (pa_cons (pv 0) (pa_cons (pe_bltn (v := .ty "bool") (by rfl) T.no_bool (by decide +kernel) rfl) pa_nil)))) (pe_one (pe_cmpR op_ge (pv 0) pe_int (nomark _))))))), ?_⟩
    walk_at "rd"
    refine rd_isi ty k1 ?_
    walk_at "rd"
    cases bi with
    | false =>
      refine iteF ?_
      have e : wholeV v = false := whole_isI k3.symm
      rw [e] at q
      exact q
    | true =>
      refine iteT ?_
      walk_at "rd"
      refine rd_isi ty k2 ?_
      walk_at "rd"
      cases bb with
      | true =>
        refine iteF ?_
        have e : wholeV v = false := whole_isI k3.symm
        rw [e] at q
        exact q
      | false =>
        refine iteT ?_
        obtain ⟨i, rfl⟩ := isI_int k3.symm
        walk_at "rd"
        exact q
theorem sc__law_whole : FnScope ["_law_found"] ["_law_found"] (defScope s__law_whole) := ⟨rfl, rfl, rfl, by decide +kernel, rfl, by decide +kernel, by decide +kernel⟩
theorem ok__law_whole (T : Txt K mg A) : FnOk P w K mg base CX0 1 A.f__law_whole A.fd__law_whole ["_law_found"] (spInt K) := by
  refine T.fun__law_whole.ok sc__law_whole (fun vs H Q E h => ?_) (fun cdv Ar outer s H vs Q E hr h => ?_)
  · obtain ⟨v, rfl, _⟩ := h
    rfl
  · obtain ⟨v, rfl, ⟨n, bi, bb, ty, k1, k2, k3⟩, q⟩ := h
    refine ⟨_, (pss_one (ps_ret (pe_and (pe_callB call_isi (by rfl) T.no_isinstance (by decide +kernel) (pa_cons (pv 0) (pa_cons (pe_bltn (v := .ty "int") (by rfl) T.no_int (by decide +kernel) rfl) pa_nil))) (pe_one (pe_not (pe_callB call_isi (by rfl) T.no_isinstance (by decide +kernel) (pa_cons (pv 0) (pa_cons (pe_bltn (v := .ty "bool") (by rfl) T.no_bool (by decide +kernel) rfl) pa_nil)))))))), ?_⟩
    walk_at "rd"
    refine rd_isi ty k1 ?_
    walk_at "rd"
    cases bi with
    | false =>
      refine iteF ?_
      have e : isI v = false := k3.symm
      rw [e] at q
      exact q
    | true =>
      refine iteT ?_
      walk_at "rd"
      refine rd_isi ty k2 ?_
      walk_at "rd"
      have e : isI v = !bb := k3.symm
      rw [e] at q
      exact q
theorem sc__law_cell_at : FnScope ["_law_script", "_law_k"] ["_law_script", "_law_k"] (defScope s__law_cell_at) := ⟨rfl, rfl, rfl, by decide +kernel, rfl, by decide +kernel, by decide +kernel⟩
theorem ok__law_cell_at (T : Txt K mg A) : FnOk P w K mg base CX0 1 A.f__law_cell_at A.fd__law_cell_at ["_law_script", "_law_k"] (spCell K) := by
  refine T.fun__law_cell_at.ok sc__law_cell_at (fun vs H Q E h => ?_) (fun cdv Ar outer s H vs Q E hr h => ?_)
  · obtain ⟨a, ns, k, rfl, _⟩ := h
    rfl
  · obtain ⟨a, ns, k, rfl, hS, q⟩ := h
    refine ⟨_, (pss_cons (ps_if (pt_cmpR op_lt (pv 1) (pe_callB call_lenN (by rfl) T.no_len (by decide +kernel) (pa_cons (pv 0) pa_nil)) (nomark _)) (pss_one (ps_ret (pe_ix ix_list (pv 0) (pv 1) (fun _ _ => rfl)))) pss_nil)
      (pss_one (ps_ret pe_int))), ?_⟩
    walk_at "rd"
    refine rd_len hS ?_
    walk_at "rd"
    refine rd_dec (fun e => ?_) (fun e => ?_)
    · walk_at "rd"
      have hk : k < ns.length := by rw [List.length_map] at e; omega
      have e1 : cell ns k = ns[k] := by unfold cell; rw [List.getD_eq_getElem?_getD, List.getElem?_eq_getElem hk]; rfl
      rw [e1] at q
      exact rd_ixL (k := k) (v := .int ns[k]) hS rfl (by rw [List.getElem?_map, List.getElem?_eq_getElem hk]; rfl) q
    · walk_at "rd"
      have hk : ¬ k < ns.length := by rw [List.length_map] at e; omega
      have e1 : cell ns k = 0 := by unfold cell; rw [List.getD_eq_getElem?_getD, List.getElem?_eq_none (by omega)]; rfl
      rw [e1] at q
      exact q

/-! ### bound -/
def pb (n : Nat) : Nat → Nat
  | 0 => 7 * n
  | k + 1 => pb n k + 4 * 2 ^ (k + 1) * (n / (2 ^ k + 1))
theorem pb_end : ∀ n, n < 65 → ∀ k, k < 7 → (k = 0 ∨ 2 ^ k < n) → ¬ 2 ^ (k + 1) < n → pb n k = RC.bnd n := by decide +kernel
def spBound (K : PySem.W.Frag) (A : Adr) : Sp := fun vs H Q E => ∃ v, vs = [v] ∧ Knd K H v ∧ ((∃ n : Nat, v = .int n ∧ 1 ≤ n ∧ n ≤ 64 ∧ Q (.int (RC.bnd n)) H) ∨ ((∀ n : Int, v = .int n → ¬ (1 ≤ n ∧ n ≤ 64)) ∧ E (.ref A.c_BadCount) none H))
theorem sc_bound : FnScope ["many", "found", "steps"] ["many"] (defScope s_bound) := ⟨rfl, rfl, rfl, by decide +kernel, rfl, by decide +kernel, by decide +kernel⟩
theorem ok_bound (T : Txt K mg A) (G_is_whole : FnOk P w K mg base CX0 1 A.f_is_whole A.fd_is_whole ["thing"] (spWhole K)) : FnOk P w K mg base (L2.CX P w) 2 A.f_bound A.fd_bound ["many"] (spBound K A) := by
  refine T.fun_bound.okX sc_bound (fun vs H Q E h => ?_) (fun cdv Ar outer s H vs Q E hr h => ?_)
  · obtain ⟨v, rfl, _⟩ := h
    rfl
  · obtain ⟨v, rfl, kv, k⟩ := h
    refine ⟨_, (pss_cons (ps_if (PW.pt (pw_or (pt_not (pt_val (pe_call G_is_whole (hr.mono (by decide)) rfl T.mg_is_whole T.fun_is_whole.kp T.b_is_whole .nil pass0 (pa_cons (pv 0) pa_nil)))) (pw_or1 (pt_not (pt_chain op_le op_le pe_int (pv 0) (pe_gint rfl T.mg_MOST_HANDS)))))) (pss_one (ps_raise rfl (takes_of rfl rfl rfl rfl) (pmk_own PySem.F.excBase_ValueError T.x_BadCount.xP T.mg_BadCount T.x_BadCount.kP T.x_BadCount.raises rfl))) pss_nil)
      (pss_cons (ps_set (i := 1) sc_bound.nd rfl (Or.inl rfl) (pe_op op_mul pe_int (pv 0)))
      (pss_cons (ps_set (i := 2) sc_bound.nd rfl (Or.inl rfl) pe_int)
      (pss_cons (ps_while (passes_of rfl) (pt_cmpR op_lt (pv 2) (pv 0) (nomark _)) (pss_cons (ps_set (i := 1) sc_bound.nd rfl (Or.inl rfl) (pe_op op_add (pv 1) (pe_op op_mul (pe_op op_mul pe_int (pv 2)) (pe_op op_fdiv (pv 0) (pe_op op_add (pe_op op_fdiv (pv 2) pe_int) pe_int)))))
      (pss_one (ps_set (i := 2) sc_bound.nd rfl (Or.inl rfl) (pe_op op_mul pe_int (pv 2))))))
      (pss_one (ps_ret (pv 1))))))), ?_⟩
    walk_at "rd"
    refine ⟨v, rfl, kv, ?_⟩
    refine rd_bl ?_
    rcases k with ⟨n, rfl, h1, h64, q⟩ | ⟨hno, q⟩
    · have e1 : wholeV (.int ((n : Nat) : Int)) = true := by unfold wholeV; exact decide_eq_true (by omega)
      rw [e1]
      refine iteF ?_
      walk_at "rd"
      refine rd_dec (fun _ => ?_) (fun z => absurd (show (1 : Int) ≤ ((n : Nat) : Int) by omega) z)
      walk_at "rd"
      have e2 : decide (((n : Nat) : Int) ≤ 64) = true := decide_eq_true (by omega)
      rw [e2]
      refine iteF ?_
      walk_at "rd"
      refine rd_while (fun m σ H' => H' = H ∧ ∃ k : Nat, m = 7 - k ∧ k < 7 ∧ (k = 0 ∨ 2 ^ k < n) ∧ σ = [some (.int ((n : Nat) : Int)), some (.int ((pb n k : Nat) : Int)), some (.int ((2 ^ (k + 1) : Nat) : Int))]) 7 ⟨rfl, 0, rfl, by decide, Or.inl rfl, ?_⟩ ?_
      · have e3 : (7 : Int) * ((n : Nat) : Int) = ((pb n 0 : Nat) : Int) := by show _ = ((7 * n : Nat) : Int); omega
        rw [e3]
        rfl
      · rintro m σ H' ⟨rfl, k, rfl, hk, ho, rfl⟩
        walk_at "rd"
        refine rd_dec (fun z => ?_) (fun z => ?_)
        · have z' : 2 ^ (k + 1) < n := by omega
          have k6 : k + 1 < 6 := by
            by_cases c : k + 1 < 6
            · exact c
            · have : 2 ^ 6 ≤ 2 ^ (k + 1) := Nat.pow_le_pow_right (by decide) (by omega)
              have e : 2 ^ 6 = 64 := rfl
              omega
          refine rd_turn ?_
          walk_at "rd"
          have p2 : 2 ^ (k + 1) = 2 * 2 ^ k := by rw [Nat.pow_succ]; omega
          have p1 : 1 ≤ 2 ^ k := Nat.one_le_two_pow
          have d2 : ((2 ^ (k + 1) : Nat) : Int) / 2 + 1 = ((2 ^ k + 1 : Nat) : Int) := by omega
          rw [d2]
          refine rd_I (show CDiv _ _ from ⟨by omega, by omega⟩) ?_
          refine rd_I (show CMul _ _ from Or.inl ⟨by omega, by omega⟩) ?_
          walk_at "rd"
          refine ⟨7 - (k + 1), by omega, rfl, k + 1, rfl, by omega, Or.inr z', ?_⟩
          have e4 : ((pb n k : Nat) : Int) + 4 * ((2 ^ (k + 1) : Nat) : Int) * (((n : Nat) : Int) / ((2 ^ k + 1 : Nat) : Int)) = ((pb n (k + 1) : Nat) : Int) := by
            show _ = ((pb n k + 4 * 2 ^ (k + 1) * (n / (2 ^ k + 1)) : Nat) : Int)
            simp only [Int.natCast_add, Int.natCast_mul, Int.natCast_ediv] <;> rfl
          have e5 : (2 : Int) * ((2 ^ (k + 1) : Nat) : Int) = ((2 ^ (k + 1 + 1) : Nat) : Int) := by rw [Nat.pow_succ 2 (k + 1)]; omega
          rw [e4, e5]
          rfl
        · walk_at "rd"
          have e6 := pb_end n (by omega) k hk ho (by omega)
          rw [e6]
          exact q
    · refine rd_ite (fun _ => q) (fun z => ?_)
      have z' : wholeV v = true := by simpa using z
      obtain ⟨i, rfl⟩ : ∃ i, v = .int i := by cases v <;> first | exact ⟨_, rfl⟩ | cases z'
      have hi : (0 : Int) ≤ i := of_decide_eq_true z'
      walk_at "rd"
      refine rd_dec (fun z1 => ?_) (fun z1 => ?_)
      · walk_at "rd"
        have e2 : decide (i ≤ 64) = false := decide_eq_false fun z2 => hno i rfl ⟨z1, z2⟩
        rw [e2]
        exact iteT q
      · walk_at "rd"
        exact iteT q
/-! ### the law's own reckoning -/
def due (n : Nat) : Nat → Nat
  | 0 => 7 * n
  | k + 1 => due n k + (if 2 ^ (k + 1) < n then 4 * 2 ^ (k + 1) * (n / (2 ^ k + 1)) else 0)
theorem due_end : ∀ n, n < 65 → due n 6 = RC.bnd n := by decide +kernel
def spDue : Sp := fun vs H Q _ => ∃ n : Nat, vs = [.int n] ∧ n ≤ 64 ∧ ∀ H', Ex H H' → Q (.int (RC.bnd n)) H'
theorem sc__law_due : FnScope ["_law_many", "_law_due_here", "_law_stage", "_law_steps"] ["_law_many"] (defScope s__law_due) := ⟨rfl, rfl, rfl, by decide +kernel, rfl, by decide +kernel, by decide +kernel⟩
theorem ok__law_due (T : Txt K mg A) : FnOk P w K mg base CX0 1 A.f__law_due A.fd__law_due ["_law_many"] spDue := by
  refine T.fun__law_due.ok sc__law_due (fun vs H Q E h => ?_) (fun cdv Ar outer s H vs Q E hr h => ?_)
  · obtain ⟨n, rfl, _⟩ := h
    rfl
  · obtain ⟨n, rfl, h64, q⟩ := h
    refine ⟨_, (pss_cons (ps_set (i := 1) sc__law_due.nd rfl (Or.inl rfl) (pe_op op_mul pe_int (pv 0)))
      (pss_cons (ps_for PassesOwn.never rfl (pi_range2 (by rfl) T.no_range (pa_cons pe_int (pa_cons pe_int pa_nil))) (pg_name (i := 2) sc__law_due.nd rfl (Or.inl rfl)) (pss_cons (ps_set (i := 3) sc__law_due.nd rfl (Or.inl rfl) (pe_ix ix_list (pe_lst (pa_cons pe_int (pa_cons pe_int (pa_cons pe_int (pa_cons pe_int (pa_cons pe_int (pa_cons pe_int (pa_cons pe_int pa_nil)))))))) (pv 2) (fun _ _ => rfl)))
      (pss_one (ps_if (pt_cmpR op_lt (pv 3) (pv 0) (nomark _)) (pss_one (ps_set (i := 1) sc__law_due.nd rfl (Or.inl rfl) (pe_op op_add (pv 1) (pe_op op_mul (pe_op op_mul pe_int (pv 3)) (pe_op op_fdiv (pv 0) (pe_op op_add (pe_ix ix_list (pe_lst (pa_cons pe_int (pa_cons pe_int (pa_cons pe_int (pa_cons pe_int (pa_cons pe_int (pa_cons pe_int pa_nil))))))) (pe_op op_sub (pv 2) pe_int) (fun _ _ => rfl)) pe_int)))))) pss_nil))))
      (pss_one (ps_ret (pv 1))))), ?_⟩
    walk_at "rd"
    refine for_R2 (lo := 1) (n := 6) (by decide) (fun i σ H' => Ex H H' ∧ ∃ v2 v3 : Option V, σ = [some (.int ((n : Nat) : Int)), some (.int ((due n i : Nat) : Int)), v2, v3]) ⟨Ex.refl H, none, none, ?_⟩ ?_ ?_
    · have e3 : (7 : Int) * ((n : Nat) : Int) = ((due n 0 : Nat) : Int) := by show _ = ((7 * n : Nat) : Int); omega
      rw [e3]
      rfl
    · rintro i σ H' hi ⟨e, v2, v3, rfl⟩
      walk_at "rd"
      refine ⟨(by show 7 ≤ sizeLine; decide), fun p hp => ?_⟩
      walk_at "rd"
      have p1 : 1 ≤ 2 ^ i := Nat.one_le_two_pow
      have p2 : 2 ^ (i + 1) = 2 * 2 ^ i := by rw [Nat.pow_succ]; omega
      have p3 : 2 ^ (i + 1) ≤ 64 := Nat.le_trans (Nat.pow_le_pow_right (by decide) (show i + 1 ≤ 6 by omega)) (by decide)
      refine rd_ixL (k := 1 + i) (v := .int ((2 ^ (i + 1) : Nat) : Int)) (SqL.of upd_same) rfl ?_ ?_
      · match i, hi with
        | 0, _ => rfl
        | 1, _ => rfl
        | 2, _ => rfl
        | 3, _ => rfl
        | 4, _ => rfl
        | 5, _ => rfl
      · walk_at "rd"
        have e1 : Ex H (upd H' p (.lst [V.int 1, V.int 2, V.int 4, V.int 8, V.int 16, V.int 32, V.int 64])) := e.trans (Ex.new hp)
        have ed : due n (i + 1) = due n i + (if 2 ^ (i + 1) < n then 4 * 2 ^ (i + 1) * (n / (2 ^ i + 1)) else 0) := rfl
        refine rd_dec (fun z => ?_) (fun z => ?_)
        · walk_at "rd"
          refine ⟨(by show 6 ≤ sizeLine; decide), fun p' hp' => ?_⟩
          walk_at "rd"
          refine rd_ixL (k := i) (v := .int ((2 ^ i : Nat) : Int)) (SqL.of upd_same) (by omega) ?_ ?_
          · match i, hi with
            | 0, _ => rfl
            | 1, _ => rfl
            | 2, _ => rfl
            | 3, _ => rfl
            | 4, _ => rfl
            | 5, _ => rfl
          · walk_at "rd"
            refine rd_I (show CDiv _ _ from ⟨by omega, by omega⟩) ?_
            refine rd_I (show CMul _ _ from Or.inl ⟨by omega, by omega⟩) ?_
            walk_at "rd"
            have e4 : ((due n i : Nat) : Int) + 4 * ((2 ^ (i + 1) : Nat) : Int) * (((n : Nat) : Int) / (((2 ^ i : Nat) : Int) + 1)) = ((due n (i + 1) : Nat) : Int) := by
              rw [ed, if_pos (by omega)]
              simp only [Int.natCast_add, Int.natCast_mul, Int.natCast_ediv] <;> rfl
            exact ⟨e1.trans (Ex.new hp'), _, _, by rw [e4]; rfl⟩
        · walk_at "rd"
          have e4 : due n (i + 1) = due n i := by rw [ed, if_neg (by omega), Nat.add_zero]
          exact ⟨e1, _, _, by rw [e4]; rfl⟩
    · rintro σ H' ⟨e, v2, v3, rfl⟩
      walk_at "rd"
      have e6 := due_end n (by omega)
      rw [e6]
      exact q H' e

/-! ### what is refused -/
def badCount (v : V) : Prop := ∀ n : Int, v = .int n → ¬ (1 ≤ n ∧ n ≤ 64)
def spRefused (K : PySem.W.Frag) : Sp := fun vs H Q _ => ∃ v, vs = [v] ∧ Knd K H v ∧ badCount v ∧ ∀ H', Ex H H' → Q (.bl true) H'
theorem sc__law_refused : FnScope ["_law_thing", "error"] ["_law_thing"] (defScope s__law_refused) := ⟨rfl, rfl, rfl, by decide +kernel, rfl, by decide +kernel, by decide +kernel⟩
theorem ok__law_refused (T : Txt K mg A) (G_bound : FnOk P w K mg base (L2.CX P w) 2 A.f_bound A.fd_bound ["many"] (spBound K A)) : FnOk P w K mg base CX0 3 A.f__law_refused A.fd__law_refused ["_law_thing"] (spRefused K) := by
  refine T.fun__law_refused.ok sc__law_refused (fun vs H Q E h => ?_) (fun cdv Ar outer s H vs Q E hr h => ?_)
  · obtain ⟨v, rfl, _⟩ := h
    rfl
  · obtain ⟨v, rfl, kv, hb, q⟩ := h
    refine ⟨_, (pss_cons (ps_try_as (i := 1) rfl rfl sc__law_refused.nd rfl rfl ⟨rfl, by decide, .inl T.mg_RingError⟩ takes0 (fun W pn xe tk _ => (pss_one (ps_expr (pe_callS G_bound (hr.mono (by decide)) rfl T.mg_bound T.fun_bound.kp T.b_bound (fun σ => passAt tk σ) (pa_cons (pv 0) pa_nil))))) (fun a oe cls d pn hz hf => pss_err hz fun D' hE hz => (pss_cons (ps_if (PW.pt (pw_or (pt_val (pe_callB (call_isE hE hz hf) (by rfl) T.no_isinstance (by decide +kernel) (pa_cons (pv 1) (pa_cons (pe_glob (v := .ref A.c_BadRing) rfl T.mg_BadRing rfl) pa_nil)))) (pw_or (pt_val (pe_callB (call_isE hE hz hf) (by rfl) T.no_isinstance (by decide +kernel) (pa_cons (pv 1) (pa_cons (pe_glob (v := .ref A.c_NoHand) rfl T.mg_NoHand rfl) pa_nil)))) (pw_or1 (pt_val (pe_callB (call_isE hE hz hf) (by rfl) T.no_isinstance (by decide +kernel) (pa_cons (pv 1) (pa_cons (pe_glob (v := .ref A.c_NoMail) rfl T.mg_NoMail rfl) pa_nil)))))))) (pss_one (ps_ret pe_bl)) pss_nil)
      (pss_one (ps_ret (pe_and (pe_callB (call_isE hE hz hf) (by rfl) T.no_isinstance (by decide +kernel) (pa_cons (pv 1) (pa_cons (pe_glob (v := .ref A.c_BadCount) rfl T.mg_BadCount rfl) pa_nil))) (pe_one (pe_callB (call_isE hE hz hf) (by rfl) T.no_isinstance (by decide +kernel) (pa_cons (pv 1) (pa_cons (pe_bltn (v := .ty "ValueError") (by rfl) T.no_ValueError (by decide +kernel) rfl) pa_nil))))))))))
      (pss_one (ps_ret pe_bl))), ?_⟩
    walk_at "rd"
    refine ⟨v, rfl, kv, .inr ⟨hb, true, T.x_RingError.exm T.sub_BadCount_RingError, fun _ a ha => ?_, fun z => Bool.noConfusion z⟩⟩
    refine ⟨A.c_BadCount, T.x_BadCount.eC, rfl, rfl, ?_⟩
    walk_at "rd"
    refine rd_isE (T.x_BadRing.kit T.sub_BadCount_BadRing fun z => absurd z T.ne_BadCount_BadRing) ?_
    walk_at "rd"
    refine iteF ?_
    walk_at "rd"
    refine rd_isE (T.x_NoHand.kit T.sub_BadCount_NoHand fun z => absurd z T.ne_BadCount_NoHand) ?_
    walk_at "rd"
    refine iteF ?_
    walk_at "rd"
    refine rd_isE (T.x_NoMail.kit T.sub_BadCount_NoMail fun z => absurd z T.ne_BadCount_NoMail) ?_
    walk_at "rd"
    refine iteF ?_
    walk_at "rd"
    refine rd_isE (T.x_BadCount.kit T.sub_BadCount_BadCount fun _ => rfl) ?_
    walk_at "rd"
    refine iteT ?_
    walk_at "rd"
    refine rd_isEV T.x_BadCount.kitV ?_
    exact q H (Ex.refl H)
/-! ### the law -/
theorem get_map {ns : List Int} {i : Nat} {x : V} (h : (ns.map V.int)[i]? = some x) : ∃ z, ns[i]? = some z ∧ x = .int z := by
  rw [List.getElem?_map] at h
  cases e : ns[i]? with
  | none => rw [e] at h; cases h
  | some z => rw [e] at h; exact ⟨z, rfl, (Option.some.inj h).symm⟩
def spLaw (K : PySem.W.Frag) : Sp := fun vs H Q _ => ∃ (a : Addr) (ns : List Int), vs = [.ref a] ∧ SqL K H a (ns.map V.int) ∧ ns.length ≤ 63 ∧ ∀ H', Q (.bl true) H'
def strange (m : Int) (p7 pd : Addr) : List V := [.int 0, .int (-1 - m), .int 65, .int (65 + m), .bl true, .bl false, .non, .str "7", .ref p7, .ref pd]
theorem sc_law : FnScope ["_law_script", "_law_cell", "_law_many", "_law_found", "_law_more", "_law_strange"] ["_law_script"] (defScope s_law) := ⟨rfl, rfl, rfl, by decide +kernel, rfl, by decide +kernel, by decide +kernel⟩
theorem ok_law (T : Txt K mg A) (G_bound : FnOk P w K mg base (L2.CX P w) 2 A.f_bound A.fd_bound ["many"] (spBound K A)) (G__law_cell_at : FnOk P w K mg base CX0 1 A.f__law_cell_at A.fd__law_cell_at ["_law_script", "_law_k"] (spCell K))
    (G__law_whole : FnOk P w K mg base CX0 1 A.f__law_whole A.fd__law_whole ["_law_found"] (spInt K)) (G__law_due : FnOk P w K mg base CX0 1 A.f__law_due A.fd__law_due ["_law_many"] spDue)
    (G__law_refused : FnOk P w K mg base CX0 3 A.f__law_refused A.fd__law_refused ["_law_thing"] (spRefused K)) : FnOk P w K mg base CX0 4 A.f_law A.fd_law ["_law_script"] (spLaw K) := by
  refine T.fun_law.ok sc_law (fun vs H Q E h => ?_) (fun cdv Ar outer s H vs Q E hr h => ?_)
  · obtain ⟨a, ns, rfl, _⟩ := h
    rfl
  · obtain ⟨a, ns, rfl, hS, hlen, q⟩ := h
    refine ⟨_, (pss_cons (ps_set (i := 1) sc_law.nd rfl (Or.inl rfl) (pe_call G__law_cell_at (hr.mono (by decide)) rfl T.mg__law_cell_at T.fun__law_cell_at.kp T.b__law_cell_at .nil pass0 (pa_cons (pv 0) (pa_cons pe_int pa_nil))))
      (pss_cons (ps_for PassesOwn.never rfl (pi_list (pe_lst (pa_cons (pe_op op_add pe_int (pe_op op_mod (pv 1) pe_int)) (pa_cons (pe_op op_add pe_int (pe_op op_mod (pe_op op_fdiv (pv 1) pe_int) pe_int)) (pa_cons pe_int pa_nil))))) (pg_name (i := 2) sc_law.nd rfl (Or.inl rfl)) (pss_cons (ps_set (i := 3) sc_law.nd rfl (Or.inl rfl) (pe_call G_bound (hr.mono (by decide)) rfl T.mg_bound T.fun_bound.kp T.b_bound .nil passL (pa_cons (pv 2) pa_nil)))
      (pss_one (ps_if (PW.pt (pw_or (pt_not (pt_val (pe_call G__law_whole (hr.mono (by decide)) rfl T.mg__law_whole T.fun__law_whole.kp T.b__law_whole .nil pass0 (pa_cons (pv 3) pa_nil)))) (pw_or1 (pt_cmpR op_ne (pv 3) (pe_call G__law_due (hr.mono (by decide)) rfl T.mg__law_due T.fun__law_due.kp T.b__law_due .nil pass0 (pa_cons (pv 2) pa_nil)) (nomark _))))) (pss_one (ps_ret pe_bl)) pss_nil))))
      (pss_cons (ps_set (i := 4) sc_law.nd rfl (Or.inl rfl) (pe_callB call_absN (by rfl) T.no_abs (by decide +kernel) (pa_cons (pe_call G__law_cell_at (hr.mono (by decide)) rfl T.mg__law_cell_at T.fun__law_cell_at.kp T.b__law_cell_at .nil pass0 (pa_cons (pv 0) (pa_cons pe_int pa_nil))) pa_nil)))
      (pss_cons (ps_set (i := 5) sc_law.nd rfl (Or.inl rfl) (pe_ix ix_list (pe_lst (pa_cons pe_int (pa_cons (pe_op op_sub (pe_un un_neg pe_int) (pv 4)) (pa_cons pe_int (pa_cons (pe_op op_add pe_int (pv 4)) (pa_cons pe_bl (pa_cons pe_bl (pa_cons pe_non (pa_cons pe_str (pa_cons (pe_lst (pa_cons pe_int pa_nil)) (pa_cons pe_dnewK pa_nil))))))))))) (pe_op op_mod (pe_call G__law_cell_at (hr.mono (by decide)) rfl T.mg__law_cell_at T.fun__law_cell_at.kp T.b__law_cell_at .nil pass0 (pa_cons (pv 0) (pa_cons pe_int pa_nil))) pe_int) (fun _ _ => rfl)))
      (pss_one (ps_ret (pe_call G__law_refused (hr.mono (by decide)) rfl T.mg__law_refused T.fun__law_refused.kp T.b__law_refused .nil pass0 (pa_cons (pv 5) pa_nil)))))))), ?_⟩
    walk_at "rd"
    refine ⟨a, ns, 0, rfl, hS, ?_⟩
    walk_at "rd"
    refine ⟨(by show 3 ≤ sizeLine; decide), fun p hp => ?_⟩
    have e1 := Ex.new (o := .lst [V.int (1 + cell ns 0 % 64), V.int (1 + cell ns 0 / 64 % 64), V.int 64]) hp
    refine for_L (SqL.of upd_same) (fun i σ H' => Ex H H' ∧ H' p = some (.lst [V.int (1 + cell ns 0 % 64), V.int (1 + cell ns 0 / 64 % 64), V.int 64]) ∧ ∃ v2 v3 : Option V, σ = [some (.ref a), some (.int (cell ns 0)), v2, v3, none, none]) ⟨e1, upd_same, none, none, rfl⟩
      (fun i σ H' _ z => SqL.of z.2.1) ?_ ?_
    · rintro i x σ H' hi ⟨e, hp', v2, v3, rfl⟩
      obtain ⟨n, rfl, h1, h64⟩ : ∃ n : Nat, x = .int n ∧ 1 ≤ n ∧ n ≤ 64 := by
        match i, hi with
        | 0, hi => exact ⟨(1 + cell ns 0 % 64).toNat, by rw [← Option.some.inj hi]; congr 1; omega, by omega, by omega⟩
        | 1, hi => exact ⟨(1 + cell ns 0 / 64 % 64).toNat, by rw [← Option.some.inj hi]; congr 1; omega, by omega, by omega⟩
        | 2, hi => exact ⟨64, (Option.some.inj hi).symm, by decide, by decide⟩
      walk_at "rd"
      refine ⟨_, rfl, knd_int _, .inl ⟨n, rfl, h1, h64, ?_⟩⟩
      walk_at "rd"
      refine ⟨_, rfl, knd_int _, ?_⟩
      refine rd_bl ?_
      refine iteF ?_
      walk_at "rd"
      refine ⟨n, rfl, h64, fun H2 e2 => ?_⟩
      walk_at "rd"
      have ed : decide (((RC.bnd n : Nat) : Int) = ((RC.bnd n : Nat) : Int)) = true := decide_eq_true rfl
      rw [ed]
      refine iteF ?_
      walk_at "rd"
      exact ⟨e.trans e2, e2 _ _ hp', _, _, rfl⟩
    · rintro σ H' ⟨e, hp', v2, v3, rfl⟩
      walk_at "rd"
      refine ⟨a, ns, 1, rfl, ex_l e hS, ?_⟩
      walk_at "rd"
      refine ⟨(by show 1 ≤ sizeLine; decide), fun p7 hp7 => ?_⟩
      refine fun pd hpd => ?_
      refine ⟨(by show 10 ≤ sizeLine; decide), fun pl hpl => ?_⟩
      walk_at "rd"
      refine ⟨a, ns, 2, rfl, ex_l (((e.trans (Ex.new hp7)).trans (Ex.new hpd)).trans (Ex.new hpl)) hS, ?_⟩
      walk_at "rd"
      obtain ⟨k, hk, k10⟩ : ∃ k : Nat, cell ns 2 % 10 = (k : Int) ∧ k < 10 := ⟨(cell ns 2 % 10).toNat, by omega, by omega⟩
      have hm : 0 ≤ (if cell ns 1 < 0 then -cell ns 1 else cell ns 1) := by split <;> omega
      generalize (if cell ns 1 < 0 then -cell ns 1 else cell ns 1) = m at hm hpl ⊢
      obtain ⟨v, hv⟩ : ∃ v, (strange m p7 pd)[k]? = some v := ⟨(strange m p7 pd)[k]'(by show k < 10; exact k10), List.getElem?_eq_getElem _⟩
      refine rd_ixL (k := k) (v := v) (SqL.of upd_same) hk hv ?_
      walk_at "rd"
      have h7 : upd (upd (upd H' p7 (.lst [V.int 7])) pd (.dK [])) pl (.lst (strange m p7 pd)) p7 = some (.lst [V.int 7]) := (Ex.new hpl) _ _ ((Ex.new hpd) _ _ upd_same)
      have hd : upd (upd (upd H' p7 (.lst [V.int 7])) pd (.dK [])) pl (.lst (strange m p7 pd)) pd = some (.dK []) := (Ex.new hpl) _ _ upd_same
      refine ⟨v, rfl, ?_, ?_, fun H2 _ => q H2⟩
      · match k, k10, hv with
        | 0, _, hv => rw [← Option.some.inj hv]; exact knd_int _
        | 1, _, hv => rw [← Option.some.inj hv]; exact knd_int _
        | 2, _, hv => rw [← Option.some.inj hv]; exact knd_int _
        | 3, _, hv => rw [← Option.some.inj hv]; exact knd_int _
        | 4, _, hv => rw [← Option.some.inj hv]; exact knd_bl _
        | 5, _, hv => rw [← Option.some.inj hv]; exact knd_bl _
        | 6, _, hv => rw [← Option.some.inj hv]; exact knd_non
        | 7, _, hv => rw [← Option.some.inj hv]; exact knd_str _
        | 8, _, hv => rw [← Option.some.inj hv]; exact knd_lst h7
        | 9, _, hv => rw [← Option.some.inj hv]; exact knd_dK hd
      · intro n en
        match k, k10, hv with
        | 0, _, hv => rw [← Option.some.inj hv] at en; have := V.int.inj en; omega
        | 1, _, hv => rw [← Option.some.inj hv] at en; have := V.int.inj en; omega
        | 2, _, hv => rw [← Option.some.inj hv] at en; have := V.int.inj en; omega
        | 3, _, hv => rw [← Option.some.inj hv] at en; have := V.int.inj en; omega
        | 4, _, hv => rw [← Option.some.inj hv] at en; cases en
        | 5, _, hv => rw [← Option.some.inj hv] at en; cases en
        | 6, _, hv => rw [← Option.some.inj hv] at en; cases en
        | 7, _, hv => rw [← Option.some.inj hv] at en; cases en
        | 8, _, hv => rw [← Option.some.inj hv] at en; cases en
        | 9, _, hv => rw [← Option.some.inj hv] at en; cases en

theorem all_ok (T : Txt K mg A) : FnOk P w K mg base CX0 4 A.f_law A.fd_law ["_law_script"] (spLaw K) :=
  have G1 := ok_is_whole (P := P) (w := w) (base := base) T
  have G2 := ok_bound T G1
  ok_law T G2 (ok__law_cell_at T) (ok__law_whole T) (ok__law_due T) (ok__law_refused T G2)
end

theorem binds_law {K : PySem.W.Frag} {f : Addr} {fd : FuncData} (F : Fun K "law" "law" s_law f fd) : ∀ (s : Shared) (v : Value), BindsTo s fd ⟨[v], []⟩ [("_law_script", v)] := by
  obtain ⟨oc, od, kV, doc, pm, an, cdv, ct, osl, rfl, lk, hcd⟩ := F.ex
  exact fun s v => .of_eq rfl
theorem fin {P : Program} {w : World} {K : PySem.W.Frag} {mg : Str → Option Value} {fa : Addr} (hT : ∃ A : Adr, Txt K mg A) (hm : mg "law" = some (.ref fa)) :
    ∃ fd : FuncData, (∀ (s : Shared) (v : Value), BindsTo s fd ⟨[v], []⟩ [("_law_script", v)]) ∧ ∀ base : Heap, K.In base → base.Ns mainGlobals mg → FnOk P w K mg base CX0 4 fa fd ["_law_script"] (spLaw K) := by
  obtain ⟨A, T⟩ := hT
  have e : fa = A.f_law := Value.ref.inj (Option.some.inj (hm.symm.trans T.mg_law))
  subst e
  exact ⟨A.fd_law, binds_law T.fun_law, fun base _ _ => all_ok T⟩
theorem walk {l : PySem.W.OpenLaw} {q : Program} {loose : List Str} {XP : (Str → Option Value) → Heap → Prop} {YP : World → Heap → Prop} {d : DefRec} {K : Params → PySem.W.Frag} (hn : l.most = some 63) (hdf : d.params.defaults = [])
    (hY : ∀ (w : World) (h : Heap), YP w h → (K w.params).In h)
    (F : ∀ (w : World) (mg : Str → Option Value) (fa : Addr) (h : Heap), (K w.params).In h → h.Ns mainGlobals mg → mg d.name = some (.ref fa) →
      ∃ fd : FuncData, (∀ (s : Shared) (u : Value), BindsTo s fd ⟨[u], []⟩ [("_law_script", u)]) ∧ ∀ base : Heap, (K w.params).In base → base.Ns mainGlobals mg → FnOk l.prog w (K w.params) mg base CX0 4 fa fd ["_law_script"] (spLaw (K w.params))) :
    PySem.W.WalkO q loose XP YP l.row.toRowW d [] (fun f vs => PySem.call f vs) :=
  L2.walk_of (n := 63) (k := 4) (x := "_law_script") (CX := fun _ => CX0) (sp := fun w => spLaw (K w.params)) hn (by decide) hdf ⟨rfl, by decide, by decide⟩ hY F (fun _ _ a ns hl _ hS => ⟨a, ns, rfl, hS, hl, fun _ => rfl⟩) fun _ _ _ _ _ z => z
end Rc
open PySem PySem.W PyProof.Rows
set_option maxRecDepth 100000 in
set_option maxHeartbeats 0 in
theorem PySem.Challenge.cw_ringcrown_k01_bounds_holds : PySem.Challenge.rw_ringcrown_k01_bounds.Holds := by
  w_on; o_law; k_head; (case hw => w_witness2)
  k_fill
  refine Rc.walk (l := PySem.Challenge.rw_ringcrown_k01_bounds) rfl rfl (fun w h Y => PySem.W.kIn_of Y) ?F
  case F =>
    intro w mg fa h KX G hmg
    refine Rc.fin ?T hmg
    refine' (show ∃ A : Rc.Adr, Rc.Txt _ mg A from Rc.mkTxt KX G ?rq_g0 ?rq_g1 ?rq_g2 ?rq_g3 ?rq_g4 ?rq_a5 ?rq_l5 ?rq_d5 ?rq_k5 ?rq_a6 ?rq_l6 ?rq_d6 ?rq_k6 ?rq_a7 ?rq_l7 ?rq_d7 ?rq_k7 ?rq_a8 ?rq_l8 ?rq_d8 ?rq_k8 ?rq_a9 ?rq_l9 ?rq_d9 ?rq_k9 ?rq_a10 ?rq_l10 ?rq_d10 ?rq_k10 ?rq_a11 ?rq_l11 ?rq_d11 ?rq_k11 ?rq_x12 ?rq_k12 ?rq_b12 ?rq_t12 ?rq_i12 ?rq_h12 ?rq_v12 ?rq_ga12 ?rq_gg12 ?rq_ca12 ?rq_mo12 ?rq_x13 ?rq_k13 ?rq_b13 ?rq_t13 ?rq_i13 ?rq_h13 ?rq_v13 ?rq_ga13 ?rq_gg13 ?rq_ca13 ?rq_mo13 ?rq_x14 ?rq_k14 ?rq_b14 ?rq_t14 ?rq_i14 ?rq_h14 ?rq_v14 ?rq_ga14 ?rq_gg14 ?rq_ca14 ?rq_mo14 ?rq_x15 ?rq_k15 ?rq_b15 ?rq_t15 ?rq_i15 ?rq_h15 ?rq_v15 ?rq_ga15 ?rq_gg15 ?rq_ca15 ?rq_mo15 ?rq_x16 ?rq_k16 ?rq_b16 ?rq_t16 ?rq_i16 ?rq_h16 ?rq_v16 ?rq_ga16 ?rq_gg16 ?rq_ca16 ?rq_mo16 ?rq_sp1 ?rq_tk1 ?rq_u17 ?rq_u18 ?rq_w18 ?rq_u19 ?rq_w19 ?rq_u20 ?rq_w20 ?rq_u21 ?rq_w21 ?rq_u22 ?rq_w22 ?rq_u23 ?rq_u24 ?rq_w24 ?rq_u25 ?rq_w25 ?rq_u26 ?rq_w26 ?rq_u27 ?rq_w27 ?rq_u28 ?rq_w28 ?rq_u29 ?rq_u30 ?rq_w30 ?rq_u31 ?rq_w31 ?rq_u32 ?rq_w32 ?rq_u33 ?rq_w33 ?rq_u34 ?rq_w34 ?rq_u35 ?rq_u36 ?rq_w36 ?rq_u37 ?rq_w37 ?rq_u38 ?rq_w38 ?rq_u39 ?rq_w39 ?rq_u40 ?rq_w40 ?rq_u41 ?rq_z42 ?rq_z43 ?rq_z44 ?rq_z45 ?rq_z46 ?rq_z47 ?rq_z48 ?rq_c49)
    (case rq_g0 => k_is)
    (case rq_g1 => k_is)
    (case rq_g2 => k_is)
    (case rq_g3 => k_is)
    (case rq_g4 => k_is)
    (case rq_a5 => k_is)
    (case rq_l5 => k_is)
    (case rq_d5 => k_is)
    (case rq_k5 => k_is)
    (case rq_a6 => k_is)
    (case rq_l6 => k_is)
    (case rq_d6 => k_is)
    (case rq_k6 => k_is)
    (case rq_a7 => k_is)
    (case rq_l7 => k_is)
    (case rq_d7 => k_is)
    (case rq_k7 => k_is)
    (case rq_a8 => k_is)
    (case rq_l8 => k_is)
    (case rq_d8 => k_is)
    (case rq_k8 => k_is)
    (case rq_a9 => k_is)
    (case rq_l9 => k_is)
    (case rq_d9 => k_is)
    (case rq_k9 => k_is)
    (case rq_a10 => k_is)
    (case rq_l10 => k_is)
    (case rq_d10 => k_is)
    (case rq_k10 => k_is)
    (case rq_a11 => k_is)
    (case rq_l11 => k_is)
    (case rq_d11 => k_is)
    (case rq_k11 => k_is)
    (case rq_x12 => k_exc)
    (case rq_k12 => k_is)
    (case rq_b12 => k_is)
    (case rq_t12 => k_is)
    (case rq_i12 => k_is)
    (case rq_h12 => k_is)
    (case rq_v12 => k_is)
    (case rq_ga12 => k_is)
    (case rq_gg12 => k_is)
    (case rq_ca12 => k_is)
    (case rq_mo12 => k_is)
    (case rq_x13 => k_exc)
    (case rq_k13 => k_is)
    (case rq_b13 => k_is)
    (case rq_t13 => k_is)
    (case rq_i13 => k_is)
    (case rq_h13 => k_is)
    (case rq_v13 => k_is)
    (case rq_ga13 => k_is)
    (case rq_gg13 => k_is)
    (case rq_ca13 => k_is)
    (case rq_mo13 => k_is)
    (case rq_x14 => k_exc)
    (case rq_k14 => k_is)
    (case rq_b14 => k_is)
    (case rq_t14 => k_is)
    (case rq_i14 => k_is)
    (case rq_h14 => k_is)
    (case rq_v14 => k_is)
    (case rq_ga14 => k_is)
    (case rq_gg14 => k_is)
    (case rq_ca14 => k_is)
    (case rq_mo14 => k_is)
    (case rq_x15 => k_exc)
    (case rq_k15 => k_is)
    (case rq_b15 => k_is)
    (case rq_t15 => k_is)
    (case rq_i15 => k_is)
    (case rq_h15 => k_is)
    (case rq_v15 => k_is)
    (case rq_ga15 => k_is)
    (case rq_gg15 => k_is)
    (case rq_ca15 => k_is)
    (case rq_mo15 => k_is)
    (case rq_x16 => k_exc)
    (case rq_k16 => k_is)
    (case rq_b16 => k_is)
    (case rq_t16 => k_is)
    (case rq_i16 => k_is)
    (case rq_h16 => k_is)
    (case rq_v16 => k_is)
    (case rq_ga16 => k_is)
    (case rq_gg16 => k_is)
    (case rq_ca16 => k_is)
    (case rq_mo16 => k_is)
    (case rq_sp1 => k_is)
    (case rq_tk1 => k_is)
    (case rq_u17 => first | rfl | k_is)
    (case rq_u18 => first | rfl | k_is)
    (case rq_w18 => decide)
    (case rq_u19 => first | rfl | k_is)
    (case rq_w19 => decide)
    (case rq_u20 => first | rfl | k_is)
    (case rq_w20 => decide)
    (case rq_u21 => first | rfl | k_is)
    (case rq_w21 => decide)
    (case rq_u22 => first | rfl | k_is)
    (case rq_w22 => decide)
    (case rq_u23 => first | rfl | k_is)
    (case rq_u24 => first | rfl | k_is)
    (case rq_w24 => decide)
    (case rq_u25 => first | rfl | k_is)
    (case rq_w25 => decide)
    (case rq_u26 => first | rfl | k_is)
    (case rq_w26 => decide)
    (case rq_u27 => first | rfl | k_is)
    (case rq_w27 => decide)
    (case rq_u28 => first | rfl | k_is)
    (case rq_w28 => decide)
    (case rq_u29 => first | rfl | k_is)
    (case rq_u30 => first | rfl | k_is)
    (case rq_w30 => decide)
    (case rq_u31 => first | rfl | k_is)
    (case rq_w31 => decide)
    (case rq_u32 => first | rfl | k_is)
    (case rq_w32 => decide)
    (case rq_u33 => first | rfl | k_is)
    (case rq_w33 => decide)
    (case rq_u34 => first | rfl | k_is)
    (case rq_w34 => decide)
    (case rq_u35 => first | rfl | k_is)
    (case rq_u36 => first | rfl | k_is)
    (case rq_w36 => decide)
    (case rq_u37 => first | rfl | k_is)
    (case rq_w37 => decide)
    (case rq_u38 => first | rfl | k_is)
    (case rq_w38 => decide)
    (case rq_u39 => first | rfl | k_is)
    (case rq_w39 => decide)
    (case rq_u40 => first | rfl | k_is)
    (case rq_w40 => decide)
    (case rq_u41 => first | rfl | k_is)
    (case rq_z42 => k_is)
    (case rq_z43 => k_is)
    (case rq_z44 => k_is)
    (case rq_z45 => k_is)
    (case rq_z46 => k_is)
    (case rq_z47 => k_is)
    (case rq_z48 => k_is)
    (case rq_c49 => k_is)
