import PyProof.Rows.All
import Wide.All
import OpenK.AllK
import Wide.FinOn
import HandS.ForExc
import HandS.Comp
import HandS.Dict
import HandS.Iter
import HandS.IsInst
import HandS.ExcIs
import HandS.TupLe
import HandS.TupAny
import HandS.Zip
import HandS.Evl
import PySem.Challenge.RW_ringcrown_k02_a_hand_by_itself
set_option Elab.async false
set_option linter.all false
set_option maxRecDepth 100000
set_option maxHeartbeats 4000000
/-! # RcMirror: the program as plain Lean functions (hand, ring), no Python in sight -/
namespace RC

inductive Wd where | ask | answer | crown
  deriving DecidableEq

/-- a letter -/
structure Lt where
  way : Int
  word : Wd
  num : Int
  stg : Int
  stp : Int

/-- a hand -/
structure Hd where
  num : Int
  awake : Bool
  beaten : Bool
  crowned : Bool
  stage : Int
  far : Int
  came : Int
  known : Option Int

def Hd.new (k : Int) : Hd := ⟨k, false, false, false, 0, 1, 0, none⟩
def Hd.asks (h : Hd) : List Lt := [⟨1, .ask, h.num, h.stage, h.far⟩, ⟨-1, .ask, h.num, h.stage, h.far⟩]
def Hd.wk (h : Hd) : Hd := { h with awake := true }
def Hd.wls (h : Hd) : List Lt := if h.awake then [] else h.asks
def Hd.up (h : Hd) : Hd := { h with came := 0, stage := h.stage + 1, far := 2 * h.far }
def Hd.asked (h : Hd) (l : Lt) : Hd × List Lt :=
  if l.num = h.num ∧ h.crowned = false then ({ h with crowned := true, known := some l.num }, [⟨1, .crown, l.num, 0, 0⟩])
  else if l.num ≤ h.num then (h, [])
  else if 1 < l.stp then ({ h with beaten := true }, [⟨l.way, l.word, l.num, l.stg, l.stp - 1⟩])
  else ({ h with beaten := true }, [⟨-l.way, .answer, l.num, l.stg, 0⟩])
def Hd.answered (h : Hd) (l : Lt) : Hd × List Lt :=
  if l.num ≠ h.num then (h, [l])
  else if h.came + 1 < 2 ∨ h.beaten = true then ({ h with came := h.came + 1 }, [])
  else (h.up, h.up.asks)
def Hd.told (h : Hd) (l : Lt) : Hd × List Lt :=
  if l.num = h.num then (h, []) else ({ h with known := some l.num }, [l])
def Hd.proc (h : Hd) (l : Lt) : Hd × List Lt :=
  match l.word with
  | .ask => h.asked l
  | .answer => h.answered l
  | .crown => h.told l
def Hd.take (h : Hd) (l : Lt) : Hd × List Lt := ((h.wk.proc l).1, h.wls ++ (h.wk.proc l).2)

/-- a ring: its hands by places, the mails under way (each with its place), how many letters were sent -/
structure Rg where
  hands : List Hd
  post : List (Nat × Lt)
  many : Nat

def nxt (n p : Nat) (way : Int) : Nat := (((p : Int) + way) % (n : Int)).toNat
def Rg.new (ks : List Int) : Rg := ⟨ks.map Hd.new, [], 0⟩
def Rg.h (S : Rg) (p : Nat) : Hd := S.hands.getD p (Hd.new 0)
def Rg.put (S : Rg) (q : Nat) (ls : List Lt) : Rg :=
  { S with post := S.post ++ ls.map (fun l => (nxt S.hands.length q l.way, l)), many := S.many + ls.length }
def Rg.setH (S : Rg) (q : Nat) (h : Hd) : Rg := { S with hands := S.hands.set q h }
def Rg.wake (S : Rg) (q : Nat) : Rg := (S.setH q (S.h q).wk).put q (S.h q).wls
def Rg.drop (S : Rg) (i : Nat) : Rg := { S with post := S.post.eraseIdx i }
/-- the hand at q takes the letter l -/
def Rg.give (S : Rg) (q : Nat) (l : Lt) : Rg := (S.setH q ((S.h q).take l).1).put q ((S.h q).take l).2
/-- the hand at q, awake already, takes the letter l -/
def Rg.give1 (S : Rg) (q : Nat) (l : Lt) : Rg := (S.setH q ((S.h q).proc l).1).put q ((S.h q).proc l).2
def Rg.mail (S : Rg) (i : Nat) : Nat × Lt := S.post.getD i (0, ⟨1, .crown, 0, 0, 0⟩)
def Rg.bring (S : Rg) (i : Nat) : Rg := (S.drop i).give (S.mail i).1 (S.mail i).2

theorem h_setH {S : Rg} {q : Nat} {x : Hd} (hq : q < S.hands.length) (p : Nat) : (S.setH q x).h p = if p = q then x else S.h p := by
  unfold Rg.setH Rg.h
  show (S.hands.set q x).getD p _ = _
  rw [List.getD_eq_getElem?_getD, List.getD_eq_getElem?_getD, List.getElem?_set]
  by_cases e : p = q
  · subst e
    simp [hq]
  · rw [if_neg (fun z => e z.symm), if_neg e]
theorem h_put {S : Rg} {q : Nat} {ls : List Lt} (p : Nat) : (S.put q ls).h p = S.h p := rfl
theorem wk_awake {h : Hd} (e : h.awake = true) : h.wk = h := by
  cases h
  simp only [Hd.wk] at *
  subst e
  rfl

/-- bringing a mail: the hand is woken first, then it takes the letter -/
theorem bring_eq {S : Rg} {i : Nat} (hi : i < S.post.length) (hq : (S.mail i).1 < S.hands.length) :
    S.bring i = ((S.wake (S.mail i).1).drop i).give1 (S.mail i).1 (S.mail i).2 := by
  have hl : ((S.setH (S.mail i).1 (S.h (S.mail i).1).wk).hands).length = S.hands.length := by unfold Rg.setH; simp
  have e1 : ((S.wake (S.mail i).1).drop i).h (S.mail i).1 = (S.h (S.mail i).1).wk := by
    show (S.setH (S.mail i).1 (S.h (S.mail i).1).wk).h (S.mail i).1 = _
    rw [h_setH hq, if_pos rfl]
  unfold Rg.give1
  rw [e1]
  unfold Rg.bring Rg.give Rg.wake Rg.drop Rg.put Rg.setH Hd.take
  simp only [List.length_set, List.map_append, List.length_append, List.set_set]
  have e2 : ({ hands := S.hands, post := S.post.eraseIdx i, many := S.many } : Rg).h (S.mail i).1 = S.h (S.mail i).1 := rfl
  rw [e2]
  congr 1
  · rw [List.eraseIdx_append_of_lt_length hi, List.append_assoc]
  · omega

theorem proc_len (h : Hd) (l : Lt) : (h.proc l).2.length ≤ 2 := by
  unfold Hd.proc
  cases l.word with
  | ask =>
    show (h.asked l).2.length ≤ 2
    unfold Hd.asked
    repeat' split
    all_goals simp
  | answer =>
    show (h.answered l).2.length ≤ 2
    unfold Hd.answered Hd.asks
    repeat' split
    all_goals simp
  | crown =>
    show (h.told l).2.length ≤ 2
    unfold Hd.told
    split
    all_goals simp
end RC
/-! # RcMath1: places of the ring, tokens, the invariant -/
namespace RC

def sg (w : Bool) : Int := if w then 1 else -1
/-- the place d steps from p, to the right (w) or to the left -/
def pt (n : Nat) (w : Bool) (p d : Nat) : Nat :=
  if w then (if p + d < n then p + d else p + d - n) else (if d ≤ p then p - d else p + n - d)
theorem pt_lt {n p d : Nat} {w : Bool} (hp : p < n) (hd : d ≤ n) : pt n w p d < n := by
  unfold pt
  cases w <;> simp <;> split <;> omega
theorem pt_zero {n p : Nat} {w : Bool} (hp : p < n) : pt n w p 0 = p := by
  unfold pt
  cases w <;> simp <;> omega
theorem pt_n {n p : Nat} {w : Bool} (hp : p < n) : pt n w p n = p := by
  unfold pt
  cases w <;> simp <;> omega
theorem pt_self {n p d : Nat} {w : Bool} (hp : p < n) (h1 : 1 ≤ d) (hd : d ≤ n) (e : pt n w p d = p) : d = n := by
  unfold pt at e
  cases w <;> simp at e <;> split at e <;> omega
theorem pt_inj {n p d e : Nat} {w : Bool} (hp : p < n) (hd : d < n) (he : e < n) (h : pt n w p d = pt n w p e) : d = e := by
  unfold pt at h
  cases w <;> simp at h <;> split at h <;> split at h <;> omega
/-- every other place is met within n - 1 steps -/
theorem pt_all {n p q : Nat} (w : Bool) (hp : p < n) (hq : q < n) (hne : q ≠ p) : ∃ j, 1 ≤ j ∧ j ≤ n - 1 ∧ pt n w p j = q := by
  cases w with
  | true =>
    by_cases h : p < q
    · exact ⟨q - p, by omega, by omega, by unfold pt; simp; split <;> omega⟩
    · exact ⟨q + n - p, by omega, by omega, by unfold pt; simp; split <;> omega⟩
  | false =>
    by_cases h : p < q
    · exact ⟨p + n - q, by omega, by omega, by unfold pt; simp; split <;> omega⟩
    · exact ⟨p - q, by omega, by omega, by unfold pt; simp; omega⟩
theorem nxt_right {n q : Nat} (hq : q < n) : nxt n q 1 = pt n true q 1 := by
  unfold nxt pt
  simp
  by_cases h : q + 1 < n
  · rw [if_pos h, Int.emod_eq_of_lt (by omega) (by omega)]
    omega
  · have e : (q : Int) + 1 = (n : Int) := by omega
    rw [if_neg h, e, Int.emod_self]
    omega
theorem nxt_left {n q : Nat} (hq : q < n) : nxt n q (-1) = pt n false q 1 := by
  unfold nxt pt
  simp
  by_cases h : 1 ≤ q
  · rw [if_pos h, Int.emod_eq_of_lt (by omega) (by omega)]
    omega
  · have e0 : q = 0 := by omega
    subst e0
    have e1 : (((0 : Nat) : Int) + -1) % (n : Int) = (n : Int) - 1 := by
      have : (((0 : Nat) : Int) + -1) = ((n : Int) - 1) + (n : Int) * (-1) := by omega
      rw [this, Int.add_mul_emod_self_left, Int.emod_eq_of_lt (by omega) (by omega)]
    rw [e1]
    simp
theorem nxt_sg {n q : Nat} (w : Bool) (hq : q < n) : nxt n q (sg w) = pt n w q 1 := by
  cases w with
  | true => exact nxt_right hq
  | false => exact nxt_left hq
theorem nxt_nsg {n q : Nat} (w : Bool) (hq : q < n) : nxt n q (- sg w) = pt n (!w) q 1 := by
  cases w with
  | true => exact nxt_left hq
  | false => exact nxt_right hq
theorem pt_on {n p d : Nat} {w : Bool} (hp : p < n) (hd : d + 1 ≤ n) : pt n w (pt n w p d) 1 = pt n w p (d + 1) := by
  unfold pt
  cases w <;> simp <;> (repeat' split) <;> omega
theorem pt_back {n p d : Nat} {w : Bool} (hp : p < n) (hd : d + 1 ≤ n) : pt n (!w) (pt n w p (d + 1)) 1 = pt n w p d := by
  unfold pt
  cases w <;> simp <;> (repeat' split) <;> omega

/-- the numbers up to d places from p, on the side w, are lesser -/
def low (n : Nat) (nums : Nat → Int) (w : Bool) (p d : Nat) : Prop := ∀ j, 1 ≤ j → j ≤ d → nums (pt n w p j) < nums p
theorem low.mono {n : Nat} {nums : Nat → Int} {w : Bool} {p d e : Nat} (h : low n nums w p d) (he : e ≤ d) : low n nums w p e := fun j h1 h2 => h j h1 (Nat.le_trans h2 he)
theorem low.all {n : Nat} {nums : Nat → Int} {w : Bool} {p : Nat} (hp : p < n) (h : low n nums w p (n - 1)) {q : Nat} (hq : q < n) (hne : q ≠ p) : nums q < nums p := by
  obtain ⟨j, h1, h2, e⟩ := pt_all w hp hq hne
  have := h j h1 h2
  rwa [e] at this

/-- what is under way, told by whose it is: an ask (or its answer) of the hand at p on the side w, of stage s, d places away from p; a crown d places from p -/
structure Tk where
  kind : Wd
  p : Nat
  w : Bool
  s : Nat
  d : Nat
def Tk.mail (n : Nat) (nums : Nat → Int) (t : Tk) : Nat × Lt :=
  match t.kind with
  | .ask => (pt n t.w t.p t.d, ⟨sg t.w, .ask, nums t.p, (t.s : Int), ((2 ^ t.s : Nat) : Int) - (t.d : Int) + 1⟩)
  | .answer => (pt n t.w t.p t.d, ⟨- sg t.w, .answer, nums t.p, (t.s : Int), 0⟩)
  | .crown => (pt n true t.p t.d, ⟨1, .crown, nums t.p, 0, 0⟩)
def Tk.tok (p : Nat) (w : Bool) (t : Tk) : Bool := decide (t.kind ≠ .crown) && decide (t.p = p) && decide (t.w = w)
def Tk.rem (n : Nat) (t : Tk) : Nat :=
  match t.kind with
  | .ask => if 2 ^ t.s < n then 2 ^ t.s - t.d + 2 ^ t.s else n - t.d
  | .answer => t.d
  | .crown => n - t.d
def Good (n : Nat) (nums : Nat → Int) (h : Nat → Hd) (t : Tk) : Prop :=
  match t.kind with
  | .ask => t.p < n ∧ (h t.p).awake = true ∧ (h t.p).stage = (t.s : Int) ∧ 1 ≤ t.d ∧ t.d ≤ 2 ^ t.s ∧ t.d ≤ n ∧ low n nums t.w t.p (t.d - 1)
  | .answer => t.p < n ∧ (h t.p).awake = true ∧ (h t.p).stage = (t.s : Int) ∧ t.d < 2 ^ t.s ∧ 2 ^ t.s < n ∧ low n nums t.w t.p (2 ^ t.s)
  | .crown => t.p < n ∧ (h t.p).crowned = true ∧ 1 ≤ t.d ∧ t.d ≤ n ∧ ∀ j, 1 ≤ j → j < t.d → (h (pt n true t.p j)).known ≠ none

def b2i (b : Bool) : Int := if b then 1 else 0
/-- the letters that one ask of stage s may cost -/
def cS (n s : Nat) : Nat := if 2 ^ s < n then 2 * 2 ^ s else n
def costUp (n : Nat) : Nat → Nat
  | 0 => 2 * cS n 0
  | s + 1 => costUp n s + 2 * cS n (s + 1)
def costH (n : Nat) (h : Hd) : Nat := if h.awake then costUp n h.stage.toNat else 0
def sumTo (f : Nat → Nat) : Nat → Nat
  | 0 => 0
  | k + 1 => sumTo f k + f k
theorem sumTo_congr {f g : Nat → Nat} : ∀ {n : Nat}, (∀ p, p < n → f p = g p) → sumTo f n = sumTo g n
  | 0, _ => rfl
  | n + 1, h => by
    show sumTo f n + f n = sumTo g n + g n
    rw [sumTo_congr (n := n) fun p hp => h p (by omega), h n (by omega)]
theorem sumTo_upd {f g : Nat → Nat} {q : Nat} : ∀ {n : Nat}, q < n → (∀ p, p < n → p ≠ q → g p = f p) → sumTo g n + f q = sumTo f n + g q
  | 0, hq, _ => by omega
  | n + 1, hq, h => by
    show sumTo g n + g n + f q = sumTo f n + f n + g q
    by_cases e : q = n
    · subst e
      rw [sumTo_congr (f := g) (g := f) fun p hp => h p (by omega) (by omega)]
      omega
    · have := sumTo_upd (f := f) (g := g) (q := q) (n := n) (by omega) fun p hp hne => h p (by omega) hne
      have e2 := h n (by omega) (fun z => e z.symm)
      omega
theorem sumTo_le {f g : Nat → Nat} : ∀ {n : Nat}, (∀ p, p < n → f p ≤ g p) → sumTo f n ≤ sumTo g n
  | 0, _ => Nat.le_refl _
  | n + 1, h => by
    have a := sumTo_le (n := n) fun p hp => h p (by omega)
    have b := h n (by omega)
    show sumTo f n + f n ≤ sumTo g n + g n
    omega

/-- THE INVARIANT. gs: the mails under way by their owners; dn p w: whether the answer of the side w has come at the stage of p -/
structure Inv (n : Nat) (nums : Nat → Int) (S : Rg) (gs : List Tk) (dn : Nat → Bool → Bool) : Prop where
  len : S.hands.length = n
  num : ∀ p, p < n → (S.h p).num = nums p
  post : S.post = gs.map (Tk.mail n nums)
  good : ∀ t, t ∈ gs → Good n nums S.h t
  one : ∀ p w, gs.countP (Tk.tok p w) ≤ 1
  dn0 : ∀ p, p < n → ∀ w, dn p w = true → gs.countP (Tk.tok p w) = 0 ∧ (S.h p).awake = true ∧ ∃ s : Nat, (S.h p).stage = (s : Int) ∧ 2 ^ s < n ∧ low n nums w p (2 ^ s)
  came : ∀ p, p < n → (S.h p).came = b2i (dn p true) + b2i (dn p false)
  ndn : ∀ p, p < n → (S.h p).beaten = false → ¬ (dn p true = true ∧ dn p false = true)
  stg : ∀ p, p < n → ∃ s : Nat, (S.h p).stage = (s : Int) ∧ (S.h p).far = ((2 ^ s : Nat) : Int) ∧ (s = 0 ∨ (2 ^ (s - 1) < n ∧ ∀ w, low n nums w p (2 ^ (s - 1))))
  slp : ∀ p, p < n → (S.h p).awake = false → (S.h p).stage = 0 ∧ (S.h p).crowned = false ∧ (S.h p).known = none ∧ (S.h p).beaten = false
  top : ∀ p, p < n → (S.h p).crowned = true → ∀ q, q < n → nums q ≤ nums p
  ckn : ∀ p, p < n → (S.h p).crowned = true → (S.h p).known = some (nums p)
  kn : ∀ p, p < n → ∀ x, (S.h p).known = some x → ∃ m, m < n ∧ (S.h m).crowned = true ∧ x = nums m
  bt : ∀ p, p < n → (S.h p).beaten = true → ∃ q, q < n ∧ nums p < nums q
  live : ∀ p, p < n → (S.h p).awake = true → (∀ q, q < n → nums q ≤ nums p) → (S.h p).crowned = false → ∀ w, dn p w = false → gs.countP (Tk.tok p w) = 1
  crn : ∀ p, p < n → (S.h p).crowned = true → (∃ t, t ∈ gs ∧ t.kind = .crown) ∨ ∀ q, q < n → (S.h q).known ≠ none
  nei : ∀ p, p < n → (S.h p).awake = true → ∀ w, (S.h (pt n w p 1)).awake = true ∨ ∃ t, t ∈ gs ∧ (t.mail n nums).1 = pt n w p 1
  pot : ∃ c : Nat, S.many + (gs.map (Tk.rem n)).sum ≤ sumTo (fun p => costH n (S.h p)) n + c ∧ (c = 0 ∨ (c = n ∧ ∃ p, p < n ∧ (S.h p).crowned = true))
end RC
/-! # RcMath2: the invariant at the start, behind a waking, behind a mail that comes -/
namespace RC
variable {n : Nat} {nums : Nat → Int} {S S' : Rg} {gs A B ns : List Tk} {dn : Nat → Bool → Bool} {t : Tk} {q : Nat} {x' : Hd}

theorem sumTo_zero {f : Nat → Nat} : ∀ {n : Nat}, (∀ p, p < n → f p = 0) → sumTo f n = 0
  | 0, _ => rfl
  | n + 1, h => by
    show sumTo f n + f n = 0
    rw [sumTo_zero (n := n) fun p hp => h p (by omega), h n (by omega)]

theorem inv_new {ks : List Int} (hn : ks.length = n) (hk : ∀ p, p < n → ks.getD p 0 = nums p) : Inv n nums (Rg.new ks) [] (fun _ _ => false) := by
  have hh : ∀ p, p < n → (Rg.new ks).h p = Hd.new (nums p) := fun p hp => by
    rw [← hk p hp]
    unfold Rg.h Rg.new
    simp only [List.getD_eq_getElem?_getD, List.getElem?_map]
    have e : ks[p]? = some ks[p] := List.getElem?_eq_getElem (by omega)
    rw [e]
    rfl
  have tp : ∀ p, p < n → pt n true p 1 < n ∧ pt n false p 1 < n := fun p hp => ⟨pt_lt hp (by omega), pt_lt hp (by omega)⟩
  constructor
  · unfold Rg.new; simp [hn]
  · intro p hp; rw [hh p hp]; rfl
  · rfl
  · intro t ht; cases ht
  · intro p w; exact Nat.zero_le _
  · intro p hp w h; cases h
  · intro p hp; rw [hh p hp]; rfl
  · intro p hp _ h; cases h.1
  · intro p hp; rw [hh p hp]; exact ⟨0, rfl, rfl, Or.inl rfl⟩
  · intro p hp _; rw [hh p hp]; exact ⟨rfl, rfl, rfl, rfl⟩
  · intro p hp h; rw [hh p hp] at h; cases h
  · intro p hp h; rw [hh p hp] at h; cases h
  · intro p hp x h; rw [hh p hp] at h; cases h
  · intro p hp h; rw [hh p hp] at h; cases h
  · intro p hp h; rw [hh p hp] at h; cases h
  · intro p hp h; rw [hh p hp] at h; cases h
  · intro p hp h; rw [hh p hp] at h; cases h
  · exact ⟨0, by
      rw [sumTo_zero fun p hp => by rw [hh p hp]; rfl]
      exact Nat.le_refl _, Or.inl rfl⟩

/-- a greatest one is nobody's lesser -/
theorem not_beaten_top (I : Inv n nums S gs dn) {p : Nat} (hp : p < n) (h : ∀ q, q < n → nums q ≤ nums p) : (S.h p).beaten = false := by
  cases e : (S.h p).beaten with
  | false => rfl
  | true =>
    obtain ⟨q, hq, hl⟩ := I.bt p hp e
    have := h q hq
    omega

theorem mem_mid {α : Type} {A B : List α} {t x : α} : x ∈ A ++ t :: B ↔ x = t ∨ x ∈ A ++ B := by
  simp only [List.mem_append, List.mem_cons]
  constructor
  · rintro (h | h | h)
    · exact Or.inr (Or.inl h)
    · exact Or.inl h
    · exact Or.inr (Or.inr h)
  · rintro (h | h | h)
    · exact Or.inr (Or.inl h)
    · exact Or.inl h
    · exact Or.inr (Or.inr h)
theorem cp_mid {α : Type} {f : α → Bool} {A B : List α} {t : α} : (A ++ t :: B).countP f = (A ++ B).countP f + (if f t = true then 1 else 0) := by
  simp only [List.countP_append, List.countP_cons]
  omega
theorem rem_mid {f : Tk → Nat} {A B : List Tk} {t : Tk} : ((A ++ t :: B).map f).sum = ((A ++ B).map f).sum + f t := by
  simp only [List.map_append, List.map_cons, List.sum_append, List.sum_cons]
  omega

/-- A MOVE: the token t becomes ns (none or one), the hand at q keeps all but «beaten» and «known» -/
theorem Inv.move (I : Inv n nums S (A ++ t :: B) dn) (hq : q < n) (ha : (S.h q).awake = true) (htq : (t.mail n nums).1 = q)
    (len' : S'.hands.length = n) (h' : ∀ p, S'.h p = if p = q then x' else S.h p) (post' : S'.post = (A ++ B ++ ns).map (Tk.mail n nums)) (many' : S'.many = S.many + ns.length)
    (xnum : x'.num = (S.h q).num) (xaw : x'.awake = (S.h q).awake) (xcr : x'.crowned = (S.h q).crowned) (xst : x'.stage = (S.h q).stage) (xfar : x'.far = (S.h q).far) (xcame : x'.came = (S.h q).came)
    (xbt : x'.beaten = (S.h q).beaten ∨ (x'.beaten = true ∧ ∃ p, p < n ∧ nums q < nums p))
    (xkn : x'.known = (S.h q).known ∨ ∃ m, m < n ∧ (S.h m).crowned = true ∧ x'.known = some (nums m))
    (gns : ∀ u, u ∈ ns → Good n nums S'.h u) (cns : ∀ p w, ns.countP (Tk.tok p w) ≤ if Tk.tok p w t = true then 1 else 0)
    (lns : ∀ w, (∀ z, z < n → nums z ≤ nums t.p) → (S.h t.p).crowned = false → Tk.tok t.p w t = true → ns.countP (Tk.tok t.p w) = 1)
    (kns : t.kind = .crown → (∃ u, u ∈ ns ∧ u.kind = .crown) ∨ ∀ z, z < n → (S'.h z).known ≠ none)
    (rns : (ns.map (Tk.rem n)).sum + ns.length ≤ t.rem n) : Inv n nums S' (A ++ B ++ ns) dn := by
  have fld : ∀ {α : Type} (f : Hd → α), f x' = f (S.h q) → ∀ p, f (S'.h p) = f (S.h p) := fun f e p => by
    rw [h' p]
    by_cases hp : p = q
    · rw [if_pos hp, e, hp]
    · rw [if_neg hp]
  have fnum := fld (·.num) xnum
  have faw := fld (·.awake) xaw
  have fcr := fld (·.crowned) xcr
  have fst := fld (·.stage) xst
  have ffar := fld (·.far) xfar
  have fcame := fld (·.came) xcame
  have tp : t.p < n := by
    have g := I.good t (mem_mid.mpr (Or.inl rfl))
    unfold Good at g
    cases e : t.kind <;> rw [e] at g <;> exact g.1
  -- who knew knows
  have knm : ∀ p, (S.h p).known ≠ none → (S'.h p).known ≠ none := fun p hk => by
    rw [h' p]
    by_cases hp : p = q
    · rw [if_pos hp]
      rcases xkn with e | ⟨m, _, _, e⟩
      · rw [e, ← hp]; exact hk
      · rw [e]; simp
    · rw [if_neg hp]; exact hk
  have old : ∀ u, u ∈ A ++ B → Good n nums S'.h u := fun u hu => by
    have g := I.good u (mem_mid.mpr (Or.inr hu))
    unfold Good at *
    cases e : u.kind <;> simp only [e] at g ⊢
    · rw [faw, fst]; exact g
    · rw [faw, fst]; exact g
    · rw [fcr]
      exact ⟨g.1, g.2.1, g.2.2.1, g.2.2.2.1, fun j h1 h2 => knm _ (g.2.2.2.2 j h1 h2)⟩
  have cnt : ∀ p w, (A ++ B ++ ns).countP (Tk.tok p w) ≤ (A ++ t :: B).countP (Tk.tok p w) := fun p w => by
    rw [List.countP_append, cp_mid]
    have := cns p w
    omega
  constructor
  · exact len'
  · intro p hp; rw [fnum]; exact I.num p hp
  · exact post'
  · intro u hu
    rcases List.mem_append.mp hu with hu | hu
    · exact old u hu
    · exact gns u hu
  · intro p w
    exact Nat.le_trans (cnt p w) (I.one p w)
  · intro p hp w hd
    obtain ⟨h1, h2, h3⟩ := I.dn0 p hp w hd
    refine ⟨?_, by rw [faw]; exact h2, by rw [fst]; exact h3⟩
    have := cnt p w
    omega
  · intro p hp; rw [fcame]; exact I.came p hp
  · intro p hp hb
    refine I.ndn p hp ?_
    rw [h' p] at hb
    by_cases e : p = q
    · rw [if_pos e] at hb
      rw [e]
      rcases xbt with z | ⟨z, _⟩
      · rw [← z]; exact hb
      · rw [z] at hb; cases hb
    · rw [if_neg e] at hb; exact hb
  · intro p hp; rw [fst, ffar]; exact I.stg p hp
  · intro p hp hw
    rw [faw] at hw
    have e : p ≠ q := fun z => by rw [z, ha] at hw; cases hw
    rw [h' p, if_neg e]
    exact I.slp p hp hw
  · intro p hp; rw [fcr]; exact I.top p hp
  · intro p hp hc
    rw [fcr] at hc
    have k := I.ckn p hp hc
    rw [h' p]
    by_cases e : p = q
    · rw [if_pos e]
      rcases xkn with z | ⟨m, hm, hmc, z⟩
      · rw [z, ← e]; exact k
      · rw [z]
        have a := I.top p hp hc m hm
        have b := I.top m hm hmc p hp
        have : nums m = nums p := by omega
        rw [this]
    · rw [if_neg e]; exact k
  · intro p hp x hx
    rw [h' p] at hx
    by_cases e : p = q
    · rw [if_pos e] at hx
      rcases xkn with z | ⟨m, hm, hmc, z⟩
      · rw [z, ← e] at hx
        obtain ⟨m, hm, hc, ex⟩ := I.kn p hp x hx
        exact ⟨m, hm, by rw [fcr]; exact hc, ex⟩
      · rw [z] at hx
        exact ⟨m, hm, by rw [fcr]; exact hmc, (Option.some.inj hx).symm⟩
    · rw [if_neg e] at hx
      obtain ⟨m, hm, hc, ex⟩ := I.kn p hp x hx
      exact ⟨m, hm, by rw [fcr]; exact hc, ex⟩
  · intro p hp hb
    rw [h' p] at hb
    by_cases e : p = q
    · rw [if_pos e] at hb
      rcases xbt with z | ⟨_, m, hm, hl⟩
      · rw [z, ← e] at hb; exact I.bt p hp hb
      · rw [e]; exact ⟨m, hm, hl⟩
    · rw [if_neg e] at hb; exact I.bt p hp hb
  · intro p hp hw ht hc w hd
    rw [faw] at hw
    rw [fcr] at hc
    have a := I.live p hp hw ht hc w hd
    rw [cp_mid] at a
    rw [List.countP_append]
    by_cases z : Tk.tok p w t = true
    · rw [if_pos z] at a
      have e : t.p = p := by
        unfold Tk.tok at z
        simp at z
        exact z.1.2
      have b := lns w (by rw [e]; exact ht) (by rw [e]; exact hc) (by rw [e]; exact z)
      rw [e] at b
      omega
    · rw [if_neg z] at a
      have b := cns p w
      rw [if_neg z] at b
      omega
  · intro p hp hc
    rw [fcr] at hc
    rcases I.crn p hp hc with ⟨u, hu, ek⟩ | hk
    · rcases mem_mid.mp hu with e | hu
      · rw [e] at ek
        rcases kns ek with ⟨v, hv, ev⟩ | hk
        · exact Or.inl ⟨v, List.mem_append.mpr (Or.inr hv), ev⟩
        · exact Or.inr hk
      · exact Or.inl ⟨u, List.mem_append.mpr (Or.inl hu), ek⟩
    · exact Or.inr fun z hz => knm z (hk z hz)
  · intro p hp hw w
    rw [faw] at hw
    rw [faw]
    rcases I.nei p hp hw w with h | ⟨u, hu, eu⟩
    · exact Or.inl h
    · rcases mem_mid.mp hu with e | hu
      · rw [e, htq] at eu
        rw [← eu]
        exact Or.inl ha
      · exact Or.inr ⟨u, List.mem_append.mpr (Or.inl hu), eu⟩
  · obtain ⟨c, hc, ho⟩ := I.pot
    refine ⟨c, ?_, ?_⟩
    · rw [rem_mid] at hc
      rw [many', List.map_append, List.sum_append]
      have e : sumTo (fun p => costH n (S'.h p)) n = sumTo (fun p => costH n (S.h p)) n := sumTo_congr fun p _ => by
        show costH n (S'.h p) = costH n (S.h p)
        unfold costH
        rw [faw, fst]
      rw [e]
      omega
    · rcases ho with h | ⟨h, m, hm, hmc⟩
      · exact Or.inl h
      · exact Or.inr ⟨h, m, hm, by rw [fcr]; exact hmc⟩
end RC
/-! # RcMath3: the other three deeds: a crown is made, an answer is counted, a stage is gone up; waking -/
namespace RC
variable {n : Nat} {nums : Nat → Int} {S S' : Rg} {gs A B ns : List Tk} {dn : Nat → Bool → Bool} {t : Tk} {q : Nat} {x' : Hd}

/-- the crown as the hand at q sends it -/
def crown1 (q : Nat) : List Tk := [⟨.crown, q, true, 0, 1⟩]
/-- its own ask has come round: the hand at q is the first -/
theorem Inv.crown (inj : ∀ p q, p < n → q < n → nums p = nums q → p = q) (I : Inv n nums S (A ++ t :: B) dn) (hq : q < n) (ha : (S.h q).awake = true) (hc : (S.h q).crowned = false)
    (tk : t.kind = .ask) (tp : t.p = q) (td : t.d = n)
    (len' : S'.hands.length = n) (h' : ∀ p, S'.h p = if p = q then x' else S.h p) (post' : S'.post = (A ++ B ++ crown1 q).map (Tk.mail n nums)) (many' : S'.many = S.many + 1)
    (ex : x' = { S.h q with crowned := true, known := some (nums q) }) : Inv n nums S' (A ++ B ++ crown1 q) dn := by
  have g := I.good t (mem_mid.mpr (Or.inl rfl))
  unfold Good at g
  rw [tk] at g
  simp only at g
  obtain ⟨g1, g2, g3, g4, g5, g6, g7⟩ := g
  rw [td, tp] at g7
  have htop : ∀ z, z < n → nums z ≤ nums q := fun z hz => by
    by_cases e : z = q
    · rw [e]; exact Int.le_refl _
    · have := low.all hq g7 hz e; omega
  have noc : ∀ p, p < n → (S.h p).crowned = false := fun p hp => by
    cases e : (S.h p).crowned with
    | false => rfl
    | true =>
      have a := I.top p hp e q hq
      have b := htop p hp
      have : p = q := inj p q hp hq (by omega)
      rw [this, hc] at e; cases e
  have nok : ∀ p, p < n → (S.h p).known = none := fun p hp => by
    cases e : (S.h p).known with
    | none => rfl
    | some x =>
      obtain ⟨m, hm, hmc, _⟩ := I.kn p hp x e
      rw [noc m hm] at hmc; cases hmc
  have fld : ∀ {α : Type} (f : Hd → α), f x' = f (S.h q) → ∀ p, f (S'.h p) = f (S.h p) := fun f e p => by
    rw [h' p]
    by_cases hp : p = q
    · rw [if_pos hp, e, hp]
    · rw [if_neg hp]
  have fnum := fld (·.num) (by rw [ex])
  have faw := fld (·.awake) (by rw [ex])
  have fst := fld (·.stage) (by rw [ex])
  have ffar := fld (·.far) (by rw [ex])
  have fcame := fld (·.came) (by rw [ex])
  have fbt := fld (·.beaten) (by rw [ex])
  have hqq : S'.h q = x' := by rw [h' q, if_pos rfl]
  have cq : (S'.h q).crowned = true := by rw [hqq, ex]
  have cn : ∀ p, p < n → (S'.h p).crowned = true → p = q := fun p hp h => by
    by_cases e : p = q
    · exact e
    · rw [h' p, if_neg e, noc p hp] at h; cases h
  have kn' : ∀ p, p < n → ∀ x, (S'.h p).known = some x → p = q ∧ x = nums q := fun p hp x h => by
    by_cases e : p = q
    · rw [e, hqq, ex] at h
      exact ⟨e, (Option.some.inj h).symm⟩
    · rw [h' p, if_neg e, nok p hp] at h; cases h
  have hcp : ∀ p w, (A ++ B ++ crown1 q).countP (Tk.tok p w) = (A ++ B).countP (Tk.tok p w) := fun p w => by
    rw [List.countP_append]; rfl
  have nocr : ∀ u, u ∈ A ++ B → u.kind ≠ .crown := fun u hu e => by
    have g := I.good u (mem_mid.mpr (Or.inr hu))
    unfold Good at g
    rw [e] at g
    simp only at g
    rw [noc u.p g.1] at g
    cases g.2.1
  constructor
  · exact len'
  · intro p hp; rw [fnum]; exact I.num p hp
  · exact post'
  · intro u hu
    rcases List.mem_append.mp hu with hu | hu
    · have g := I.good u (mem_mid.mpr (Or.inr hu))
      have ne := nocr u hu
      unfold Good at *
      cases e : u.kind <;> simp only [e] at g ⊢
      · rw [faw, fst]; exact g
      · rw [faw, fst]; exact g
      · exact absurd e ne
    · unfold crown1 at hu
      rw [List.mem_singleton] at hu
      rw [hu]
      refine ⟨hq, cq, Nat.le_refl _, ?_, fun j h1 h2 => absurd h2 (by show ¬ j < 1; omega)⟩
      show 1 ≤ n
      omega
  · intro p w
    have := I.one p w
    rw [cp_mid] at this
    rw [hcp]
    omega
  · intro p hp w hd
    obtain ⟨h1, h2, h3⟩ := I.dn0 p hp w hd
    refine ⟨?_, by rw [faw]; exact h2, by rw [fst]; exact h3⟩
    rw [cp_mid] at h1
    rw [hcp]
    omega
  · intro p hp; rw [fcame]; exact I.came p hp
  · intro p hp hb; rw [fbt] at hb; exact I.ndn p hp hb
  · intro p hp; rw [fst, ffar]; exact I.stg p hp
  · intro p hp hw
    rw [faw] at hw
    have e : p ≠ q := fun z => by rw [z, ha] at hw; cases hw
    rw [h' p, if_neg e]
    exact I.slp p hp hw
  · intro p hp h; rw [cn p hp h]; exact htop
  · intro p hp h; rw [cn p hp h, hqq, ex]
  · intro p hp x hx
    exact ⟨q, hq, cq, (kn' p hp x hx).2⟩
  · intro p hp hb; rw [fbt] at hb; exact I.bt p hp hb
  · intro p hp hw ht h w hd
    have : p ≠ q := fun e => by rw [e, cq] at h; cases h
    exact absurd (inj p q hp hq (by have a := ht q hq; have b := htop p hp; omega)) this
  · intro p hp h
    exact Or.inl ⟨_, List.mem_append.mpr (Or.inr (List.mem_singleton.mpr rfl)), rfl⟩
  · intro p hp hw w
    rw [faw] at hw
    rw [faw]
    rcases I.nei p hp hw w with h | ⟨u, hu, eu⟩
    · exact Or.inl h
    · rcases mem_mid.mp hu with e | hu
      · have : (t.mail n nums).1 = q := by
          unfold Tk.mail
          rw [tk]
          show pt n t.w t.p t.d = q
          rw [tp, td]
          exact pt_n hq
        rw [e, this] at eu
        rw [← eu]
        exact Or.inl ha
      · exact Or.inr ⟨u, List.mem_append.mpr (Or.inl hu), eu⟩
  · obtain ⟨c, hc', ho⟩ := I.pot
    refine ⟨n, ?_, Or.inr ⟨rfl, q, hq, cq⟩⟩
    have c0 : c = 0 := by
      rcases ho with h | ⟨_, m, hm, hmc⟩
      · exact h
      · rw [noc m hm] at hmc; cases hmc
    rw [rem_mid] at hc'
    rw [many', List.map_append, List.sum_append]
    have e : sumTo (fun p => costH n (S'.h p)) n = sumTo (fun p => costH n (S.h p)) n := sumTo_congr fun p _ => by
      show costH n (S'.h p) = costH n (S.h p)
      unfold costH
      rw [faw, fst]
    have er : (List.map (Tk.rem n) (crown1 q)).sum = n - 1 := by
      show n - 1 + 0 = n - 1
      omega
    rw [e, er]
    omega

/-- an answer to an ask of its own has come and is counted, no more -/
theorem Inv.count (I : Inv n nums S (A ++ t :: B) dn) (hq : q < n) (ha : (S.h q).awake = true)
    (tk : t.kind = .answer) (tp : t.p = q) (td : t.d = 0) (hb : (S.h q).came + 1 < 2 ∨ (S.h q).beaten = true)
    (len' : S'.hands.length = n) (h' : ∀ p, S'.h p = if p = q then x' else S.h p) (post' : S'.post = (A ++ B).map (Tk.mail n nums)) (many' : S'.many = S.many)
    (ex : x' = { S.h q with came := (S.h q).came + 1 }) : Inv n nums S' (A ++ B) (fun p w => if p = q ∧ w = t.w then true else dn p w) := by
  have g := I.good t (mem_mid.mpr (Or.inl rfl))
  unfold Good at g
  rw [tk] at g
  simp only at g
  obtain ⟨g1, g2, g3, g4, g5, g6⟩ := g
  rw [tp] at g3 g6
  have fld : ∀ {α : Type} (f : Hd → α), f x' = f (S.h q) → ∀ p, f (S'.h p) = f (S.h p) := fun f e p => by
    rw [h' p]
    by_cases hp : p = q
    · rw [if_pos hp, e, hp]
    · rw [if_neg hp]
  have fnum := fld (·.num) (by rw [ex])
  have faw := fld (·.awake) (by rw [ex])
  have fcr := fld (·.crowned) (by rw [ex])
  have fst := fld (·.stage) (by rw [ex])
  have ffar := fld (·.far) (by rw [ex])
  have fkn := fld (·.known) (by rw [ex])
  have fbt := fld (·.beaten) (by rw [ex])
  have hqq : S'.h q = x' := by rw [h' q, if_pos rfl]
  have ttok : Tk.tok q t.w t = true := by
    unfold Tk.tok
    rw [tk, tp]
    simp
  have c0 : (A ++ B).countP (Tk.tok q t.w) = 0 := by
    have := I.one q t.w
    rw [cp_mid, if_pos ttok] at this
    omega
  have dnt : dn q t.w = false := by
    cases e : dn q t.w with
    | false => rfl
    | true =>
      have := (I.dn0 q hq t.w e).1
      rw [cp_mid, if_pos ttok] at this
      omega
  have came0 : (S.h q).came = b2i (dn q (!t.w)) := by
    have := I.came q hq
    cases e : t.w <;> rw [e] at dnt <;> rw [dnt] at this <;> rw [this] <;> unfold b2i <;> simp
  constructor
  · exact len'
  · intro p hp; rw [fnum]; exact I.num p hp
  · exact post'
  · intro u hu
    have g := I.good u (mem_mid.mpr (Or.inr hu))
    unfold Good at *
    cases e : u.kind <;> simp only [e] at g ⊢
    · rw [faw, fst]; exact g
    · rw [faw, fst]; exact g
    · rw [fcr]
      exact ⟨g.1, g.2.1, g.2.2.1, g.2.2.2.1, fun j h1 h2 => by rw [fkn]; exact g.2.2.2.2 j h1 h2⟩
  · intro p w
    have := I.one p w
    rw [cp_mid] at this
    omega
  · intro p hp w hd
    by_cases e : p = q ∧ w = t.w
    · rw [e.1, e.2]
      exact ⟨c0, by rw [faw]; exact ha, t.s, by rw [fst]; exact g3, g5, g6⟩
    · rw [if_neg e] at hd
      obtain ⟨h1, h2, h3⟩ := I.dn0 p hp w hd
      refine ⟨?_, by rw [faw]; exact h2, by rw [fst]; exact h3⟩
      rw [cp_mid] at h1
      omega
  · intro p hp
    by_cases e : p = q
    · rw [e, hqq, ex]
      show (S.h q).came + 1 = _
      rw [came0]
      cases ew : t.w <;> rw [ew] at dnt <;> simp [dnt, b2i] <;> omega
    · rw [h' p, if_neg e, I.came p hp]
      simp [e]
  · intro p hp hbt
    rw [fbt] at hbt
    by_cases e : p = q
    · intro ⟨h1, h2⟩
      rw [e] at hbt
      rcases hb with hb | hb
      · rw [came0] at hb
        cases ew : t.w <;> rw [ew] at hb <;> rw [e] at h1 h2 <;> simp [ew] at h1 h2 hb
        · rw [h1] at hb; exact absurd hb (by decide)
        · rw [h2] at hb; exact absurd hb (by decide)
      · rw [hb] at hbt; cases hbt
    · intro ⟨h1, h2⟩
      rw [if_neg (fun z => e z.1)] at h1 h2
      exact I.ndn p hp hbt ⟨h1, h2⟩
  · intro p hp; rw [fst, ffar]; exact I.stg p hp
  · intro p hp hw
    rw [faw] at hw
    have e : p ≠ q := fun z => by rw [z, ha] at hw; cases hw
    rw [h' p, if_neg e]
    exact I.slp p hp hw
  · intro p hp; rw [fcr]; exact I.top p hp
  · intro p hp; rw [fcr, fkn]; exact I.ckn p hp
  · intro p hp x hx
    rw [fkn] at hx
    obtain ⟨m, hm, hc, e⟩ := I.kn p hp x hx
    exact ⟨m, hm, by rw [fcr]; exact hc, e⟩
  · intro p hp hb; rw [fbt] at hb; exact I.bt p hp hb
  · intro p hp hw ht hc w hd
    rw [faw] at hw
    rw [fcr] at hc
    by_cases e : p = q ∧ w = t.w
    · rw [if_pos e] at hd; cases hd
    · rw [if_neg e] at hd
      have a := I.live p hp hw ht hc w hd
      rw [cp_mid] at a
      have z : ¬ Tk.tok p w t = true := fun z => by
        unfold Tk.tok at z
        simp at z
        exact e ⟨by rw [← z.1.2]; exact tp, z.2.symm⟩
      rw [if_neg z] at a
      omega
  · intro p hp hc
    rw [fcr] at hc
    rcases I.crn p hp hc with ⟨u, hu, ek⟩ | hk
    · rcases mem_mid.mp hu with e | hu
      · rw [e, tk] at ek; cases ek
      · exact Or.inl ⟨u, hu, ek⟩
    · exact Or.inr fun z hz => by rw [fkn]; exact hk z hz
  · intro p hp hw w
    rw [faw] at hw
    rw [faw]
    rcases I.nei p hp hw w with h | ⟨u, hu, eu⟩
    · exact Or.inl h
    · rcases mem_mid.mp hu with e | hu
      · have : (t.mail n nums).1 = q := by
          unfold Tk.mail
          rw [tk]
          show pt n t.w t.p t.d = q
          rw [tp, td]
          exact pt_zero hq
        rw [e, this] at eu
        rw [← eu]
        exact Or.inl ha
      · exact Or.inr ⟨u, hu, eu⟩
  · obtain ⟨c, hc, ho⟩ := I.pot
    refine ⟨c, ?_, ?_⟩
    · rw [rem_mid] at hc
      rw [many']
      have e : sumTo (fun p => costH n (S'.h p)) n = sumTo (fun p => costH n (S.h p)) n := sumTo_congr fun p _ => by
        show costH n (S'.h p) = costH n (S.h p)
        unfold costH
        rw [faw, fst]
      rw [e]
      omega
    · rcases ho with h | ⟨h, m, hm, hmc⟩
      · exact Or.inl h
      · exact Or.inr ⟨h, m, hm, by rw [fcr]; exact hmc⟩

/-- the two asks of the hand at q, of the stage s -/
def asks2 (q s : Nat) : List Tk := [⟨.ask, q, true, s, 1⟩, ⟨.ask, q, false, s, 1⟩]
theorem asks2_tok (q s p : Nat) (w : Bool) : (asks2 q s).countP (Tk.tok p w) = if p = q then 1 else 0 := by
  unfold asks2
  simp only [List.countP_cons, List.countP_nil, Tk.tok]
  by_cases e : p = q
  · subst e
    cases w <;> simp
  · have e' : ¬ q = p := fun z => e z.symm
    simp [e, e']
theorem asks2_rem (q s : Nat) (hn : 0 < n) : ((asks2 q s).map (Tk.rem n)).sum + 2 ≤ 2 * cS n s := by
  unfold asks2 cS
  have h2 : 1 ≤ 2 ^ s := Nat.one_le_two_pow
  simp only [List.map_cons, List.map_nil, List.sum_cons, List.sum_nil, Tk.rem]
  split <;> omega
theorem asks2_good {h : Nat → Hd} (hq : q < n) (ha : (h q).awake = true) {s : Nat} (hs : (h q).stage = (s : Int)) : ∀ u, u ∈ asks2 q s → Good n nums h u := by
  intro u hu
  have h2 : 1 ≤ 2 ^ s := Nat.one_le_two_pow
  unfold asks2 at hu
  simp only [List.mem_cons, List.not_mem_nil, or_false] at hu
  rcases hu with e | e <;> rw [e] <;> exact ⟨hq, ha, hs, Nat.le_refl _, h2, by show 1 ≤ n; omega, fun j h1 h3 => absurd h3 (by show ¬ j ≤ 1 - 1; omega)⟩
theorem asks2_mail {h : Hd} (hq : q < n) (hnum : h.num = nums q) {s : Nat} (hs : h.stage = (s : Int)) (hf : h.far = ((2 ^ s : Nat) : Int)) :
    h.asks.map (fun l => (nxt n q l.way, l)) = (asks2 q s).map (Tk.mail n nums) := by
  unfold Hd.asks asks2
  simp only [List.map_cons, List.map_nil, Tk.mail, hnum, hs, hf]
  have e : ((2 ^ s : Nat) : Int) - ((1 : Nat) : Int) + 1 = ((2 ^ s : Nat) : Int) := by omega
  rw [nxt_right hq, nxt_left hq, e]
  rfl

/-- the second answer has come, nobody greater has: a stage up -/
theorem Inv.climb (I : Inv n nums S (A ++ t :: B) dn) (hq : q < n) (ha : (S.h q).awake = true)
    (tk : t.kind = .answer) (tp : t.p = q) (td : t.d = 0) (hb : ¬ ((S.h q).came + 1 < 2 ∨ (S.h q).beaten = true))
    (len' : S'.hands.length = n) (h' : ∀ p, S'.h p = if p = q then x' else S.h p) (post' : S'.post = (A ++ B ++ asks2 q (t.s + 1)).map (Tk.mail n nums)) (many' : S'.many = S.many + 2)
    (ex : x' = (S.h q).up) : Inv n nums S' (A ++ B ++ asks2 q (t.s + 1)) (fun p w => if p = q then false else dn p w) := by
  have g := I.good t (mem_mid.mpr (Or.inl rfl))
  unfold Good at g
  rw [tk] at g
  simp only at g
  obtain ⟨g1, g2, g3, g4, g5, g6⟩ := g
  rw [tp] at g3 g6
  have fld : ∀ {α : Type} (f : Hd → α), f x' = f (S.h q) → ∀ p, f (S'.h p) = f (S.h p) := fun f e p => by
    rw [h' p]
    by_cases hp : p = q
    · rw [if_pos hp, e, hp]
    · rw [if_neg hp]
  have fnum := fld (·.num) (by rw [ex]; rfl)
  have faw := fld (·.awake) (by rw [ex]; rfl)
  have fcr := fld (·.crowned) (by rw [ex]; rfl)
  have fkn := fld (·.known) (by rw [ex]; rfl)
  have fbt := fld (·.beaten) (by rw [ex]; rfl)
  have hqq : S'.h q = x' := by rw [h' q, if_pos rfl]
  have hne : ∀ p, p ≠ q → S'.h p = S.h p := fun p e => by rw [h' p, if_neg e]
  have st' : (S'.h q).stage = ((t.s + 1 : Nat) : Int) := by
    rw [hqq, ex]
    show (S.h q).stage + 1 = _
    rw [g3]; rfl
  have ttok : Tk.tok q t.w t = true := by
    unfold Tk.tok
    rw [tk, tp]
    simp
  have c0 : (A ++ B).countP (Tk.tok q t.w) = 0 := by
    have := I.one q t.w
    rw [cp_mid, if_pos ttok] at this
    omega
  have dnt : dn q t.w = false := by
    cases e : dn q t.w with
    | false => rfl
    | true =>
      have := (I.dn0 q hq t.w e).1
      rw [cp_mid, if_pos ttok] at this
      omega
  have came0 : (S.h q).came = b2i (dn q (!t.w)) := by
    have := I.came q hq
    cases e : t.w <;> rw [e] at dnt <;> rw [dnt] at this <;> rw [this] <;> unfold b2i <;> simp
  have nlt : ¬ (S.h q).came + 1 < 2 := fun z => hb (Or.inl z)
  have nbt : (S.h q).beaten = false := by
    cases e : (S.h q).beaten with
    | false => rfl
    | true => exact absurd (Or.inr e) hb
  have dno : dn q (!t.w) = true := by
    cases e : dn q (!t.w) with
    | true => rfl
    | false => rw [e] at came0; rw [came0] at nlt; exact absurd (by decide) nlt
  obtain ⟨z1, z2, s', z3, z4, z5⟩ := I.dn0 q hq (!t.w) dno
  have ess : s' = t.s := by rw [g3] at z3; exact (Int.ofNat_inj.mp z3).symm
  rw [ess] at z5
  have nt0 : ∀ w, (A ++ B).countP (Tk.tok q w) = 0 := fun w => by
    by_cases e : w = t.w
    · rw [e]; exact c0
    · have e' : w = !t.w := by cases w <;> cases h : t.w <;> simp [h] at e ⊢
      rw [e']
      rw [cp_mid] at z1
      omega
  have lows : ∀ w, low n nums w q (2 ^ t.s) := fun w => by
    by_cases e : w = t.w
    · rw [e]; exact g6
    · have e' : w = !t.w := by cases w <;> cases h : t.w <;> simp [h] at e ⊢
      rw [e']; exact z5
  have own : ∀ u, u ∈ A ++ B → u.kind ≠ .crown → u.p ≠ q := fun u hu k e => by
    have := nt0 u.w
    rw [List.countP_eq_zero] at this
    have := this u hu
    unfold Tk.tok at this
    simp [k, e] at this
  constructor
  · exact len'
  · intro p hp; rw [fnum]; exact I.num p hp
  · exact post'
  · intro u hu
    rcases List.mem_append.mp hu with hu | hu
    · have g := I.good u (mem_mid.mpr (Or.inr hu))
      unfold Good at *
      cases e : u.kind <;> simp only [e] at g ⊢
      · rw [hne _ (own u hu (by rw [e]; decide))]; exact g
      · rw [hne _ (own u hu (by rw [e]; decide))]; exact g
      · rw [fcr]
        exact ⟨g.1, g.2.1, g.2.2.1, g.2.2.2.1, fun j h1 h2 => by rw [fkn]; exact g.2.2.2.2 j h1 h2⟩
    · exact asks2_good hq (by rw [faw]; exact ha) st' u hu
  · intro p w
    rw [List.countP_append, asks2_tok]
    by_cases e : p = q
    · rw [e, nt0, if_pos rfl]; exact Nat.le_refl _
    · have := I.one p w
      rw [cp_mid] at this
      rw [if_neg e]
      omega
  · intro p hp w hd
    by_cases e : p = q
    · rw [if_pos e] at hd; cases hd
    · rw [if_neg e] at hd
      obtain ⟨h1, h2, h3⟩ := I.dn0 p hp w hd
      rw [hne p e]
      refine ⟨?_, h2, h3⟩
      rw [cp_mid] at h1
      rw [List.countP_append, asks2_tok, if_neg e]
      omega
  · intro p hp
    by_cases e : p = q
    · rw [e, hqq, ex, if_pos rfl, if_pos rfl]; rfl
    · rw [hne p e, if_neg e, if_neg e]; exact I.came p hp
  · intro p hp hbt
    by_cases e : p = q
    · rw [if_pos e, if_pos e]; intro z; cases z.1
    · rw [if_neg e, if_neg e]; rw [hne p e] at hbt; exact I.ndn p hp hbt
  · intro p hp
    by_cases e : p = q
    · rw [e]
      obtain ⟨s, h1, h2, _⟩ := I.stg q hq
      have es : s = t.s := by rw [g3] at h1; exact (Int.ofNat_inj.mp h1).symm
      refine ⟨t.s + 1, st', ?_, Or.inr ⟨g5, lows⟩⟩
      rw [hqq, ex]
      show 2 * (S.h q).far = _
      rw [h2, es, Nat.pow_succ]
      omega
    · rw [hne p e]; exact I.stg p hp
  · intro p hp hw
    rw [faw] at hw
    have e : p ≠ q := fun z => by rw [z, ha] at hw; cases hw
    rw [hne p e]
    exact I.slp p hp hw
  · intro p hp; rw [fcr]; exact I.top p hp
  · intro p hp; rw [fcr, fkn]; exact I.ckn p hp
  · intro p hp x hx
    rw [fkn] at hx
    obtain ⟨m, hm, hc, e⟩ := I.kn p hp x hx
    exact ⟨m, hm, by rw [fcr]; exact hc, e⟩
  · intro p hp hb; rw [fbt] at hb; exact I.bt p hp hb
  · intro p hp hw ht hc w hd
    rw [List.countP_append, asks2_tok]
    by_cases e : p = q
    · rw [if_pos e, e, nt0]
    · rw [if_neg e] at hd
      rw [hne p e] at hw hc
      have a := I.live p hp hw ht hc w hd
      rw [cp_mid] at a
      have z : ¬ Tk.tok p w t = true := fun z => by
        unfold Tk.tok at z
        simp at z
        exact e (by rw [← z.1.2]; exact tp)
      rw [if_neg z] at a
      rw [if_neg e]
      omega
  · intro p hp hc
    rw [fcr] at hc
    rcases I.crn p hp hc with ⟨u, hu, ek⟩ | hk
    · rcases mem_mid.mp hu with e | hu
      · rw [e, tk] at ek; cases ek
      · exact Or.inl ⟨u, List.mem_append.mpr (Or.inl hu), ek⟩
    · exact Or.inr fun z hz => by rw [fkn]; exact hk z hz
  · intro p hp hw w
    rw [faw] at hw
    rw [faw]
    rcases I.nei p hp hw w with h | ⟨u, hu, eu⟩
    · exact Or.inl h
    · rcases mem_mid.mp hu with e | hu
      · have : (t.mail n nums).1 = q := by
          unfold Tk.mail
          rw [tk]
          show pt n t.w t.p t.d = q
          rw [tp, td]
          exact pt_zero hq
        rw [e, this] at eu
        rw [← eu]
        exact Or.inl ha
      · exact Or.inr ⟨u, List.mem_append.mpr (Or.inl hu), eu⟩
  · obtain ⟨c, hc, ho⟩ := I.pot
    refine ⟨c, ?_, ?_⟩
    · rw [rem_mid] at hc
      rw [many', List.map_append, List.sum_append]
      have hsum := sumTo_upd (f := fun p => costH n (S.h p)) (g := fun p => costH n (S'.h p)) (q := q) (n := n) hq fun p hp e => by
        show costH n (S'.h p) = costH n (S.h p)
        rw [hne p e]
      have c1 : costH n (S.h q) = costUp n t.s := by
        unfold costH
        rw [ha, if_pos rfl, g3]; rfl
      have c2 : costH n (S'.h q) = costUp n t.s + 2 * cS n (t.s + 1) := by
        unfold costH
        rw [faw, ha, if_pos rfl, st']; rfl
      have hr := asks2_rem (n := n) q (t.s + 1) (by omega)
      rw [c1, c2] at hsum
      omega
    · rcases ho with h | ⟨h, m, hm, hmc⟩
      · exact Or.inl h
      · exact Or.inr ⟨h, m, hm, by rw [fcr]; exact hmc⟩

/-- a sleeping hand is woken -/
theorem Inv.woken (I : Inv n nums S gs dn) (hq : q < n) (ha : (S.h q).awake = false)
    (len' : S'.hands.length = n) (h' : ∀ p, S'.h p = if p = q then x' else S.h p) (post' : S'.post = (gs ++ asks2 q 0).map (Tk.mail n nums)) (many' : S'.many = S.many + 2)
    (ex : x' = (S.h q).wk) : Inv n nums S' (gs ++ asks2 q 0) dn := by
  obtain ⟨sl1, sl2, sl3, sl4⟩ := I.slp q hq ha
  have fld : ∀ {α : Type} (f : Hd → α), f x' = f (S.h q) → ∀ p, f (S'.h p) = f (S.h p) := fun f e p => by
    rw [h' p]
    by_cases hp : p = q
    · rw [if_pos hp, e, hp]
    · rw [if_neg hp]
  have fnum := fld (·.num) (by rw [ex]; rfl)
  have fcr := fld (·.crowned) (by rw [ex]; rfl)
  have fkn := fld (·.known) (by rw [ex]; rfl)
  have fbt := fld (·.beaten) (by rw [ex]; rfl)
  have fst := fld (·.stage) (by rw [ex]; rfl)
  have ffar := fld (·.far) (by rw [ex]; rfl)
  have fcame := fld (·.came) (by rw [ex]; rfl)
  have hqq : S'.h q = x' := by rw [h' q, if_pos rfl]
  have hne : ∀ p, p ≠ q → S'.h p = S.h p := fun p e => by rw [h' p, if_neg e]
  have aq : (S'.h q).awake = true := by rw [hqq, ex]; rfl
  have aw : ∀ p, (S.h p).awake = true → (S'.h p).awake = true := fun p h => by
    by_cases e : p = q
    · rw [e]; exact aq
    · rw [hne p e]; exact h
  have dnq : ∀ w, dn q w = false := fun w => by
    cases e : dn q w with
    | false => rfl
    | true =>
      have := (I.dn0 q hq w e).2.1
      rw [ha] at this; cases this
  have own : ∀ u, u ∈ gs → u.kind ≠ .crown → u.p ≠ q := fun u hu k e => by
    have g := I.good u hu
    unfold Good at g
    cases ek : u.kind <;> simp only [ek] at g
    · rw [e, ha] at g; cases g.2.1
    · rw [e, ha] at g; cases g.2.1
    · exact k ek
  have nt0 : ∀ w, gs.countP (Tk.tok q w) = 0 := fun w => by
    rw [List.countP_eq_zero]
    intro u hu z
    unfold Tk.tok at z
    simp at z
    exact own u hu z.1.1 z.1.2
  constructor
  · exact len'
  · intro p hp; rw [fnum]; exact I.num p hp
  · exact post'
  · intro u hu
    rcases List.mem_append.mp hu with hu | hu
    · have g := I.good u hu
      unfold Good at *
      cases e : u.kind <;> simp only [e] at g ⊢
      · exact ⟨g.1, aw _ g.2.1, by rw [fst]; exact g.2.2.1, g.2.2.2⟩
      · exact ⟨g.1, aw _ g.2.1, by rw [fst]; exact g.2.2.1, g.2.2.2⟩
      · rw [fcr]
        exact ⟨g.1, g.2.1, g.2.2.1, g.2.2.2.1, fun j h1 h2 => by rw [fkn]; exact g.2.2.2.2 j h1 h2⟩
    · exact asks2_good hq aq (by rw [fst]; exact sl1) u hu
  · intro p w
    rw [List.countP_append, asks2_tok]
    by_cases e : p = q
    · rw [e, nt0, if_pos rfl]; exact Nat.le_refl _
    · have := I.one p w
      rw [if_neg e]
      omega
  · intro p hp w hd
    have e : p ≠ q := fun z => by rw [z, dnq] at hd; cases hd
    obtain ⟨h1, h2, h3⟩ := I.dn0 p hp w hd
    rw [hne p e]
    refine ⟨?_, h2, h3⟩
    rw [List.countP_append, asks2_tok, if_neg e]
    omega
  · intro p hp; rw [fcame]; exact I.came p hp
  · intro p hp hbt; rw [fbt] at hbt; exact I.ndn p hp hbt
  · intro p hp; rw [fst, ffar]; exact I.stg p hp
  · intro p hp hw
    have e : p ≠ q := fun z => by rw [z, aq] at hw; cases hw
    rw [hne p e] at hw ⊢
    exact I.slp p hp hw
  · intro p hp; rw [fcr]; exact I.top p hp
  · intro p hp; rw [fcr, fkn]; exact I.ckn p hp
  · intro p hp x hx
    rw [fkn] at hx
    obtain ⟨m, hm, hc, e⟩ := I.kn p hp x hx
    exact ⟨m, hm, by rw [fcr]; exact hc, e⟩
  · intro p hp hb; rw [fbt] at hb; exact I.bt p hp hb
  · intro p hp hw ht hc w hd
    rw [List.countP_append, asks2_tok]
    by_cases e : p = q
    · rw [if_pos e, e, nt0]
    · rw [hne p e] at hw hc
      have a := I.live p hp hw ht hc w hd
      rw [if_neg e]
      omega
  · intro p hp hc
    rw [fcr] at hc
    rcases I.crn p hp hc with ⟨u, hu, ek⟩ | hk
    · exact Or.inl ⟨u, List.mem_append.mpr (Or.inl hu), ek⟩
    · exact Or.inr fun z hz => by rw [fkn]; exact hk z hz
  · intro p hp hw w
    by_cases e : p = q
    · refine Or.inr ⟨⟨.ask, q, w, 0, 1⟩, List.mem_append.mpr (Or.inr ?_), ?_⟩
      · unfold asks2
        cases w <;> simp
      · rw [e]; rfl
    · rw [hne p e] at hw
      rcases I.nei p hp hw w with h | ⟨u, hu, eu⟩
      · exact Or.inl (aw _ h)
      · exact Or.inr ⟨u, List.mem_append.mpr (Or.inl hu), eu⟩
  · obtain ⟨c, hc, ho⟩ := I.pot
    refine ⟨c, ?_, ?_⟩
    · rw [many', List.map_append, List.sum_append]
      have hsum := sumTo_upd (f := fun p => costH n (S.h p)) (g := fun p => costH n (S'.h p)) (q := q) (n := n) hq fun p hp e => by
        show costH n (S'.h p) = costH n (S.h p)
        rw [hne p e]
      have c1 : costH n (S.h q) = 0 := by
        unfold costH
        rw [ha]; rfl
      have c2 : costH n (S'.h q) = 2 * cS n 0 := by
        unfold costH
        rw [aq, if_pos rfl, fst, sl1]; rfl
      have hr := asks2_rem (n := n) q 0 (by omega)
      rw [c1, c2] at hsum
      omega
    · rcases ho with h | ⟨h, m, hm, hmc⟩
      · exact Or.inl h
      · exact Or.inr ⟨h, m, hm, by rw [fcr]; exact hmc⟩
end RC
/-! # RcMath4: every deed keeps the invariant -/
namespace RC
variable {n : Nat} {nums : Nat → Int} {S S' : Rg} {gs A B ns : List Tk} {dn : Nat → Bool → Bool} {t : Tk} {q : Nat}

theorem getD_set_self {α : Type} {l : List α} {i : Nat} {d : α} : l.set i (l.getD i d) = l := by
  apply List.ext_getElem
  · simp
  · intro j h1 h2
    rw [List.getElem_set]
    split
    · rename_i e
      subst e
      rw [List.getD_eq_getElem?_getD, List.getElem?_eq_getElem h2]
      rfl
    · rfl
theorem wake_awake {S : Rg} {q : Nat} (h : (S.h q).awake = true) : S.wake q = S := by
  unfold Rg.wake Rg.setH Rg.put Hd.wls
  rw [if_pos h, wk_awake h]
  unfold Rg.h
  rw [getD_set_self]
  cases S
  simp
theorem wake_h {S : Rg} {q : Nat} (hq : q < S.hands.length) (p : Nat) : (S.wake q).h p = if p = q then (S.h q).wk else S.h p := h_setH hq p
theorem wake_aw {S : Rg} {q : Nat} (hq : q < S.hands.length) : ((S.wake q).h q).awake = true := by
  rw [wake_h hq, if_pos rfl]; rfl
theorem wake_len {S : Rg} {q : Nat} : (S.wake q).hands.length = S.hands.length := by
  unfold Rg.wake Rg.setH Rg.put; simp

theorem Inv.wake (I : Inv n nums S gs dn) (hq : q < n) : ∃ gs', Inv n nums (S.wake q) (gs ++ gs') dn := by
  cases ha : (S.h q).awake with
  | true => exact ⟨[], by rw [wake_awake ha, List.append_nil]; exact I⟩
  | false =>
    have sl := I.slp q hq ha
    obtain ⟨s, h1, h2, h3⟩ := I.stg q hq
    have s0 : s = 0 := by
      have := sl.1
      rw [h1] at this
      exact Int.ofNat_inj.mp this
    subst s0
    refine ⟨asks2 q 0, I.woken hq ha (x' := (S.h q).wk) (by rw [wake_len]; exact I.len) (fun p => wake_h (by rw [I.len]; exact hq) p) ?_ ?_ rfl⟩
    · show S.post ++ (S.h q).wls.map (fun l => (nxt (S.setH q (S.h q).wk).hands.length q l.way, l)) = _
      have e : (S.setH q (S.h q).wk).hands.length = n := by unfold Rg.setH; simp; exact I.len
      unfold Hd.wls
      rw [ha, e, List.map_append, I.post]
      rw [if_neg (by decide), asks2_mail hq (I.num q hq) h1 h2]
    · show S.many + (S.h q).wls.length = _
      unfold Hd.wls
      rw [ha]; rfl

theorem erase_mid {α : Type} : ∀ {l : List α} {i : Nat} {t : α}, l[i]? = some t → ∃ A B, l = A ++ t :: B ∧ l.eraseIdx i = A ++ B ∧ A.length = i
  | [], i, t, h => by simp at h
  | a :: l, 0, t, h => by
    have : a = t := by simpa using h
    subst this
    exact ⟨[], l, rfl, rfl, rfl⟩
  | a :: l, i + 1, t, h => by
    obtain ⟨A, B, e1, e2, e3⟩ := erase_mid (l := l) (i := i) (t := t) (by simpa using h)
    refine ⟨a :: A, B, by rw [e1]; rfl, ?_, by simp [e3]⟩
    show a :: l.eraseIdx i = a :: (A ++ B)
    rw [e2]

theorem map_erase {α β : Type} {f : α → β} : ∀ {l : List α} {i : Nat}, (l.map f).eraseIdx i = (l.eraseIdx i).map f
  | [], i => by simp
  | a :: l, 0 => rfl
  | a :: l, i + 1 => by
    show f a :: (l.map f).eraseIdx i = f a :: (l.eraseIdx i).map f
    rw [map_erase]
/-- a letter comes to a hand that is awake -/
theorem Inv.deliver (inj : ∀ p q, p < n → q < n → nums p = nums q → p = q) (I : Inv n nums S gs dn) {i : Nat} (hi : gs[i]? = some t) (ha : (S.h (t.mail n nums).1).awake = true) :
    ∃ gs' dn', Inv n nums ((S.drop i).give1 (t.mail n nums).1 (t.mail n nums).2) gs' dn' := by
  obtain ⟨A, B, eg, ee, _⟩ := erase_mid hi
  have g := I.good t (List.mem_of_getElem? hi)
  generalize hqq : (t.mail n nums).1 = q at ha ⊢
  generalize hll : (t.mail n nums).2 = l at ⊢
  have hdp : (S.drop i).post = (A ++ B).map (Tk.mail n nums) := by
    show S.post.eraseIdx i = _
    rw [I.post, map_erase, ee]
  -- what the deed leaves, told once
  have key : ∀ (hq : q < n) (x' : Hd) (ls : List Lt), (S.h q).proc l = (x', ls) →
      ((S.drop i).give1 q l).hands.length = n ∧ (∀ p, ((S.drop i).give1 q l).h p = if p = q then x' else S.h p) ∧
      ((S.drop i).give1 q l).post = (A ++ B).map (Tk.mail n nums) ++ ls.map (fun l => (nxt n q l.way, l)) ∧ ((S.drop i).give1 q l).many = S.many + ls.length := by
    intro hq x' ls e
    have e1 : (S.drop i).h q = S.h q := rfl
    unfold Rg.give1
    rw [e1, e]
    refine ⟨?_, ?_, ?_, rfl⟩
    · unfold Rg.put Rg.setH Rg.drop; simp; exact I.len
    · intro p
      show ((S.drop i).setH q x').h p = _
      rw [h_setH (by show q < S.hands.length; rw [I.len]; exact hq)]
      rfl
    · show (S.drop i).post ++ ls.map (fun l => (nxt ((S.drop i).setH q x').hands.length q l.way, l)) = _
      have : ((S.drop i).setH q x').hands.length = n := by unfold Rg.setH Rg.drop; simp; exact I.len
      rw [this, hdp]
  have e1 : (A ++ B).map (Tk.mail n nums) ++ ([] : List Lt).map (fun l => (nxt n q l.way, l)) = (A ++ B ++ []).map (Tk.mail n nums) := by simp
  subst eg
  cases tk : t.kind with
  | ask =>
    unfold Good at g
    rw [tk] at g
    simp only at g
    obtain ⟨g1, g2, g3, g4, g5, g6, g7⟩ := g
    have em : t.mail n nums = (pt n t.w t.p t.d, ⟨sg t.w, .ask, nums t.p, (t.s : Int), ((2 ^ t.s : Nat) : Int) - (t.d : Int) + 1⟩) := by unfold Tk.mail; rw [tk]
    rw [em] at hqq hll
    simp only at hqq hll
    have hq : q < n := by rw [← hqq]; exact pt_lt g1 g6
    have epr : (S.h q).proc l = (S.h q).asked l := by rw [← hll]; rfl
    have eln : l.num = nums t.p := by rw [← hll]
    have ehn : (S.h q).num = nums q := I.num q hq
    by_cases c1 : l.num = (S.h q).num ∧ (S.h q).crowned = false
    · have ep : t.p = q := inj _ _ g1 hq (by rw [← eln, c1.1, ehn])
      have ed : t.d = n := pt_self g1 g4 g6 (by rw [hqq, ep])
      have epr' : (S.h q).proc l = ({ S.h q with crowned := true, known := some l.num }, [⟨1, .crown, l.num, 0, 0⟩]) := by
        rw [epr]; unfold Hd.asked; rw [if_pos c1]
      obtain ⟨k1, k2, k3, k4⟩ := key hq _ _ epr'
      refine ⟨_, _, I.crown inj hq ha c1.2 tk ep ed k1 k2 ?_ k4 (by rw [c1.1, ehn])⟩
      rw [k3, List.map_append (l₁ := A ++ B)]
      congr 1
      show [(nxt n q 1, (⟨1, .crown, l.num, 0, 0⟩ : Lt))] = [(pt n true q 1, (⟨1, .crown, nums q, 0, 0⟩ : Lt))]
      rw [nxt_right hq, c1.1, ehn]
    · by_cases c2 : l.num ≤ (S.h q).num
      · have epr' : (S.h q).proc l = (S.h q, []) := by
          rw [epr]; unfold Hd.asked; rw [if_neg c1, if_pos c2]
        obtain ⟨k1, k2, k3, k4⟩ := key hq _ _ epr'
        refine ⟨_, _, I.move (ns := []) (x' := S.h q) hq ha (by rw [em]; exact hqq) k1 k2 (by rw [k3]; exact e1) k4 rfl rfl rfl rfl rfl rfl (Or.inl rfl) (Or.inl rfl) (fun u hu => by cases hu) (fun _ _ => Nat.zero_le _) ?_ (fun z => by rw [tk] at z; cases z) (Nat.zero_le _)⟩
        intro w htop hcr _
        exfalso
        rw [eln, ehn] at c2
        have := htop q hq
        have ep : t.p = q := inj _ _ g1 hq (by omega)
        exact c1 ⟨by rw [eln, ehn, ep], by rw [← ep]; exact hcr⟩
      · have hlt : nums q < nums t.p := by rw [eln, ehn] at c2; omega
        have hpq : t.d < n := by
          rcases Nat.lt_or_eq_of_le g6 with h | h
          · exact h
          · rw [h, pt_n g1] at hqq; rw [hqq] at hlt; omega
        by_cases c3 : 1 < l.stp
        · have epr' : (S.h q).proc l = ({ S.h q with beaten := true }, [⟨l.way, l.word, l.num, l.stg, l.stp - 1⟩]) := by
            rw [epr]; unfold Hd.asked; rw [if_neg c1, if_neg c2, if_pos c3]
          obtain ⟨k1, k2, k3, k4⟩ := key hq _ _ epr'
          have hd2 : t.d + 1 ≤ 2 ^ t.s := by rw [← hll] at c3; simp only at c3; omega
          refine ⟨_, _, I.move (ns := [⟨.ask, t.p, t.w, t.s, t.d + 1⟩]) (x' := { S.h q with beaten := true }) hq ha (by rw [em]; exact hqq) k1 k2 ?_ k4 rfl rfl rfl rfl rfl rfl (Or.inr ⟨rfl, t.p, g1, hlt⟩) (Or.inl rfl) ?_ ?_ ?_ (fun z => by rw [tk] at z; cases z) ?_⟩
          · rw [k3, List.map_append (l₁ := A ++ B)]
            congr 1
            show [(nxt n q l.way, (⟨l.way, l.word, l.num, l.stg, l.stp - 1⟩ : Lt))] = [(pt n t.w t.p (t.d + 1), (⟨sg t.w, .ask, nums t.p, (t.s : Int), ((2 ^ t.s : Nat) : Int) - ((t.d + 1 : Nat) : Int) + 1⟩ : Lt))]
            rw [← hll]
            simp only
            rw [nxt_sg _ hq, ← hqq, pt_on g1 (by omega)]
            have : ((2 ^ t.s : Nat) : Int) - (t.d : Int) + 1 - 1 = ((2 ^ t.s : Nat) : Int) - ((t.d + 1 : Nat) : Int) + 1 := by omega
            rw [this]
          · intro u hu
            rw [List.mem_singleton] at hu
            rw [hu]
            have fw : (((S.drop i).give1 q l).h t.p).awake = true := by
              rw [k2]
              by_cases e : t.p = q
              · rw [if_pos e]; exact ha
              · rw [if_neg e]; exact g2
            have fs : (((S.drop i).give1 q l).h t.p).stage = (t.s : Int) := by
              rw [k2]
              by_cases e : t.p = q
              · rw [if_pos e]; rw [e] at g3; exact g3
              · rw [if_neg e]; exact g3
            refine ⟨g1, fw, fs, by show 1 ≤ t.d + 1; omega, hd2, by show t.d + 1 ≤ n; omega, ?_⟩
            intro j h1 h2
            by_cases e : j ≤ t.d - 1
            · exact g7 j h1 e
            · have : j = t.d := by have : j ≤ t.d + 1 - 1 := h2; omega
              show nums (pt n t.w t.p j) < nums t.p
              rw [this, hqq]; exact hlt
          · intro p w
            rw [List.countP_cons, List.countP_nil]
            have : Tk.tok p w ⟨.ask, t.p, t.w, t.s, t.d + 1⟩ = Tk.tok p w t := by unfold Tk.tok; rw [tk]
            rw [this]
            omega
          · intro w _ _ z
            rw [List.countP_cons, List.countP_nil]
            have : Tk.tok t.p w ⟨.ask, t.p, t.w, t.s, t.d + 1⟩ = Tk.tok t.p w t := by unfold Tk.tok; rw [tk]
            rw [this, if_pos z]
          · simp only [List.map_cons, List.map_nil, List.sum_cons, List.sum_nil, List.length_cons, List.length_nil]
            unfold Tk.rem
            rw [tk]
            simp only
            split <;> omega
        · have epr' : (S.h q).proc l = ({ S.h q with beaten := true }, [⟨-l.way, .answer, l.num, l.stg, 0⟩]) := by
            rw [epr]; unfold Hd.asked; rw [if_neg c1, if_neg c2, if_neg c3]
          obtain ⟨k1, k2, k3, k4⟩ := key hq _ _ epr'
          have hd2 : t.d = 2 ^ t.s := by rw [← hll] at c3; simp only at c3; omega
          obtain ⟨e, he⟩ : ∃ e, t.d = e + 1 := ⟨t.d - 1, by omega⟩
          refine ⟨_, _, I.move (ns := [⟨.answer, t.p, t.w, t.s, e⟩]) (x' := { S.h q with beaten := true }) hq ha (by rw [em]; exact hqq) k1 k2 ?_ k4 rfl rfl rfl rfl rfl rfl (Or.inr ⟨rfl, t.p, g1, hlt⟩) (Or.inl rfl) ?_ ?_ ?_ (fun z => by rw [tk] at z; cases z) ?_⟩
          · rw [k3, List.map_append (l₁ := A ++ B)]
            congr 1
            show [(nxt n q (-l.way), (⟨-l.way, .answer, l.num, l.stg, 0⟩ : Lt))] = [(pt n t.w t.p e, (⟨- sg t.w, .answer, nums t.p, (t.s : Int), 0⟩ : Lt))]
            rw [← hll]
            simp only
            rw [nxt_nsg _ hq, ← hqq, he, pt_back g1 (by omega)]
          · intro u hu
            rw [List.mem_singleton] at hu
            rw [hu]
            have fw : (((S.drop i).give1 q l).h t.p).awake = true := by
              rw [k2]
              by_cases e : t.p = q
              · rw [if_pos e]; exact ha
              · rw [if_neg e]; exact g2
            have fs : (((S.drop i).give1 q l).h t.p).stage = (t.s : Int) := by
              rw [k2]
              by_cases e : t.p = q
              · rw [if_pos e]; rw [e] at g3; exact g3
              · rw [if_neg e]; exact g3
            refine ⟨g1, fw, fs, by show e < 2 ^ t.s; omega, by show 2 ^ t.s < n; omega, ?_⟩
            intro j h1 h2
            have h2' : j ≤ 2 ^ t.s := h2
            by_cases e : j ≤ t.d - 1
            · exact g7 j h1 e
            · have : j = t.d := by omega
              show nums (pt n t.w t.p j) < nums t.p
              rw [this, hqq]; exact hlt
          · intro p w
            rw [List.countP_cons, List.countP_nil]
            have : Tk.tok p w ⟨.answer, t.p, t.w, t.s, e⟩ = Tk.tok p w t := by unfold Tk.tok; rw [tk]; rfl
            rw [this]
            omega
          · intro w _ _ z
            rw [List.countP_cons, List.countP_nil]
            have : Tk.tok t.p w ⟨.answer, t.p, t.w, t.s, e⟩ = Tk.tok t.p w t := by unfold Tk.tok; rw [tk]; rfl
            rw [this, if_pos z]
          · simp only [List.map_cons, List.map_nil, List.sum_cons, List.sum_nil, List.length_cons, List.length_nil]
            unfold Tk.rem
            rw [tk]
            simp only
            split <;> omega
  | answer =>
    unfold Good at g
    rw [tk] at g
    simp only at g
    obtain ⟨g1, g2, g3, g4, g5, g6⟩ := g
    have em : t.mail n nums = (pt n t.w t.p t.d, ⟨- sg t.w, .answer, nums t.p, (t.s : Int), 0⟩) := by unfold Tk.mail; rw [tk]
    rw [em] at hqq hll
    simp only at hqq hll
    have hq : q < n := by rw [← hqq]; exact pt_lt g1 (by omega)
    have epr : (S.h q).proc l = (S.h q).answered l := by rw [← hll]; rfl
    have eln : l.num = nums t.p := by rw [← hll]
    have ehn : (S.h q).num = nums q := I.num q hq
    by_cases c1 : l.num ≠ (S.h q).num
    · have epr' : (S.h q).proc l = (S.h q, [l]) := by
        rw [epr]; unfold Hd.answered; rw [if_pos c1]
      obtain ⟨k1, k2, k3, k4⟩ := key hq _ _ epr'
      have hd0 : t.d ≠ 0 := fun z => by
        rw [z, pt_zero g1] at hqq
        exact c1 (by rw [eln, ehn, hqq])
      obtain ⟨e, he⟩ : ∃ e, t.d = e + 1 := ⟨t.d - 1, by omega⟩
      refine ⟨_, _, I.move (ns := [⟨.answer, t.p, t.w, t.s, e⟩]) (x' := S.h q) hq ha (by rw [em]; exact hqq) k1 k2 ?_ k4 rfl rfl rfl rfl rfl rfl (Or.inl rfl) (Or.inl rfl) ?_ ?_ ?_ (fun z => by rw [tk] at z; cases z) ?_⟩
      · rw [k3, List.map_append (l₁ := A ++ B)]
        congr 1
        show [(nxt n q l.way, l)] = [(pt n t.w t.p e, (⟨- sg t.w, .answer, nums t.p, (t.s : Int), 0⟩ : Lt))]
        rw [← hll]
        simp only
        rw [nxt_nsg _ hq, ← hqq, he, pt_back g1 (by omega)]
      · intro u hu
        rw [List.mem_singleton] at hu
        rw [hu]
        have fh : ((S.drop i).give1 q l).h t.p = S.h t.p := by
          rw [k2]
          by_cases e : t.p = q
          · rw [if_pos e, e]
          · rw [if_neg e]
        refine ⟨g1, by rw [fh]; exact g2, by rw [fh]; exact g3, by show e < 2 ^ t.s; omega, g5, g6⟩
      · intro p w
        rw [List.countP_cons, List.countP_nil]
        have : Tk.tok p w ⟨.answer, t.p, t.w, t.s, e⟩ = Tk.tok p w t := by unfold Tk.tok; rw [tk]
        rw [this]
        omega
      · intro w _ _ z
        rw [List.countP_cons, List.countP_nil]
        have : Tk.tok t.p w ⟨.answer, t.p, t.w, t.s, e⟩ = Tk.tok t.p w t := by unfold Tk.tok; rw [tk]
        rw [this, if_pos z]
      · simp only [List.map_cons, List.map_nil, List.sum_cons, List.sum_nil, List.length_cons, List.length_nil]
        unfold Tk.rem
        rw [tk]
        simp only
        omega
    · have ep : t.p = q := inj _ _ g1 hq (by rw [← eln, ← ehn]; exact Decidable.of_not_not c1)
      have ed : t.d = 0 := by
        by_cases z : t.d = 0
        · exact z
        · have : t.d = n := pt_self (w := t.w) g1 (by omega) (by omega) (by rw [hqq, ep])
          omega
      by_cases c2 : (S.h q).came + 1 < 2 ∨ (S.h q).beaten = true
      · have epr' : (S.h q).proc l = ({ S.h q with came := (S.h q).came + 1 }, []) := by
          rw [epr]; unfold Hd.answered; rw [if_neg c1, if_pos c2]
        obtain ⟨k1, k2, k3, k4⟩ := key hq _ _ epr'
        exact ⟨_, _, I.count hq ha tk ep ed c2 k1 k2 (by rw [k3]; simp) k4 rfl⟩
      · have epr' : (S.h q).proc l = ((S.h q).up, (S.h q).up.asks) := by
          rw [epr]; unfold Hd.answered; rw [if_neg c1, if_neg c2]
        obtain ⟨k1, k2, k3, k4⟩ := key hq _ _ epr'
        obtain ⟨s, h1, h2, _⟩ := I.stg q hq
        have es : s = t.s := by
          rw [ep, h1] at g3
          exact Int.ofNat_inj.mp g3
        subst es
        refine ⟨_, _, I.climb hq ha tk ep ed c2 k1 k2 ?_ k4 rfl⟩
        rw [k3, List.map_append (l₁ := A ++ B)]
        congr 1
        refine asks2_mail (h := (S.h q).up) hq ehn ?_ ?_
        · show (S.h q).stage + 1 = _
          rw [h1]; rfl
        · show 2 * (S.h q).far = _
          rw [h2, Nat.pow_succ]; omega
  | crown =>
    unfold Good at g
    rw [tk] at g
    simp only at g
    obtain ⟨g1, g2, g3, g4, g5⟩ := g
    have em : t.mail n nums = (pt n true t.p t.d, ⟨1, .crown, nums t.p, 0, 0⟩) := by unfold Tk.mail; rw [tk]
    rw [em] at hqq hll
    simp only at hqq hll
    have hq : q < n := by rw [← hqq]; exact pt_lt g1 g4
    have epr : (S.h q).proc l = (S.h q).told l := by rw [← hll]; rfl
    have eln : l.num = nums t.p := by rw [← hll]
    have ehn : (S.h q).num = nums q := I.num q hq
    have ntok : ∀ p w, Tk.tok p w t = false := fun p w => by unfold Tk.tok; rw [tk]; rfl
    by_cases c1 : l.num = (S.h q).num
    · have ep : t.p = q := inj _ _ g1 hq (by rw [← eln, ← ehn]; exact c1)
      have ed : t.d = n := pt_self g1 g3 g4 (by rw [hqq, ep])
      have epr' : (S.h q).proc l = (S.h q, []) := by
        rw [epr]; unfold Hd.told; rw [if_pos c1]
      obtain ⟨k1, k2, k3, k4⟩ := key hq _ _ epr'
      have fh : ∀ p, ((S.drop i).give1 q l).h p = S.h p := fun p => by
        rw [k2]
        by_cases e : p = q
        · rw [if_pos e, e]
        · rw [if_neg e]
      refine ⟨_, _, I.move (ns := []) (x' := S.h q) hq ha (by rw [em]; exact hqq) k1 k2 (by rw [k3]; exact e1) k4 rfl rfl rfl rfl rfl rfl (Or.inl rfl) (Or.inl rfl) (fun u hu => by cases hu) (fun _ _ => Nat.zero_le _) (fun w _ _ z => by rw [ntok] at z; cases z) (fun _ => Or.inr fun z hz => ?_) (Nat.zero_le _)⟩
      rw [fh]
      by_cases e : z = t.p
      · rw [e, I.ckn _ g1 g2]; simp
      · obtain ⟨j, h1, h2, e'⟩ := pt_all true g1 hz e
        have := g5 j h1 (by omega)
        rw [e'] at this; exact this
    · have epr' : (S.h q).proc l = ({ S.h q with known := some l.num }, [l]) := by
        rw [epr]; unfold Hd.told; rw [if_neg c1]
      obtain ⟨k1, k2, k3, k4⟩ := key hq _ _ epr'
      have hdn : t.d < n := by
        rcases Nat.lt_or_eq_of_le g4 with h | h
        · exact h
        · rw [h, pt_n g1] at hqq; exact absurd (by rw [eln, ehn, hqq]) c1
      refine ⟨_, _, I.move (ns := [⟨.crown, t.p, t.w, t.s, t.d + 1⟩]) (x' := { S.h q with known := some l.num }) hq ha (by rw [em]; exact hqq) k1 k2 ?_ k4 rfl rfl rfl rfl rfl rfl (Or.inl rfl) (Or.inr ⟨t.p, g1, g2, by rw [eln]⟩) ?_ ?_ (fun w _ _ z => by rw [ntok] at z; cases z) (fun _ => Or.inl ⟨_, List.mem_singleton.mpr rfl, rfl⟩) ?_⟩
      · rw [k3, List.map_append (l₁ := A ++ B)]
        congr 1
        show [(nxt n q l.way, l)] = [(pt n true t.p (t.d + 1), (⟨1, .crown, nums t.p, 0, 0⟩ : Lt))]
        rw [← hll]
        simp only
        rw [nxt_right hq, ← hqq, pt_on g1 (by omega)]
      · intro u hu
        rw [List.mem_singleton] at hu
        rw [hu]
        refine ⟨g1, ?_, by show 1 ≤ t.d + 1; omega, by show t.d + 1 ≤ n; omega, ?_⟩
        · rw [k2]
          by_cases e : t.p = q
          · rw [if_pos e]; rw [e] at g2; exact g2
          · rw [if_neg e]; exact g2
        · intro j h1 h2
          have h2' : j < t.d + 1 := h2
          show (((S.drop i).give1 q l).h (pt n true t.p j)).known ≠ none
          rw [k2]
          by_cases e : pt n true t.p j = q
          · rw [if_pos e]; simp
          · rw [if_neg e]
            refine g5 j h1 ?_
            have : j ≠ t.d := fun z => e (by rw [z]; exact hqq)
            omega
      · intro p w
        rw [ntok, List.countP_cons, List.countP_nil]
        exact Nat.le_refl _
      · simp only [List.map_cons, List.map_nil, List.sum_cons, List.sum_nil, List.length_cons, List.length_nil]
        unfold Tk.rem
        rw [tk]
        simp only
        omega

theorem Inv.place (I : Inv n nums S gs dn) {i : Nat} (hi : i < S.post.length) : (S.mail i).1 < n := by
  have hg : i < gs.length := by have := hi; rw [I.post, List.length_map] at this; exact this
  have g := I.good gs[i] (List.getElem_mem hg)
  have e : S.mail i = (gs[i]).mail n nums := by
    unfold Rg.mail
    rw [I.post, List.getD_eq_getElem?_getD, List.getElem?_map, List.getElem?_eq_getElem hg]
    rfl
  rw [e]
  unfold Good at g
  unfold Tk.mail
  cases k : gs[i].kind <;> simp only [k] at g ⊢
  · exact pt_lt g.1 g.2.2.2.2.2.1
  · exact pt_lt g.1 (by omega)
  · exact pt_lt g.1 g.2.2.2.1

theorem Inv.bring (inj : ∀ p q, p < n → q < n → nums p = nums q → p = q) (I : Inv n nums S gs dn) {i : Nat} (hi : i < S.post.length) : ∃ gs' dn', Inv n nums (S.bring i) gs' dn' := by
  have hq := I.place hi
  rw [bring_eq hi (by rw [I.len]; exact hq)]
  obtain ⟨gs', J⟩ := I.wake hq
  have hg : i < gs.length := by have := hi; rw [I.post, List.length_map] at this; exact this
  have e : S.mail i = (gs[i]).mail n nums := by
    unfold Rg.mail
    rw [I.post, List.getD_eq_getElem?_getD, List.getElem?_map, List.getElem?_eq_getElem hg]
    rfl
  have ei : (gs ++ gs')[i]? = some gs[i] := by rw [List.getElem?_append_left hg, List.getElem?_eq_getElem hg]
  have := J.deliver inj ei (by rw [← e]; exact wake_aw (by rw [I.len]; exact hq))
  rw [← e] at this
  exact this
end RC
/-! # RcMath5: what follows from the invariant: the bound, the end, who is the first -/
namespace RC
variable {n : Nat} {nums : Nat → Int} {S S' : Rg} {gs : List Tk} {dn : Nat → Bool → Bool}

/-! ### as many as go round the ring -/
def ind (f : Nat → Bool) (p : Nat) : Nat := if f p then 1 else 0
theorem pack_go {f : Nat → Bool} {g : Nat} (hs : ∀ p q, f p = true → f q = true → p < q → q < n → g < q - p ∧ g < n - (q - p)) :
    ∀ k, k ≤ n → sumTo (ind f) k = 0 ∨ ∃ a b, a ≤ b ∧ b < k ∧ f a = true ∧ f b = true ∧ sumTo (ind f) k * (g + 1) ≤ b - a + (g + 1)
  | 0, _ => Or.inl rfl
  | k + 1, hk => by
    have ih := pack_go hs k (by omega)
    have e : sumTo (ind f) (k + 1) = sumTo (ind f) k + ind f k := rfl
    cases hf : f k with
    | false =>
      have z : ind f k = 0 := by unfold ind; rw [hf]; rfl
      rw [e, z, Nat.add_zero]
      rcases ih with h | ⟨a, b, h1, h2, h3⟩
      · exact Or.inl h
      · exact Or.inr ⟨a, b, h1, by omega, h3⟩
    | true =>
      have z : ind f k = 1 := by unfold ind; rw [hf]; rfl
      rw [e, z]
      right
      rcases ih with h | ⟨a, b, h1, h2, h3, h4, h5⟩
      · exact ⟨k, k, Nat.le_refl _, by omega, hf, hf, by rw [h]; omega⟩
      · refine ⟨a, k, by omega, by omega, h3, hf, ?_⟩
        have := (hs b k h4 hf h2 (by omega)).1
        rw [Nat.add_mul, Nat.one_mul]
        omega
theorem pack {f : Nat → Bool} {g : Nat} (hg : g < n) (hs : ∀ p q, f p = true → f q = true → p < q → q < n → g < q - p ∧ g < n - (q - p)) : sumTo (ind f) n ≤ n / (g + 1) := by
  rw [Nat.le_div_iff_mul_le (by omega)]
  rcases pack_go hs n (Nat.le_refl _) with h | ⟨a, b, h1, h2, h3, h4, h5⟩
  · rw [h, Nat.zero_mul]; exact Nat.zero_le _
  · by_cases e : a = b
    · subst e; omega
    · have := (hs a b h3 h4 (by omega) h2).2
      omega

theorem pow_low {s : Nat} (hn : n ≤ 64) (h : 2 ^ (s - 1) < n) : s ≤ 6 := by
  by_cases c : s ≤ 6
  · exact c
  · have : 2 ^ 6 ≤ 2 ^ (s - 1) := Nat.pow_le_pow_right (by decide) (by omega)
    have e : 2 ^ 6 = 64 := rfl
    omega
theorem Inv.stage6 (I : Inv n nums S gs dn) (hn : n ≤ 64) {p : Nat} (hp : p < n) : ∃ s : Nat, (S.h p).stage = (s : Int) ∧ s ≤ 6 ∧ (s = 0 ∨ (2 ^ (s - 1) < n ∧ ∀ w, low n nums w p (2 ^ (s - 1)))) := by
  obtain ⟨s, h1, _, h3⟩ := I.stg p hp
  refine ⟨s, h1, ?_, h3⟩
  rcases h3 with h | h
  · omega
  · exact pow_low hn h.1

/-- who is awake at the stage s or beyond -/
def atS (S : Rg) (s : Nat) (p : Nat) : Bool := (S.h p).awake && decide ((s : Int) ≤ (S.h p).stage)
theorem Inv.sep (I : Inv n nums S gs dn) {s : Nat} {p q : Nat} (hp : p < n) (hq : q < n) (ap : atS S (s + 1) p = true) (aq : atS S (s + 1) q = true) (h : p < q) : 2 ^ s < q - p ∧ 2 ^ s < n - (q - p) := by
  have lo : ∀ x, x < n → atS S (s + 1) x = true → ∀ w, low n nums w x (2 ^ s) := fun x hx ax w => by
    unfold atS at ax
    simp at ax
    obtain ⟨s', h1, _, h3⟩ := I.stg x hx
    have l : s + 1 ≤ s' := by rw [h1] at ax; omega
    rcases h3 with h | h
    · omega
    · exact (h.2 w).mono (Nat.pow_le_pow_right (by decide) (by omega))
  constructor
  · by_cases c : 2 ^ s < q - p
    · exact c
    · exfalso
      have a := lo p hp ap true (q - p) (by omega) (by omega)
      have b := lo q hq aq false (q - p) (by omega) (by omega)
      have e1 : pt n true p (q - p) = q := by unfold pt; simp; split <;> omega
      have e2 : pt n false q (q - p) = p := by unfold pt; simp; omega
      rw [e1] at a
      rw [e2] at b
      omega
  · by_cases c : 2 ^ s < n - (q - p)
    · exact c
    · exfalso
      have a := lo p hp ap false (n - (q - p)) (by omega) (by omega)
      have b := lo q hq aq true (n - (q - p)) (by omega) (by omega)
      have e1 : pt n false p (n - (q - p)) = q := by unfold pt; simp; split <;> omega
      have e2 : pt n true q (n - (q - p)) = p := by unfold pt; simp; split <;> omega
      rw [e1] at a
      rw [e2] at b
      omega
/-- fewer than all hands come to a stage -/
def nS (n : Nat) : Nat → Nat
  | 0 => n
  | s + 1 => if 2 ^ s < n then n / (2 ^ s + 1) else 0
theorem sumTo_ind_le {f : Nat → Bool} : ∀ k, sumTo (ind f) k ≤ k
  | 0 => Nat.le_refl _
  | k + 1 => by
    have := sumTo_ind_le (f := f) k
    show sumTo (ind f) k + ind f k ≤ k + 1
    have : ind f k ≤ 1 := by unfold ind; split <;> omega
    omega
theorem Inv.few (I : Inv n nums S gs dn) : ∀ s, sumTo (ind (atS S s)) n ≤ nS n s
  | 0 => sumTo_ind_le n
  | s + 1 => by
    show _ ≤ if 2 ^ s < n then n / (2 ^ s + 1) else 0
    by_cases c : 2 ^ s < n
    · rw [if_pos c]
      have e : sumTo (ind (atS S (s + 1))) n = sumTo (ind fun p => decide (p < n) && atS S (s + 1) p) n := sumTo_congr fun p hp => by
        unfold ind
        simp [hp]
      rw [e]
      refine pack c fun p q hp hq h hqn => ?_
      simp at hp hq
      exact I.sep hp.1 hq.1 hp.2 hq.2 h
    · rw [if_neg c]
      refine Nat.le_of_eq (sumTo_zero fun p hp => ?_)
      unfold ind
      cases e : atS S (s + 1) p with
      | false => rfl
      | true =>
        unfold atS at e
        simp at e
        obtain ⟨s', h1, _, h3⟩ := I.stg p hp
        have l : s + 1 ≤ s' := by rw [h1] at e; omega
        rcases h3 with h | h
        · omega
        · have : 2 ^ s ≤ 2 ^ (s' - 1) := Nat.pow_le_pow_right (by decide) (by omega)
          omega

theorem sumTo_add {f g : Nat → Nat} : ∀ {k : Nat}, sumTo (fun p => f p + g p) k = sumTo f k + sumTo g k
  | 0 => rfl
  | k + 1 => by
    show sumTo (fun p => f p + g p) k + (f k + g k) = sumTo f k + f k + (sumTo g k + g k)
    rw [sumTo_add]
    omega
theorem sumTo_mul {f : Nat → Nat} {c : Nat} : ∀ {k : Nat}, sumTo (fun p => c * f p) k = c * sumTo f k
  | 0 => rfl
  | k + 1 => by
    show sumTo (fun p => c * f p) k + c * f k = c * (sumTo f k + f k)
    rw [sumTo_mul, Nat.mul_add]
/-- the bound of the document -/
def bnd (n : Nat) : Nat :=
  7 * n + (if 2 < n then 4 * 2 * (n / 2) else 0) + (if 4 < n then 4 * 4 * (n / 3) else 0) + (if 8 < n then 4 * 8 * (n / 5) else 0) + (if 16 < n then 4 * 16 * (n / 9) else 0)
    + (if 32 < n then 4 * 32 * (n / 17) else 0) + (if 64 < n then 4 * 64 * (n / 33) else 0)
def upSum (n : Nat) (c : Nat → Nat) : Nat := 2 * cS n 0 * c 0 + 2 * cS n 1 * c 1 + 2 * cS n 2 * c 2 + 2 * cS n 3 * c 3 + 2 * cS n 4 * c 4 + 2 * cS n 5 * c 5 + 2 * cS n 6 * c 6
theorem upSum_le {c d : Nat → Nat} (h : ∀ s, c s ≤ d s) : upSum n c ≤ upSum n d := by
  unfold upSum
  have m : ∀ s, 2 * cS n s * c s ≤ 2 * cS n s * d s := fun s => Nat.mul_le_mul_left _ (h s)
  have := m 0; have := m 1; have := m 2; have := m 3; have := m 4; have := m 5; have := m 6
  omega
theorem cost_up (I : Inv n nums S gs dn) (hn : n ≤ 64) {p : Nat} (hp : p < n) : costH n (S.h p) = upSum n fun s => ind (atS S s) p := by
  obtain ⟨s, h1, h2, _⟩ := I.stage6 hn hp
  unfold costH upSum ind atS
  cases ha : (S.h p).awake with
  | false => simp
  | true =>
    rw [h1]
    have : s = 0 ∨ s = 1 ∨ s = 2 ∨ s = 3 ∨ s = 4 ∨ s = 5 ∨ s = 6 := by omega
    rcases this with rfl | rfl | rfl | rfl | rfl | rfl | rfl <;> simp [costUp]
theorem cost_all (I : Inv n nums S gs dn) (hn : n ≤ 64) : sumTo (fun p => costH n (S.h p)) n = upSum n fun s => sumTo (ind (atS S s)) n := by
  rw [sumTo_congr fun p hp => cost_up I hn hp]
  unfold upSum
  simp only [sumTo_add, sumTo_mul]
theorem bnd_ok : ∀ n, n < 65 → 1 ≤ n → upSum n (nS n) + n ≤ bnd n := by decide +kernel
/-- never more letters than the bound -/
theorem Inv.bound (I : Inv n nums S gs dn) (h1 : 1 ≤ n) (hn : n ≤ 64) : S.many ≤ bnd n := by
  obtain ⟨c, hc, ho⟩ := I.pot
  have a := cost_all I hn
  have b : upSum n (fun s => sumTo (ind (atS S s)) n) ≤ upSum n (nS n) := upSum_le fun s => I.few s
  have d := bnd_ok n (by omega) h1
  have : c ≤ n := by
    rcases ho with h | h <;> omega
  omega

/-! ### the end -/
/-- as many mails came as letters were sent and are not under way: the mails under way were sent -/
theorem Inv.all_awake (I : Inv n nums S gs dn) (hp : S.post = []) (h : ∃ p, p < n ∧ (S.h p).awake = true) : ∀ q, q < n → (S.h q).awake = true := by
  have hg : gs = [] := by
    have := I.post
    rw [hp] at this
    cases gs with
    | nil => rfl
    | cons a l => cases this
  obtain ⟨p, hpn, ha⟩ := h
  have nb : ∀ x, x < n → (S.h x).awake = true → (S.h (pt n true x 1)).awake = true := fun x hx h => by
    rcases I.nei x hx h true with h | ⟨t, ht, _⟩
    · exact h
    · rw [hg] at ht; cases ht
  have go : ∀ d, d ≤ n - 1 → (S.h (pt n true p d)).awake = true := by
    intro d
    induction d with
    | zero => intro _; rw [pt_zero hpn]; exact ha
    | succ d ih =>
      intro hd
      have := nb _ (pt_lt hpn (by omega)) (ih (by omega))
      rwa [pt_on hpn (by omega)] at this
  intro q hq
  by_cases e : q = p
  · rw [e]; exact ha
  · obtain ⟨j, h1, h2, e'⟩ := pt_all true hpn hq e
    rw [← e']; exact go j h2
theorem Inv.ended (I : Inv n nums S gs dn) (hp : S.post = []) (h : ∃ p, p < n ∧ (S.h p).awake = true) {m : Nat} (hm : m < n) (htop : ∀ q, q < n → nums q ≤ nums m) :
    (S.h m).crowned = true ∧ ∀ q, q < n → (S.h q).known = some (nums m) := by
  have aw := I.all_awake hp h
  have hg : gs = [] := by
    have := I.post
    rw [hp] at this
    cases gs with
    | nil => rfl
    | cons a l => cases this
  have hc : (S.h m).crowned = true := by
    cases e : (S.h m).crowned with
    | true => rfl
    | false =>
      exfalso
      have d : ∀ w, dn m w = true := fun w => by
        cases e' : dn m w with
        | true => rfl
        | false =>
          have := I.live m hm (aw m hm) htop e w e'
          rw [hg] at this; cases this
      exact I.ndn m hm (not_beaten_top I hm htop) ⟨d true, d false⟩
  refine ⟨hc, fun q hq => ?_⟩
  rcases I.crn m hm hc with ⟨t, ht, _⟩ | hk
  · rw [hg] at ht; cases ht
  · cases e : (S.h q).known with
    | none => exact absurd e (hk q hq)
    | some x =>
      obtain ⟨z, hz, hzc, ex⟩ := I.kn q hq x e
      have a := I.top z hz hzc m hm
      have b := htop z hz
      rw [ex]
      have : nums z = nums m := by omega
      rw [this]

/-! ### what never falls -/
/-- who is the first, who knows, who is awake: so behind each deed; no stage falls -/
structure Up (x y : Hd) : Prop where
  cr : x.crowned = true → y.crowned = true
  kn : x.known ≠ none → y.known ≠ none
  aw : x.awake = true → y.awake = true
  st : x.stage ≤ y.stage
theorem Up.refl (x : Hd) : Up x x := ⟨id, id, id, Int.le_refl _⟩
theorem Up.trans {x y z : Hd} (a : Up x y) (b : Up y z) : Up x z := ⟨fun h => b.cr (a.cr h), fun h => b.kn (a.kn h), fun h => b.aw (a.aw h), Int.le_trans a.st b.st⟩
theorem up_wk (x : Hd) : Up x x.wk := ⟨id, id, fun _ => rfl, Int.le_refl _⟩
theorem up_proc (x : Hd) (l : Lt) : Up x (x.proc l).1 := by
  unfold Hd.proc
  cases l.word with
  | ask =>
    show Up x (x.asked l).1
    unfold Hd.asked
    repeat' split
    · exact ⟨fun _ => rfl, fun _ => by simp, id, Int.le_refl _⟩
    · exact Up.refl x
    · exact ⟨id, id, id, Int.le_refl _⟩
    · exact ⟨id, id, id, Int.le_refl _⟩
  | answer =>
    show Up x (x.answered l).1
    unfold Hd.answered
    repeat' split
    · exact Up.refl x
    · exact ⟨id, id, id, Int.le_refl _⟩
    · exact ⟨id, id, id, by show x.stage ≤ x.stage + 1; omega⟩
  | crown =>
    show Up x (x.told l).1
    unfold Hd.told
    split
    · exact Up.refl x
    · exact ⟨id, fun _ => by simp, id, Int.le_refl _⟩
theorem up_take (x : Hd) (l : Lt) : Up x (x.take l).1 := (up_wk x).trans (up_proc x.wk l)
theorem up_wake {q : Nat} (hq : q < S.hands.length) (p : Nat) : Up (S.h p) ((S.wake q).h p) := by
  rw [wake_h hq]
  by_cases e : p = q
  · rw [if_pos e, e]; exact up_wk _
  · rw [if_neg e]; exact Up.refl _
theorem bring_h {i : Nat} (hq : (S.mail i).1 < S.hands.length) (p : Nat) : (S.bring i).h p = if p = (S.mail i).1 then ((S.h p).take (S.mail i).2).1 else S.h p := by
  show ((S.drop i).setH (S.mail i).1 (((S.drop i).h (S.mail i).1).take (S.mail i).2).1).h p = _
  rw [h_setH (by exact hq)]
  by_cases e : p = (S.mail i).1
  · rw [if_pos e, if_pos e, e]; rfl
  · rw [if_neg e, if_neg e]; rfl
theorem up_bring {i : Nat} (hq : (S.mail i).1 < S.hands.length) (p : Nat) : Up (S.h p) ((S.bring i).h p) := by
  rw [bring_h hq]
  by_cases e : p = (S.mail i).1
  · rw [if_pos e]; exact up_take _ _
  · rw [if_neg e]; exact Up.refl _

/-! ### how many mails -/
theorem wake_count {q : Nat} : (S.wake q).many + S.post.length = S.many + (S.wake q).post.length := by
  unfold Rg.wake Rg.put Rg.setH
  simp
  omega
theorem bring_count {i : Nat} (hi : i < S.post.length) : (S.bring i).many + S.post.length = S.many + (S.bring i).post.length + 1 := by
  unfold Rg.bring Rg.give Rg.put Rg.setH Rg.drop
  simp [List.length_eraseIdx]
  rw [if_pos hi]
  omega
end RC
/-! # RcKit: some rules of my own over the hand layer -/
namespace L2
open PySem PySem.Spec PyProof.Rows

/-! ### rules for a comprehension's block, where X.K is K -/
section
variable {X : Cx} {K : PySem.W.Frag}
theorem pe_fldK {e : Expr} {f : Str} {pos : Pos} {ta : TE} (hK : X.K = K) (he : PE X e ta) (hb : attributeBase e f X.env (eval e X.env) = eval e X.env) : PE X (.Attribute e f pos) (tFld K ta f) := by
  subst hK; exact pe_fld he hb
theorem ix_listK (hK : X.K = K) : IxR X (rIxL K) := by subst hK; exact ix_list
theorem ix_tupK (hK : X.K = K) : IxR X (rIxT K) := by subst hK; exact ix_tup
theorem op_neDK (hK : X.K = K) (hu : X.A.units + 64 < cLine) : OpR X (compareOp .NotEq) (rNeD K) := by subst hK; exact op_neD hu
end
/-- what an own error class must say -/
structure XCls (K : PySem.W.Frag) (C : Addr) : Prop where
  xP : PySem.W.excIn K C [.type "ValueError", .type "Exception", .type "BaseException", .type "object"] "ValueError.__new__" = true
  kP : PySem.W.keepIn K (.ref C) = true
  bP : PySem.W.subIn K (.ref C) (.type "BaseException") = some true
  tP : PySem.W.typeIn K (.ref C) = some (.type "type")
  iP : PySem.W.isClsIn K C = true
  vP : PySem.W.subIn K (.ref C) (.type "ValueError") = some true
  eC : ExcC K C
theorem XCls.raises {X : Cx} {C : Addr} (x : XCls X.K C) : Raises X (.ref C) := raises_own x.bP x.tP
/-- an error of the class at D before «except C» -/
theorem XCls.exm {K : PySem.W.Frag} {C D : Addr} {b : Bool} (x : XCls K C) (h : PySem.W.subIn K (.ref D) (.ref C) = some b) : PySem.W.exmOne K (.ref D) (.ref C) = some b :=
  PySem.W.exm_ref x.bP x.eC.hd x.tP h
/-- isinstance(an error of the class at D, C) -/
theorem XCls.kit {K : PySem.W.Frag} {C D : Addr} {b : Bool} (x : XCls K C) (h : PySem.W.subIn K (.ref D) (.ref C) = some b) (hn : D = C → b = true) : PySem.W.kitOne K (.ref D) (.ref C) = some b := by
  unfold PySem.W.kitOne
  by_cases e : D = C
  · subst e
    rw [hn rfl, if_pos (beq_self_eq_true _)]
  · have z : ¬ (Value.ref D == Value.ref C) = true := fun q => e (Value.ref.inj (beq_iff_eq.mp q))
    rw [if_neg z]
    unfold PySem.W.kitCls
    have i : ((PySem.W.clsIn K C).isSome && PySem.W.typeIn K (.ref C) == some (.type "type")) = true := by
      have i1 : (PySem.W.clsIn K C).isSome = true := x.iP
      rw [i1, x.tP] <;> rfl
    show (if ((PySem.W.clsIn K C).isSome && PySem.W.typeIn K (.ref C) == some (.type "type")) = true then PySem.W.subIn K (.ref D) (.ref C) else none) = some b
    rw [if_pos i]
    exact h
theorem XCls.kitV {K : PySem.W.Frag} {D : Addr} (x : XCls K D) : PySem.W.kitOne K (.ref D) (.type "ValueError") = some true := by
  unfold PySem.W.kitOne
  have z : ¬ (Value.ref D == Value.type "ValueError") = true := fun q => nomatch beq_iff_eq.mp q
  rw [if_neg z]
  unfold PySem.W.kitCls
  have i : PySem.W.kitMeta "ValueError" = true := by decide +kernel
  show (if PySem.W.kitMeta "ValueError" = true then PySem.W.subIn K (.ref D) (.type "ValueError") else none) = some true
  rw [if_pos i]
  exact x.vP

section
variable {X : Cx}
/-- a callee's error goes on out of a def that may raise -/
theorem passR {W : WX} {E : XK} (hW : ∀ cls d σ H, E cls d H → W cls d σ H) (tk : Takes X W) : Passes (L2.CX X.prog X.w) X E := passes_call tk hW
theorem pe_gint {x : Str} {i : Int} {pos : Pos} (hg : Gl X x) (hm : ∃ t, X.mg x = some (.int i t)) (hd : (x == ("__debug__" : Str)) = false := by decide) : PE X (.Name x pos) (tC (.int i)) := by
  obtain ⟨t, e⟩ := hm
  exact pe_glob hg e ⟨t, rfl⟩ hd
/-- a suite for an error whose class (one without a dict) is told where it is raised -/
theorem pss_err {st : List Stmt} {K : PySem.W.Frag} {cls : Value} {d : Option Addr} {oe : Obj} {t : Addr → TS} (hz : Zc cls d oe) (h : ∀ D', ExcC K D' → Zc (.ref D') none oe → PSs X st (t D')) :
    PSs X st (fun Dn σ H => ∃ D', ExcC K D' ∧ cls = .ref D' ∧ d = none ∧ t D' Dn σ H) := by
  refine ⟨fun pins s σ H Dn I hh => ?_⟩
  obtain ⟨D', hE, e1, e2, q⟩ := hh
  subst e1 e2
  exact (h D' hE hz).run pins s σ H Dn I q

variable {CX : CXT} {k : Nat} {f C : Addr} {fd : FuncData} {ps : List Str} {sp : Sp} {E : St → XK} {x m : Str} {p pos apos : Pos} {e o : Expr} {es : List Expr} {ta : TE} {t : TA}
/-- o.m(e, ..) where what is raised is wished for at the caller's slots -/
def tMethW (C : Addr) (m : Str) (sp : Sp) (E : St → XK) (ta : TE) (t : TA) : TE := fun σ H Q =>
  ta σ H fun x H1 => ∃ a dx fs, x = .ref a ∧ H1 a = some (.ins C dx fs) ∧ fs.lookup m = none ∧ t σ H1 fun vs H2 => sp (x :: vs) H2 Q (E σ)
theorem pe_methW {pl : Sem Bool} (ho : PE X o ta) (hc : Cls X.K C) (hM : Meth X.K C m f) (G : FnOk X.prog X.w X.K X.mg X.base CX k f fd ps sp) (room : Room k X.A) (bi : Binds X.K fd ps []) (hp : ∀ σ, PassesAt CX X σ (E σ)) (args : PA X (e :: es) t)
    (h1 : starEach (e :: es) X.env = (false, eval e X.env) :: starEach es X.env := by rfl) (h2 : (backTo pos (starEach es X.env)).any (·.1) = false := by rfl)
    (h3 : eval (.Call (.Attribute o m apos) (e :: es) [] pos) X.env = (do
      let obj ← eval o X.env
      standAt apos.atName
      let (fn, own) ← holding [obj] (getMethod obj m pl)
      callWith pos fn own (backTo pos (starEach (e :: es) X.env)) (backToKw pos (keywordEach [] X.env))) := by rfl) :
    PE X (.Call (.Attribute o m apos) (e :: es) [] pos) (tMethW C m sp E ta t) := ⟨fun pins s σ H Q I h => by
  refine PySem.W.methodCall_KW (pl := pl) (thn (ho.run pins s σ H _ I h) ?_) h3
  rintro w s1 ⟨v, H1, I1, rv, a, dx, fs, rfl, ea, nl, q⟩
  cases (show w = Value.ref a from rv)
  refine getmeth_ok I1 ea hc hM nl ?_
  refine PySem.W.callWith_K (first := [.ref a]) (h₀ := X.base) I.ok.mod.kin hM.kp (thn (args.run pos pins s1 σ H1 _ I1 q) ?_) h1 h2
  rintro us s2 ⟨vs, H2, I2, rs, q2⟩
  exact ⟨I2.kIn, run_fnS (us := .ref a :: us) (vs := .ref a :: vs) G room bi (hp σ) I2 (.cons rfl rs) q2⟩⟩
/-- C(e, ..) likewise -/
def tMakeW (C : Addr) (sp : Sp) (E : St → XK) (t : TA) : TE := fun σ H Q => t σ H fun vs H1 => ∀ x dx, H1 x = none → H1 dx = none → dx ≠ x →
  sp (.ref x :: vs) (upd (upd H1 dx (.own x)) x (.ins C dx [])) (fun v H2 => v = .non ∧ Q (.ref x) H2) (E σ)
theorem pe_makeW (M : Mk X.K C f) (G : FnOk X.prog X.w X.K X.mg X.base CX k f fd ps sp) (room : Room (k + 1) X.A) (hg : Gl X x) (hm : X.mg x = some (.ref C)) (bi : Binds X.K fd ps []) (hp : ∀ σ, PassesAt CX X σ (E σ)) (args : PA X (e :: es) t)
    (hdb : (x == ("__debug__" : Str)) = false := by decide) (h1 : starEach (e :: es) X.env = (false, eval e X.env) :: starEach es X.env := by rfl) (h2 : (backTo pos (starEach es X.env)).any (·.1) = false := by rfl) :
    PE X (.Call (.Name x p) (e :: es) [] pos) (tMakeW C sp E t) := ⟨fun pins s σ H Q I h => by
  refine wpAny_Call_Name_kw (ld_glob I hg hm ?_ hdb)
  refine PySem.W.callWith_K (h₀ := X.base) I.ok.mod.kin M.kp (thn (args.run pos pins s σ H _ I h) ?_) h1 h2
  rintro us s1 ⟨vs, H1, I1, r, q⟩
  refine ⟨I1.kIn, ?_⟩
  have nx : H1 (s1.heap.objs.size + 1) = none := I1.hok.fresh (Nat.le_succ _)
  have nd : H1 s1.heap.objs.size = none := I1.hok.fresh (Nat.le_refl _)
  have hq := q _ _ nx nd (Nat.ne_of_lt (Nat.lt_succ_self _))
  have J := Inv.made (C := C) I1
  have rr : Vals (V.ref (s1.heap.objs.size + 1) :: vs) (Value.ref (s1.heap.objs.size + 1) :: us) := .cons rfl r
  have hl : (Value.ref (s1.heap.objs.size + 1) :: us).length = ps.length := by rw [← rr.length]; exact G.len _ _ _ _ hq
  have hb := bi _ (Value.ref (s1.heap.objs.size + 1) :: us) J.kIn (by rw [List.append_nil]; exact hl)
  rw [List.append_nil] at hb
  refine wpAny_call (make_map (f := f) I1.kIn M.makes M.init (beq_iff_eq.mp M.fn) (codeAny_mono (G.run _ X.stack _ _ ⟨Value.ref (s1.heap.objs.size + 1) :: us, []⟩ _ _ _ (E σ) (room.make C us []) (J.env0.make C us []) hb rr hq) ?_))
  intro res s2 hres
  match res, hres with
  | .error er, hres => exact hp σ pins _ _ er s2 J hres
  | .ok (.ret u), hres =>
    obtain ⟨v, H2, J2, rv, ev, q3⟩ := J.after hres
    subst ev
    exact ⟨rv, ⟨V.ref (s1.heap.objs.size + 1), H2, J2, rfl, q3⟩⟩
  | .ok .next, hres => exact False.elim hres
  | .ok .brk, hres => exact False.elim hres
  | .ok .cont, hres => exact False.elim hres⟩
end
end L2
namespace L2
open PySem PySem.Spec PyProof.Rows
/-! ### rules under names -/
section
variable {X : Cx}
def rLen (K : PySem.W.Frag) : List V → Hp → VK → Prop := fun xs H Q => ∃ p ys, xs = [.ref p] ∧ (SqL K H p ys ∨ SqT K H p ys) ∧ Q (.int ys.length) H
theorem call_lenN : CallR X (.builtin "len") (rLen X.K) := call_len_seq
def rAbs : List V → Hp → VK → Prop := fun xs H Q => ∃ i, xs = [.int i] ∧ Q (.int (if i < 0 then -i else i)) H
theorem call_absN : CallR X (.builtin "abs") rAbs := call_abs
def rInt1 : List V → Hp → VK → Prop := fun xs H Q => (∃ i, xs = [.int i] ∧ Q (.int i) H) ∨ ∃ k, xs = [.bl k] ∧ Q (.int (if k then 1 else 0)) H
theorem call_intN : CallR X (.type "int") rInt1 := call_int1
def rListOf (K : PySem.W.Frag) : List V → Hp → VK → Prop := fun xs H Q => ∃ p ys, xs = [.ref p] ∧ (SqL K H p ys ∨ SqT K H p ys) ∧ ∀ l, H l = none → Q (.ref l) (upd H l (.lst ys))
theorem call_listN : CallR X (.type "list") (rListOf X.K) := call_list_of
def rIsNo : R2 := fun x y H Q => y = .non ∧ Q (.bl (decide (x = .non))) H
theorem op_isNo : OpR X (compareOp .Is) rIsNo := op_isN
def rNotNo : R2 := fun x y H Q => y = .non ∧ Q (.bl (!decide (x = .non))) H
theorem op_notNo : OpR X (compareOp .IsNot) rNotNo := op_notN
def rIsBo : R2 := fun x y H Q => ∃ a b, x = .bl a ∧ y = .bl b ∧ Q (.bl (decide (a = b))) H
theorem op_isBo : OpR X (compareOp .Is) rIsBo := op_is_bl
def rNotBo : R2 := fun x y H Q => ∃ a b, x = .bl a ∧ y = .bl b ∧ Q (.bl (!decide (a = b))) H
theorem op_notBo : OpR X (compareOp .IsNot) rNotBo := op_isnot_bl
def rMin2 : List V → Hp → VK → Prop := fun xs H Q => ∃ i j, xs = [.int i, .int j] ∧ Q (.int (if j < i then j else i)) H
theorem call_minN (hc : X.calm = true) : CallR X (.builtin "min") rMin2 := call_min2 hc
def rTupOf (K : PySem.W.Frag) : List V → Hp → VK → Prop := fun xs H Q => ∃ p ys, xs = [.ref p] ∧ ((SqL K H p ys ∧ ∀ l, H l = none → Q (.ref l) (upd H l (.tup ys))) ∨ (SqT K H p ys ∧ Q (.ref p) H))
theorem call_tupN : CallR X (.type "tuple") (rTupOf X.K) := call_tuple_of
end
/-- an attribute's value -/
def rFld (K : PySem.W.Frag) (f : Str) : V → Hp → VK → Prop := fun x H Q => ∃ a C dx fs v, x = .ref a ∧ H a = some (.ins C dx fs) ∧ Cls K C ∧ NoAttr K C f ∧ fs.lookup f = some v ∧ Q v H
/-- an attribute stored -/
def rPut (K : PySem.W.Frag) (f : Str) (y : V) : V → Hp → (Hp → Prop) → Prop := fun x H R => ∃ a C dx fs, x = .ref a ∧ H a = some (.ins C dx fs) ∧ Cls K C ∧ NoAttr K C f ∧ fs.length < 1000 ∧ R (upd H a (.ins C dx (putF f y fs)))
/-- the receiver of a method -/
def rRecv (C : Addr) (m : Str) : V → Hp → Prop → Prop := fun x H R => ∃ a dx fs, x = .ref a ∧ H a = some (.ins C dx fs) ∧ fs.lookup m = none ∧ R
/-! ### readings, one step each -/
section
variable {K : PySem.W.Frag} {σ : St} {H : Hp} {D : Ends} {te ta tb tc : TE} {ts tr : TS} {t u : TT} {tl : TA} {Q : VK} {x y v w : V} {i j : Int} {n : Nat} {a C dx : Addr} {fs : List (Str × V)} {f : Str}
theorem rd_seq {nx : St → Hp → Prop} {rt : VK} {bk ct : St → Hp → Prop} (h : ts ⟨tr ⟨nx, rt, bk, ct⟩, rt, bk, ct⟩ σ H) : tSeq ts tr ⟨nx, rt, bk, ct⟩ σ H := h
theorem rd_asg (h : te σ H fun x H1 => D.nx (σ.set n (some x)) H1) : tAsg te (gName n) D σ H := h
theorem rd_asgG {g : TG} (h : te σ H fun x H1 => g x σ H1 D.nx) : tAsg te g D σ H := h
theorem rd_ret (h : te σ H D.rt) : tRet te D σ H := h
theorem rd_retN (h : D.rt .non H) : tRetN D σ H := h
theorem rd_drop (h : te σ H fun _ H1 => D.nx σ H1) : tDrop te D σ H := h
theorem rd_next (h : D.nx σ H) : tNext D σ H := h
theorem rd_if {c : TT} (h : c σ H fun b H1 => if b = true then ts D σ H1 else tr D σ H1) : tIfS c ts tr D σ H := h
theorem rd_var {k : Nat} (e : σ[k]? = some (some v)) (h : Q v H) : tVar k σ H Q := ⟨v, e, h⟩
theorem rd_c (h : Q v H) : tC v σ H Q := h
theorem rd_op {r : R2} (h : ta σ H fun x H1 => tb σ H1 fun y H2 => r x y H2 Q) : tOp r ta tb σ H Q := h
theorem rd_un {r : V → Hp → VK → Prop} (h : ta σ H fun x H1 => r x H1 Q) : tUn r ta σ H Q := h
theorem rd_I0 {g : Int → Int → V} (h : Q (g i j) H) : rI0 g (.int i) (.int j) H Q := ⟨i, j, rfl, rfl, h⟩
theorem rd_I {c : Int → Int → Prop} {g : Int → Int → V} (hc : c i j) (h : Q (g i j) H) : rI c g (.int i) (.int j) H Q := ⟨i, j, rfl, rfl, hc, h⟩
theorem rd_U {g : Int → V} (h : Q (g i) H) : rU g (.int i) H Q := ⟨i, rfl, h⟩
theorem rd_eq (hs : scal x y = true) (h : Q (.bl (decide (x = y))) H) : rEq x y H Q := ⟨hs, h⟩
theorem rd_ne (hs : scal x y = true) (h : Q (.bl (!decide (x = y))) H) : rNe x y H Q := ⟨hs, h⟩
theorem rd_eqI (h : Q (.bl (decide (i = j))) H) : rEq (.int i) (.int j) H Q := ⟨rfl, by
  have e : decide (V.int i = V.int j) = decide (i = j) := by
    by_cases z : i = j
    · rw [z]; simp
    · rw [decide_eq_false z, decide_eq_false fun q => z (V.int.inj q)]
  rw [e]; exact h⟩
theorem rd_neI (h : Q (.bl (!decide (i = j))) H) : rNe (.int i) (.int j) H Q := ⟨rfl, by
  have e : decide (V.int i = V.int j) = decide (i = j) := by
    by_cases z : i = j
    · rw [z]; simp
    · rw [decide_eq_false z, decide_eq_false fun q => z (V.int.inj q)]
  rw [e]; exact h⟩
theorem rd_test {Q : Bool → Hp → Prop} (h : te σ H fun x H' => ∃ k, x = .bl k ∧ Q k H') : tTest te σ H Q := h
theorem rd_B {Q : Bool → Hp → Prop} (h : te σ H fun x H' => ∃ k, x = .bl k ∧ Q k H') : tB te σ H Q := h
theorem rd_bl {b : Bool} {P : Bool → Prop} (h : P b) : ∃ k, V.bl b = .bl k ∧ P k := ⟨b, rfl, h⟩
theorem rd_and {Q : Bool → Hp → Prop} (h : t σ H fun c H1 => if c = true then u σ H1 Q else Q false H1) : tAnd t u σ H Q := h
theorem rd_or {Q : Bool → Hp → Prop} (h : t σ H fun c H1 => if c = true then Q true H1 else u σ H1 Q) : tOr t u σ H Q := h
theorem rd_not {Q : Bool → Hp → Prop} (h : t σ H fun c H1 => Q (!c) H1) : tNot t σ H Q := h
theorem rd_andV (h : ta σ H fun x H1 => ∃ c, x = .bl c ∧ if c = true then tb σ H1 Q else Q (.bl false) H1) : tAndV ta tb σ H Q := h
theorem rd_orV (h : ta σ H fun x H1 => ∃ c, x = .bl c ∧ if c = true then Q (.bl true) H1 else tb σ H1 Q) : tOrV ta tb σ H Q := h
theorem rd_notV (h : ta σ H fun x H1 => ∃ c, x = .bl c ∧ Q (.bl (!c)) H1) : tNotV ta σ H Q := h
theorem rd_ifE {c : TT} (h : c σ H fun b H1 => if b = true then ta σ H1 Q else tb σ H1 Q) : tIf c ta tb σ H Q := h
theorem rd_nil {Q : List V → Hp → Prop} (h : Q [] H) : tNil σ H Q := h
theorem rd_cons {Q : List V → Hp → Prop} (h : ta σ H fun x H1 => tl σ H1 fun xs H2 => Q (x :: xs) H2) : tCons ta tl σ H Q := h
theorem rd_CB {r : List V → Hp → VK → Prop} (h : tl σ H fun vs H1 => r vs H1 Q) : tCB r tl σ H Q := h
theorem rd_call {sp : Sp} {E : XK} (h : tl σ H fun vs H1 => sp vs H1 Q E) : tCall sp [] E tl σ H Q := by
  have e : (fun vs H1 => sp (vs ++ []) H1 Q E) = fun vs H1 => sp vs H1 Q E := by funext vs H1; rw [List.append_nil]
  show tl σ H fun vs H1 => sp (vs ++ []) H1 Q E
  rw [e]; exact h
theorem rd_callS {sp : Sp} {E : St → XK} (h : tl σ H fun vs H1 => sp vs H1 Q (E σ)) : tCallS sp E tl σ H Q := h
theorem rd_mk {sp : Sp} {E : XK} (h : tl σ H fun vs H1 => ∀ x dx, H1 x = none → H1 dx = none → dx ≠ x → sp (.ref x :: vs) (upd (upd H1 dx (.own x)) x (.ins C dx [])) (fun v H2 => v = .non ∧ Q (.ref x) H2) E) : tMake C sp [] E tl σ H Q := by
  show tl σ H fun vs H1 => ∀ x dx, H1 x = none → H1 dx = none → dx ≠ x → sp (.ref x :: (vs ++ [])) (upd (upd H1 dx (.own x)) x (.ins C dx [])) (fun v H2 => v = .non ∧ Q (.ref x) H2) E
  simp only [List.append_nil]
  exact h
theorem rd_tFld (h : ta σ H fun x H1 => rFld K f x H1 Q) : tFld K ta f σ H Q := h
theorem rd_fld (e : H a = some (.ins C dx fs)) (c : Cls K C) (nA : NoAttr K C f) (l : fs.lookup f = some v) (h : Q v H) : rFld K f (.ref a) H Q := ⟨a, C, dx, fs, v, rfl, e, c, nA, l, h⟩
theorem rd_sFld (h : te σ H fun y H1 => ta σ H1 fun x H2 => rPut K f y x H2 fun H3 => D.nx σ H3) : sFld K ta te f D σ H := h
theorem rd_put {R : Hp → Prop} (e : H a = some (.ins C dx fs)) (c : Cls K C) (nA : NoAttr K C f) (l : fs.length < 1000) (h : R (upd H a (.ins C dx (putF f y fs)))) : rPut K f y (.ref a) H R := ⟨a, C, dx, fs, rfl, e, c, nA, l, h⟩
theorem rd_meth {m : Str} {sp : Sp} {E : XK} (h : ta σ H fun x H1 => rRecv C m x H1 (tl σ H1 fun vs H2 => sp (x :: vs) H2 Q E)) : tMeth C m sp [] E ta tl σ H Q := by
  have e : ∀ x : V, (fun vs H1 => sp (x :: (vs ++ [])) H1 Q E) = fun vs H1 => sp (x :: vs) H1 Q E := fun x => by funext vs H1; rw [List.append_nil]
  show ta σ H fun x H1 => ∃ a dx fs, x = .ref a ∧ H1 a = some (.ins C dx fs) ∧ fs.lookup m = none ∧ tl σ H1 fun vs H2 => sp (x :: (vs ++ [])) H2 Q E
  simp only [e]
  exact h
theorem rd_methW {m : Str} {sp : Sp} {E : St → XK} (h : ta σ H fun x H1 => rRecv C m x H1 (tl σ H1 fun vs H2 => sp (x :: vs) H2 Q (E σ))) : tMethW C m sp E ta tl σ H Q := h
theorem rd_recv {m : Str} {R : Prop} (e : H a = some (.ins C dx fs)) (l : fs.lookup m = none) (h : R) : rRecv C m (.ref a) H R := ⟨a, dx, fs, rfl, e, l, h⟩
theorem rd_len {xs : List V} (e : SqL K H a xs) (h : Q (.int xs.length) H) : rLen K [.ref a] H Q := ⟨a, xs, rfl, .inl e, h⟩
theorem rd_abs (h : Q (.int (if i < 0 then -i else i)) H) : rAbs [.int i] H Q := ⟨i, rfl, h⟩
theorem rd_int1 {b : Bool} (h : Q (.int (if b then 1 else 0)) H) : rInt1 [.bl b] H Q := .inr ⟨b, rfl, h⟩
theorem rd_listL {xs : List V} (e : SqL K H a xs) (h : ∀ l, H l = none → Q (.ref l) (upd H l (.lst xs))) : rListOf K [.ref a] H Q := ⟨a, xs, rfl, .inl e, h⟩
theorem rd_listT {xs : List V} (e : SqT K H a xs) (h : ∀ l, H l = none → Q (.ref l) (upd H l (.lst xs))) : rListOf K [.ref a] H Q := ⟨a, xs, rfl, .inr e, h⟩
theorem rd_min2 {i j : Int} (h : Q (.int (if j < i then j else i)) H) : rMin2 [.int i, .int j] H Q := ⟨i, j, rfl, h⟩
theorem rd_tupOf {xs : List V} (e : SqL K H a xs) (h : ∀ l, H l = none → Q (.ref l) (upd H l (.tup xs))) : rTupOf K [.ref a] H Q := ⟨a, xs, rfl, .inl ⟨e, h⟩⟩
theorem rd_makeW {sp : Sp} {E : St → XK} (h : tl σ H fun vs H1 => ∀ x dx, H1 x = none → H1 dx = none → dx ≠ x → sp (.ref x :: vs) (upd (upd H1 dx (.own x)) x (.ins C dx [])) (fun v H2 => v = .non ∧ Q (.ref x) H2) (E σ)) : tMakeW C sp E tl σ H Q := h
theorem rd_slL {xs : List V} {lo hi : Option Int} (e : SqL K H a xs) (h : ∀ p, H p = none → Q (.ref p) (upd H p (.lst (cutV xs lo hi)))) : rSlL K (.ref a) lo hi H Q := ⟨a, xs, rfl, e, h⟩
theorem rd_cat {b : Addr} {xs ys : List V} (e1 : H a = some (.lst xs)) (e2 : H b = some (.lst ys)) (hz : xs.length + ys.length ≤ 100000) (h : ∀ p, H p = none → Q (.ref p) (upd H p (.lst (xs ++ ys)))) : rCat (.ref a) (.ref b) H Q :=
  ⟨a, b, xs, ys, rfl, rfl, e1, e2, Nat.le_trans hz (by decide), h⟩
theorem rd_isNo (h : Q (.bl (decide (x = .non))) H) : rIsNo x .non H Q := ⟨rfl, h⟩
theorem rd_notNo (h : Q (.bl (!decide (x = .non))) H) : rNotNo x .non H Q := ⟨rfl, h⟩
theorem rd_isBo {b c : Bool} (h : Q (.bl (decide (b = c))) H) : rIsBo (.bl b) (.bl c) H Q := ⟨b, c, rfl, rfl, h⟩
theorem rd_notBo {b c : Bool} (h : Q (.bl (!decide (b = c))) H) : rNotBo (.bl b) (.bl c) H Q := ⟨b, c, rfl, rfl, h⟩
theorem rd_lst (h : tl σ H fun xs H1 => xs.length ≤ sizeLine ∧ ∀ p, H1 p = none → Q (.ref p) (upd H1 p (.lst xs))) : tLst tl σ H Q := h
theorem rd_tup (h : tl σ H fun xs H1 => xs.length ≤ sizeLine ∧ ∀ p, H1 p = none → Q (.ref p) (upd H1 p (.tup xs))) : tTup tl σ H Q := h
theorem rd_ixL {xs : List V} {k : Nat} (e : SqL K H a xs) (hi : i = (k : Int)) (hx : xs[k]? = some v) (h : Q v H) : rIxL K (.ref a) (.int i) H Q := ⟨a, xs, i, v, rfl, rfl, e, by rw [hi]; exact atI_nat hx, h⟩
theorem rd_ixT {xs : List V} {k : Nat} (e : SqT K H a xs) (hi : i = (k : Int)) (hx : xs[k]? = some v) (h : Q v H) : rIxT K (.ref a) (.int i) H Q := ⟨a, xs, i, v, rfl, rfl, e, by rw [hi]; exact atI_nat hx, h⟩
theorem rd_isi {m n : String} {b : Bool} (ty : TyX K H v (.type n)) (k : kitB n m = some b) (h : Q (.bl b) H) : rIsi K [v, .ty m] H Q := ⟨v, .ty m, .type n, .type m, b, rfl, .ty m, ty, kit_ty k, h⟩
theorem rd_isE {D C : Addr} {b : Bool} (k : PySem.W.kitOne K (.ref D) (.ref C) = some b) (h : Q (.bl b) H) : rIsE K D a [.ref a, .ref C] H Q := ⟨.ref C, .ref C, b, rfl, fun _ r => r, k, h⟩
theorem rd_isEV {D : Addr} {b : Bool} {m : String} (k : PySem.W.kitOne K (.ref D) (.type m) = some b) (h : Q (.bl b) H) : rIsE K D a [.ref a, .ty m] H Q := ⟨.ty m, .type m, b, rfl, fun _ r => r, k, h⟩
theorem rd_ite {b : Bool} {A B : Prop} (h1 : b = true → A) (h2 : b = false → B) : if b = true then A else B := by
  cases b with
  | true => exact (if_pos rfl).mpr (h1 rfl)
  | false => exact (if_neg Bool.false_ne_true).mpr (h2 rfl)
theorem rd_dec {p A B : Prop} [Decidable p] (h1 : p → A) (h2 : ¬ p → B) : if decide p = true then A else B := by
  by_cases h : p
  · rw [decide_eq_true h]; exact (if_pos rfl).mpr (h1 h)
  · rw [decide_eq_false h]; exact (if_neg Bool.false_ne_true).mpr (h2 h)
theorem rd_ndec {p A B : Prop} [Decidable p] (h1 : ¬ p → A) (h2 : p → B) : if (!decide p) = true then A else B := by
  by_cases h : p
  · rw [decide_eq_true h]; exact (if_neg Bool.false_ne_true).mpr (h2 h)
  · rw [decide_eq_false h]; exact (if_pos rfl).mpr (h1 h)
end
end L2

namespace L2
open PySem PySem.Spec PyProof.Rows Evl
/-! ### loops and comprehensions, one step each -/
section
variable {K : PySem.W.Frag} {σ : St} {H : Hp} {D : Ends} {te : TE} {tb : TS} {tl : TA} {tx : TE} {tt c : TT} {g : TG} {Q : VK} {x : V} {a : Addr} {xs : List V} {j : Nat} {vs : List Nat}
/-- a loop over what J gives -/
def rFor (g : TG) (tb : TS) (D : Ends) (σ : St) : It → Hp → Prop := fun J H1 => ∃ W : Nat → Nat → St → Hp → Prop, (∃ m, W 0 m σ H1) ∧ ∀ i m σ H, W i m σ H →
  (J.stop i H ∧ D.nx σ H) ∨ (J.go i H ∧ ∃ N : St → Hp → Prop, (∀ σ' H', N σ' H' → ∃ m', m' < m ∧ W (i + 1) m' σ' H') ∧ ∀ x H', J.yld i H x H' → g x σ H' fun σ2 H2 => tb { D with nx := N, ct := N, bk := D.nx } σ2 H2)
def rForL (K : PySem.W.Frag) (g : TG) (tb : TS) (D : Ends) (σ : St) : V → Hp → Prop := fun x H1 => ∃ a, x = .ref a ∧ (∃ xs, SqL K H1 a xs) ∧ rFor g tb D σ (Itl K a) H1
def rForT (K : PySem.W.Frag) (g : TG) (tb : TS) (D : Ends) (σ : St) : V → Hp → Prop := fun x H1 => ∃ a, x = .ref a ∧ (∃ xs, SqT K H1 a xs) ∧ rFor g tb D σ (Itt K a) H1
def rForR1 (g : TG) (tb : TS) (D : Ends) (σ : St) : List V → Hp → Prop := fun vs H1 => ∃ j : Int, vs = [.int j] ∧ -(2 ^ 62) ≤ j ∧ j < 2 ^ 62 ∧ rFor g tb D σ (Itr 0 j.toNat) H1
def rForR2 (g : TG) (tb : TS) (D : Ends) (σ : St) : List V → Hp → Prop := fun vs H1 => ∃ i j : Int, vs = [.int i, .int j] ∧ (-(2 ^ 62) ≤ i ∧ i < 2 ^ 62 ∧ -(2 ^ 62) ≤ j ∧ j < 2 ^ 62) ∧ rFor g tb D σ (Itr i (j - i).toNat) H1
theorem rd_forL (h : tx σ H fun x H1 => rForL K g tb D σ x H1) : tFor (iList K tx) g tb D σ H := h
theorem rd_forT (h : tx σ H fun x H1 => rForT K g tb D σ x H1) : tFor (iTup K tx) g tb D σ H := h
theorem rd_forR1 (h : tl σ H fun vs H1 => rForR1 g tb D σ vs H1) : tFor (iRng1 tl) g tb D σ H := h
theorem rd_forR2 (h : tl σ H fun vs H1 => rForR2 g tb D σ vs H1) : tFor (iRng2 tl) g tb D σ H := h
section
variable {nx : St → Hp → Prop} {rt : VK} {bk ct : St → Hp → Prop}
theorem for_L (e : SqL K H a xs) (Pv : Nat → St → Hp → Prop) (h0 : Pv 0 σ H) (hl : ∀ i σ H, i ≤ xs.length → Pv i σ H → SqL K H a xs)
    (hs : ∀ i x σ H, xs[i]? = some x → Pv i σ H → tb ⟨Pv (i + 1), rt, nx, Pv (i + 1)⟩ (σ.set j (some x)) H) (hd : ∀ σ H, Pv xs.length σ H → nx σ H) : rForL K (gName j) tb ⟨nx, rt, bk, ct⟩ σ (.ref a) H :=
  ⟨a, rfl, ⟨xs, e⟩, for_list (D := ⟨nx, rt, bk, ct⟩) (g := gName j) Pv h0 hl hs hd⟩
theorem for_T (e : SqT K H a xs) (Pv : Nat → St → Hp → Prop) (h0 : Pv 0 σ H) (hl : ∀ i σ H, i ≤ xs.length → Pv i σ H → SqT K H a xs)
    (hs : ∀ i x σ H, xs[i]? = some x → Pv i σ H → tb ⟨Pv (i + 1), rt, nx, Pv (i + 1)⟩ (σ.set j (some x)) H) (hd : ∀ σ H, Pv xs.length σ H → nx σ H) : rForT K (gName j) tb ⟨nx, rt, bk, ct⟩ σ (.ref a) H :=
  ⟨a, rfl, ⟨xs, e⟩, for_tup (D := ⟨nx, rt, bk, ct⟩) (g := gName j) Pv h0 hl hs hd⟩
theorem for_R1 {n : Nat} (hn : n < 2 ^ 62) (Pv : Nat → St → Hp → Prop) (h0 : Pv 0 σ H)
    (hs : ∀ i σ H, i < n → Pv i σ H → tb ⟨Pv (i + 1), rt, nx, Pv (i + 1)⟩ (σ.set j (some (.int ((i : Nat) : Int)))) H) (hd : ∀ σ H, Pv n σ H → nx σ H) : rForR1 (gName j) tb ⟨nx, rt, bk, ct⟩ σ [.int ((n : Nat) : Int)] H :=
  ⟨(n : Int), rfl, by omega, by omega, for_range (D := ⟨nx, rt, bk, ct⟩) (lo := 0) (n := ((n : Nat) : Int).toNat) (g := gName j) Pv h0 (fun i σ H hi p => by
    have e0 : (0 : Int) + ((i : Nat) : Int) = ((i : Nat) : Int) := Int.zero_add _
    show tb ⟨Pv (i + 1), rt, nx, Pv (i + 1)⟩ (σ.set j (some (.int ((0 : Int) + ((i : Nat) : Int))))) H
    rw [e0]
    exact hs i σ H (by simpa using hi) p) (by simpa using hd)⟩
theorem for_R2 {lo n : Nat} (hn : lo + n < 2 ^ 62) (Pv : Nat → St → Hp → Prop) (h0 : Pv 0 σ H)
    (hs : ∀ i σ H, i < n → Pv i σ H → tb ⟨Pv (i + 1), rt, nx, Pv (i + 1)⟩ (σ.set j (some (.int ((lo + i : Nat) : Int)))) H) (hd : ∀ σ H, Pv n σ H → nx σ H) : rForR2 (gName j) tb ⟨nx, rt, bk, ct⟩ σ [.int ((lo : Nat) : Int), .int ((lo + n : Nat) : Int)] H := by
  have en : (((lo + n : Nat) : Int) - ((lo : Nat) : Int)).toNat = n := by omega
  refine ⟨_, _, rfl, ⟨by omega, by omega, by omega, by omega⟩, ?_⟩
  rw [en]
  refine for_range (D := ⟨nx, rt, bk, ct⟩) (lo := ((lo : Nat) : Int)) (n := n) (g := gName j) Pv h0 (fun i σ H hi p => ?_) hd
  have e0 : ((lo : Nat) : Int) + ((i : Nat) : Int) = ((lo + i : Nat) : Int) := by omega
  show tb ⟨Pv (i + 1), rt, nx, Pv (i + 1)⟩ (σ.set j (some (.int (((lo : Nat) : Int) + ((i : Nat) : Int))))) H
  rw [e0]
  exact hs i σ H hi p
/-- a while, by a word and a number that falls -/
theorem rd_while (W : Nat → St → Hp → Prop) (m0 : Nat) (h0 : W m0 σ H)
    (hs : ∀ m σ H, W m σ H → c σ H fun b H1 => if b = true then ∃ N : St → Hp → Prop, (∀ σ' H', N σ' H' → ∃ m', m' < m ∧ W m' σ' H') ∧ tb ⟨N, rt, nx, N⟩ σ H1 else nx σ H1) : tWhile c tb ⟨nx, rt, bk, ct⟩ σ H := ⟨W, ⟨m0, h0⟩, hs⟩
/-- the next turn of a while -/
theorem rd_turn {W : Nat → St → Hp → Prop} {m : Nat} (h : tb ⟨fun σ' H' => ∃ m', m' < m ∧ W m' σ' H', rt, nx, fun σ' H' => ∃ m', m' < m ∧ W m' σ' H'⟩ σ H) :
    ∃ N : St → Hp → Prop, (∀ σ' H', N σ' H' → ∃ m', m' < m ∧ W m' σ' H') ∧ tb ⟨N, rt, nx, N⟩ σ H := ⟨_, fun _ _ z => z, h⟩
end
/-- a comprehension over what J gives -/
def rLc (g : TG) (tt : TT) (te : TE) (vs : List Nat) (σ : St) (Q : VK) : It → Hp → Prop := fun J H1 => ∀ D, H1 D = none → ∃ W : Nat → Nat → Hp → Prop, (∃ m, W 0 m (upd H1 D (.lst []))) ∧ ∀ i m H, W i m H →
  (J.stop i H ∧ Q (.ref D) H) ∨ (J.go i H ∧ ∃ Nx : Hp → Prop, (∀ H', Nx H' → ∃ m', m' < m ∧ W (i + 1) m' H') ∧ ∀ x H', J.yld i H x H' → g x (wipe σ vs) H' fun σ2 H2 => wipe σ2 vs = wipe σ vs ∧ tt σ2 H2 fun b H3 =>
    if b = true then te σ2 H3 fun y H4 => ∃ acc, H4 D = some (.lst acc) ∧ acc.length < sizeLine ∧ Nx (upd H4 D (.lst (acc ++ [y]))) else Nx H3)
def rLcL (K : PySem.W.Frag) (g : TG) (tt : TT) (te : TE) (vs : List Nat) (σ : St) (Q : VK) : V → Hp → Prop := fun x H1 => ∃ a, x = .ref a ∧ (∃ xs, SqL K H1 a xs) ∧ rLc g tt te vs σ Q (Itl K a) H1
def rLcT (K : PySem.W.Frag) (g : TG) (tt : TT) (te : TE) (vs : List Nat) (σ : St) (Q : VK) : V → Hp → Prop := fun x H1 => ∃ a, x = .ref a ∧ (∃ xs, SqT K H1 a xs) ∧ rLc g tt te vs σ Q (Itt K a) H1
def rLcR1 (g : TG) (tt : TT) (te : TE) (vs : List Nat) (σ : St) (Q : VK) : List V → Hp → Prop := fun us H1 => ∃ j : Int, us = [.int j] ∧ -(2 ^ 62) ≤ j ∧ j < 2 ^ 62 ∧ rLc g tt te vs σ Q (Itr 0 j.toNat) H1
theorem rd_lcL (h : tx σ H fun x H1 => rLcL K g tt te vs σ Q x H1) : tLc (iList K tx) g tt te vs σ H Q := h
theorem rd_lcT (h : tx σ H fun x H1 => rLcT K g tt te vs σ Q x H1) : tLc (iTup K tx) g tt te vs σ H Q := h
theorem rd_lcR1 (h : tl σ H fun us H1 => rLcR1 g tt te vs σ Q us H1) : tLc (iRng1 tl) g tt te vs σ H Q := h
theorem wipe_one (σ : St) (j : Nat) (x : V) : wipe ((wipe σ [j]).set j (some x)) [j] = wipe σ [j] := by
  show ((σ.set j none).set j (some x)).set j none = σ.set j none
  rw [List.set_set, List.set_set]
theorem given_true (n : Nat) (v : Nat → V) : given n (fun _ => true) v = (List.range n).map v := by
  unfold given
  rw [List.filter_eq_self.mpr fun _ _ => rfl]
/-- each item's value told, nothing left but new things -/
theorem lc_L (e : SqL K H a xs) (hz : xs.length ≤ 40000) (ys : Nat → V) (he : ∀ (i : Nat) (x : V) H1, Ex H H1 → xs[i]? = some x → Ev te ((σ.set j none).set j (some x)) H1 (ys i))
    (k : ∀ p H1, H p = none → Ex H H1 → H1 p = some (.lst ((List.range xs.length).map ys)) → Q (.ref p) H1) : rLcL K (gName j) tYes te [j] σ Q (.ref a) H := by
  have z := el_lcL (K := K) (σ := σ) (H := H) (te := te) (t := tYes) (a := a) (xs := xs) (tl := tC (.ref a)) (j := j) (vs := [j]) (fun _ => true) ys ev_c e hz (wipe_one σ j) (fun i x H1 _ _ => fun H2 _ Q q => q H2 (Ex.refl H2)) (fun i x H1 e1 hi _ => he i x H1 e1 hi)
  refine z H (Ex.refl H) Q fun p H2 hp e2 h2 => k p H2 hp e2 ?_
  rw [given_true] at h2
  exact h2
theorem lc_R1 {n : Nat} (hz : n ≤ 40000) (ys : Nat → V) (he : ∀ (i : Nat) H1, Ex H H1 → i < n → Ev te ((σ.set j none).set j (some (.int ((i : Nat) : Int)))) H1 (ys i))
    (k : ∀ p H1, H p = none → Ex H H1 → H1 p = some (.lst ((List.range n).map ys)) → Q (.ref p) H1) : rLcR1 (gName j) tYes te [j] σ Q [.int ((n : Nat) : Int)] H := by
  have z := el_lcR1 (σ := σ) (H := H) (te := te) (t := tYes) (ta := fun _ H Q => Q [.int ((n : Nat) : Int)] H) (j := j) (vs := [j]) (n := ((n : Nat) : Int)) (fun _ => true) ys (fun H1 _ Q q => q H1 (Ex.refl H1)) ⟨by omega, by omega⟩ (wipe_one σ j) (fun i H1 _ _ => fun H2 _ Q q => q H2 (Ex.refl H2))
    (fun i H1 e1 hi _ => he i H1 e1 (by omega))
  refine z H (Ex.refl H) Q fun p H2 hp e2 h2 => k p H2 hp e2 ?_
  rw [given_true] at h2
  simpa using h2
/-- if b: n = e, both ints, told as one way -/
theorem rd_iteset {n : Nat} {x0 x1 : Int} {b : Bool} {nx : St → Hp → Prop} {rt : VK} {bk ct : St → Hp → Prop} (h1 : b = true → Ev te σ H (.int x1)) (h0 : σ[n]? = some (some (.int x0)))
    (k : ∀ H1, Ex H H1 → nx (σ.set n (some (.int (if b = true then x1 else x0)))) H1) : if b = true then tAsg te (gName n) ⟨nx, rt, bk, ct⟩ σ H else tNext ⟨nx, rt, bk, ct⟩ σ H := by
  cases b with
  | true =>
    refine iteT ?_
    refine h1 rfl H (Ex.refl H) _ fun H2 e2 => ?_
    exact k H2 e2
  | false =>
    refine iteF ?_
    have e : σ.set n (some (.int x0)) = σ := by
      apply List.ext_getElem?
      intro j
      rw [List.getElem?_set]
      split
      · rename_i q
        subst q
        split
        · exact h0.symm
        · rename_i z
          exact absurd (List.getElem?_eq_some_iff.mp h0).1 z
      · rfl
    have z := k H (Ex.refl H)
    rw [if_neg Bool.false_ne_true, e] at z
    exact z
theorem rd_chain {r r' : R2} {ta tb' tc : TE} (h : ta σ H fun x H1 => tb' σ H1 fun y H2 => r x y H2 fun z H3 => ∃ k, z = .bl k ∧ if k = true then tc σ H3 fun w H4 => r' y w H4 Q else Q (.bl false) H3) : tChain r r' ta tb' tc σ H Q := h
theorem rd_bm0 {n : String} {r : V → List V → Hp → VK → Prop} (h : tx σ H fun x H1 => tyV K n x H1 ∧ r x [] H1 Q) : tBM0 K n r tx σ H Q := h
theorem iteNT {A B : Prop} (h : B) : if (!true) = true then A else B := h
theorem iteNF {A B : Prop} (h : A) : if (!false) = true then A else B := h
def rPart : V → Hp → (Option Int → Hp → Prop) → Prop := fun x H Q => ∃ i, x = .int i ∧ Q (some i) H
theorem rd_sl {r : V → Option Int → Option Int → Hp → VK → Prop} {lo hi : TO} (h : tx σ H fun x H1 => lo σ H1 fun l H2 => hi σ H2 fun u H3 => r x l u H3 Q) : tSl r tx lo hi σ H Q := h
theorem rd_tPart {Q : Option Int → Hp → Prop} (h : tx σ H fun x H1 => rPart x H1 Q) : tPart tx σ H Q := h
theorem rd_part {i : Int} {Q : Option Int → Hp → Prop} (h : Q (some i) H) : rPart (.int i) H Q := ⟨i, rfl, h⟩
theorem rd_nopart {Q : Option Int → Hp → Prop} (h : Q none H) : tNoPart σ H Q := h
theorem rd_popAt {xs : List V} {i : Nat} {y : V} (e : H a = some (.lst xs)) (hi : i < 100000) (hx : xs[i]? = some y) (h : Q y (upd H a (.lst (xs.eraseIdx i)))) : rPopAt (.ref a) [.int ((i : Nat) : Int)] H Q := by
  refine ⟨a, xs, _, i, y, rfl, rfl, e, by omega, by omega, ?_, hx, h⟩
  have hl : i < xs.length := (List.getElem?_eq_some_iff.mp hx).1
  rw [PySem.StrLaws.seqIndex_nonneg (by omega) (by omega)]
  simp
theorem rd_pop {n : String} {r : V → List V → Hp → VK → Prop} (h : tx σ H fun x H1 => tyV K n x H1 ∧ tl σ H1 fun us H2 => r x us H2 Q) : tBM K n r tx tl σ H Q := h
end
end L2

namespace Rc
open PySem L2 Evl
/-! ### what kind of thing a value is -/
def wholeV : V → Bool
  | .int i => decide (0 ≤ i)
  | _ => false
def isI : V → Bool
  | .int _ => true
  | _ => false
/-- a value whose kind isinstance can tell: whether it is an int, no bool -/
def Knd (K : PySem.W.Frag) (H : Hp) (v : V) : Prop := ∃ n bi bb, TyX K H v (.type n) ∧ kitB n "int" = some bi ∧ kitB n "bool" = some bb ∧ (bi && !bb) = isI v
section
variable {K : PySem.W.Frag} {H : Hp} {a : Addr}
theorem knd_int (i : Int) : Knd K H (.int i) := ⟨"int", true, false, .base (.int i), by decide +kernel, by decide +kernel, rfl⟩
theorem knd_bl (b : Bool) : Knd K H (.bl b) := ⟨"bool", true, true, .base (.bl b), by decide +kernel, by decide +kernel, rfl⟩
theorem knd_non : Knd K H .non := ⟨"NoneType", false, false, .base .non, by decide +kernel, by decide +kernel, rfl⟩
theorem knd_str (x : Str) : Knd K H (.str x) := ⟨"str", false, false, .base (.str x), by decide +kernel, by decide +kernel, rfl⟩
theorem knd_lst {xs : List V} (h : H a = some (.lst xs)) : Knd K H (.ref a) := ⟨"list", false, false, .base (.lst h), by decide +kernel, by decide +kernel, rfl⟩
theorem knd_tup {xs : List V} (h : H a = some (.tup xs)) : Knd K H (.ref a) := ⟨"tuple", false, false, .base (.tup h), by decide +kernel, by decide +kernel, rfl⟩
theorem knd_dK {kvs : List (Key × V)} (h : H a = some (.dK kvs)) : Knd K H (.ref a) := ⟨"dict", false, false, .base (.dK h), by decide +kernel, by decide +kernel, rfl⟩
theorem whole_isI {v : V} (h : isI v = false) : wholeV v = false := by cases v <;> first | rfl | cases h
theorem isI_int {v : V} (h : isI v = true) : ∃ i, v = .int i := by cases v <;> first | exact ⟨_, rfl⟩ | cases h
end
theorem TyX.ex {K : PySem.W.Frag} {H H' : Hp} {v : V} {t : Value} (h : TyX K H v t) (e : Ex H H') : TyX K H' v t := by
  cases h with
  | base b =>
    cases b with
    | non => exact .base .non
    | bl b => exact .base (.bl b)
    | int i => exact .base (.int i)
    | str x => exact .base (.str x)
    | flt x => exact .base (.flt x)
    | lst h => exact .base (.lst (e _ _ h))
    | frz h => exact .base (.frz (e _ _ h))
    | tup h => exact .base (.tup (e _ _ h))
    | dK h => exact .base (.dK (e _ _ h))
    | dT h => exact .base (.dT (e _ _ h))
    | ins h c a n t m => exact .base (.ins (e _ _ h) c a n t m)
  | byt b => exact .byt b
  | set h => exact .set (e _ _ h)
  | kList h c => exact .kList h c
  | kTuple h c => exact .kTuple h c
  | kDict h c => exact .kDict h c
  | fTuple h => exact .fTuple (e _ _ h)
  | fDict h => exact .fDict (e _ _ h)
theorem Knd.ex {K : PySem.W.Frag} {H H' : Hp} {v : V} (h : Knd K H v) (e : Ex H H') : Knd K H' v := by
  obtain ⟨n, bi, bb, ty, r⟩ := h
  exact ⟨n, bi, bb, TyX.ex ty e, r⟩
/-- is_whole(thing) -/
def spWhole (K : PySem.W.Frag) : Sp := fun vs H Q _ => ∃ v, vs = [v] ∧ Knd K H v ∧ Q (.bl (wholeV v)) H
/-- _law_whole(found) -/
def spInt (K : PySem.W.Frag) : Sp := fun vs H Q _ => ∃ v, vs = [v] ∧ Knd K H v ∧ Q (.bl (isI v)) H
/-- _law_cell_at(script, k) -/
def cell (ns : List Int) (k : Nat) : Int := ns.getD k 0
def spCell (K : PySem.W.Frag) : Sp := fun vs H Q _ => ∃ a ns k, vs = [.ref a, .int ((k : Nat) : Int)] ∧ SqL K H a (ns.map V.int) ∧ Q (.int (cell ns k)) H
end Rc
/-! # RcObj: how hands, letters and mails stand in the heap -/
namespace Rc
open PySem L2 Evl
open RC (Hd Lt Wd Rg)
def kV : Option Int → V
  | none => .non
  | some x => .int x
def hf (h : Hd) : List (Str × V) :=
  [("number", .int h.num), ("awake", .bl h.awake), ("beaten", .bl h.beaten), ("crowned", .bl h.crowned), ("at", .int h.stage), ("far", .int h.far), ("came", .int h.came), ("known", kV h.known)]
def wS : Wd → Str
  | .ask => "ask"
  | .answer => "answer"
  | .crown => "crown"
def lV (l : Lt) : List V := [.int l.way, .str (wS l.word), .int l.num, .int l.stg, .int l.stp]
def mV (m : Nat × Lt) : List V := .int ((m.1 : Nat) : Int) :: lV m.2
/-- xs: tuples, of the things ls -/
inductive Tups {α : Type} (f : α → List V) (H : Hp) : List V → List α → Prop where
  | nil : Tups f H [] []
  | cons {a : Addr} {x : α} {vs : List V} {xs : List α} (h : H a = some (.tup (f x))) (t : Tups f H vs xs) : Tups f H (.ref a :: vs) (x :: xs)
section
variable {α : Type} {f : α → List V} {H H' : Hp} {vs ws : List V} {xs ys : List α}
theorem Tups.imp (t : Tups f H vs xs) (e : ∀ a ts, H a = some (.tup ts) → H' a = some (.tup ts)) : Tups f H' vs xs := by
  induction t with
  | nil => exact .nil
  | cons h _ ih => exact .cons (e _ _ h) ih
theorem Tups.ex (t : Tups f H vs xs) (e : Ex H H') : Tups f H' vs xs := t.imp fun a ts h => e a _ h
theorem Tups.len (t : Tups f H vs xs) : vs.length = xs.length := by
  induction t with
  | nil => rfl
  | cons _ _ ih => simp [ih]
theorem Tups.app (t : Tups f H vs xs) (u : Tups f H ws ys) : Tups f H (vs ++ ws) (xs ++ ys) := by
  induction t with
  | nil => exact u
  | cons h _ ih => exact .cons h ih
theorem Tups.get (t : Tups f H vs xs) : ∀ {i : Nat} {v : V}, vs[i]? = some v → ∃ a x, v = .ref a ∧ xs[i]? = some x ∧ H a = some (.tup (f x)) := by
  induction t with
  | nil => intro i v h; cases i <;> cases h
  | cons h _ ih =>
    rename_i a x vs xs _
    intro i v e
    cases i with
    | zero => exact ⟨a, x, (Option.some.inj e).symm, rfl, h⟩
    | succ i => exact ih e
theorem Tups.erase (t : Tups f H vs xs) : ∀ i : Nat, Tups f H (vs.eraseIdx i) (xs.eraseIdx i) := by
  induction t with
  | nil => intro i; exact .nil
  | cons h t ih =>
    intro i
    cases i with
    | zero => exact t
    | succ i => exact .cons h (ih i)
theorem Tups.one {a : Addr} {x : α} (h : H a = some (.tup (f x))) : Tups f H [.ref a] [x] := .cons h .nil
end
/-- two addresses of unlike objects -/
theorem ne_ti {H : Hp} {a b C dx : Addr} {ts : List V} {fs : List (Str × V)} (h : H a = some (.tup ts)) (g : H b = some (.ins C dx fs)) : a ≠ b := ne_of h g (by intro q; cases q)
theorem ne_tl {H : Hp} {a b : Addr} {ts xs : List V} (h : H a = some (.tup ts)) (g : H b = some (.lst xs)) : a ≠ b := ne_of h g (by intro q; cases q)
theorem ne_li {H : Hp} {a b C dx : Addr} {ts : List V} {fs : List (Str × V)} (h : H a = some (.lst ts)) (g : H b = some (.ins C dx fs)) : a ≠ b := ne_of h g (by intro q; cases q)
/-- all but what stands at p is kept -/
def But (p : Addr) (H H' : Hp) : Prop := ∀ b o, H b = some o → b ≠ p → H' b = some o
theorem But.refl (p : Addr) (H : Hp) : But p H H := fun _ _ h _ => h
theorem But.trans {p : Addr} {H H1 H2 : Hp} (a : But p H H1) (b : But p H1 H2) : But p H H2 := fun c o h n => b c o (a c o h n) n
theorem But.ex {p : Addr} {H H' : Hp} (e : Ex H H') : But p H H' := fun b o h _ => e b o h
theorem But.upd {p : Addr} {H : Hp} {o : HO} : But p H (upd H p o) := fun b o' h n => by rw [upd_ne n]; exact h
theorem But.new {p q : Addr} {H H' : Hp} {o : HO} (e : But p H H') (h : H' q = none) : But p H (L2.upd H' q o) := e.trans (But.ex (Ex.new h))
/-- what is fresh behind is fresh ahead -/
theorem But.free {p q : Addr} {H H' : Hp} (e : But p H H') (h : H' q = none) (n : q ≠ p) : H q = none := by
  cases z : H q with
  | none => rfl
  | some o => rw [e q o z n] at h; cases h

/-! ### slices -/
theorem cut_to (xs : List V) (k : Nat) : cutV xs none (some ((k : Nat) : Int)) = xs.take k := by
  unfold cutV
  rw [HT.sIx_nat, HT.sIx_none, List.drop_zero, Nat.sub_zero]
  rcases Nat.le_total k xs.length with h | h
  · rw [Nat.min_eq_left h]
  · rw [Nat.min_eq_right h, List.take_of_length_le (Nat.le_refl _), List.take_of_length_le h]
theorem cut_from (xs : List V) (k : Nat) : cutV xs (some ((k : Nat) : Int)) none = xs.drop k := by
  unfold cutV
  rw [HT.sIx_nat, HT.sIx_none]
  rcases Nat.le_total k xs.length with h | h
  · rw [Nat.min_eq_left h, List.take_of_length_le (by rw [List.length_drop]; omega)]
  · rw [Nat.min_eq_right h, List.drop_eq_nil_of_le h, List.drop_eq_nil_of_le (Nat.le_refl _)]
    simp
theorem cut_mid (xs : List V) (a b : Nat) : cutV xs (some ((a : Nat) : Int)) (some ((b : Nat) : Int)) = (xs.drop a).take (b - a) := by
  unfold cutV
  rw [HT.sIx_nat, HT.sIx_nat]
  rcases Nat.le_total a xs.length with h | h
  · rw [Nat.min_eq_left h]
    rcases Nat.le_total b xs.length with h2 | h2
    · rw [Nat.min_eq_left h2]
    · rw [Nat.min_eq_right h2, List.take_of_length_le (by rw [List.length_drop]; omega), List.take_of_length_le (by rw [List.length_drop]; omega)]
  · rw [Nat.min_eq_right h, List.drop_eq_nil_of_le h, List.drop_eq_nil_of_le (Nat.le_refl _)]
    simp
/-! ### lists of tuples compared as data -/
def lD (l : Lt) : List PyData := [.int l.way, .str (wS l.word), .int l.num, .int l.stg, .int l.stp]
def mD (m : Nat × Lt) : List PyData := .int ((m.1 : Nat) : Int) :: lD m.2
/-- how things are told as data: plain ones, no list in them -/
structure Dat {α : Type} (f : α → List V) (g : α → List PyData) : Prop where
  dp : ∀ (K : PySem.W.Frag) (H : Hp) (x : α), DpAll K H (f x) (g x)
  lay : ∀ x, PyData.canLayAll0 (g x) = true
  dep : ∀ x, PyData.depthAll (g x) ≤ 1
theorem wS_ok (w : Wd) : PyData.strOk (wS w) = true := by cases w <;> decide +kernel
theorem lD_ok : Dat lV lD := ⟨fun K H x => .cons (.int _) (.cons (.str _) (.cons (.int _) (.cons (.int _) (.cons (.int _) .nil)))), fun x => by
  have e := wS_ok x.word
  unfold lD
  simp only [PyData.canLayAll0, e, PyData.canLay0, Bool.and_true, Bool.true_and], fun x => by
  unfold lD
  simp [PyData.depthAll, PyData.depth]⟩
theorem mD_ok : Dat mV mD := ⟨fun K H x => .cons (.int _) (lD_ok.dp K H x.2), fun x => by
  have e := lD_ok.lay x.2
  unfold mD
  simp only [PyData.canLayAll0, e, PyData.canLay0, Bool.and_true], fun x => by
  have e := lD_ok.dep x.2
  unfold mD
  simp only [PyData.depthAll, PyData.depth]
  omega⟩
section
variable {K : PySem.W.Frag} {H : Hp} {α : Type} {f : α → List V} {g : α → List PyData} {vs : List V} {xs : List α}
theorem Tups.dp (D : Dat f g) (t : Tups f H vs xs) : DpAll K H vs (xs.map fun x => PyData.tuple (g x)) := by
  induction t with
  | nil => exact .nil
  | cons h _ ih => exact .cons (.tup (SqT.of h) (D.dp K H _)) ih
theorem dat_lay (D : Dat f g) : ∀ xs : List α, PyData.canLayAll0 (xs.map fun x => PyData.tuple (g x)) = true
  | [] => rfl
  | x :: xs => by
    show (PyData.canLay0 (.tuple (g x)) && PyData.canLayAll0 _) = true
    rw [dat_lay D xs]
    show (PyData.canLayAll0 (g x) && true) = true
    rw [D.lay x]; rfl
theorem dat_dep (D : Dat f g) : ∀ xs : List α, PyData.depthAll (xs.map fun x => PyData.tuple (g x)) ≤ 2
  | [] => by simp [PyData.depthAll]
  | x :: xs => by
    have h1 := dat_dep D xs
    have h2 := D.dep x
    show max (PyData.depth (.tuple (g x))) (PyData.depthAll _) ≤ 2
    have : PyData.depth (.tuple (g x)) = PyData.depthAll (g x) + 1 := rfl
    omega
theorem dat_shaped (D : Dat f g) (xs : List α) : SeqAt.shaped (.list (xs.map fun x => PyData.tuple (g x))) = true := by
  unfold SeqAt.shaped
  rw [Bool.and_eq_true]
  refine ⟨dat_lay D xs, decide_eq_true ?_⟩
  have := dat_dep D xs
  show PyData.depthAll _ + 1 ≤ 64
  omega
theorem dat_eqv (D : Dat f g) (xs : List α) : PyData.eqv (.list (xs.map fun x => PyData.tuple (g x))) (.list (xs.map fun x => PyData.tuple (g x))) = true := SeqAt.eqv_refl _ (dat_lay D xs)
theorem dat_empty (xs : List α) : PyData.eqv (.list (xs.map fun x => PyData.tuple (g x))) (.list []) = xs.isEmpty := by cases xs <;> rfl
variable {Q : VK} {a b : Addr} {ws : List V}
/-- a == b, a != b: the same things -/
theorem rd_eqSame (D : Dat f g) (ha : SqL K H a vs) (hb : SqL K H b ws) (t : Tups f H vs xs) (u : Tups f H ws xs) (q : Q (.bl true) H) : rEqD K (.ref a) (.ref b) H Q :=
  ⟨_, _, .lst ha (t.dp D), .lst hb (u.dp D), dat_shaped D xs, dat_shaped D xs, by rw [dat_eqv D xs]; exact q⟩
theorem rd_neSame (D : Dat f g) (ha : SqL K H a vs) (hb : SqL K H b ws) (t : Tups f H vs xs) (u : Tups f H ws xs) (q : Q (.bl false) H) : rNeD K (.ref a) (.ref b) H Q :=
  ⟨_, _, .lst ha (t.dp D), .lst hb (u.dp D), dat_shaped D xs, dat_shaped D xs, by rw [dat_eqv D xs]; exact q⟩
/-- a == [], a != [] -/
theorem rd_eqNil (D : Dat f g) (ha : SqL K H a vs) (hb : SqL K H b []) (t : Tups f H vs xs) (q : Q (.bl xs.isEmpty) H) : rEqD K (.ref a) (.ref b) H Q :=
  ⟨_, _, .lst ha (t.dp D), .lst hb .nil, dat_shaped D xs, by decide +kernel, by rw [dat_empty]; exact q⟩
theorem rd_neNil (D : Dat f g) (ha : SqL K H a vs) (hb : SqL K H b []) (t : Tups f H vs xs) (q : Q (.bl !xs.isEmpty) H) : rNeD K (.ref a) (.ref b) H Q :=
  ⟨_, _, .lst ha (t.dp D), .lst hb .nil, dat_shaped D xs, by decide +kernel, by rw [dat_empty]; exact q⟩
end
/-! ### lists of ints compared -/
theorem ints_dp {K : PySem.W.Frag} {H : Hp} : ∀ ks : List Int, DpAll K H (ks.map V.int) (ks.map PyData.int)
  | [] => .nil
  | k :: ks => .cons (.int k) (ints_dp ks)
theorem ints_lay : ∀ ks : List Int, PyData.canLayAll0 (ks.map PyData.int) = true
  | [] => rfl
  | k :: ks => by
    show (true && PyData.canLayAll0 (ks.map PyData.int)) = true
    rw [ints_lay ks]; rfl
theorem ints_dep : ∀ ks : List Int, PyData.depthAll (ks.map PyData.int) = 0
  | [] => rfl
  | k :: ks => by
    show max 0 (PyData.depthAll (ks.map PyData.int)) = 0
    rw [ints_dep ks]; rfl
theorem ints_shaped (ks : List Int) : SeqAt.shaped (.list (ks.map PyData.int)) = true := by
  unfold SeqAt.shaped
  rw [Bool.and_eq_true]
  refine ⟨ints_lay ks, decide_eq_true ?_⟩
  show PyData.depthAll _ + 1 ≤ 64
  rw [ints_dep]; decide
theorem rd_neInts {K : PySem.W.Frag} {H : Hp} {Q : VK} {a b : Addr} {ks : List Int} (ha : SqL K H a (ks.map V.int)) (hb : SqL K H b (ks.map V.int)) (q : Q (.bl false) H) : rNeD K (.ref a) (.ref b) H Q :=
  ⟨_, _, .lst ha (ints_dp ks), .lst hb (ints_dp ks), ints_shaped ks, ints_shaped ks, by rw [SeqAt.eqv_refl (.list (ks.map PyData.int)) (ints_lay ks)]; exact q⟩
/-! ### comprehensions that make tuples -/
theorem rd_yes {σ : St} {H : Hp} {A B : Hp → Prop} (h : A H) : tYes σ H fun b H3 => if b = true then A H3 else B H3 := by
  show if true = true then A H else B H
  rw [if_pos rfl]; exact h
theorem take_more {α : Type} : ∀ {l : List α} {i : Nat} {x : α}, l[i]? = some x → l.take (i + 1) = l.take i ++ [x]
  | [], i, x, h => by simp at h
  | a :: l, 0, x, h => by
    have e : a = x := Option.some.inj h
    subst e; rfl
  | a :: l, i + 1, x, h => by
    show a :: l.take (i + 1) = a :: l.take i ++ [x]
    rw [take_more (l := l) (i := i) (x := x) h]; rfl
theorem Tups.grow {α : Type} {f : α → List V} {H : Hp} {D p : Addr} {ws ws' : List V} {zs : List α} {z : α} (hD : H D = some (.lst ws')) (t : Tups f H ws zs) (hp : H p = some (.tup (f z))) (o : List V) : Tups f (upd H D (.lst o)) (ws ++ [.ref p]) (zs ++ [z]) := by
  have im : ∀ a ts, H a = some (.tup ts) → upd H D (.lst o) a = some (.tup ts) := fun a ts h => by rw [upd_ne (ne_tl h hD)]; exact h
  exact (t.imp im).app (.one (im _ _ hp))
section
variable {K : PySem.W.Frag} {σ : St} {H : Hp} {te : TE} {Q : VK} {a : Addr} {xs : List V} {j : Nat} {α : Type} {f : α → List V} {zs : List α}
theorem lc_TU (e : SqT K H a xs) (hl : xs.length = zs.length) (hz : xs.length ≤ 40000) (he : ∀ (i : Nat) (x : V) (z : α) H1, Ex H H1 → xs[i]? = some x → zs[i]? = some z → EvU te ((σ.set j none).set j (some x)) H1 (f z))
    (k : ∀ p ws H1, H p = none → Ex H H1 → H1 p = some (.lst ws) → Tups f H1 ws zs → Q (.ref p) H1) : rLcT K (gName j) tYes te [j] σ Q (.ref a) H := by
  refine ⟨a, rfl, ⟨xs, e⟩, fun D hD => ?_⟩
  refine lc_tup (K := K) (a := a) (xs := xs) (g := gName j) (tt := tYes) (Qd := fun H => Q (.ref D) H) (fun i H' => Ex H H' ∧ ∃ ws, H' D = some (.lst ws) ∧ Tups f H' ws (zs.take i)) ⟨Ex.new hD, [], upd_same, .nil⟩ (fun i H' _ z => ex_t z.1 e) ?_ ?_
  · rintro i x H' hi ⟨e1, ws, hw, tw⟩
    refine ⟨wipe_one σ j x, ?_⟩
    refine rd_yes ?_
    have hlt : i < zs.length := by rw [← hl]; exact (List.getElem?_eq_some_iff.mp hi).1
    have hzi : zs[i]? = some zs[i] := List.getElem?_eq_getElem hlt
    refine he i x zs[i] H' e1 hi hzi H' (Ex.refl H') _ fun p H2 hp e2 h2 => ?_
    have lw : ws.length ≤ 40000 := by rw [tw.len, List.length_take]; omega
    refine ⟨ws, e2 _ _ hw, sz_lt (by omega), Ex.mut (e1.trans e2) hD, ws ++ [.ref p], upd_same, ?_⟩
    rw [take_more hzi]
    exact (tw.ex e2).grow (e2 _ _ hw) h2 _
  · rintro H' ⟨e1, ws, hw, tw⟩
    rw [hl, List.take_length] at tw
    exact k D ws H' hD e1 hw tw
end
/-! ### the promises of a hand's methods -/
def spHNew (C : Addr) : Sp := fun vs H Q _ => ∃ (p dx : Addr) (k : Int), vs = [.ref p, .int k] ∧ H p = some (.ins C dx []) ∧ Q .non (upd H p (.ins C dx (hf (Hd.new k))))
/-- a question: a value of the hand -/
def spHAsk (C : Addr) (f : Hd → V) : Sp := fun vs H Q _ => ∃ (p dx : Addr) (h : Hd), vs = [.ref p] ∧ H p = some (.ins C dx (hf h)) ∧ Q (f h) H
def stageV (h : Hd) : V := if h.awake then .int h.stage else .non
/-- a deed: the letters that it sends, in a new list -/
def Sends (C p dx : Addr) (H : Hp) (h' : Hd) (ls : List Lt) (Q : VK) : Prop := ∀ (q : Addr) (xs : List V) (H' : Hp), H q = none → H' q = some (.lst xs) → Tups lV H' xs ls → H' p = some (.ins C dx (hf h')) → But p H H' → Q (.ref q) H'
def spHAsks (C : Addr) : Sp := fun vs H Q _ => ∃ (p dx : Addr) (h : Hd), vs = [.ref p] ∧ H p = some (.ins C dx (hf h)) ∧ Sends C p dx H h h.asks Q
def spHWake (C : Addr) : Sp := fun vs H Q _ => ∃ (p dx : Addr) (h : Hd), vs = [.ref p] ∧ H p = some (.ins C dx (hf h)) ∧ Sends C p dx H h.wk h.wls Q
def spHLet (C : Addr) (f : Hd → Lt → Hd × List Lt) : Sp := fun vs H Q _ => ∃ (p dx a : Addr) (h : Hd) (l : Lt), vs = [.ref p, .ref a] ∧ H p = some (.ins C dx (hf h)) ∧ H a = some (.tup (lV l)) ∧ Sends C p dx H (f h l).1 (f h l).2 Q
theorem dec_str_ne {a b : Str} (h : (a == b) = false) : decide (V.str a = V.str b) = false := decide_eq_false fun q => by
  rw [V.str.inj q] at h
  simp at h
end Rc
/-! # RcRing: how a ring stands in the heap; the promises of its methods -/
namespace Rc
open PySem L2 Evl
open RC (Hd Lt Wd Rg)
def rf (l m : Addr) (k : Nat) : List (Str × V) := [("hands", .ref l), ("post", .ref m), ("many", .int ((k : Nat) : Int))]
/-- the ring S stands at p: its hands' list at l, the mails' list at m, the hands at as; CR, CH: the classes -/
structure RingAt (CR CH : Addr) (H : Hp) (p l m : Addr) (as : List Addr) (S : Rg) : Prop where
  ob : ∃ dx, H p = some (.ins CR dx (rf l m S.many))
  hl : H l = some (.lst (as.map V.ref))
  pl : ∃ xs, H m = some (.lst xs) ∧ Tups mV H xs S.post
  nd : as.Nodup
  len : as.length = S.hands.length
  lm : l ≠ m
  pos : 0 < S.hands.length
  top : S.hands.length ≤ 64
  pla : ∀ x, x ∈ S.post → x.1 < S.hands.length
  hn : ∀ i a, as[i]? = some a → ∃ dx, H a = some (.ins CH dx (hf (S.h i)))
  np : ¬ p ∈ as
/-- all but what the ring may change is kept -/
def Keep (p m : Addr) (as : List Addr) (H H' : Hp) : Prop := ∀ b o, H b = some o → b ≠ p → b ≠ m → ¬ b ∈ as → H' b = some o
section
variable {CR CH p l m : Addr} {as : List Addr} {S : Rg} {H H' H1 H2 : Hp}
theorem Keep.refl (p m : Addr) (as : List Addr) (H : Hp) : Keep p m as H H := fun _ _ h _ _ _ => h
theorem Keep.ex (e : Ex H H') : Keep p m as H H' := fun b o h _ _ _ => e b o h
theorem Keep.trans (a : Keep p m as H H1) (b : Keep p m as H1 H2) : Keep p m as H H2 := fun c o h x y z => b c o (a c o h x y z) x y z
theorem Keep.but {a : Addr} (ha : a ∈ as) (e : But a H H') : Keep p m as H H' := fun b o h _ _ z => e b o h fun q => z (by rw [q]; exact ha)
/-- a ring stays where only new things come -/
theorem RingAt.ex (R : RingAt CR CH H p l m as S) (e : Ex H H') : RingAt CR CH H' p l m as S where
  ob := R.ob.imp fun _ h => e _ _ h
  hl := e _ _ R.hl
  pl := R.pl.imp fun _ h => ⟨e _ _ h.1, h.2.ex e⟩
  nd := R.nd
  len := R.len
  lm := R.lm
  pos := R.pos
  top := R.top
  pla := R.pla
  hn := fun i a h => (R.hn i a h).imp fun _ h => e _ _ h
  np := R.np
theorem RingAt.at_ (R : RingAt CR CH H p l m as S) {i : Nat} (hi : i < S.hands.length) : ∃ a dx, as[i]? = some a ∧ a ∈ as ∧ H a = some (.ins CH dx (hf (S.h i))) := by
  have h : as[i]? = some (as[i]'(by rw [R.len]; exact hi)) := List.getElem?_eq_getElem _
  obtain ⟨dx, e⟩ := R.hn i _ h
  exact ⟨_, dx, h, List.getElem_mem _, e⟩
/-- a list that is none of the ring's own -/
theorem RingAt.keep_l (R : RingAt CR CH H p l m as S) {a : Addr} {xs : List V} (h : H a = some (.lst xs)) (n : a ≠ m) (k : Keep p m as H H') : H' a = some (.lst xs) := by
  obtain ⟨dx, hp⟩ := R.ob
  refine k a _ h (ne_li h hp) n fun hm => ?_
  obtain ⟨i, hi⟩ := List.mem_iff_getElem?.mp hm
  obtain ⟨dy, e⟩ := R.hn i a hi
  rw [h] at e; cases e
theorem RingAt.keep_t (R : RingAt CR CH H p l m as S) {a : Addr} {xs : List V} (h : H a = some (.tup xs)) (k : Keep p m as H H') : H' a = some (.tup xs) := by
  obtain ⟨dx, hp⟩ := R.ob
  obtain ⟨ys, hm, _⟩ := R.pl
  refine k a _ h (ne_ti h hp) (ne_tl h hm) fun z => ?_
  obtain ⟨i, hi⟩ := List.mem_iff_getElem?.mp z
  obtain ⟨dy, e⟩ := R.hn i a hi
  rw [h] at e; cases e
/-- a list that is none of the ring's own is changed -/
theorem RingAt.other (R : RingAt CR CH H p l m as S) {a : Addr} {xs : List V} (ha : H a = some (.lst xs)) (nl : a ≠ l) (nm : a ≠ m) (b : But a H H') : RingAt CR CH H' p l m as S where
  ob := R.ob.imp fun _ h => b _ _ h (ne_li ha h).symm
  hl := b _ _ R.hl nl.symm
  pl := R.pl.imp fun _ h => ⟨b _ _ h.1 nm.symm, h.2.imp fun c ts hc => b _ _ hc (ne_tl hc ha)⟩
  nd := R.nd
  len := R.len
  lm := R.lm
  pos := R.pos
  top := R.top
  pla := R.pla
  hn := fun i c h => (R.hn i c h).imp fun _ h => b _ _ h (ne_li ha h).symm
  np := R.np
/-- the hand at q is another one now -/
theorem RingAt.hand (R : RingAt CR CH H p l m as S) {q : Nat} {a dx : Addr} {h' : Hd} (ha : as[q]? = some a) (b : But a H H') (e : H' a = some (.ins CH dx (hf h'))) : RingAt CR CH H' p l m as (S.setH q h') := by
  obtain ⟨dp, hp⟩ := R.ob
  obtain ⟨xs, hm, tm⟩ := R.pl
  have mem : a ∈ as := List.mem_of_getElem? ha
  obtain ⟨da, hha⟩ := R.hn q a ha
  have hq : q < S.hands.length := by rw [← R.len]; exact (List.getElem?_eq_some_iff.mp ha).1
  have ls : (S.setH q h').hands.length = S.hands.length := by unfold Rg.setH; simp
  exact {
    ob := ⟨dp, b _ _ hp fun z => R.np (by rw [z]; exact mem)⟩
    hl := b _ _ R.hl (ne_li R.hl hha)
    pl := ⟨xs, b _ _ hm (ne_li hm hha), tm.imp fun c ts hc => b _ _ hc (ne_ti hc hha)⟩
    nd := R.nd
    len := by rw [ls]; exact R.len
    lm := R.lm
    pos := by rw [ls]; exact R.pos
    top := by rw [ls]; exact R.top
    pla := by rw [ls]; exact R.pla
    hn := fun i c hc => by
      rw [RC.h_setH hq]
      by_cases z : i = q
      · rw [if_pos z]
        rw [z, ha] at hc
        rw [← Option.some.inj hc]
        exact ⟨dx, e⟩
      · rw [if_neg z]
        obtain ⟨dc, hhc⟩ := R.hn i c hc
        exact ⟨dc, b _ _ hhc fun w => z (nd_ix R.nd hc (by rw [w]; exact ha))⟩
    np := R.np }
/-- a mail more -/
theorem RingAt.post (R : RingAt CR CH H p l m as S) {xs : List V} {t : Addr} {x : Nat × Lt} (hm : H m = some (.lst xs)) (tm : Tups mV H xs S.post) (ht : H t = some (.tup (mV x))) (hx : x.1 < S.hands.length) {dx : Addr}
    (hp : H p = some (.ins CR dx (rf l m S.many))) :
    RingAt CR CH (upd (upd H m (.lst (xs ++ [.ref t]))) p (.ins CR dx (rf l m (S.many + 1)))) p l m as { S with post := S.post ++ [x], many := S.many + 1 } := by
  have nmp : m ≠ p := ne_li hm hp
  have old : ∀ b o, H b = some o → b ≠ m → b ≠ p → upd (upd H m (.lst (xs ++ [.ref t]))) p (.ins CR dx (rf l m (S.many + 1))) b = some o := fun b o h n1 n2 => by
    rw [upd_ne n2, upd_ne n1]; exact h
  exact {
    ob := ⟨dx, upd_same⟩
    hl := old _ _ R.hl R.lm (ne_li R.hl hp)
    pl := ⟨xs ++ [.ref t], by rw [upd_ne nmp]; exact upd_same, (tm.app (.one ht)).imp fun c ts hc => old _ _ hc (ne_tl hc hm) (ne_ti hc hp)⟩
    nd := R.nd
    len := R.len
    lm := R.lm
    pos := R.pos
    top := R.top
    pla := fun y hy => by
      rcases List.mem_append.mp hy with h | h
      · exact R.pla y h
      · rw [List.mem_singleton.mp h]; exact hx
    hn := fun i c hc => by
      obtain ⟨dc, e⟩ := R.hn i c hc
      exact ⟨dc, old _ _ e (fun z => by rw [z, hm] at e; cases e) fun z => R.np (by rw [← z]; exact List.mem_of_getElem? hc)⟩
    np := R.np }
theorem put_more {S : Rg} {q i : Nat} {ls : List Lt} {y : Lt} (h : ls[i]? = some y) :
    S.put q (ls.take (i + 1)) = { S.put q (ls.take i) with post := (S.put q (ls.take i)).post ++ [(RC.nxt S.hands.length q y.way, y)], many := (S.put q (ls.take i)).many + 1 } := by
  rw [take_more h]
  unfold Rg.put
  simp only [List.map_append, List.map_cons, List.map_nil, List.append_assoc, List.length_append, List.length_cons, List.length_nil]
  congr 1
theorem nxt_cast {n q : Nat} {w : Int} (h : 0 < n) : ((RC.nxt n q w : Nat) : Int) = (((q : Nat) : Int) + w) % ((n : Nat) : Int) := by
  unfold RC.nxt
  exact Int.toNat_of_nonneg (Int.emod_nonneg _ (by omega))
theorem nxt_lt {n q : Nat} {w : Int} (h : 0 < n) : RC.nxt n q w < n := by
  have e := nxt_cast (q := q) (w := w) h
  have := Int.emod_lt_of_pos (((q : Nat) : Int) + w) (show (0 : Int) < ((n : Nat) : Int) by omega)
  omega
/-- a mail taken out -/
theorem RingAt.drop (R : RingAt CR CH H p l m as S) {xs : List V} (hm : H m = some (.lst xs)) (tm : Tups mV H xs S.post) (i : Nat) : RingAt CR CH (upd H m (.lst (xs.eraseIdx i))) p l m as (S.drop i) := by
  obtain ⟨dp, hp⟩ := R.ob
  have old : ∀ b o, H b = some o → b ≠ m → upd H m (.lst (xs.eraseIdx i)) b = some o := fun b o h n1 => by
    rw [upd_ne n1]; exact h
  exact {
    ob := ⟨dp, old _ _ hp (ne_li hm hp).symm⟩
    hl := old _ _ R.hl R.lm
    pl := ⟨_, upd_same, (tm.erase i).imp fun c ts hc => old _ _ hc (ne_tl hc hm)⟩
    nd := R.nd
    len := R.len
    lm := R.lm
    pos := R.pos
    top := R.top
    pla := fun y hy => R.pla y (List.mem_of_mem_eraseIdx hy)
    hn := fun j c hc => by
      obtain ⟨dc, e⟩ := R.hn j c hc
      exact ⟨dc, old _ _ e fun z => by rw [z, hm] at e; cases e⟩
    np := R.np }
end
/-! ### len(set(xs)) of any ints -/
section
variable {X : Cx}
theorem sd_eq (l : List Int) (z : Int) : PyProof.Rows.step_dedup l z = if l.any (· == z) then l else l ++ [z] := rfl
def dcount (ns : List Int) : Nat := (PyProof.Rows.firstMet (fun i => ns.getD i 0) ns.length).length
def rLenSet (K : PySem.W.Frag) : V → Hp → VK → Prop := fun x H Q => ∃ (l : Addr) (ns : List Int), x = .ref l ∧ SqL K H l (ns.map V.int) ∧ ns.length ≤ 4000 ∧ Q (.int ((dcount ns : Nat) : Int)) H
def tLenSet (K : PySem.W.Frag) (ta : TE) : TE := fun σ H Q => ta σ H fun x H1 => rLenSet K x H1 Q
theorem rd_tLenSet {K : PySem.W.Frag} {ta : TE} {σ : St} {H : Hp} {Q : VK} (h : ta σ H fun x H1 => rLenSet K x H1 Q) : tLenSet K ta σ H Q := h
theorem rd_lenSet {K : PySem.W.Frag} {H : Hp} {Q : VK} {a : Addr} {ns : List Int} (e : SqL K H a (ns.map V.int)) (hl : ns.length ≤ 4000) (h : Q (.int ((dcount ns : Nat) : Int)) H) : rLenSet K (.ref a) H Q := ⟨a, ns, rfl, e, hl, h⟩
theorem pe_lenSet {e : Expr} {ta : TE} {p p2 q pos : Pos} (gl : Gl X "len") (nl : X.mg "len" = none) (gs : Gl X "set") (ns : X.mg "set" = none) (he : PE X e ta) (hc : X.calm = true := by rfl)
    (h1 : starEach [e] X.env = (false, eval e X.env) :: starEach [] X.env := by rfl) : PE X (.Call (.Name "len" p) [.Call (.Name "set" p2) [e] [] q] [] pos) (tLenSet X.K ta) := ⟨fun pins s σ H Q I h => by
  refine PyProof.Rows.Call_ (ld_blt I gl nl PySem.boot_len (PyProof.Rows.callWith_builtin1 (PyProof.Rows.args_cons ?_ rfl) rfl rfl))
  refine PyProof.Rows.Call_ (ld_blt I gs ns PyProof.Rows.boot_set (PyProof.Rows.callWith_type1 (PyProof.Rows.args_cons (thn (he.run pins s σ H _ I h) ?_) h1) h1 rfl))
  rintro v s1 ⟨x, H1, I1, r1, l, zs, rfl, hq, hl, q1⟩
  refine PyProof.Rows.args_nil ?_
  cases r1
  obtain ⟨its, r, pl, hz⟩ := I1.list hq
  have hlen : its.toArray.size = zs.length := by rw [List.size_toArray, ← r.length, List.length_map]
  refine PySem.call_set_list (I1.ok.hd hc) pl.isList (by simpa using RZ.intsAre_vals r) (by rw [hlen]; unfold PySem.scanBound; omega) fun h' tk hS hk => PyProof.Rows.args_nil ?_
  rw [hlen] at hS
  obtain ⟨o, es, ep, t, ho, hex, hd, _, _, _, hf, hn⟩ := hS
  have hd4 : (PyProof.Rows.firstMet (fun i => zs.getD i 0) zs.length).length ≤ 4000 := by
    have z : ∀ k, (PyProof.Rows.firstMet (fun i => zs.getD i 0) k).length ≤ k := fun k => by
      induction k with
      | zero => exact Nat.le_refl _
      | succ k ih =>
        rw [PyProof.Rows.firstMet_succ, sd_eq]
        split
        · omega
        · rw [List.length_append, List.length_singleton]; omega
    have := z zs.length
    omega
  have I2 : Inv X pins σ H1 { s1 with heap := h', toks := tk } := I1.kept fun b o e => hk b o (Heap.lt_size e) e
  exact PySem.call_len_set ho hex hd hf (by rw [hn]; omega) ⟨.int _, H1, I2.tok _, ⟨_, by rw [hn]; rfl⟩, q1⟩⟩
theorem firstMet_mem {v : Nat → Int} : ∀ {k j : Nat}, j < k → v j ∈ PyProof.Rows.firstMet v k
  | 0, j, h => by omega
  | k + 1, j, h => by
    rw [PyProof.Rows.firstMet_succ, sd_eq]
    by_cases e : j = k
    · subst e
      split
      · rename_i c
        obtain ⟨y, hy, ey⟩ := List.any_eq_true.mp c
        rw [eq_of_beq ey] at hy
        exact hy
      · exact List.mem_append.mpr (Or.inr (List.mem_singleton.mpr rfl))
    · have := firstMet_mem (v := v) (k := k) (j := j) (by omega)
      split
      · exact this
      · exact List.mem_append.mpr (Or.inl this)
theorem firstMet_le {v : Nat → Int} : ∀ k, (PyProof.Rows.firstMet v k).length ≤ k
  | 0 => Nat.le_refl _
  | k + 1 => by
    have := firstMet_le (v := v) k
    rw [PyProof.Rows.firstMet_succ, sd_eq]
    split
    · omega
    · rw [List.length_append, List.length_singleton]; omega
theorem firstMet_lt {v : Nat → Int} {j i : Nat} (hj : j < i) (e : v j = v i) : ∀ k, i < k → (PyProof.Rows.firstMet v k).length < k
  | 0, h => by omega
  | k + 1, h => by
    rw [PyProof.Rows.firstMet_succ, sd_eq]
    by_cases z : i = k
    · subst z
      have m := firstMet_mem (v := v) hj
      have c : (PyProof.Rows.firstMet v i).any (· == v i) = true := List.any_eq_true.mpr ⟨v j, m, by rw [e]; exact beq_self_eq_true _⟩
      rw [if_pos c]
      have := firstMet_le (v := v) i
      omega
    · have := firstMet_lt hj e k (by omega)
      split
      · omega
      · rw [List.length_append, List.length_singleton]; omega
theorem dcount_nodup {ns : List Int} (h : ns.Nodup) : dcount ns = ns.length := by
  unfold dcount
  rw [RZ.firstMet_nodup h ns.length (Nat.le_refl _), List.take_length]
theorem dcount_dup {ns : List Int} (h : ¬ ns.Nodup) : dcount ns < ns.length := by
  obtain ⟨j, i, hji, hi, e⟩ : ∃ j i, j < i ∧ i < ns.length ∧ ns.getD j 0 = ns.getD i 0 := by
    by_cases c : ∃ j i, j < i ∧ i < ns.length ∧ ns.getD j 0 = ns.getD i 0
    · exact c
    · refine absurd (List.pairwise_iff_getElem.mpr fun j i hj hi hl e => c ⟨j, i, hl, hi, ?_⟩) h
      rw [List.getD_eq_getElem?_getD, List.getD_eq_getElem?_getD, List.getElem?_eq_getElem hj, List.getElem?_eq_getElem hi]
      exact e
  exact firstMet_lt hji e _ hi
end
/-! ### the numbers of a law's ring -/
/-- numbers that make a ring -/
structure Nums (ks : List Int) : Prop where
  one : 1 ≤ ks.length
  most : ks.length ≤ 64
  nd : ks.Nodup
  nn : ∀ k, k ∈ ks → 0 ≤ k
def spNums (K : PySem.W.Frag) : Sp := fun vs H Q _ => ∃ (a : Addr) (ns : List Int), vs = [.ref a] ∧ SqL K H a (ns.map V.int) ∧ ∀ (H' : Hp) (p : Addr) (ks : List Int), H p = none → Ex H H' → H' p = some (.lst (ks.map V.int)) → Nums ks → Q (.ref p) H'
/-- n numbers told by a function that tells them apart -/
theorem nums_of {n : Nat} {f : Nat → Int} (h1 : 1 ≤ n) (h64 : n ≤ 64) (inj : ∀ i j, i < n → j < n → f i = f j → i = j) (nn : ∀ i, i < n → 0 ≤ f i) : Nums ((List.range n).map f) where
  one := by simpa using h1
  most := by simpa using h64
  nd := by
    rw [List.nodup_iff_pairwise_ne, List.pairwise_map]
    refine List.Pairwise.imp_of_mem (R := fun a b => a ≠ b) ?_ (List.nodup_iff_pairwise_ne.mp List.nodup_range)
    intro i j hi hj hne e
    exact hne (inj i j (List.mem_range.mp hi) (List.mem_range.mp hj) e)
  nn := fun k hk => by
    obtain ⟨i, hi, rfl⟩ := List.mem_map.mp hk
    exact nn i (List.mem_range.mp hi)
/-- (i + s) % n tells the places apart -/
theorem rot_inj {n s : Int} (hn : 0 < n) {i j : Nat} (hi : ((i : Nat) : Int) < n) (hj : ((j : Nat) : Int) < n) (e : (((i : Nat) : Int) + s) % n = (((j : Nat) : Int) + s) % n) : i = j := by
  have h1 := Int.emod_add_mul_ediv (((i : Nat) : Int) + s) n
  have h2 := Int.emod_add_mul_ediv (((j : Nat) : Int) + s) n
  rw [e] at h1
  have h3 : ((i : Nat) : Int) - ((j : Nat) : Int) = n * ((((i : Nat) : Int) + s) / n - (((j : Nat) : Int) + s) / n) := by rw [Int.mul_sub]; omega
  generalize (((i : Nat) : Int) + s) / n - (((j : Nat) : Int) + s) / n = z at h3
  have hz : z = 0 := by
    by_cases c : z = 0
    · exact c
    · exfalso
      rcases Int.lt_or_gt_of_ne c with h | h
      · have : n * z ≤ n * (-1) := Int.mul_le_mul_of_nonneg_left (by omega) (by omega)
        omega
      · have : n * 1 ≤ n * z := Int.mul_le_mul_of_nonneg_left (by omega) (by omega)
        omega
  rw [hz, Int.mul_zero] at h3
  omega
theorem mul_inj {a b t : Int} (ht : 1 ≤ t) (e : a * t = b * t) : a = b := Int.eq_of_mul_eq_mul_right (by omega) e
/-! ### the promises -/
/-- a place of a hand, a place of a mail -/
def placeOf (n : Nat) (v : V) : Option Nat := match v with
  | .int i => if 0 ≤ i ∧ i < (n : Int) then some i.toNat else none
  | _ => none
theorem placeOf_nat {n i : Nat} (h : i < n) : placeOf n (.int ((i : Nat) : Int)) = some i := by
  show (if 0 ≤ ((i : Nat) : Int) ∧ ((i : Nat) : Int) < (n : Int) then some ((i : Nat) : Int).toNat else none) = some i
  rw [if_pos ⟨by omega, by omega⟩]
  simp
theorem placeOf_some {n i : Nat} {v : V} (h : placeOf n v = some i) : v = .int ((i : Nat) : Int) ∧ i < n := by
  unfold placeOf at h
  split at h
  · rename_i k
    split at h
    · rename_i c
      have e := Option.some.inj h
      exact ⟨by rw [show ((i : Nat) : Int) = k by omega], by omega⟩
    · cases h
  · cases h
/-- is_whole(v) and v < n, told by the place -/
theorem placeOf_none {n : Nat} {v : V} (h : placeOf n v = none) (hw : wholeV v = true) : ∃ i : Int, v = .int i ∧ (n : Int) ≤ i := by
  cases v with
  | int i =>
    have h0 : (0 : Int) ≤ i := of_decide_eq_true hw
    refine ⟨i, rfl, ?_⟩
    unfold placeOf at h
    simp only at h
    split at h
    · cases h
    · omega
  | _ => cases hw
/-- what makes no ring: no list; a list too short or too long; one with a thing that is no whole number from nought on; one with a number twice -/
def BadNums (K : PySem.W.Frag) (H : Hp) (v : V) : Prop :=
  (∃ n, TyX K H v (.type n) ∧ kitB n "list" = some false) ∨
  ∃ a xs, v = .ref a ∧ H a = some (.lst xs) ∧ (¬ (1 ≤ xs.length ∧ xs.length ≤ 64) ∨ ((∀ x, x ∈ xs → Knd K H x) ∧ xs.length ≤ 64 ∧ 1 ≤ xs.length ∧ (∃ x, x ∈ xs ∧ wholeV x = false)) ∨
    ∃ ks : List Int, xs = ks.map V.int ∧ 1 ≤ xs.length ∧ ks.length ≤ 64 ∧ ¬ ks.Nodup)
theorem BadNums.ex {K : PySem.W.Frag} {H H' : Hp} {v : V} (h : BadNums K H v) (e : Ex H H') : BadNums K H' v := by
  rcases h with ⟨n, ty, k⟩ | ⟨a, xs, ev, ha, h⟩
  · exact .inl ⟨n, TyX.ex ty e, k⟩
  · refine .inr ⟨a, xs, ev, e _ _ ha, ?_⟩
    rcases h with h | ⟨h1, h2⟩ | h
    · exact .inl h
    · exact .inr (.inl ⟨fun x hx => (h1 x hx).ex e, h2⟩)
    · exact .inr (.inr h)
section
variable (K : PySem.W.Frag) (CR CH NH NM : Addr)
/-- hand(place) -/
def spRHand : Sp := fun vs H Q E => ∃ p l m as S v, vs = [.ref p, v] ∧ RingAt CR CH H p l m as S ∧ Knd K H v ∧
  ((∃ i a, placeOf S.hands.length v = some i ∧ as[i]? = some a ∧ Q (.ref a) H) ∨ (placeOf S.hands.length v = none ∧ E (.ref NH) none H))
/-- what a thing is for isinstance(thing, list) -/
def spRNew (BR : Addr) : Sp := fun vs H Q E => ∃ p dx v, vs = [.ref p, v] ∧ H p = some (.ins CR dx []) ∧
  ((∃ a ks, v = .ref a ∧ H a = some (.lst (ks.map V.int)) ∧ 1 ≤ ks.length ∧ ks.length ≤ 64 ∧ ks.Nodup ∧ (∀ k, k ∈ ks → 0 ≤ k) ∧
      ∀ H' l m as, RingAt CR CH H' p l m as (Rg.new ks) → H l = none → H m = none → (∀ a, a ∈ as → H a = none) → But p H H' → Q .non H')
    ∨ (BadNums K H v ∧ ∀ H', Ex H H' → E (.ref BR) none H'))
/-- put(place, letters) -/
def spRPut : Sp := fun vs H Q _ => ∃ p l m as S q f xs ls, vs = [.ref p, .int ((q : Nat) : Int), .ref f] ∧ RingAt CR CH H p l m as S ∧ q < S.hands.length ∧ H f = some (.lst xs) ∧ f ≠ m ∧ Tups lV H xs ls ∧ S.post.length + ls.length ≤ 90000 ∧
  ∀ H', RingAt CR CH H' p l m as (S.put q ls) → Keep p m as H H' → Q .non H'
def spRWake : Sp := fun vs H Q E => ∃ p l m as S v, vs = [.ref p, v] ∧ RingAt CR CH H p l m as S ∧ Knd K H v ∧
  ((∃ i, placeOf S.hands.length v = some i ∧ S.post.length ≤ 80000 ∧ ∀ H', RingAt CR CH H' p l m as (S.wake i) → Keep p m as H H' → Q (.bl !(S.h i).awake) H') ∨ (placeOf S.hands.length v = none ∧ E (.ref NH) none H))
def spRMails : Sp := fun vs H Q _ => ∃ p l m as S, vs = [.ref p] ∧ RingAt CR CH H p l m as S ∧ ∀ u xs, H u = none → H m = some (.lst xs) → Tups mV H xs S.post → Q (.ref u) (upd H u (.lst xs))
def spRBring : Sp := fun vs H Q E => ∃ p l m as S v, vs = [.ref p, v] ∧ RingAt CR CH H p l m as S ∧ Knd K H v ∧
  ((∃ i, placeOf S.post.length v = some i ∧ S.post.length ≤ 80000 ∧ ∀ H' t, RingAt CR CH H' p l m as (S.bring i) → Keep p m as H H' → H' t = some (.tup (mV (S.mail i))) → Q (.ref t) H') ∨ (placeOf S.post.length v = none ∧ E (.ref NM) none H))
/-- so often the first mail is brought -/
def restN (S : Rg) : Nat → Rg
  | 0 => S
  | k + 1 => (restN S k).bring 0
def spRRest : Sp := fun vs H Q _ => ∃ p l m as S k, vs = [.ref p] ∧ RingAt CR CH H p l m as S ∧ (∀ j, j < k → (restN S j).post ≠ [] ∧ (restN S j).post.length ≤ 80000) ∧ (restN S k).post = [] ∧
  ∀ H', RingAt CR CH H' p l m as (restN S k) → Keep p m as H H' → Q (.int ((k : Nat) : Int)) H'
def spRSent : Sp := fun vs H Q _ => ∃ p l m as S, vs = [.ref p] ∧ RingAt CR CH H p l m as S ∧ Q (.int ((S.many : Nat) : Int)) H
/-- a question about the hand at a place -/
def spRAsk (f : Hd → V) : Sp := fun vs H Q E => ∃ p l m as S v, vs = [.ref p, v] ∧ RingAt CR CH H p l m as S ∧ Knd K H v ∧
  ((∃ i, placeOf S.hands.length v = some i ∧ Q (f (S.h i)) H) ∨ (placeOf S.hands.length v = none ∧ E (.ref NH) none H))
end
end Rc
/-! # RcGo: a ring that goes on: what stays true of it whatever is woken and brought -/
namespace Rc
open PySem L2 Evl
open RC (Hd Lt Wd Rg)
/-- a ring as it may come to be from the numbers ks -/
structure RG (ks : List Int) (S : Rg) : Prop where
  nums : Nums ks
  inv : ∃ gs dn, RC.Inv ks.length (fun p => ks.getD p 0) S gs dn
  posted : S.post.length ≤ S.many
theorem nums_inj {ks : List Int} (h : ks.Nodup) : ∀ p q, p < ks.length → q < ks.length → ks.getD p 0 = ks.getD q 0 → p = q := fun p q hp hq e => by
  rw [List.getD_eq_getElem?_getD, List.getD_eq_getElem?_getD, List.getElem?_eq_getElem hp, List.getElem?_eq_getElem hq] at e
  exact (List.getElem_inj h).mp e
theorem RG.new {ks : List Int} (h : Nums ks) : RG ks (Rg.new ks) := ⟨h, ⟨[], _, RC.inv_new rfl fun p _ => rfl⟩, Nat.le_refl _⟩
section
variable {ks : List Int} {S S' : Rg}
theorem RG.len (R : RG ks S) : S.hands.length = ks.length := by
  obtain ⟨_, _, I⟩ := R.inv
  exact I.len
theorem RG.wake (R : RG ks S) {q : Nat} (hq : q < ks.length) : RG ks (S.wake q) := by
  obtain ⟨gs, dn, I⟩ := R.inv
  obtain ⟨gs', J⟩ := I.wake hq
  refine ⟨R.nums, ⟨_, _, J⟩, ?_⟩
  have := RC.wake_count (S := S) (q := q)
  have := R.posted
  omega
theorem RG.bring (R : RG ks S) {i : Nat} (hi : i < S.post.length) : RG ks (S.bring i) := by
  obtain ⟨gs, dn, I⟩ := R.inv
  obtain ⟨gs', dn', J⟩ := I.bring (nums_inj R.nums.nd) hi
  refine ⟨R.nums, ⟨_, _, J⟩, ?_⟩
  have := RC.bring_count (S := S) hi
  have := R.posted
  omega
theorem RG.bound (R : RG ks S) : S.many ≤ RC.bnd ks.length := by
  obtain ⟨gs, dn, I⟩ := R.inv
  exact I.bound R.nums.one R.nums.most
theorem bnd_small : ∀ n, n < 65 → RC.bnd n ≤ 10000 := by decide +kernel
theorem RG.small (R : RG ks S) : S.post.length ≤ 10000 := by
  have h1 := R.bound
  have h2 := bnd_small ks.length (by have := R.nums.most; omega)
  have h3 := R.posted
  omega
theorem RG.place (R : RG ks S) {i : Nat} (hi : i < S.post.length) : (S.mail i).1 < S.hands.length := by
  obtain ⟨gs, dn, I⟩ := R.inv
  rw [I.len]
  exact I.place hi
/-- deeds, one behind the other -/
inductive Go : Rg → Rg → Prop where
  | refl (S : Rg) : Go S S
  | wake {S S' : Rg} (g : Go S S') (q : Nat) (hq : q < S'.hands.length) : Go S (S'.wake q)
  | bring {S S' : Rg} (g : Go S S') (i : Nat) (hi : i < S'.post.length) : Go S (S'.bring i)
theorem Go.trans {S1 S2 S3 : Rg} (a : Go S1 S2) (b : Go S2 S3) : Go S1 S3 := by
  induction b with
  | refl => exact a
  | wake _ q hq ih => exact .wake ih q hq
  | bring _ i hi ih => exact .bring ih i hi
theorem Go.rg (g : Go S S') (R : RG ks S) : RG ks S' := by
  induction g with
  | refl => exact R
  | wake _ q hq ih => exact ih.wake (by rw [← ih.len]; exact hq)
  | bring _ i hi ih => exact ih.bring hi
theorem Go.up (g : Go S S') (R : RG ks S) (p : Nat) : RC.Up (S.h p) (S'.h p) := by
  induction g with
  | refl => exact RC.Up.refl _
  | wake _ q hq ih => exact ih.trans (RC.up_wake hq p)
  | bring g i hi ih => exact ih.trans (RC.up_bring ((g.rg R).place hi) p)
/-- letters sent, somebody was woken -/
theorem RG.some_awake (R : RG ks S) (h : S.many ≠ 0) : ∃ p, p < ks.length ∧ (S.h p).awake = true := by
  by_cases c : ∃ p, p < ks.length ∧ (S.h p).awake = true
  · exact c
  · exfalso
    have no : ∀ p, p < ks.length → (S.h p).awake = false := fun p hp => by
      cases e : (S.h p).awake with
      | false => rfl
      | true => exact absurd ⟨p, hp, e⟩ c
    obtain ⟨gs, dn, I⟩ := R.inv
    obtain ⟨k, hk, ho⟩ := I.pot
    rw [RC.sumTo_zero fun p hp => by unfold RC.costH; rw [no p hp]; rfl] at hk
    rcases ho with z | ⟨_, p, hp, hc⟩
    · omega
    · have := (I.slp p hp (no p hp)).2.1
      rw [this] at hc; cases hc
/-- the number at a place -/
theorem RG.num (R : RG ks S) {p : Nat} (hp : p < ks.length) : (S.h p).num = ks.getD p 0 := by
  obtain ⟨_, _, I⟩ := R.inv
  exact I.num p hp
end
/-! ### all mails brought -/
theorem rest_rg {ks : List Int} {S : Rg} (R : RG ks S) : ∀ j, (∀ i, i < j → (restN S i).post ≠ []) → RG ks (restN S j) ∧ Go S (restN S j) ∧ (restN S j).many + S.post.length = S.many + (restN S j).post.length + j
  | 0, _ => ⟨R, .refl S, rfl⟩
  | j + 1, h => by
    obtain ⟨R1, g1, e1⟩ := rest_rg R j fun i hi => h i (by omega)
    have hne := h j (by omega)
    have hlt : 0 < (restN S j).post.length := by
      cases z : (restN S j).post with
      | nil => exact absurd z hne
      | cons _ _ => simp
    have := RC.bring_count (S := restN S j) hlt
    refine ⟨R1.bring hlt, .bring g1 0 hlt, ?_⟩
    show ((restN S j).bring 0).many + _ = _ + ((restN S j).bring 0).post.length + _
    omega
/-- the first mail again and again: in the end none is left -/
theorem rest_ends {ks : List Int} {S : Rg} (R : RG ks S) : ∃ k, (∀ j, j < k → (restN S j).post ≠ []) ∧ (restN S k).post = [] := by
  -- else so many came as the bound forbids
  have key : ∀ n, (∃ k, k ≤ n ∧ (∀ j, j < k → (restN S j).post ≠ []) ∧ (restN S k).post = []) ∨ ∀ j, j ≤ n → (restN S j).post ≠ [] := by
    intro n
    induction n with
    | zero =>
      cases z : S.post with
      | nil => exact Or.inl ⟨0, Nat.le_refl _, fun j hj => by omega, z⟩
      | cons x l =>
        refine Or.inr fun j hj => ?_
        have e : j = 0 := by omega
        rw [e]
        show S.post ≠ []
        rw [z]
        exact List.cons_ne_nil _ _
    | succ n ih =>
      rcases ih with ⟨k, hk, h1, h2⟩ | ih
      · exact Or.inl ⟨k, by omega, h1, h2⟩
      · cases z : (restN S (n + 1)).post with
        | nil => exact Or.inl ⟨n + 1, Nat.le_refl _, fun j hj => ih j (by omega), z⟩
        | cons x l =>
          refine Or.inr fun j hj => ?_
          by_cases e : j = n + 1
          · rw [e, z]; exact List.cons_ne_nil _ _
          · exact ih j (by omega)
  rcases key (RC.bnd ks.length + 1 + S.post.length) with ⟨k, _, h1, h2⟩ | h
  · exact ⟨k, h1, h2⟩
  · exfalso
    obtain ⟨R1, _, e1⟩ := rest_rg R (RC.bnd ks.length + 1 + S.post.length) fun i hi => h i (by omega)
    have := R1.bound
    omega
/-- how far from the end: falls with each mail that comes -/
def far (ks : List Int) (S : Rg) : Nat := RC.bnd ks.length + S.post.length - S.many
theorem far_bring {ks : List Int} {S : Rg} (R : RG ks S) {i : Nat} (hi : i < S.post.length) : far ks (S.bring i) < far ks S := by
  have h1 := RC.bring_count (S := S) hi
  have h2 := (R.bring hi).bound
  unfold far
  omega
/-! ### what stood before the ring -/
structure Made (H0 : Hp) (r m : Addr) (as : List Addr) : Prop where
  r : H0 r = none
  m : H0 m = none
  as : ∀ a, a ∈ as → H0 a = none
theorem Made.keep {H0 H H' : Hp} {r m : Addr} {as : List Addr} (M : Made H0 r m as) (e : Ex H0 H) (k : Keep r m as H H') : Ex H0 H' := fun b o h =>
  k b o (e b o h) (ne_of_none h M.r) (ne_of_none h M.m) fun z => by rw [M.as b z] at h; cases h
/-! ### the greatest number -/
theorem max_at {ks : List Int} {x : Int} (h : x ∈ ks) : ∃ p, p < ks.length ∧ ks.getD p 0 = x := by
  obtain ⟨p, hp⟩ := List.mem_iff_getElem?.mp h
  have hl := (List.getElem?_eq_some_iff.mp hp).1
  exact ⟨p, hl, by rw [List.getD_eq_getElem?_getD, hp]; rfl⟩
theorem getD_mem {ks : List Int} {p : Nat} (h : p < ks.length) : ks.getD p 0 ∈ ks := by
  rw [List.getD_eq_getElem?_getD, List.getElem?_eq_getElem h]
  exact List.getElem_mem h
theorem RG.first_top {ks : List Int} {S : Rg} (R : RG ks S) {x : Int} (hx : x ∈ ks) (hm : ∀ y, y ∈ ks → y ≤ x) {p : Nat} (hp : p < ks.length) (hc : (S.h p).crowned = true) : ks.getD p 0 = x := by
  obtain ⟨_, _, I⟩ := R.inv
  obtain ⟨q, hq, e⟩ := max_at hx
  have h1 := I.top p hp hc q hq
  have h2 := hm _ (getD_mem hp)
  omega
theorem RG.known_top {ks : List Int} {S : Rg} (R : RG ks S) {x : Int} (hx : x ∈ ks) (hm : ∀ y, y ∈ ks → y ≤ x) {p : Nat} (hp : p < ks.length) {z : Int} (hk : (S.h p).known = some z) : z = x := by
  obtain ⟨_, _, I⟩ := R.inv
  obtain ⟨q, hq, hc, e⟩ := I.kn p hp z hk
  rw [e]
  exact R.first_top hx hm hq hc
theorem RG.first_knows {ks : List Int} {S : Rg} (R : RG ks S) {p : Nat} (hp : p < ks.length) (hc : (S.h p).crowned = true) : (S.h p).known = some (ks.getD p 0) := by
  obtain ⟨_, _, I⟩ := R.inv
  exact I.ckn p hp hc
/-- the end: no mail is under way, somebody is awake -/
theorem RG.ended {ks : List Int} {S : Rg} (R : RG ks S) (h0 : S.post = []) (ha : ∃ p, p < ks.length ∧ (S.h p).awake = true) {x : Int} (hx : x ∈ ks) (hm : ∀ y, y ∈ ks → y ≤ x) {p : Nat} (hp : p < ks.length) :
    (S.h p).awake = true ∧ (S.h p).known = some x ∧ (S.h p).crowned = decide (ks.getD p 0 = x) := by
  obtain ⟨_, _, I⟩ := R.inv
  obtain ⟨q, hq, e⟩ := max_at hx
  have ht : ∀ y, y < ks.length → ks.getD y 0 ≤ ks.getD q 0 := fun y hy => by rw [e]; exact hm _ (getD_mem hy)
  obtain ⟨h1, h2⟩ := I.ended h0 ha hq ht
  refine ⟨I.all_awake h0 ha p hp, by rw [h2 p hp, e], ?_⟩
  cases c : (S.h p).crowned with
  | true => exact (decide_eq_true (R.first_top hx hm hp c)).symm
  | false =>
    refine (decide_eq_false fun z => ?_).symm
    have : p = q := nums_inj R.nums.nd p q hp hq (by rw [z, e])
    rw [this, h1] at c; cases c
theorem ex_two {H : Hp} {x dx : Addr} {o1 o2 : HO} (nx : H x = none) (ndx : H dx = none) : Ex H (upd (upd H dx o1) x o2) := fun b o hb => by
  rw [upd_ne (ne_of_none hb nx), upd_ne (ne_of_none hb ndx)]; exact hb
theorem ex_none {H H' : Hp} {a : Addr} (e : Ex H H') (n : H' a = none) : H a = none := by
  cases h : H a with
  | none => rfl
  | some o => rw [e a o h] at n; cases n
theorem Made.new {H H1 : Hp} {r m : Addr} {as : List Addr} (nr : H r = none) (e : Ex H H1) (nm : H1 m = none) (nas : ∀ a, a ∈ as → H1 a = none) : Made H r m as := ⟨nr, ex_none e nm, fun a ha => ex_none e (nas a ha)⟩
theorem ex_but {H H1 H2 : Hp} {r : Addr} (e : Ex H H1) (nr : H r = none) (b : But r H1 H2) : Ex H H2 := fun c o h => b c o (e c o h) (ne_of_none h nr)
theorem has_max : ∀ ks : List Int, 0 < ks.length → ∃ x, x ∈ ks ∧ ∀ y, y ∈ ks → y ≤ x
  | [k], _ => ⟨k, List.mem_singleton.mpr rfl, fun y hy => by rw [List.mem_singleton.mp hy]; exact Int.le_refl _⟩
  | k :: j :: ks, _ => by
    obtain ⟨x, h1, h2⟩ := has_max (j :: ks) (by simp)
    by_cases c : k ≤ x
    · refine ⟨x, List.mem_cons_of_mem _ h1, fun y hy => ?_⟩
      rcases List.mem_cons.mp hy with rfl | hy
      · exact c
      · exact h2 y hy
    · refine ⟨k, List.mem_cons_self, fun y hy => ?_⟩
      rcases List.mem_cons.mp hy with rfl | hy
      · exact Int.le_refl _
      · have := h2 y hy
        omega
theorem if_ne_same {a : Int} {A B : Prop} (h : B) : if (!decide (a = a)) = true then A else B := by
  rw [decide_eq_true rfl]; exact h
theorem if_eq_same {a : Int} {A B : Prop} (h : A) : if decide (a = a) = true then A else B := by
  rw [decide_eq_true rfl]; exact h
theorem ex_upd {H H' : Hp} {p : Addr} {o : HO} (n : H p = none) (e : Ex H H') : Ex H (upd H' p o) := fun b o hb => by
  rw [upd_ne (ne_of_none hb n)]; exact e b o hb
/-- an if that goes on behind it either way -/
theorem if_join {b : Bool} {ts : TS} {nx : St → Hp → Prop} {rt : VK} {bk ct : St → Hp → Prop} {σ σ' : St} {H H' : Hp} (Pv : St → Hp → Prop) (h1 : b = true → ∀ nx' : St → Hp → Prop, (∀ σ H, Pv σ H → nx' σ H) → ts ⟨nx', rt, bk, ct⟩ σ H) (h2 : b = false → Pv σ' H') (hn : ∀ σ H, Pv σ H → nx σ H) : if b = true then ts ⟨nx, rt, bk, ct⟩ σ H else nx σ' H' := by
  cases b with
  | true => exact h1 rfl nx hn
  | false => exact hn _ _ (h2 rfl)
/-- what a question about a place tells -/
theorem asked_at {K : PySem.W.Frag} {CR CH NH p l m : Addr} {as : List Addr} {S : Rg} {f : Hd → V} {i : Nat} {H : Hp} {Q : VK} {E : XK} (R : RingAt CR CH H p l m as S) (hl : i < S.hands.length) (v : V) (e : f (S.h i) = v) (h : Q v H) :
    spRAsk K CR CH NH f [.ref p, .int ((i : Nat) : Int)] H Q E := ⟨p, l, m, as, S, _, rfl, R, knd_int _, .inl ⟨i, placeOf_nat hl, e ▸ h⟩⟩
/-! ### promises of the laws' own defs -/
/-- a ring that goes on stands at r -/
structure Stands (A_R A_H : Addr) (H : Hp) (r l m : Addr) (as : List Addr) (ks : List Int) (S : Rg) : Prop where
  at_ : RingAt A_R A_H H r l m as S
  rg : RG ks S
theorem Stands.ex {A_R A_H r l m : Addr} {H H' : Hp} {as : List Addr} {ks : List Int} {S : Rg} (s : Stands A_R A_H H r l m as ks S) (e : Ex H H') : Stands A_R A_H H' r l m as ks S := ⟨s.at_.ex e, s.rg⟩
/-- _law_brought(ring, cell, turn), _law_deed(ring, many, cell) -/
def spBrought (CR CH : Addr) : Sp := fun vs H Q _ => ∃ r l m as ks S c t, vs = [.ref r, .int c, .int t] ∧ Stands CR CH H r l m as ks S ∧ ∀ H' S', Stands CR CH H' r l m as ks S' → Keep r m as H H' → Go S S' → Q .non H'
/-- _law_truth(found, due) -/
def spTruth : Sp := fun vs H Q _ => ∃ a b : Bool, vs = [.bl a, .bl b] ∧ Q (.bl (decide (a = b))) H
def spDeed (CR CH : Addr) : Sp := fun vs H Q _ => ∃ r l m as ks S c, vs = [.ref r, .int ((ks.length : Nat) : Int), .int c] ∧ Stands CR CH H r l m as ks S ∧ ∀ H' S', Stands CR CH H' r l m as ks S' → Keep r m as H H' → Go S S' → Q .non H'
end Rc
/-! # RcDict: a law's own hand, kept in a dict -/
namespace Rc
open PySem L2 Evl
open RC (Hd Lt Wd Rg)
/-! ### d[k], d[k] = v, with a text for a key -/
def rDGet (x y : V) (H : Hp) (Q : VK) : Prop := ∃ a v, x = .ref a ∧ DGet H a y (some v) ∧ Q v H
def rDPut (x y v : V) (H : Hp) (R : Hp → Prop) : Prop := ∃ a H4, x = .ref a ∧ DPut H a y v H4 ∧ R H4
section
variable {td ty tv : TE} {σ : St} {H : Hp} {Q : VK} {D : Ends} {a : Addr} {kvs kvs' : List (Key × V)} {k : Str} {v : V}
theorem rd_dget (h : td σ H fun x H1 => ty σ H1 fun y H2 => rDGet x y H2 Q) : tDGet td ty σ H Q := h
theorem rd_dput (h : tv σ H fun v H1 => td σ H1 fun x H2 => ty σ H2 fun y H3 => rDPut x y v H3 fun H4 => D.nx σ H4) : sDPut td ty tv D σ H := h
theorem rd_getS (e : H a = some (.dK kvs)) (hv : valV kvs (Sum.inr k) = some v) (h : Q v H) : rDGet (.ref a) (.str k) H Q :=
  ⟨a, v, rfl, hv ▸ DGet.k (k := Sum.inr k) e, h⟩
theorem rd_putS {R : Hp → Prop} (e : H a = some (.dK kvs)) (hl : kvs.length < sizeLine) (hp : putK kvs (Sum.inr k) v = kvs') (h : R (upd H a (.dK kvs'))) : rDPut (.ref a) (.str k) v H R :=
  ⟨a, _, rfl, DPut.k (k := Sum.inr k) e hl, by rw [hp]; exact h⟩
end
/-! ### loops over a range with a step -/
section
variable {K : PySem.W.Frag} {σ : St} {H : Hp} {D : Ends} {tb : TS} {tl : TA} {g : TG} {j : Nat}
def rForR3 (g : TG) (tb : TS) (D : Ends) (σ : St) : List V → Hp → Prop := fun vs H1 => ∃ (i j c : Int) (n : Nat), vs = [.int i, .int j, .int c] ∧ RgC i j c n ∧ rFor g tb D σ (Itc i c n) H1
theorem rd_forR3 (h : tl σ H fun vs H1 => rForR3 g tb D σ vs H1) : tFor (iRng3 tl) g tb D σ H := h
section
variable {nx : St → Hp → Prop} {rt : VK} {bk ct : St → Hp → Prop}
theorem for_R3 {lo hi c : Int} {n : Nat} (hr : RgC lo hi c n) (Pv : Nat → St → Hp → Prop) (h0 : Pv 0 σ H)
    (hs : ∀ i σ H, i < n → Pv i σ H → tb ⟨Pv (i + 1), rt, nx, Pv (i + 1)⟩ (σ.set j (some (.int (lo + ((i : Nat) : Int) * c)))) H) (hd : ∀ σ H, Pv n σ H → nx σ H) : rForR3 (gName j) tb ⟨nx, rt, bk, ct⟩ σ [.int lo, .int hi, .int c] H :=
  ⟨lo, hi, c, n, rfl, hr, for_rangeC (D := ⟨nx, rt, bk, ct⟩) (g := gName j) Pv h0 hs hd⟩
end
end
/-- range(2, n - 1, 2) -/
theorem rg_two : ∀ n, n < 64 → RgC 2 (((n : Nat) : Int) - 1) 2 ((n - 2) / 2) := by
  have z : ∀ n, n < 64 → ((2 : Int) ≠ 0 ∧ (2 : Int).natAbs < 1073741824 ∧ Builtin.Range.small 2 (((n : Nat) : Int) - 1) 2 = true ∧ Builtin.Range.rangeSize 2 (((n : Nat) : Int) - 1) 2 = (((n - 2) / 2 : Nat) : Int)) := by decide +kernel
  exact z
/-- a hand in a dict, and what stands behind -/
def d7 (h : Hd) : List (Key × V) :=
  [(Sum.inr "number", .int h.num), (Sum.inr "awake", .bl h.awake), (Sum.inr "beaten", .bl h.beaten), (Sum.inr "first", .bl h.crowned), (Sum.inr "stage", .int h.stage), (Sum.inr "came", .int h.came), (Sum.inr "known", kV h.known)]
def k7 : List Key := [Sum.inr "number", Sum.inr "awake", Sum.inr "beaten", Sum.inr "first", Sum.inr "stage", Sum.inr "came", Sum.inr "known"]
def dS (h : Hd) (t : List (Key × V)) : List (Key × V) := d7 h ++ t
theorem get_num {h : Hd} {t : List (Key × V)} : valV (dS h t) (Sum.inr "number") = some (.int h.num) := rfl
theorem get_awake {h : Hd} {t : List (Key × V)} : valV (dS h t) (Sum.inr "awake") = some (.bl h.awake) := rfl
theorem get_beaten {h : Hd} {t : List (Key × V)} : valV (dS h t) (Sum.inr "beaten") = some (.bl h.beaten) := rfl
theorem get_first {h : Hd} {t : List (Key × V)} : valV (dS h t) (Sum.inr "first") = some (.bl h.crowned) := rfl
theorem get_stage {h : Hd} {t : List (Key × V)} : valV (dS h t) (Sum.inr "stage") = some (.int h.stage) := rfl
theorem get_came {h : Hd} {t : List (Key × V)} : valV (dS h t) (Sum.inr "came") = some (.int h.came) := rfl
theorem get_known {h : Hd} {t : List (Key × V)} : valV (dS h t) (Sum.inr "known") = some (kV h.known) := rfl
/-- what stands behind has other keys -/
def Off (t : List (Key × V)) : Prop := ∀ kv, kv ∈ t → kv.1 ∉ k7
theorem off_nil : Off [] := fun kv h => by cases h
theorem off_map {t : List (Key × V)} {k : Key} {v : V} (o : Off t) (hk : k ∈ k7) : t.map (fun kv => if kv.1 = k then (kv.1, v) else kv) = t := by
  have : ∀ kv, kv ∈ t → (fun kv : Key × V => if kv.1 = k then (kv.1, v) else kv) kv = id kv := fun kv h => by
    show (if kv.1 = k then (kv.1, v) else kv) = kv
    have ne : kv.1 ≠ k := fun e => o kv h (by rw [e]; exact hk)
    rw [if_neg ne]
  rw [List.map_congr_left this, List.map_id]
theorem put_of {h h' : Hd} {t : List (Key × V)} {k : Key} {v : V} (o : Off t) (hk : k ∈ k7) (ha : ((d7 h).any fun kv => decide (kv.1 = k)) = true) (e : (d7 h).map (fun kv => if kv.1 = k then (kv.1, v) else kv) = d7 h') : putK (dS h t) k v = dS h' t := by
  unfold putK dS
  rw [List.any_append, ha, Bool.true_or, if_pos rfl, List.map_append, e, off_map o hk]
section
variable {h : Hd} {t : List (Key × V)}
theorem put_awake {b : Bool} (o : Off t) : putK (dS h t) (Sum.inr "awake") (.bl b) = dS { h with awake := b } t := put_of o (by simp [k7]) rfl rfl
theorem put_beaten {b : Bool} (o : Off t) : putK (dS h t) (Sum.inr "beaten") (.bl b) = dS { h with beaten := b } t := put_of o (by simp [k7]) rfl rfl
theorem put_first {b : Bool} (o : Off t) : putK (dS h t) (Sum.inr "first") (.bl b) = dS { h with crowned := b } t := put_of o (by simp [k7]) rfl rfl
theorem put_stage {i : Int} (o : Off t) : putK (dS h t) (Sum.inr "stage") (.int i) = dS { h with stage := i } t := put_of o (by simp [k7]) rfl rfl
theorem put_came {i : Int} (o : Off t) : putK (dS h t) (Sum.inr "came") (.int i) = dS { h with came := i } t := put_of o (by simp [k7]) rfl rfl
theorem put_known {x : Option Int} (o : Off t) : putK (dS h t) (Sum.inr "known") (kV x) = dS { h with known := x } t := put_of o (by simp [k7]) rfl rfl
theorem dS_len : (dS h t).length = 7 + t.length := by unfold dS; rw [List.length_append]; rfl
end
/-! ### promises of the law's own hand -/
/-- so far an ask goes -/
def Far (h : Hd) : Prop := ∃ s : Nat, h.stage = ((s : Nat) : Int) ∧ s ≤ 100 ∧ h.far = ((2 ^ s : Nat) : Int)
def spStart : Sp := fun vs H Q _ => ∃ n : Int, vs = [.int n] ∧ ∀ d, H d = none → Q (.ref d) (upd H d (.dK (dS (Hd.new n) [])))
def spLAsks : Sp := fun vs H Q _ => ∃ (d : Addr) (h : Hd) (t : List (Key × V)), vs = [.ref d] ∧ H d = some (.dK (dS h t)) ∧ Far h ∧ ∀ q xs H', H q = none → Ex H H' → H' q = some (.lst xs) → Tups lV H' xs h.asks → Q (.ref q) H'
def spLWoken : Sp := fun vs H Q _ => ∃ (d : Addr) (h : Hd) (t : List (Key × V)), vs = [.ref d] ∧ H d = some (.dK (dS h t)) ∧ Off t ∧ t.length ≤ 100 ∧ Far h ∧
  ∀ q xs H', H q = none → But d H H' → H' d = some (.dK (dS h.wk t)) → H' q = some (.lst xs) → Tups lV H' xs h.wls → Q (.ref q) H'
end Rc
namespace Rc
open PySem L2 Evl
open RC (Hd Lt Wd Rg)

def top (i : Nat) : Stmt := PySem.Challenge.pw_ringcrown_k02_a_hand_by_itself.main.body.getD i (.Pass ⟨0, 0, 0, 0⟩)
abbrev s_Hand___init__ : Stmt := inClass (top 3) 0
abbrev s_Hand_is_awake : Stmt := inClass (top 3) 1
abbrev s_Hand_is_first : Stmt := inClass (top 3) 2
abbrev s_Hand_stage : Stmt := inClass (top 3) 3
abbrev s_Hand_knows : Stmt := inClass (top 3) 4
abbrev s_Hand_asks : Stmt := inClass (top 3) 5
abbrev s_Hand_wake : Stmt := inClass (top 3) 6
abbrev s_Hand_take : Stmt := inClass (top 3) 7
abbrev s_Hand_asked : Stmt := inClass (top 3) 8
abbrev s_Hand_answered : Stmt := inClass (top 3) 9
abbrev s_Hand_told : Stmt := inClass (top 3) 10
abbrev s__law_cell_at : Stmt := top 5
abbrev s__law_whole : Stmt := top 6
abbrev s__law_letters : Stmt := top 7
abbrev s__law_truth : Stmt := top 8
abbrev s__law_start : Stmt := top 9
abbrev s__law_asks : Stmt := top 10
abbrev s__law_woken : Stmt := top 11
abbrev s__law_taken : Stmt := top 12
abbrev s__law_number : Stmt := top 13
abbrev s__law_is_due : Stmt := top 14
abbrev s__law_letter : Stmt := top 15
abbrev s__law_told : Stmt := top 16
abbrev s__law_stands : Stmt := top 17
abbrev s__law_step : Stmt := top 18
abbrev s_law : Stmt := top 19
/-- where the defs and classes stand -/
structure Adr where
  c_Hand : Addr
  f_Hand___init__ : Addr
  fd_Hand___init__ : FuncData
  f_Hand_is_awake : Addr
  fd_Hand_is_awake : FuncData
  f_Hand_is_first : Addr
  fd_Hand_is_first : FuncData
  f_Hand_stage : Addr
  fd_Hand_stage : FuncData
  f_Hand_knows : Addr
  fd_Hand_knows : FuncData
  f_Hand_asks : Addr
  fd_Hand_asks : FuncData
  f_Hand_wake : Addr
  fd_Hand_wake : FuncData
  f_Hand_take : Addr
  fd_Hand_take : FuncData
  f_Hand_asked : Addr
  fd_Hand_asked : FuncData
  f_Hand_answered : Addr
  fd_Hand_answered : FuncData
  f_Hand_told : Addr
  fd_Hand_told : FuncData
  f__law_cell_at : Addr
  fd__law_cell_at : FuncData
  f__law_whole : Addr
  fd__law_whole : FuncData
  f__law_letters : Addr
  fd__law_letters : FuncData
  f__law_truth : Addr
  fd__law_truth : FuncData
  f__law_start : Addr
  fd__law_start : FuncData
  f__law_asks : Addr
  fd__law_asks : FuncData
  f__law_woken : Addr
  fd__law_woken : FuncData
  f__law_taken : Addr
  fd__law_taken : FuncData
  f__law_number : Addr
  fd__law_number : FuncData
  f__law_is_due : Addr
  fd__law_is_due : FuncData
  f__law_letter : Addr
  fd__law_letter : FuncData
  f__law_told : Addr
  fd__law_told : FuncData
  f__law_stands : Addr
  fd__law_stands : FuncData
  f__law_step : Addr
  fd__law_step : FuncData
  f_law : Addr
  fd_law : FuncData
/-- what the top has written -/
structure Txt (K : PySem.W.Frag) (mg : Str → Option Value) (A : Adr) : Prop where
  no_all : mg "all" = none
  no_bool : mg "bool" = none
  no_int : mg "int" = none
  no_isinstance : mg "isinstance" = none
  no_len : mg "len" = none
  no_list : mg "list" = none
  no_max : mg "max" = none
  no_min : mg "min" = none
  no_range : mg "range" = none
  no_str : mg "str" = none
  no_tuple : mg "tuple" = none
  mg_RIGHT : ∃ t, mg "RIGHT" = some (.int (1) t)
  mg_LEFT : ∃ t, mg "LEFT" = some (.int (-1) t)
  mg_Hand : mg "Hand" = some (.ref A.c_Hand)
  cl_Hand : Cls K A.c_Hand
  mk_Hand : Mk K A.c_Hand A.f_Hand___init__
  at_Hand_number : NoAttr K A.c_Hand "number"
  at_Hand_awake : NoAttr K A.c_Hand "awake"
  at_Hand_beaten : NoAttr K A.c_Hand "beaten"
  at_Hand_crowned : NoAttr K A.c_Hand "crowned"
  at_Hand_at : NoAttr K A.c_Hand "at"
  at_Hand_far : NoAttr K A.c_Hand "far"
  at_Hand_came : NoAttr K A.c_Hand "came"
  at_Hand_known : NoAttr K A.c_Hand "known"
  fun_Hand___init__ : Fun K "__init__" "Hand.__init__" s_Hand___init__ A.f_Hand___init__ A.fd_Hand___init__
  b_Hand___init__ : Binds K A.fd_Hand___init__ ["self", "number"] []
  fun_Hand_is_awake : Fun K "is_awake" "Hand.is_awake" s_Hand_is_awake A.f_Hand_is_awake A.fd_Hand_is_awake
  b_Hand_is_awake : Binds K A.fd_Hand_is_awake ["self"] []
  mt_Hand_is_awake : Meth K A.c_Hand "is_awake" A.f_Hand_is_awake
  fun_Hand_is_first : Fun K "is_first" "Hand.is_first" s_Hand_is_first A.f_Hand_is_first A.fd_Hand_is_first
  b_Hand_is_first : Binds K A.fd_Hand_is_first ["self"] []
  mt_Hand_is_first : Meth K A.c_Hand "is_first" A.f_Hand_is_first
  fun_Hand_stage : Fun K "stage" "Hand.stage" s_Hand_stage A.f_Hand_stage A.fd_Hand_stage
  b_Hand_stage : Binds K A.fd_Hand_stage ["self"] []
  mt_Hand_stage : Meth K A.c_Hand "stage" A.f_Hand_stage
  fun_Hand_knows : Fun K "knows" "Hand.knows" s_Hand_knows A.f_Hand_knows A.fd_Hand_knows
  b_Hand_knows : Binds K A.fd_Hand_knows ["self"] []
  mt_Hand_knows : Meth K A.c_Hand "knows" A.f_Hand_knows
  fun_Hand_asks : Fun K "asks" "Hand.asks" s_Hand_asks A.f_Hand_asks A.fd_Hand_asks
  b_Hand_asks : Binds K A.fd_Hand_asks ["self"] []
  mt_Hand_asks : Meth K A.c_Hand "asks" A.f_Hand_asks
  fun_Hand_wake : Fun K "wake" "Hand.wake" s_Hand_wake A.f_Hand_wake A.fd_Hand_wake
  b_Hand_wake : Binds K A.fd_Hand_wake ["self"] []
  mt_Hand_wake : Meth K A.c_Hand "wake" A.f_Hand_wake
  fun_Hand_take : Fun K "take" "Hand.take" s_Hand_take A.f_Hand_take A.fd_Hand_take
  b_Hand_take : Binds K A.fd_Hand_take ["self", "letter"] []
  mt_Hand_take : Meth K A.c_Hand "take" A.f_Hand_take
  fun_Hand_asked : Fun K "asked" "Hand.asked" s_Hand_asked A.f_Hand_asked A.fd_Hand_asked
  b_Hand_asked : Binds K A.fd_Hand_asked ["self", "letter"] []
  mt_Hand_asked : Meth K A.c_Hand "asked" A.f_Hand_asked
  fun_Hand_answered : Fun K "answered" "Hand.answered" s_Hand_answered A.f_Hand_answered A.fd_Hand_answered
  b_Hand_answered : Binds K A.fd_Hand_answered ["self", "letter"] []
  mt_Hand_answered : Meth K A.c_Hand "answered" A.f_Hand_answered
  fun_Hand_told : Fun K "told" "Hand.told" s_Hand_told A.f_Hand_told A.fd_Hand_told
  b_Hand_told : Binds K A.fd_Hand_told ["self", "letter"] []
  mt_Hand_told : Meth K A.c_Hand "told" A.f_Hand_told
  fun__law_cell_at : Fun K "_law_cell_at" "_law_cell_at" s__law_cell_at A.f__law_cell_at A.fd__law_cell_at
  b__law_cell_at : Binds K A.fd__law_cell_at ["_law_script", "_law_k"] []
  mg__law_cell_at : mg "_law_cell_at" = some (.ref A.f__law_cell_at)
  fun__law_whole : Fun K "_law_whole" "_law_whole" s__law_whole A.f__law_whole A.fd__law_whole
  b__law_whole : Binds K A.fd__law_whole ["_law_found"] []
  mg__law_whole : mg "_law_whole" = some (.ref A.f__law_whole)
  fun__law_letters : Fun K "_law_letters" "_law_letters" s__law_letters A.f__law_letters A.fd__law_letters
  b__law_letters : Binds K A.fd__law_letters ["_law_found", "_law_due"] []
  mg__law_letters : mg "_law_letters" = some (.ref A.f__law_letters)
  fun__law_truth : Fun K "_law_truth" "_law_truth" s__law_truth A.f__law_truth A.fd__law_truth
  b__law_truth : Binds K A.fd__law_truth ["_law_found", "_law_due"] []
  mg__law_truth : mg "_law_truth" = some (.ref A.f__law_truth)
  fun__law_start : Fun K "_law_start" "_law_start" s__law_start A.f__law_start A.fd__law_start
  b__law_start : Binds K A.fd__law_start ["_law_number_here"] []
  mg__law_start : mg "_law_start" = some (.ref A.f__law_start)
  fun__law_asks : Fun K "_law_asks" "_law_asks" s__law_asks A.f__law_asks A.fd__law_asks
  b__law_asks : Binds K A.fd__law_asks ["_law_state"] []
  mg__law_asks : mg "_law_asks" = some (.ref A.f__law_asks)
  fun__law_woken : Fun K "_law_woken" "_law_woken" s__law_woken A.f__law_woken A.fd__law_woken
  b__law_woken : Binds K A.fd__law_woken ["_law_state"] []
  mg__law_woken : mg "_law_woken" = some (.ref A.f__law_woken)
  fun__law_taken : Fun K "_law_taken" "_law_taken" s__law_taken A.f__law_taken A.fd__law_taken
  b__law_taken : Binds K A.fd__law_taken ["_law_state", "_law_letter_here"] []
  mg__law_taken : mg "_law_taken" = some (.ref A.f__law_taken)
  fun__law_number : Fun K "_law_number" "_law_number" s__law_number A.f__law_number A.fd__law_number
  b__law_number : Binds K A.fd__law_number ["_law_cell", "_law_state"] []
  mg__law_number : mg "_law_number" = some (.ref A.f__law_number)
  fun__law_is_due : Fun K "_law_is_due" "_law_is_due" s__law_is_due A.f__law_is_due A.fd__law_is_due
  b__law_is_due : Binds K A.fd__law_is_due ["_law_state"] []
  mg__law_is_due : mg "_law_is_due" = some (.ref A.f__law_is_due)
  fun__law_letter : Fun K "_law_letter" "_law_letter" s__law_letter A.f__law_letter A.fd__law_letter
  b__law_letter : Binds K A.fd__law_letter ["_law_state", "_law_cell", "_law_more"] []
  mg__law_letter : mg "_law_letter" = some (.ref A.f__law_letter)
  fun__law_told : Fun K "_law_told" "_law_told" s__law_told A.f__law_told A.fd__law_told
  b__law_told : Binds K A.fd__law_told ["_law_hand", "_law_state", "_law_which"] []
  mg__law_told : mg "_law_told" = some (.ref A.f__law_told)
  fun__law_stands : Fun K "_law_stands" "_law_stands" s__law_stands A.f__law_stands A.fd__law_stands
  b__law_stands : Binds K A.fd__law_stands ["_law_hand", "_law_state", "_law_turn"] []
  mg__law_stands : mg "_law_stands" = some (.ref A.f__law_stands)
  fun__law_step : Fun K "_law_step" "_law_step" s__law_step A.f__law_step A.fd__law_step
  b__law_step : Binds K A.fd__law_step ["_law_hand", "_law_state", "_law_cell", "_law_more", "_law_held"] []
  mg__law_step : mg "_law_step" = some (.ref A.f__law_step)
  fun_law : Fun K "law" "law" s_law A.f_law A.fd_law
  b_law : Binds K A.fd_law ["_law_script"] []
  mg_law : mg "law" = some (.ref A.f_law)
theorem mkTxt {K : PySem.W.Frag} {h : Heap} {mg : Str → Option Value} {c_Hand f_Hand___init__ f_Hand_is_awake f_Hand_is_first f_Hand_stage f_Hand_knows f_Hand_asks f_Hand_wake f_Hand_take f_Hand_asked f_Hand_answered f_Hand_told f__law_cell_at f__law_whole f__law_letters f__law_truth f__law_start f__law_asks f__law_woken f__law_taken f__law_number f__law_is_due f__law_letter f__law_told f__law_stands f__law_step f_law : Addr} (X : K.In h) (G : h.Ns mainGlobals mg)
    {od1 an1 : Option Addr} {sl1 : Array (Option Value)} {oc1 kV1 dc1 pm1 cd1 ct1 : Value}
    {od2 an2 : Option Addr} {sl2 : Array (Option Value)} {oc2 kV2 dc2 pm2 cd2 ct2 : Value}
    {od3 an3 : Option Addr} {sl3 : Array (Option Value)} {oc3 kV3 dc3 pm3 cd3 ct3 : Value}
    {od4 an4 : Option Addr} {sl4 : Array (Option Value)} {oc4 kV4 dc4 pm4 cd4 ct4 : Value}
    {od5 an5 : Option Addr} {sl5 : Array (Option Value)} {oc5 kV5 dc5 pm5 cd5 ct5 : Value}
    {od6 an6 : Option Addr} {sl6 : Array (Option Value)} {oc6 kV6 dc6 pm6 cd6 ct6 : Value}
    {od7 an7 : Option Addr} {sl7 : Array (Option Value)} {oc7 kV7 dc7 pm7 cd7 ct7 : Value}
    {od8 an8 : Option Addr} {sl8 : Array (Option Value)} {oc8 kV8 dc8 pm8 cd8 ct8 : Value}
    {od9 an9 : Option Addr} {sl9 : Array (Option Value)} {oc9 kV9 dc9 pm9 cd9 ct9 : Value}
    {od10 an10 : Option Addr} {sl10 : Array (Option Value)} {oc10 kV10 dc10 pm10 cd10 ct10 : Value}
    {od11 an11 : Option Addr} {sl11 : Array (Option Value)} {oc11 kV11 dc11 pm11 cd11 ct11 : Value}
    {od12 an12 : Option Addr} {sl12 : Array (Option Value)} {oc12 kV12 dc12 pm12 cd12 ct12 : Value}
    {od13 an13 : Option Addr} {sl13 : Array (Option Value)} {oc13 kV13 dc13 pm13 cd13 ct13 : Value}
    {od14 an14 : Option Addr} {sl14 : Array (Option Value)} {oc14 kV14 dc14 pm14 cd14 ct14 : Value}
    {od15 an15 : Option Addr} {sl15 : Array (Option Value)} {oc15 kV15 dc15 pm15 cd15 ct15 : Value}
    {od16 an16 : Option Addr} {sl16 : Array (Option Value)} {oc16 kV16 dc16 pm16 cd16 ct16 : Value}
    {od17 an17 : Option Addr} {sl17 : Array (Option Value)} {oc17 kV17 dc17 pm17 cd17 ct17 : Value}
    {od18 an18 : Option Addr} {sl18 : Array (Option Value)} {oc18 kV18 dc18 pm18 cd18 ct18 : Value}
    {od19 an19 : Option Addr} {sl19 : Array (Option Value)} {oc19 kV19 dc19 pm19 cd19 ct19 : Value}
    {od20 an20 : Option Addr} {sl20 : Array (Option Value)} {oc20 kV20 dc20 pm20 cd20 ct20 : Value}
    {od21 an21 : Option Addr} {sl21 : Array (Option Value)} {oc21 kV21 dc21 pm21 cd21 ct21 : Value}
    {od22 an22 : Option Addr} {sl22 : Array (Option Value)} {oc22 kV22 dc22 pm22 cd22 ct22 : Value}
    {od23 an23 : Option Addr} {sl23 : Array (Option Value)} {oc23 kV23 dc23 pm23 cd23 ct23 : Value}
    {od24 an24 : Option Addr} {sl24 : Array (Option Value)} {oc24 kV24 dc24 pm24 cd24 ct24 : Value}
    {od25 an25 : Option Addr} {sl25 : Array (Option Value)} {oc25 kV25 dc25 pm25 cd25 ct25 : Value}
    {od26 an26 : Option Addr} {sl26 : Array (Option Value)} {oc26 kV26 dc26 pm26 cd26 ct26 : Value}
    {tc47 : Tok}
    {tc48 : Tok}
    (g0 : PySem.W.nsIn K mainGlobals "Hand" = some (some (.ref c_Hand)))
    (a1 : PySem.W.findIn K (.ref c_Hand) "__init__" = some (some (.ref f_Hand___init__)))
    (i1 : PySem.W.isFn K (.ref f_Hand___init__) = true)
    (l1 : K.lookup f_Hand___init__ = some ⟨oc1, od1, .func (PySem.W.fnOf "__init__" "Hand.__init__" (defArgs s_Hand___init__) (defBody s_Hand___init__) (defScope s_Hand___init__) .none kV1 dc1 pm1 an1 cd1 ct1), sl1⟩)
    (d1 : PySem.W.codeIn K cd1 "Hand.__init__" = true)
    (k1 : PySem.W.keepIn K (.ref f_Hand___init__) = true)
    (m1 : PySem.W.makesIn K c_Hand = true)
    (q1 : PySem.W.keepIn K (.ref c_Hand) = true)
    (a2 : PySem.W.findIn K (.ref c_Hand) "is_awake" = some (some (.ref f_Hand_is_awake)))
    (i2 : PySem.W.isFn K (.ref f_Hand_is_awake) = true)
    (l2 : K.lookup f_Hand_is_awake = some ⟨oc2, od2, .func (PySem.W.fnOf "is_awake" "Hand.is_awake" (defArgs s_Hand_is_awake) (defBody s_Hand_is_awake) (defScope s_Hand_is_awake) .none kV2 dc2 pm2 an2 cd2 ct2), sl2⟩)
    (d2 : PySem.W.codeIn K cd2 "Hand.is_awake" = true)
    (k2 : PySem.W.keepIn K (.ref f_Hand_is_awake) = true)
    (a3 : PySem.W.findIn K (.ref c_Hand) "is_first" = some (some (.ref f_Hand_is_first)))
    (i3 : PySem.W.isFn K (.ref f_Hand_is_first) = true)
    (l3 : K.lookup f_Hand_is_first = some ⟨oc3, od3, .func (PySem.W.fnOf "is_first" "Hand.is_first" (defArgs s_Hand_is_first) (defBody s_Hand_is_first) (defScope s_Hand_is_first) .none kV3 dc3 pm3 an3 cd3 ct3), sl3⟩)
    (d3 : PySem.W.codeIn K cd3 "Hand.is_first" = true)
    (k3 : PySem.W.keepIn K (.ref f_Hand_is_first) = true)
    (a4 : PySem.W.findIn K (.ref c_Hand) "stage" = some (some (.ref f_Hand_stage)))
    (i4 : PySem.W.isFn K (.ref f_Hand_stage) = true)
    (l4 : K.lookup f_Hand_stage = some ⟨oc4, od4, .func (PySem.W.fnOf "stage" "Hand.stage" (defArgs s_Hand_stage) (defBody s_Hand_stage) (defScope s_Hand_stage) .none kV4 dc4 pm4 an4 cd4 ct4), sl4⟩)
    (d4 : PySem.W.codeIn K cd4 "Hand.stage" = true)
    (k4 : PySem.W.keepIn K (.ref f_Hand_stage) = true)
    (a5 : PySem.W.findIn K (.ref c_Hand) "knows" = some (some (.ref f_Hand_knows)))
    (i5 : PySem.W.isFn K (.ref f_Hand_knows) = true)
    (l5 : K.lookup f_Hand_knows = some ⟨oc5, od5, .func (PySem.W.fnOf "knows" "Hand.knows" (defArgs s_Hand_knows) (defBody s_Hand_knows) (defScope s_Hand_knows) .none kV5 dc5 pm5 an5 cd5 ct5), sl5⟩)
    (d5 : PySem.W.codeIn K cd5 "Hand.knows" = true)
    (k5 : PySem.W.keepIn K (.ref f_Hand_knows) = true)
    (a6 : PySem.W.findIn K (.ref c_Hand) "asks" = some (some (.ref f_Hand_asks)))
    (i6 : PySem.W.isFn K (.ref f_Hand_asks) = true)
    (l6 : K.lookup f_Hand_asks = some ⟨oc6, od6, .func (PySem.W.fnOf "asks" "Hand.asks" (defArgs s_Hand_asks) (defBody s_Hand_asks) (defScope s_Hand_asks) .none kV6 dc6 pm6 an6 cd6 ct6), sl6⟩)
    (d6 : PySem.W.codeIn K cd6 "Hand.asks" = true)
    (k6 : PySem.W.keepIn K (.ref f_Hand_asks) = true)
    (a7 : PySem.W.findIn K (.ref c_Hand) "wake" = some (some (.ref f_Hand_wake)))
    (i7 : PySem.W.isFn K (.ref f_Hand_wake) = true)
    (l7 : K.lookup f_Hand_wake = some ⟨oc7, od7, .func (PySem.W.fnOf "wake" "Hand.wake" (defArgs s_Hand_wake) (defBody s_Hand_wake) (defScope s_Hand_wake) .none kV7 dc7 pm7 an7 cd7 ct7), sl7⟩)
    (d7 : PySem.W.codeIn K cd7 "Hand.wake" = true)
    (k7 : PySem.W.keepIn K (.ref f_Hand_wake) = true)
    (a8 : PySem.W.findIn K (.ref c_Hand) "take" = some (some (.ref f_Hand_take)))
    (i8 : PySem.W.isFn K (.ref f_Hand_take) = true)
    (l8 : K.lookup f_Hand_take = some ⟨oc8, od8, .func (PySem.W.fnOf "take" "Hand.take" (defArgs s_Hand_take) (defBody s_Hand_take) (defScope s_Hand_take) .none kV8 dc8 pm8 an8 cd8 ct8), sl8⟩)
    (d8 : PySem.W.codeIn K cd8 "Hand.take" = true)
    (k8 : PySem.W.keepIn K (.ref f_Hand_take) = true)
    (a9 : PySem.W.findIn K (.ref c_Hand) "asked" = some (some (.ref f_Hand_asked)))
    (i9 : PySem.W.isFn K (.ref f_Hand_asked) = true)
    (l9 : K.lookup f_Hand_asked = some ⟨oc9, od9, .func (PySem.W.fnOf "asked" "Hand.asked" (defArgs s_Hand_asked) (defBody s_Hand_asked) (defScope s_Hand_asked) .none kV9 dc9 pm9 an9 cd9 ct9), sl9⟩)
    (d9 : PySem.W.codeIn K cd9 "Hand.asked" = true)
    (k9 : PySem.W.keepIn K (.ref f_Hand_asked) = true)
    (a10 : PySem.W.findIn K (.ref c_Hand) "answered" = some (some (.ref f_Hand_answered)))
    (i10 : PySem.W.isFn K (.ref f_Hand_answered) = true)
    (l10 : K.lookup f_Hand_answered = some ⟨oc10, od10, .func (PySem.W.fnOf "answered" "Hand.answered" (defArgs s_Hand_answered) (defBody s_Hand_answered) (defScope s_Hand_answered) .none kV10 dc10 pm10 an10 cd10 ct10), sl10⟩)
    (d10 : PySem.W.codeIn K cd10 "Hand.answered" = true)
    (k10 : PySem.W.keepIn K (.ref f_Hand_answered) = true)
    (a11 : PySem.W.findIn K (.ref c_Hand) "told" = some (some (.ref f_Hand_told)))
    (i11 : PySem.W.isFn K (.ref f_Hand_told) = true)
    (l11 : K.lookup f_Hand_told = some ⟨oc11, od11, .func (PySem.W.fnOf "told" "Hand.told" (defArgs s_Hand_told) (defBody s_Hand_told) (defScope s_Hand_told) .none kV11 dc11 pm11 an11 cd11 ct11), sl11⟩)
    (d11 : PySem.W.codeIn K cd11 "Hand.told" = true)
    (k11 : PySem.W.keepIn K (.ref f_Hand_told) = true)
    (a12 : PySem.W.nsIn K mainGlobals "_law_cell_at" = some (some (.ref f__law_cell_at)))
    (l12 : K.lookup f__law_cell_at = some ⟨oc12, od12, .func (PySem.W.fnOf "_law_cell_at" "_law_cell_at" (defArgs s__law_cell_at) (defBody s__law_cell_at) (defScope s__law_cell_at) .none kV12 dc12 pm12 an12 cd12 ct12), sl12⟩)
    (d12 : PySem.W.codeIn K cd12 "_law_cell_at" = true)
    (k12 : PySem.W.keepIn K (.ref f__law_cell_at) = true)
    (a13 : PySem.W.nsIn K mainGlobals "_law_whole" = some (some (.ref f__law_whole)))
    (l13 : K.lookup f__law_whole = some ⟨oc13, od13, .func (PySem.W.fnOf "_law_whole" "_law_whole" (defArgs s__law_whole) (defBody s__law_whole) (defScope s__law_whole) .none kV13 dc13 pm13 an13 cd13 ct13), sl13⟩)
    (d13 : PySem.W.codeIn K cd13 "_law_whole" = true)
    (k13 : PySem.W.keepIn K (.ref f__law_whole) = true)
    (a14 : PySem.W.nsIn K mainGlobals "_law_letters" = some (some (.ref f__law_letters)))
    (l14 : K.lookup f__law_letters = some ⟨oc14, od14, .func (PySem.W.fnOf "_law_letters" "_law_letters" (defArgs s__law_letters) (defBody s__law_letters) (defScope s__law_letters) .none kV14 dc14 pm14 an14 cd14 ct14), sl14⟩)
    (d14 : PySem.W.codeIn K cd14 "_law_letters" = true)
    (k14 : PySem.W.keepIn K (.ref f__law_letters) = true)
    (a15 : PySem.W.nsIn K mainGlobals "_law_truth" = some (some (.ref f__law_truth)))
    (l15 : K.lookup f__law_truth = some ⟨oc15, od15, .func (PySem.W.fnOf "_law_truth" "_law_truth" (defArgs s__law_truth) (defBody s__law_truth) (defScope s__law_truth) .none kV15 dc15 pm15 an15 cd15 ct15), sl15⟩)
    (d15 : PySem.W.codeIn K cd15 "_law_truth" = true)
    (k15 : PySem.W.keepIn K (.ref f__law_truth) = true)
    (a16 : PySem.W.nsIn K mainGlobals "_law_start" = some (some (.ref f__law_start)))
    (l16 : K.lookup f__law_start = some ⟨oc16, od16, .func (PySem.W.fnOf "_law_start" "_law_start" (defArgs s__law_start) (defBody s__law_start) (defScope s__law_start) .none kV16 dc16 pm16 an16 cd16 ct16), sl16⟩)
    (d16 : PySem.W.codeIn K cd16 "_law_start" = true)
    (k16 : PySem.W.keepIn K (.ref f__law_start) = true)
    (a17 : PySem.W.nsIn K mainGlobals "_law_asks" = some (some (.ref f__law_asks)))
    (l17 : K.lookup f__law_asks = some ⟨oc17, od17, .func (PySem.W.fnOf "_law_asks" "_law_asks" (defArgs s__law_asks) (defBody s__law_asks) (defScope s__law_asks) .none kV17 dc17 pm17 an17 cd17 ct17), sl17⟩)
    (d17 : PySem.W.codeIn K cd17 "_law_asks" = true)
    (k17 : PySem.W.keepIn K (.ref f__law_asks) = true)
    (a18 : PySem.W.nsIn K mainGlobals "_law_woken" = some (some (.ref f__law_woken)))
    (l18 : K.lookup f__law_woken = some ⟨oc18, od18, .func (PySem.W.fnOf "_law_woken" "_law_woken" (defArgs s__law_woken) (defBody s__law_woken) (defScope s__law_woken) .none kV18 dc18 pm18 an18 cd18 ct18), sl18⟩)
    (d18 : PySem.W.codeIn K cd18 "_law_woken" = true)
    (k18 : PySem.W.keepIn K (.ref f__law_woken) = true)
    (a19 : PySem.W.nsIn K mainGlobals "_law_taken" = some (some (.ref f__law_taken)))
    (l19 : K.lookup f__law_taken = some ⟨oc19, od19, .func (PySem.W.fnOf "_law_taken" "_law_taken" (defArgs s__law_taken) (defBody s__law_taken) (defScope s__law_taken) .none kV19 dc19 pm19 an19 cd19 ct19), sl19⟩)
    (d19 : PySem.W.codeIn K cd19 "_law_taken" = true)
    (k19 : PySem.W.keepIn K (.ref f__law_taken) = true)
    (a20 : PySem.W.nsIn K mainGlobals "_law_number" = some (some (.ref f__law_number)))
    (l20 : K.lookup f__law_number = some ⟨oc20, od20, .func (PySem.W.fnOf "_law_number" "_law_number" (defArgs s__law_number) (defBody s__law_number) (defScope s__law_number) .none kV20 dc20 pm20 an20 cd20 ct20), sl20⟩)
    (d20 : PySem.W.codeIn K cd20 "_law_number" = true)
    (k20 : PySem.W.keepIn K (.ref f__law_number) = true)
    (a21 : PySem.W.nsIn K mainGlobals "_law_is_due" = some (some (.ref f__law_is_due)))
    (l21 : K.lookup f__law_is_due = some ⟨oc21, od21, .func (PySem.W.fnOf "_law_is_due" "_law_is_due" (defArgs s__law_is_due) (defBody s__law_is_due) (defScope s__law_is_due) .none kV21 dc21 pm21 an21 cd21 ct21), sl21⟩)
    (d21 : PySem.W.codeIn K cd21 "_law_is_due" = true)
    (k21 : PySem.W.keepIn K (.ref f__law_is_due) = true)
    (a22 : PySem.W.nsIn K mainGlobals "_law_letter" = some (some (.ref f__law_letter)))
    (l22 : K.lookup f__law_letter = some ⟨oc22, od22, .func (PySem.W.fnOf "_law_letter" "_law_letter" (defArgs s__law_letter) (defBody s__law_letter) (defScope s__law_letter) .none kV22 dc22 pm22 an22 cd22 ct22), sl22⟩)
    (d22 : PySem.W.codeIn K cd22 "_law_letter" = true)
    (k22 : PySem.W.keepIn K (.ref f__law_letter) = true)
    (a23 : PySem.W.nsIn K mainGlobals "_law_told" = some (some (.ref f__law_told)))
    (l23 : K.lookup f__law_told = some ⟨oc23, od23, .func (PySem.W.fnOf "_law_told" "_law_told" (defArgs s__law_told) (defBody s__law_told) (defScope s__law_told) .none kV23 dc23 pm23 an23 cd23 ct23), sl23⟩)
    (d23 : PySem.W.codeIn K cd23 "_law_told" = true)
    (k23 : PySem.W.keepIn K (.ref f__law_told) = true)
    (a24 : PySem.W.nsIn K mainGlobals "_law_stands" = some (some (.ref f__law_stands)))
    (l24 : K.lookup f__law_stands = some ⟨oc24, od24, .func (PySem.W.fnOf "_law_stands" "_law_stands" (defArgs s__law_stands) (defBody s__law_stands) (defScope s__law_stands) .none kV24 dc24 pm24 an24 cd24 ct24), sl24⟩)
    (d24 : PySem.W.codeIn K cd24 "_law_stands" = true)
    (k24 : PySem.W.keepIn K (.ref f__law_stands) = true)
    (a25 : PySem.W.nsIn K mainGlobals "_law_step" = some (some (.ref f__law_step)))
    (l25 : K.lookup f__law_step = some ⟨oc25, od25, .func (PySem.W.fnOf "_law_step" "_law_step" (defArgs s__law_step) (defBody s__law_step) (defScope s__law_step) .none kV25 dc25 pm25 an25 cd25 ct25), sl25⟩)
    (d25 : PySem.W.codeIn K cd25 "_law_step" = true)
    (k25 : PySem.W.keepIn K (.ref f__law_step) = true)
    (a26 : PySem.W.nsIn K mainGlobals "law" = some (some (.ref f_law)))
    (l26 : K.lookup f_law = some ⟨oc26, od26, .func (PySem.W.fnOf "law" "law" (defArgs s_law) (defBody s_law) (defScope s_law) .none kV26 dc26 pm26 an26 cd26 ct26), sl26⟩)
    (d26 : PySem.W.codeIn K cd26 "law" = true)
    (k26 : PySem.W.keepIn K (.ref f_law) = true)
    (p27 : PySem.W.plainGet K c_Hand Str.empty = true)
    (h27 : PySem.W.hasDictIn K c_Hand = true)
    (o27 : PySem.W.plainOver K c_Hand = true)
    (s27 : PySem.W.findIn K (.ref c_Hand) "__setattr__" = some (some (.builtin "object.__setattr__")))
    (n28 : PySem.W.findIn K (.ref c_Hand) "number" = some none)
    (n29 : PySem.W.findIn K (.ref c_Hand) "awake" = some none)
    (n30 : PySem.W.findIn K (.ref c_Hand) "beaten" = some none)
    (n31 : PySem.W.findIn K (.ref c_Hand) "crowned" = some none)
    (n32 : PySem.W.findIn K (.ref c_Hand) "at" = some none)
    (n33 : PySem.W.findIn K (.ref c_Hand) "far" = some none)
    (n34 : PySem.W.findIn K (.ref c_Hand) "came" = some none)
    (n35 : PySem.W.findIn K (.ref c_Hand) "known" = some none)
    (z36 : PySem.W.nsIn K mainGlobals "all" = some none)
    (z37 : PySem.W.nsIn K mainGlobals "bool" = some none)
    (z38 : PySem.W.nsIn K mainGlobals "int" = some none)
    (z39 : PySem.W.nsIn K mainGlobals "isinstance" = some none)
    (z40 : PySem.W.nsIn K mainGlobals "len" = some none)
    (z41 : PySem.W.nsIn K mainGlobals "list" = some none)
    (z42 : PySem.W.nsIn K mainGlobals "max" = some none)
    (z43 : PySem.W.nsIn K mainGlobals "min" = some none)
    (z44 : PySem.W.nsIn K mainGlobals "range" = some none)
    (z45 : PySem.W.nsIn K mainGlobals "str" = some none)
    (z46 : PySem.W.nsIn K mainGlobals "tuple" = some none)
    (c47 : PySem.W.nsIn K mainGlobals "RIGHT" = some (some (.int (1) tc47)))
    (c48 : PySem.W.nsIn K mainGlobals "LEFT" = some (some (.int (-1) tc48))) :
    ∃ A : Adr, Txt K mg A := by
  refine ⟨⟨c_Hand, f_Hand___init__, PySem.W.fnOf "__init__" "Hand.__init__" (defArgs s_Hand___init__) (defBody s_Hand___init__) (defScope s_Hand___init__) .none kV1 dc1 pm1 an1 cd1 ct1, f_Hand_is_awake, PySem.W.fnOf "is_awake" "Hand.is_awake" (defArgs s_Hand_is_awake) (defBody s_Hand_is_awake) (defScope s_Hand_is_awake) .none kV2 dc2 pm2 an2 cd2 ct2, f_Hand_is_first, PySem.W.fnOf "is_first" "Hand.is_first" (defArgs s_Hand_is_first) (defBody s_Hand_is_first) (defScope s_Hand_is_first) .none kV3 dc3 pm3 an3 cd3 ct3, f_Hand_stage, PySem.W.fnOf "stage" "Hand.stage" (defArgs s_Hand_stage) (defBody s_Hand_stage) (defScope s_Hand_stage) .none kV4 dc4 pm4 an4 cd4 ct4, f_Hand_knows, PySem.W.fnOf "knows" "Hand.knows" (defArgs s_Hand_knows) (defBody s_Hand_knows) (defScope s_Hand_knows) .none kV5 dc5 pm5 an5 cd5 ct5, f_Hand_asks, PySem.W.fnOf "asks" "Hand.asks" (defArgs s_Hand_asks) (defBody s_Hand_asks) (defScope s_Hand_asks) .none kV6 dc6 pm6 an6 cd6 ct6, f_Hand_wake, PySem.W.fnOf "wake" "Hand.wake" (defArgs s_Hand_wake) (defBody s_Hand_wake) (defScope s_Hand_wake) .none kV7 dc7 pm7 an7 cd7 ct7, f_Hand_take, PySem.W.fnOf "take" "Hand.take" (defArgs s_Hand_take) (defBody s_Hand_take) (defScope s_Hand_take) .none kV8 dc8 pm8 an8 cd8 ct8, f_Hand_asked, PySem.W.fnOf "asked" "Hand.asked" (defArgs s_Hand_asked) (defBody s_Hand_asked) (defScope s_Hand_asked) .none kV9 dc9 pm9 an9 cd9 ct9, f_Hand_answered, PySem.W.fnOf "answered" "Hand.answered" (defArgs s_Hand_answered) (defBody s_Hand_answered) (defScope s_Hand_answered) .none kV10 dc10 pm10 an10 cd10 ct10, f_Hand_told, PySem.W.fnOf "told" "Hand.told" (defArgs s_Hand_told) (defBody s_Hand_told) (defScope s_Hand_told) .none kV11 dc11 pm11 an11 cd11 ct11, f__law_cell_at, PySem.W.fnOf "_law_cell_at" "_law_cell_at" (defArgs s__law_cell_at) (defBody s__law_cell_at) (defScope s__law_cell_at) .none kV12 dc12 pm12 an12 cd12 ct12, f__law_whole, PySem.W.fnOf "_law_whole" "_law_whole" (defArgs s__law_whole) (defBody s__law_whole) (defScope s__law_whole) .none kV13 dc13 pm13 an13 cd13 ct13, f__law_letters, PySem.W.fnOf "_law_letters" "_law_letters" (defArgs s__law_letters) (defBody s__law_letters) (defScope s__law_letters) .none kV14 dc14 pm14 an14 cd14 ct14, f__law_truth, PySem.W.fnOf "_law_truth" "_law_truth" (defArgs s__law_truth) (defBody s__law_truth) (defScope s__law_truth) .none kV15 dc15 pm15 an15 cd15 ct15, f__law_start, PySem.W.fnOf "_law_start" "_law_start" (defArgs s__law_start) (defBody s__law_start) (defScope s__law_start) .none kV16 dc16 pm16 an16 cd16 ct16, f__law_asks, PySem.W.fnOf "_law_asks" "_law_asks" (defArgs s__law_asks) (defBody s__law_asks) (defScope s__law_asks) .none kV17 dc17 pm17 an17 cd17 ct17, f__law_woken, PySem.W.fnOf "_law_woken" "_law_woken" (defArgs s__law_woken) (defBody s__law_woken) (defScope s__law_woken) .none kV18 dc18 pm18 an18 cd18 ct18, f__law_taken, PySem.W.fnOf "_law_taken" "_law_taken" (defArgs s__law_taken) (defBody s__law_taken) (defScope s__law_taken) .none kV19 dc19 pm19 an19 cd19 ct19, f__law_number, PySem.W.fnOf "_law_number" "_law_number" (defArgs s__law_number) (defBody s__law_number) (defScope s__law_number) .none kV20 dc20 pm20 an20 cd20 ct20, f__law_is_due, PySem.W.fnOf "_law_is_due" "_law_is_due" (defArgs s__law_is_due) (defBody s__law_is_due) (defScope s__law_is_due) .none kV21 dc21 pm21 an21 cd21 ct21, f__law_letter, PySem.W.fnOf "_law_letter" "_law_letter" (defArgs s__law_letter) (defBody s__law_letter) (defScope s__law_letter) .none kV22 dc22 pm22 an22 cd22 ct22, f__law_told, PySem.W.fnOf "_law_told" "_law_told" (defArgs s__law_told) (defBody s__law_told) (defScope s__law_told) .none kV23 dc23 pm23 an23 cd23 ct23, f__law_stands, PySem.W.fnOf "_law_stands" "_law_stands" (defArgs s__law_stands) (defBody s__law_stands) (defScope s__law_stands) .none kV24 dc24 pm24 an24 cd24 ct24, f__law_step, PySem.W.fnOf "_law_step" "_law_step" (defArgs s__law_step) (defBody s__law_step) (defScope s__law_step) .none kV25 dc25 pm25 an25 cd25 ct25, f_law, PySem.W.fnOf "law" "law" (defArgs s_law) (defBody s_law) (defScope s_law) .none kV26 dc26 pm26 an26 cd26 ct26⟩, ?_⟩
  exact {
    mg_Hand := PySem.W.mg_of X G g0,
    fun_Hand___init__ := fun_mk (st := s_Hand___init__) l1 d1 k1,
    b_Hand___init__ := (fun_mk (st := s_Hand___init__) l1 d1 k1).binds (ps := ["self", "number"]) fun _ _ _ _ _ _ us hl => match us, hl with | [_, _], _ => rfl,
    mk_Hand := ⟨m1, a1, i1, q1⟩,
    fun_Hand_is_awake := fun_mk (st := s_Hand_is_awake) l2 d2 k2,
    b_Hand_is_awake := (fun_mk (st := s_Hand_is_awake) l2 d2 k2).binds (ps := ["self"]) fun _ _ _ _ _ _ us hl => match us, hl with | [_], _ => rfl,
    mt_Hand_is_awake := ⟨a2, i2, k2⟩,
    fun_Hand_is_first := fun_mk (st := s_Hand_is_first) l3 d3 k3,
    b_Hand_is_first := (fun_mk (st := s_Hand_is_first) l3 d3 k3).binds (ps := ["self"]) fun _ _ _ _ _ _ us hl => match us, hl with | [_], _ => rfl,
    mt_Hand_is_first := ⟨a3, i3, k3⟩,
    fun_Hand_stage := fun_mk (st := s_Hand_stage) l4 d4 k4,
    b_Hand_stage := (fun_mk (st := s_Hand_stage) l4 d4 k4).binds (ps := ["self"]) fun _ _ _ _ _ _ us hl => match us, hl with | [_], _ => rfl,
    mt_Hand_stage := ⟨a4, i4, k4⟩,
    fun_Hand_knows := fun_mk (st := s_Hand_knows) l5 d5 k5,
    b_Hand_knows := (fun_mk (st := s_Hand_knows) l5 d5 k5).binds (ps := ["self"]) fun _ _ _ _ _ _ us hl => match us, hl with | [_], _ => rfl,
    mt_Hand_knows := ⟨a5, i5, k5⟩,
    fun_Hand_asks := fun_mk (st := s_Hand_asks) l6 d6 k6,
    b_Hand_asks := (fun_mk (st := s_Hand_asks) l6 d6 k6).binds (ps := ["self"]) fun _ _ _ _ _ _ us hl => match us, hl with | [_], _ => rfl,
    mt_Hand_asks := ⟨a6, i6, k6⟩,
    fun_Hand_wake := fun_mk (st := s_Hand_wake) l7 d7 k7,
    b_Hand_wake := (fun_mk (st := s_Hand_wake) l7 d7 k7).binds (ps := ["self"]) fun _ _ _ _ _ _ us hl => match us, hl with | [_], _ => rfl,
    mt_Hand_wake := ⟨a7, i7, k7⟩,
    fun_Hand_take := fun_mk (st := s_Hand_take) l8 d8 k8,
    b_Hand_take := (fun_mk (st := s_Hand_take) l8 d8 k8).binds (ps := ["self", "letter"]) fun _ _ _ _ _ _ us hl => match us, hl with | [_, _], _ => rfl,
    mt_Hand_take := ⟨a8, i8, k8⟩,
    fun_Hand_asked := fun_mk (st := s_Hand_asked) l9 d9 k9,
    b_Hand_asked := (fun_mk (st := s_Hand_asked) l9 d9 k9).binds (ps := ["self", "letter"]) fun _ _ _ _ _ _ us hl => match us, hl with | [_, _], _ => rfl,
    mt_Hand_asked := ⟨a9, i9, k9⟩,
    fun_Hand_answered := fun_mk (st := s_Hand_answered) l10 d10 k10,
    b_Hand_answered := (fun_mk (st := s_Hand_answered) l10 d10 k10).binds (ps := ["self", "letter"]) fun _ _ _ _ _ _ us hl => match us, hl with | [_, _], _ => rfl,
    mt_Hand_answered := ⟨a10, i10, k10⟩,
    fun_Hand_told := fun_mk (st := s_Hand_told) l11 d11 k11,
    b_Hand_told := (fun_mk (st := s_Hand_told) l11 d11 k11).binds (ps := ["self", "letter"]) fun _ _ _ _ _ _ us hl => match us, hl with | [_, _], _ => rfl,
    mt_Hand_told := ⟨a11, i11, k11⟩,
    mg__law_cell_at := PySem.W.mg_of X G a12,
    fun__law_cell_at := fun_mk (st := s__law_cell_at) l12 d12 k12,
    b__law_cell_at := (fun_mk (st := s__law_cell_at) l12 d12 k12).binds (ps := ["_law_script", "_law_k"]) fun _ _ _ _ _ _ us hl => match us, hl with | [_, _], _ => rfl,
    mg__law_whole := PySem.W.mg_of X G a13,
    fun__law_whole := fun_mk (st := s__law_whole) l13 d13 k13,
    b__law_whole := (fun_mk (st := s__law_whole) l13 d13 k13).binds (ps := ["_law_found"]) fun _ _ _ _ _ _ us hl => match us, hl with | [_], _ => rfl,
    mg__law_letters := PySem.W.mg_of X G a14,
    fun__law_letters := fun_mk (st := s__law_letters) l14 d14 k14,
    b__law_letters := (fun_mk (st := s__law_letters) l14 d14 k14).binds (ps := ["_law_found", "_law_due"]) fun _ _ _ _ _ _ us hl => match us, hl with | [_, _], _ => rfl,
    mg__law_truth := PySem.W.mg_of X G a15,
    fun__law_truth := fun_mk (st := s__law_truth) l15 d15 k15,
    b__law_truth := (fun_mk (st := s__law_truth) l15 d15 k15).binds (ps := ["_law_found", "_law_due"]) fun _ _ _ _ _ _ us hl => match us, hl with | [_, _], _ => rfl,
    mg__law_start := PySem.W.mg_of X G a16,
    fun__law_start := fun_mk (st := s__law_start) l16 d16 k16,
    b__law_start := (fun_mk (st := s__law_start) l16 d16 k16).binds (ps := ["_law_number_here"]) fun _ _ _ _ _ _ us hl => match us, hl with | [_], _ => rfl,
    mg__law_asks := PySem.W.mg_of X G a17,
    fun__law_asks := fun_mk (st := s__law_asks) l17 d17 k17,
    b__law_asks := (fun_mk (st := s__law_asks) l17 d17 k17).binds (ps := ["_law_state"]) fun _ _ _ _ _ _ us hl => match us, hl with | [_], _ => rfl,
    mg__law_woken := PySem.W.mg_of X G a18,
    fun__law_woken := fun_mk (st := s__law_woken) l18 d18 k18,
    b__law_woken := (fun_mk (st := s__law_woken) l18 d18 k18).binds (ps := ["_law_state"]) fun _ _ _ _ _ _ us hl => match us, hl with | [_], _ => rfl,
    mg__law_taken := PySem.W.mg_of X G a19,
    fun__law_taken := fun_mk (st := s__law_taken) l19 d19 k19,
    b__law_taken := (fun_mk (st := s__law_taken) l19 d19 k19).binds (ps := ["_law_state", "_law_letter_here"]) fun _ _ _ _ _ _ us hl => match us, hl with | [_, _], _ => rfl,
    mg__law_number := PySem.W.mg_of X G a20,
    fun__law_number := fun_mk (st := s__law_number) l20 d20 k20,
    b__law_number := (fun_mk (st := s__law_number) l20 d20 k20).binds (ps := ["_law_cell", "_law_state"]) fun _ _ _ _ _ _ us hl => match us, hl with | [_, _], _ => rfl,
    mg__law_is_due := PySem.W.mg_of X G a21,
    fun__law_is_due := fun_mk (st := s__law_is_due) l21 d21 k21,
    b__law_is_due := (fun_mk (st := s__law_is_due) l21 d21 k21).binds (ps := ["_law_state"]) fun _ _ _ _ _ _ us hl => match us, hl with | [_], _ => rfl,
    mg__law_letter := PySem.W.mg_of X G a22,
    fun__law_letter := fun_mk (st := s__law_letter) l22 d22 k22,
    b__law_letter := (fun_mk (st := s__law_letter) l22 d22 k22).binds (ps := ["_law_state", "_law_cell", "_law_more"]) fun _ _ _ _ _ _ us hl => match us, hl with | [_, _, _], _ => rfl,
    mg__law_told := PySem.W.mg_of X G a23,
    fun__law_told := fun_mk (st := s__law_told) l23 d23 k23,
    b__law_told := (fun_mk (st := s__law_told) l23 d23 k23).binds (ps := ["_law_hand", "_law_state", "_law_which"]) fun _ _ _ _ _ _ us hl => match us, hl with | [_, _, _], _ => rfl,
    mg__law_stands := PySem.W.mg_of X G a24,
    fun__law_stands := fun_mk (st := s__law_stands) l24 d24 k24,
    b__law_stands := (fun_mk (st := s__law_stands) l24 d24 k24).binds (ps := ["_law_hand", "_law_state", "_law_turn"]) fun _ _ _ _ _ _ us hl => match us, hl with | [_, _, _], _ => rfl,
    mg__law_step := PySem.W.mg_of X G a25,
    fun__law_step := fun_mk (st := s__law_step) l25 d25 k25,
    b__law_step := (fun_mk (st := s__law_step) l25 d25 k25).binds (ps := ["_law_hand", "_law_state", "_law_cell", "_law_more", "_law_held"]) fun _ _ _ _ _ _ us hl => match us, hl with | [_, _, _, _, _], _ => rfl,
    mg_law := PySem.W.mg_of X G a26,
    fun_law := fun_mk (st := s_law) l26 d26 k26,
    b_law := (fun_mk (st := s_law) l26 d26 k26).binds (ps := ["_law_script"]) fun _ _ _ _ _ _ us hl => match us, hl with | [_], _ => rfl,
    cl_Hand := ⟨p27, h27, o27, s27⟩,
    at_Hand_number := n28,
    at_Hand_awake := n29,
    at_Hand_beaten := n30,
    at_Hand_crowned := n31,
    at_Hand_at := n32,
    at_Hand_far := n33,
    at_Hand_came := n34,
    at_Hand_known := n35,
    no_all := PySem.W.mg_none_of X G z36,
    no_bool := PySem.W.mg_none_of X G z37,
    no_int := PySem.W.mg_none_of X G z38,
    no_isinstance := PySem.W.mg_none_of X G z39,
    no_len := PySem.W.mg_none_of X G z40,
    no_list := PySem.W.mg_none_of X G z41,
    no_max := PySem.W.mg_none_of X G z42,
    no_min := PySem.W.mg_none_of X G z43,
    no_range := PySem.W.mg_none_of X G z44,
    no_str := PySem.W.mg_none_of X G z45,
    no_tuple := PySem.W.mg_none_of X G z46,
    mg_RIGHT := ⟨_, PySem.W.mg_of X G c47⟩,
    mg_LEFT := ⟨_, PySem.W.mg_of X G c48⟩ }
local macro_rules | `(tactic| walk_at "rd1") => `(tactic| first
  | (with_reducible refine rd_seq ?_)
  | (with_reducible refine rd_asg ?_)
  | (with_reducible refine rd_if ?_)
  | ((with_reducible refine' rd_var ?e ?_); (case e => rfl))
  | (with_reducible refine rd_c ?_)
  | (with_reducible refine rd_op ?_)
  | (with_reducible refine rd_I0 ?_)
  | ((with_reducible refine rd_I ?e ?_); case e => first | exact (show (0 : Int) < _ by decide) | exact (show _ ∧ _ from ⟨by decide, by decide⟩) | exact Or.inl ⟨by decide, by decide⟩ | exact Or.inr ⟨by decide, by decide⟩)
  | (with_reducible refine rd_eqI ?_)
  | (with_reducible refine rd_neI ?_)
  | (with_reducible refine rd_bl ?_)
  | (with_reducible refine rd_test ?_)
  | (with_reducible refine rd_and ?_)
  | (with_reducible refine rd_or ?_)
  | (with_reducible refine rd_not ?_)
  | (with_reducible refine rd_andV ?_)
  | (with_reducible refine rd_orV ?_)
  | (with_reducible refine rd_notV ?_)
  | (with_reducible refine rd_B ?_)
  | (with_reducible refine rd_ifE ?_)
  | (with_reducible refine rd_cons ?_)
  | (with_reducible refine rd_nil ?_)
  | (with_reducible refine rd_CB ?_)
  | (with_reducible refine rd_call ?_)
  | (with_reducible refine rd_callS ?_)
  | (with_reducible refine rd_meth ?_)
  | (with_reducible refine rd_mk ?_)
  | (with_reducible refine rd_lst ?_)
  | (with_reducible refine rd_tup ?_)
  | (with_reducible refine rd_un ?_)
  | (with_reducible refine rd_U ?_)
  | (with_reducible refine rd_tFld ?_)
  | (with_reducible refine rd_sFld ?_)
  | (with_reducible refine rd_methW ?_)
  | (with_reducible refine rd_abs ?_)
  | (with_reducible refine rd_int1 ?_)
  | (with_reducible refine rd_isNo ?_)
  | (with_reducible refine rd_notNo ?_)
  | (with_reducible refine rd_isBo ?_)
  | (with_reducible refine rd_notBo ?_)
  | (with_reducible refine rd_forL ?_)
  | (with_reducible refine rd_forT ?_)
  | (with_reducible refine rd_forR1 ?_)
  | (with_reducible refine rd_forR2 ?_)
  | (with_reducible refine rd_lcL ?_)
  | (with_reducible refine rd_lcT ?_)
  | (with_reducible refine rd_lcR1 ?_)
  | (with_reducible refine rd_chain ?_)
  | (with_reducible refine rd_ret ?_)
  | (with_reducible refine rd_retN ?_)
  | (with_reducible refine rd_drop ?_)
  | (with_reducible refine rd_next ?_)
  | (with_reducible refine rd_asgG ?_)
  | (with_reducible refine rd_pop ?_)
  | (with_reducible refine rd_makeW ?_)
  | (with_reducible refine rd_min2 ?_)
  | (with_reducible refine rd_tLenSet ?_)
  | (with_reducible refine rd_sl ?_)
  | (with_reducible refine rd_tPart ?_)
  | (with_reducible refine rd_part ?_)
  | (with_reducible refine rd_nopart ?_)
  | (with_reducible refine rd_bm0 ?_)
  | (with_reducible refine rd_dget ?_)
  | (with_reducible refine rd_dput ?_)
  | (with_reducible refine rd_forR3 ?_)
  | (with_reducible refine iteNT ?_)
  | (with_reducible refine iteNF ?_)
  | (with_reducible refine iteF ?_)
  | (with_reducible refine iteT ?_))
local macro_rules | `(tactic| walk_at "rd") => `(tactic| repeat (walk_at "rd1"))

section
variable {P : Program} {w : World} {K : PySem.W.Frag} {mg : Str → Option Value} {base : Heap} {A : Adr}
/-! ### the hand -/
theorem sc_Hand___init__ : FnScope ["self", "number"] ["self", "number"] (defScope s_Hand___init__) := ⟨rfl, rfl, rfl, by decide +kernel, rfl, by decide +kernel, by decide +kernel⟩
theorem ok_Hand_init (T : Txt K mg A) : FnOk P w K mg base CX0 1 A.f_Hand___init__ A.fd_Hand___init__ ["self", "number"] (spHNew A.c_Hand) := by
  refine T.fun_Hand___init__.ok sc_Hand___init__ (fun vs H Q E h => ?_) (fun cdv Ar outer s H vs Q E hr h => ?_)
  · obtain ⟨p, dx, k, rfl, _⟩ := h
    rfl
  · obtain ⟨p, dx, k, rfl, hp, q⟩ := h
    refine ⟨_, (pss_cons (ps_fld (pv 0) (pv 1) rfl)
      (pss_cons (ps_fld (pv 0) pe_bl rfl)
      (pss_cons (ps_fld (pv 0) pe_bl rfl)
      (pss_cons (ps_fld (pv 0) pe_bl rfl)
      (pss_cons (ps_fld (pv 0) pe_int rfl)
      (pss_cons (ps_fld (pv 0) pe_int rfl)
      (pss_cons (ps_fld (pv 0) pe_int rfl)
      (pss_one (ps_fld (pv 0) pe_non rfl))))))))), ?_⟩
    walk_at "rd"
    refine rd_put hp T.cl_Hand T.at_Hand_number (by show 0 < 1000; decide) ?_
    walk_at "rd"
    refine rd_put upd_same T.cl_Hand T.at_Hand_awake (by show 1 < 1000; decide) ?_
    walk_at "rd"
    refine rd_put upd_same T.cl_Hand T.at_Hand_beaten (by show 2 < 1000; decide) ?_
    walk_at "rd"
    refine rd_put upd_same T.cl_Hand T.at_Hand_crowned (by show 3 < 1000; decide) ?_
    walk_at "rd"
    refine rd_put upd_same T.cl_Hand T.at_Hand_at (by show 4 < 1000; decide) ?_
    walk_at "rd"
    refine rd_put upd_same T.cl_Hand T.at_Hand_far (by show 5 < 1000; decide) ?_
    walk_at "rd"
    refine rd_put upd_same T.cl_Hand T.at_Hand_came (by show 6 < 1000; decide) ?_
    walk_at "rd"
    refine rd_put upd_same T.cl_Hand T.at_Hand_known (by show 7 < 1000; decide) ?_
    rw [upd_upd, upd_upd, upd_upd, upd_upd, upd_upd, upd_upd, upd_upd]
    exact q
theorem sc_Hand_is_awake : FnScope ["self"] ["self"] (defScope s_Hand_is_awake) := ⟨rfl, rfl, rfl, by decide +kernel, rfl, by decide +kernel, by decide +kernel⟩
theorem ok_Hand_is_awake (T : Txt K mg A) : FnOk P w K mg base CX0 1 A.f_Hand_is_awake A.fd_Hand_is_awake ["self"] (spHAsk A.c_Hand fun h => .bl h.awake) := by
  refine T.fun_Hand_is_awake.ok sc_Hand_is_awake (fun vs H Q E h => ?_) (fun cdv Ar outer s H vs Q E hr h => ?_)
  · obtain ⟨p, dx, h, rfl, _⟩ := h
    rfl
  · obtain ⟨p, dx, h, rfl, hp, q⟩ := h
    refine ⟨_, (pss_one (ps_ret (pe_fld (pv 0) rfl))), ?_⟩
    walk_at "rd"
    exact rd_fld hp T.cl_Hand T.at_Hand_awake rfl q
theorem sc_Hand_is_first : FnScope ["self"] ["self"] (defScope s_Hand_is_first) := ⟨rfl, rfl, rfl, by decide +kernel, rfl, by decide +kernel, by decide +kernel⟩
theorem ok_Hand_is_first (T : Txt K mg A) : FnOk P w K mg base CX0 1 A.f_Hand_is_first A.fd_Hand_is_first ["self"] (spHAsk A.c_Hand fun h => .bl h.crowned) := by
  refine T.fun_Hand_is_first.ok sc_Hand_is_first (fun vs H Q E h => ?_) (fun cdv Ar outer s H vs Q E hr h => ?_)
  · obtain ⟨p, dx, h, rfl, _⟩ := h
    rfl
  · obtain ⟨p, dx, h, rfl, hp, q⟩ := h
    refine ⟨_, (pss_one (ps_ret (pe_fld (pv 0) rfl))), ?_⟩
    walk_at "rd"
    exact rd_fld hp T.cl_Hand T.at_Hand_crowned rfl q
theorem sc_Hand_stage : FnScope ["self"] ["self"] (defScope s_Hand_stage) := ⟨rfl, rfl, rfl, by decide +kernel, rfl, by decide +kernel, by decide +kernel⟩
theorem ok_Hand_stage (T : Txt K mg A) : FnOk P w K mg base CX0 1 A.f_Hand_stage A.fd_Hand_stage ["self"] (spHAsk A.c_Hand stageV) := by
  refine T.fun_Hand_stage.ok sc_Hand_stage (fun vs H Q E h => ?_) (fun cdv Ar outer s H vs Q E hr h => ?_)
  · obtain ⟨p, dx, h, rfl, _⟩ := h
    rfl
  · obtain ⟨p, dx, h, rfl, hp, q⟩ := h
    refine ⟨_, (pss_cons (ps_if (pt_val (pe_fld (pv 0) rfl)) (pss_one (ps_ret (pe_fld (pv 0) rfl))) pss_nil)
      (pss_one (ps_ret pe_non))), ?_⟩
    walk_at "rd"
    refine rd_fld hp T.cl_Hand T.at_Hand_awake rfl ?_
    walk_at "rd"
    unfold stageV at q
    refine rd_ite (fun z => ?_) (fun z => ?_)
    · rw [if_pos z] at q
      walk_at "rd"
      exact rd_fld hp T.cl_Hand T.at_Hand_at rfl q
    · rw [if_neg (by rw [z]; exact Bool.false_ne_true)] at q
      walk_at "rd"
      exact q
theorem sc_Hand_knows : FnScope ["self"] ["self"] (defScope s_Hand_knows) := ⟨rfl, rfl, rfl, by decide +kernel, rfl, by decide +kernel, by decide +kernel⟩
theorem ok_Hand_knows (T : Txt K mg A) : FnOk P w K mg base CX0 1 A.f_Hand_knows A.fd_Hand_knows ["self"] (spHAsk A.c_Hand fun h => kV h.known) := by
  refine T.fun_Hand_knows.ok sc_Hand_knows (fun vs H Q E h => ?_) (fun cdv Ar outer s H vs Q E hr h => ?_)
  · obtain ⟨p, dx, h, rfl, _⟩ := h
    rfl
  · obtain ⟨p, dx, h, rfl, hp, q⟩ := h
    refine ⟨_, (pss_one (ps_ret (pe_fld (pv 0) rfl))), ?_⟩
    walk_at "rd"
    exact rd_fld hp T.cl_Hand T.at_Hand_known rfl q
theorem sc_Hand_asks : FnScope ["self", "way"] ["self"] (defScope s_Hand_asks) := ⟨rfl, rfl, rfl, by decide +kernel, rfl, by decide +kernel, by decide +kernel⟩
theorem ok_Hand_asks (T : Txt K mg A) : FnOk P w K mg base CX0 1 A.f_Hand_asks A.fd_Hand_asks ["self"] (spHAsks A.c_Hand) := by
  refine T.fun_Hand_asks.ok sc_Hand_asks (fun vs H Q E h => ?_) (fun cdv Ar outer s H vs Q E hr h => ?_)
  · obtain ⟨p, dx, h, rfl, _⟩ := h
    rfl
  · obtain ⟨p, dx, h, rfl, hp, q⟩ := h
    refine ⟨_, (pss_one (ps_ret (pe_lc (own := [("way", 1)]) (g := gName 1) (by rfl) sc_Hand_asks.nd (pi_tup (pe_tup (pa_cons (pe_gint rfl T.mg_RIGHT) (pa_cons (pe_gint rfl T.mg_LEFT) pa_nil)))) (blkOk_by (own := [("way", 1)]) (N := ["self", "way"]) (sc := defScope s_Hand_asks) (by decide +kernel)) (fun _ _ _ _ _ => pg_name (i := 1) sc_Hand_asks.nd rfl (Or.inl rfl)) (fun _ _ _ _ _ => pts_nil) (fun _ _ _ _ _ => by exact (pe_tup (pa_cons (pv 1) (pa_cons pe_str (pa_cons (pe_fldK (K := K) rfl (pv 0) (by rfl)) (pa_cons (pe_fldK (K := K) rfl (pv 0) (by rfl)) (pa_cons (pe_fldK (K := K) rfl (pv 0) (by rfl)) pa_nil)))))))))), ?_⟩
    walk_at "rd"
    refine ⟨(by show 2 ≤ sizeLine; decide), fun t ht => ?_⟩
    refine lc_TU (f := lV) (zs := h.asks) (SqT.of upd_same) rfl (by show 2 ≤ 40000; decide) ?_ ?_
    · intro i x z H1 e1 hi hz H2 e2 Q2 q2
      have hp2 : H2 p = some (.ins A.c_Hand dx (hf h)) := e2 _ _ (e1 _ _ (Ex.new ht _ _ hp))
      walk_at "rd"
      refine rd_fld hp2 T.cl_Hand T.at_Hand_number rfl ?_
      walk_at "rd"
      refine rd_fld hp2 T.cl_Hand T.at_Hand_at rfl ?_
      walk_at "rd"
      refine rd_fld hp2 T.cl_Hand T.at_Hand_far rfl ?_
      walk_at "rd"
      refine ⟨(by show 5 ≤ sizeLine; decide), fun u hu => ?_⟩
      refine q2 u _ hu (Ex.new hu) ?_
      match i, hi, hz with
      | 0, hi, hz =>
        rw [← Option.some.inj hi, ← Option.some.inj hz]
        exact upd_same
      | 1, hi, hz =>
        rw [← Option.some.inj hi, ← Option.some.inj hz]
        exact upd_same
    · intro u ws H1 hu e1 h1 t1
      have e0 := (Ex.new (o := .tup [V.int 1, V.int (-1)]) ht).trans e1
      exact q u ws H1 (fresh_back (Ex.new ht) hu) h1 t1 (e0 _ _ hp) (But.ex e0)
theorem sc_Hand_wake : FnScope ["self"] ["self"] (defScope s_Hand_wake) := ⟨rfl, rfl, rfl, by decide +kernel, rfl, by decide +kernel, by decide +kernel⟩
theorem ok_Hand_wake (T : Txt K mg A) (G_Hand_asks : FnOk P w K mg base CX0 1 A.f_Hand_asks A.fd_Hand_asks ["self"] (spHAsks A.c_Hand)) : FnOk P w K mg base CX0 2 A.f_Hand_wake A.fd_Hand_wake ["self"] (spHWake A.c_Hand) := by
  refine T.fun_Hand_wake.ok sc_Hand_wake (fun vs H Q E h => ?_) (fun cdv Ar outer s H vs Q E hr h => ?_)
  · obtain ⟨p, dx, h, rfl, _⟩ := h
    rfl
  · obtain ⟨p, dx, h, rfl, hp, q⟩ := h
    refine ⟨_, (pss_cons (ps_if (pt_val (pe_fld (pv 0) rfl)) (pss_one (ps_ret (pe_lst pa_nil))) pss_nil)
      (pss_cons (ps_fld (pv 0) pe_bl rfl)
      (pss_one (ps_ret (pe_meth0 (pv 0) T.cl_Hand T.mt_Hand_asks G_Hand_asks (hr.mono (by decide)) T.b_Hand_asks .nil pass0))))), ?_⟩
    walk_at "rd"
    refine rd_fld hp T.cl_Hand T.at_Hand_awake rfl ?_
    walk_at "rd"
    refine rd_ite (fun z => ?_) (fun z => ?_)
    · walk_at "rd"
      refine ⟨Nat.zero_le _, fun l hl => ?_⟩
      refine q l [] _ hl upd_same ?_ ?_ (But.ex (Ex.new hl))
      · unfold Hd.wls; rw [if_pos z]; exact .nil
      · rw [RC.wk_awake z]; exact Ex.new hl _ _ hp
    · walk_at "rd"
      refine rd_put hp T.cl_Hand T.at_Hand_awake (by show 8 < 1000; decide) ?_
      walk_at "rd"
      refine rd_recv upd_same rfl ?_
      walk_at "rd"
      refine ⟨p, dx, h.wk, rfl, upd_same, ?_⟩
      intro l xs H' hl h1 t1 hp' b1
      have hpl : l ≠ p := fun e => by rw [e, upd_same] at hl; cases hl
      rw [upd_ne hpl] at hl
      refine q l xs H' hl h1 ?_ hp' (But.upd.trans b1)
      unfold Hd.wls
      rw [if_neg (by rw [z]; exact Bool.false_ne_true)]
      exact t1
theorem sc_Hand_told : FnScope ["self", "letter"] ["self", "letter"] (defScope s_Hand_told) := ⟨rfl, rfl, rfl, by decide +kernel, rfl, by decide +kernel, by decide +kernel⟩
theorem ok_Hand_told (T : Txt K mg A) : FnOk P w K mg base CX0 1 A.f_Hand_told A.fd_Hand_told ["self", "letter"] (spHLet A.c_Hand Hd.told) := by
  refine T.fun_Hand_told.ok sc_Hand_told (fun vs H Q E h => ?_) (fun cdv Ar outer s H vs Q E hr h => ?_)
  · obtain ⟨p, dx, a, h, l, rfl, _⟩ := h
    rfl
  · obtain ⟨p, dx, a, h, l, rfl, hp, ha, q⟩ := h
    refine ⟨_, (pss_cons (ps_if (pt_cmpR op_eq (pe_ix ix_tup (pv 1) pe_int (fun _ _ => rfl)) (pe_fld (pv 0) rfl) (nomark _)) (pss_one (ps_ret (pe_lst pa_nil))) pss_nil)
      (pss_cons (ps_fld (pv 0) (pe_ix ix_tup (pv 1) pe_int (fun _ _ => rfl)) rfl)
      (pss_one (ps_ret (pe_lst (pa_cons (pv 1) pa_nil)))))), ?_⟩
    walk_at "rd"
    refine rd_ixT (k := 2) (SqT.of ha) rfl rfl ?_
    walk_at "rd"
    refine rd_fld hp T.cl_Hand T.at_Hand_number rfl ?_
    walk_at "rd"
    unfold Hd.told at q
    refine rd_dec (fun z => ?_) (fun z => ?_)
    · rw [if_pos z] at q
      walk_at "rd"
      refine ⟨Nat.zero_le _, fun l hl => ?_⟩
      exact q l [] _ hl upd_same .nil (Ex.new hl _ _ hp) (But.ex (Ex.new hl))
    · rw [if_neg z] at q
      walk_at "rd"
      refine rd_ixT (k := 2) (SqT.of ha) rfl rfl ?_
      walk_at "rd"
      refine rd_put hp T.cl_Hand T.at_Hand_known (by show 8 < 1000; decide) ?_
      walk_at "rd"
      refine ⟨(by show 1 ≤ sizeLine; decide), fun u hu => ?_⟩
      have hup : u ≠ p := fun e => by rw [e, upd_same] at hu; cases hu
      have hu0 := hu
      rw [upd_ne hup] at hu0
      have ha' : upd H p (.ins A.c_Hand dx (hf { h with known := some l.num })) a = some (.tup (lV l)) := by rw [upd_ne (ne_ti ha hp)]; exact ha
      exact q u _ _ hu0 upd_same (.one (Ex.new hu _ _ ha')) (Ex.new hu _ _ upd_same) (But.upd.trans (But.ex (Ex.new hu)))
theorem sc_Hand_answered : FnScope ["self", "letter"] ["self", "letter"] (defScope s_Hand_answered) := ⟨rfl, rfl, rfl, by decide +kernel, rfl, by decide +kernel, by decide +kernel⟩
theorem ok_Hand_answered (T : Txt K mg A) (G_Hand_asks : FnOk P w K mg base CX0 1 A.f_Hand_asks A.fd_Hand_asks ["self"] (spHAsks A.c_Hand)) : FnOk P w K mg base CX0 2 A.f_Hand_answered A.fd_Hand_answered ["self", "letter"] (spHLet A.c_Hand Hd.answered) := by
  refine T.fun_Hand_answered.ok sc_Hand_answered (fun vs H Q E h => ?_) (fun cdv Ar outer s H vs Q E hr h => ?_)
  · obtain ⟨p, dx, a, h, l, rfl, _⟩ := h
    rfl
  · obtain ⟨p, dx, a, h, l, rfl, hp, ha, q⟩ := h
    refine ⟨_, (pss_cons (ps_if (pt_cmpR op_ne (pe_ix ix_tup (pv 1) pe_int (fun _ _ => rfl)) (pe_fld (pv 0) rfl) (nomark _)) (pss_one (ps_ret (pe_lst (pa_cons (pv 1) pa_nil)))) pss_nil)
      (pss_cons (ps_fld (pv 0) (pe_op op_add (pe_fld (pv 0) rfl) pe_int) rfl)
      (pss_cons (ps_if (PW.pt (pw_or (pt_cmpR op_lt (pe_fld (pv 0) rfl) pe_int (nomark _)) (pw_or1 (pt_val (pe_fld (pv 0) rfl))))) (pss_one (ps_ret (pe_lst pa_nil))) pss_nil)
      (pss_cons (ps_fld (pv 0) pe_int rfl)
      (pss_cons (ps_fld (pv 0) (pe_op op_add (pe_fld (pv 0) rfl) pe_int) rfl)
      (pss_cons (ps_fld (pv 0) (pe_op op_mul pe_int (pe_fld (pv 0) rfl)) rfl)
      (pss_one (ps_ret (pe_meth0 (pv 0) T.cl_Hand T.mt_Hand_asks G_Hand_asks (hr.mono (by decide)) T.b_Hand_asks .nil pass0))))))))), ?_⟩
    walk_at "rd"
    refine rd_ixT (k := 2) (SqT.of ha) rfl rfl ?_
    walk_at "rd"
    refine rd_fld hp T.cl_Hand T.at_Hand_number rfl ?_
    walk_at "rd"
    unfold Hd.answered at q
    refine rd_ndec (fun z => ?_) (fun z => ?_)
    · rw [if_pos z] at q
      walk_at "rd"
      refine ⟨(by show 1 ≤ sizeLine; decide), fun u hu => ?_⟩
      exact q u _ _ hu upd_same (.one (Ex.new hu _ _ ha)) (Ex.new hu _ _ hp) (But.ex (Ex.new hu))
    · rw [if_neg (fun n => n z)] at q
      walk_at "rd"
      refine rd_fld hp T.cl_Hand T.at_Hand_came rfl ?_
      walk_at "rd"
      refine rd_put hp T.cl_Hand T.at_Hand_came (by show 8 < 1000; decide) ?_
      walk_at "rd"
      refine rd_fld upd_same T.cl_Hand T.at_Hand_came rfl ?_
      walk_at "rd"
      have fin1 : (h.came + 1 < 2 ∨ h.beaten = true) → ∀ u, upd H p (.ins A.c_Hand dx (hf { h with came := h.came + 1 })) u = none → Q (.ref u) (upd (upd H p (.ins A.c_Hand dx (hf { h with came := h.came + 1 }))) u (.lst [])) := by
        intro c u hu
        rw [if_pos c] at q
        have hup : u ≠ p := fun e => by rw [e, upd_same] at hu; cases hu
        have hu0 := hu
        rw [upd_ne hup] at hu0
        exact q u _ _ hu0 upd_same .nil (Ex.new hu _ _ upd_same) (But.upd.trans (But.ex (Ex.new hu)))
      refine rd_dec (fun c => ?_) (fun c => ?_)
      · refine iteT ?_
        walk_at "rd"
        exact ⟨Nat.zero_le _, fun u hu => fin1 (Or.inl c) u hu⟩
      · walk_at "rd"
        refine rd_fld upd_same T.cl_Hand T.at_Hand_beaten rfl ?_
        walk_at "rd"
        refine rd_ite (fun b => ?_) (fun b => ?_)
        · walk_at "rd"
          exact ⟨Nat.zero_le _, fun u hu => fin1 (Or.inr b) u hu⟩
        · rw [if_neg (fun n => n.elim c fun n => Bool.false_ne_true (b.symm.trans n))] at q
          walk_at "rd"
          refine rd_put upd_same T.cl_Hand T.at_Hand_came (by show 8 < 1000; decide) ?_
          walk_at "rd"
          refine rd_fld upd_same T.cl_Hand T.at_Hand_at rfl ?_
          walk_at "rd"
          refine rd_put upd_same T.cl_Hand T.at_Hand_at (by show 8 < 1000; decide) ?_
          walk_at "rd"
          refine rd_fld upd_same T.cl_Hand T.at_Hand_far rfl ?_
          walk_at "rd"
          refine rd_put upd_same T.cl_Hand T.at_Hand_far (by show 8 < 1000; decide) ?_
          walk_at "rd"
          refine rd_recv upd_same rfl ?_
          walk_at "rd"
          rw [upd_upd, upd_upd, upd_upd]
          refine ⟨p, dx, h.up, rfl, upd_same, ?_⟩
          intro u xs H' hu h1 t1 hp' b1
          have hup : u ≠ p := fun e => by rw [e, upd_same] at hu; cases hu
          rw [upd_ne hup] at hu
          exact q u xs H' hu h1 t1 hp' (But.upd.trans b1)
theorem sc_Hand_asked : FnScope ["self", "letter", "way", "word", "number", "stage", "steps"] ["self", "letter"] (defScope s_Hand_asked) := ⟨rfl, rfl, rfl, by decide +kernel, rfl, by decide +kernel, by decide +kernel⟩
theorem ok_Hand_asked (T : Txt K mg A) : FnOk P w K mg base CX0 1 A.f_Hand_asked A.fd_Hand_asked ["self", "letter"] (spHLet A.c_Hand Hd.asked) := by
  refine T.fun_Hand_asked.ok sc_Hand_asked (fun vs H Q E h => ?_) (fun cdv Ar outer s H vs Q E hr h => ?_)
  · obtain ⟨p, dx, a, h, l, rfl, _⟩ := h
    rfl
  · obtain ⟨p, dx, a, h, l, rfl, hp, ha, q⟩ := h
    refine ⟨_, (pss_cons (ps_asg (pv 1) (pg_tup (by rfl) (pgs_cons (pg_name (i := 2) sc_Hand_asked.nd rfl (Or.inl rfl)) (pgs_cons (pg_name (i := 3) sc_Hand_asked.nd rfl (Or.inl rfl)) (pgs_cons (pg_name (i := 4) sc_Hand_asked.nd rfl (Or.inl rfl)) (pgs_cons (pg_name (i := 5) sc_Hand_asked.nd rfl (Or.inl rfl)) (pgs_cons (pg_name (i := 6) sc_Hand_asked.nd rfl (Or.inl rfl)) pgs_nil)))))))
      (pss_cons (ps_if (PW.pt (pw_and (pt_cmpR op_eq (pv 4) (pe_fld (pv 0) rfl) (nomark _)) (pw_and1 (pt_not (pt_val (pe_fld (pv 0) rfl)))))) (pss_cons (ps_fld (pv 0) pe_bl rfl)
      (pss_cons (ps_fld (pv 0) (pv 4) rfl)
      (pss_one (ps_ret (pe_lst (pa_cons (pe_tup (pa_cons (pe_gint rfl T.mg_RIGHT) (pa_cons pe_str (pa_cons (pv 4) (pa_cons pe_int (pa_cons pe_int pa_nil)))))) pa_nil)))))) pss_nil)
      (pss_cons (ps_if (pt_cmpR op_le (pv 4) (pe_fld (pv 0) rfl) (nomark _)) (pss_one (ps_ret (pe_lst pa_nil))) pss_nil)
      (pss_cons (ps_fld (pv 0) pe_bl rfl)
      (pss_cons (ps_if (pt_cmpR op_gt (pv 6) pe_int (nomark _)) (pss_one (ps_ret (pe_lst (pa_cons (pe_tup (pa_cons (pv 2) (pa_cons (pv 3) (pa_cons (pv 4) (pa_cons (pv 5) (pa_cons (pe_op op_sub (pv 6) pe_int) pa_nil)))))) pa_nil)))) pss_nil)
      (pss_one (ps_ret (pe_lst (pa_cons (pe_tup (pa_cons (pe_un un_neg (pv 2)) (pa_cons pe_str (pa_cons (pv 4) (pa_cons (pv 5) (pa_cons pe_int pa_nil)))))) pa_nil))))))))), ?_⟩
    walk_at "rd"
    refine ⟨a, lV l, rfl, SqT.of ha, rfl, ?_⟩
    refine ⟨_, _, rfl, ?_⟩
    refine ⟨_, _, rfl, ?_⟩
    refine ⟨_, _, rfl, ?_⟩
    refine ⟨_, _, rfl, ?_⟩
    refine ⟨_, _, rfl, ?_⟩
    refine ⟨rfl, ?_⟩
    walk_at "rd"
    refine rd_fld hp T.cl_Hand T.at_Hand_number rfl ?_
    walk_at "rd"
    unfold Hd.asked at q
    -- a letter made anew, alone in a new list
    have send : ∀ (h' : Hd) (l' : Lt) (t : Addr), upd H p (.ins A.c_Hand dx (hf h')) t = none → ∀ u, upd (upd H p (.ins A.c_Hand dx (hf h'))) t (.tup (lV l')) u = none → Sends A.c_Hand p dx H h' [l'] Q →
        Q (.ref u) (upd (upd (upd H p (.ins A.c_Hand dx (hf h'))) t (.tup (lV l'))) u (.lst [.ref t])) := by
      intro h' l' t ht u hu q
      have h1 := Ex.new (o := .tup (lV l')) ht _ _ upd_same
      have hup : u ≠ p := fun e => by rw [e, h1] at hu; cases hu
      have hu0 := fresh_back (Ex.new ht) hu
      rw [upd_ne hup] at hu0
      exact q u _ _ hu0 upd_same (.one (Ex.new hu _ _ upd_same)) (Ex.new hu _ _ h1) (But.upd.trans (But.ex ((Ex.new ht).trans (Ex.new hu))))
    have none1 : Sends A.c_Hand p dx H h [] Q → ∀ u, H u = none → Q (.ref u) (upd H u (.lst [])) := fun q u hu => q u _ _ hu upd_same .nil (Ex.new hu _ _ hp) (But.ex (Ex.new hu))
    refine rd_dec (fun c => ?_) (fun c => ?_)
    · walk_at "rd"
      refine rd_fld hp T.cl_Hand T.at_Hand_crowned rfl ?_
      walk_at "rd"
      cases b : h.crowned with
      | false =>
        rw [if_pos ⟨c, b⟩] at q
        refine iteT ?_
        walk_at "rd"
        refine rd_put hp T.cl_Hand T.at_Hand_crowned (by show 8 < 1000; decide) ?_
        walk_at "rd"
        refine rd_put upd_same T.cl_Hand T.at_Hand_known (by show 8 < 1000; decide) ?_
        walk_at "rd"
        rw [upd_upd]
        refine ⟨(by show 5 ≤ sizeLine; decide), fun t ht => ?_⟩
        walk_at "rd"
        exact ⟨(by show 1 ≤ sizeLine; decide), fun u hu => send { h with crowned := true, known := some l.num } ⟨1, .crown, l.num, 0, 0⟩ t ht u hu q⟩
      | true =>
        rw [if_neg (fun z => by rw [b] at z; cases z.2), if_pos (by omega)] at q
        refine iteF ?_
        walk_at "rd"
        refine rd_fld hp T.cl_Hand T.at_Hand_number rfl ?_
        walk_at "rd"
        refine rd_dec (fun _ => ?_) (fun z => absurd (show l.num ≤ h.num by omega) z)
        walk_at "rd"
        exact ⟨Nat.zero_le _, fun u hu => none1 q u hu⟩
    · rw [if_neg (fun z => c z.1)] at q
      refine iteF ?_
      walk_at "rd"
      refine rd_fld hp T.cl_Hand T.at_Hand_number rfl ?_
      walk_at "rd"
      refine rd_dec (fun z => ?_) (fun z => ?_)
      · rw [if_pos z] at q
        walk_at "rd"
        exact ⟨Nat.zero_le _, fun u hu => none1 q u hu⟩
      · rw [if_neg z] at q
        walk_at "rd"
        refine rd_put hp T.cl_Hand T.at_Hand_beaten (by show 8 < 1000; decide) ?_
        walk_at "rd"
        refine rd_dec (fun z1 => ?_) (fun z1 => ?_)
        · rw [if_pos z1] at q
          walk_at "rd"
          refine ⟨(by show 5 ≤ sizeLine; decide), fun t ht => ?_⟩
          walk_at "rd"
          exact ⟨(by show 1 ≤ sizeLine; decide), fun u hu => send { h with beaten := true } ⟨l.way, l.word, l.num, l.stg, l.stp - 1⟩ t ht u hu q⟩
        · rw [if_neg z1] at q
          walk_at "rd"
          refine ⟨(by show 5 ≤ sizeLine; decide), fun t ht => ?_⟩
          walk_at "rd"
          exact ⟨(by show 1 ≤ sizeLine; decide), fun u hu => send { h with beaten := true } ⟨-l.way, .answer, l.num, l.stg, 0⟩ t ht u hu q⟩
theorem sc_Hand_take : FnScope ["self", "letter", "found"] ["self", "letter"] (defScope s_Hand_take) := ⟨rfl, rfl, rfl, by decide +kernel, rfl, by decide +kernel, by decide +kernel⟩
theorem ok_Hand_take (T : Txt K mg A) (G_Hand_wake : FnOk P w K mg base CX0 2 A.f_Hand_wake A.fd_Hand_wake ["self"] (spHWake A.c_Hand)) (G_Hand_asked : FnOk P w K mg base CX0 1 A.f_Hand_asked A.fd_Hand_asked ["self", "letter"] (spHLet A.c_Hand Hd.asked))
    (G_Hand_answered : FnOk P w K mg base CX0 2 A.f_Hand_answered A.fd_Hand_answered ["self", "letter"] (spHLet A.c_Hand Hd.answered)) (G_Hand_told : FnOk P w K mg base CX0 1 A.f_Hand_told A.fd_Hand_told ["self", "letter"] (spHLet A.c_Hand Hd.told)) :
    FnOk P w K mg base CX0 3 A.f_Hand_take A.fd_Hand_take ["self", "letter"] (spHLet A.c_Hand Hd.take) := by
  refine T.fun_Hand_take.ok sc_Hand_take (fun vs H Q E h => ?_) (fun cdv Ar outer s H vs Q E hr h => ?_)
  · obtain ⟨p, dx, a, h, l, rfl, _⟩ := h
    rfl
  · obtain ⟨p, dx, a, h, l, rfl, hp, ha, q⟩ := h
    refine ⟨_, (pss_cons (ps_set (i := 2) sc_Hand_take.nd rfl (Or.inl rfl) (pe_meth0 (pv 0) T.cl_Hand T.mt_Hand_wake G_Hand_wake (hr.mono (by decide)) T.b_Hand_wake .nil pass0))
      (pss_cons (ps_if (pt_cmpR op_eq (pe_ix ix_tup (pv 1) pe_int (fun _ _ => rfl)) pe_str (nomark _)) (pss_one (ps_ret (pe_op op_cat (pv 2) (pe_meth (pv 0) T.cl_Hand T.mt_Hand_asked G_Hand_asked (hr.mono (by decide)) T.b_Hand_asked .nil pass0 (pa_cons (pv 1) pa_nil))))) pss_nil)
      (pss_cons (ps_if (pt_cmpR op_eq (pe_ix ix_tup (pv 1) pe_int (fun _ _ => rfl)) pe_str (nomark _)) (pss_one (ps_ret (pe_op op_cat (pv 2) (pe_meth (pv 0) T.cl_Hand T.mt_Hand_answered G_Hand_answered (hr.mono (by decide)) T.b_Hand_answered .nil pass0 (pa_cons (pv 1) pa_nil))))) pss_nil)
      (pss_one (ps_ret (pe_op op_cat (pv 2) (pe_meth (pv 0) T.cl_Hand T.mt_Hand_told G_Hand_told (hr.mono (by decide)) T.b_Hand_told .nil pass0 (pa_cons (pv 1) pa_nil)))))))), ?_⟩
    walk_at "rd"
    refine rd_recv hp rfl ?_
    walk_at "rd"
    refine ⟨p, dx, h, rfl, hp, ?_⟩
    intro f1 xs1 H1 hf1 hx1 t1 hp1 b1
    have ha1 := b1 _ _ ha (ne_ti ha hp)
    have nfp : f1 ≠ p := ne_li hx1 hp1
    walk_at "rd"
    refine rd_ixT (k := 1) (SqT.of ha1) rfl rfl ?_
    walk_at "rd"
    refine rd_eq rfl ?_
    walk_at "rd"
    -- what follows each of the three: found + what it sends
    have fin : ∀ (g : Hd → Lt → Hd × List Lt), h.wk.proc l = g h.wk l → Sends A.c_Hand p dx H1 (g h.wk l).1 (g h.wk l).2 (fun x H2 => rCat (.ref f1) x H2 Q) := by
      intro g eg f2 xs2 H2 hf2 hx2 t2 hp2 b2
      have h12 := b2 _ _ hx1 nfp
      have nf2 : f2 ≠ p := ne_li hx2 hp2
      have l1 : xs1.length ≤ 2 := by rw [t1.len]; unfold Hd.wls Hd.asks; split <;> simp
      have l2 : xs2.length ≤ 2 := by
        rw [t2.len, ← eg]
        exact RC.proc_len _ _
      refine ⟨f1, f2, xs1, xs2, rfl, rfl, h12, hx2, sz_of (by omega), fun r hr2 => ?_⟩
      have nrp : r ≠ p := fun e => by rw [e, hp2] at hr2; cases hr2
      have im1 : Tups lV H2 xs1 h.wls := t1.imp fun b ts hb => b2 _ _ hb (ne_ti hb hp1)
      have hr0 : H r = none := b1.free (b2.free hr2 nrp) nrp
      refine q r _ _ hr0 upd_same ?_ (Ex.new hr2 _ _ ?_) (b1.trans (b2.trans (But.ex (Ex.new hr2))))
      · have e2 : (h.take l).2 = h.wls ++ (g h.wk l).2 := by rw [← eg]; rfl
        rw [e2]
        exact (im1.app t2).ex (Ex.new hr2)
      · have e1 : (h.take l).1 = (g h.wk l).1 := by rw [← eg]; rfl
        rw [e1]
        exact hp2
    cases ew : l.word with
    | ask =>
      rw [show decide (V.str (wS Wd.ask) = V.str "ask") = true from decide_eq_true rfl]
      refine iteT ?_
      walk_at "rd"
      refine rd_recv hp1 rfl ?_
      walk_at "rd"
      exact ⟨p, dx, a, h.wk, l, rfl, hp1, ha1, fin Hd.asked (by unfold Hd.proc; rw [ew])⟩
    | answer =>
      rw [show decide (V.str (wS Wd.answer) = V.str "ask") = false from dec_str_ne (by decide +kernel)]
      refine iteF ?_
      walk_at "rd"
      refine rd_ixT (k := 1) (SqT.of ha1) rfl rfl ?_
      walk_at "rd"
      refine rd_eq rfl ?_
      walk_at "rd"
      rw [ew, show decide (V.str (wS Wd.answer) = V.str "answer") = true from decide_eq_true rfl]
      refine iteT ?_
      walk_at "rd"
      refine rd_recv hp1 rfl ?_
      walk_at "rd"
      exact ⟨p, dx, a, h.wk, l, rfl, hp1, ha1, fin Hd.answered (by unfold Hd.proc; rw [ew])⟩
    | crown =>
      rw [show decide (V.str (wS Wd.crown) = V.str "ask") = false from dec_str_ne (by decide +kernel)]
      refine iteF ?_
      walk_at "rd"
      refine rd_ixT (k := 1) (SqT.of ha1) rfl rfl ?_
      walk_at "rd"
      refine rd_eq rfl ?_
      walk_at "rd"
      rw [ew, show decide (V.str (wS Wd.crown) = V.str "answer") = false from dec_str_ne (by decide +kernel)]
      refine iteF ?_
      walk_at "rd"
      refine rd_recv hp1 rfl ?_
      walk_at "rd"
      exact ⟨p, dx, a, h.wk, l, rfl, hp1, ha1, fin Hd.told (by unfold Hd.proc; rw [ew])⟩

theorem sc__law_truth : FnScope ["_law_found", "_law_due"] ["_law_found", "_law_due"] (defScope s__law_truth) := ⟨rfl, rfl, rfl, by decide +kernel, rfl, by decide +kernel, by decide +kernel⟩
theorem ok__law_truth (T : Txt K mg A) : FnOk P w K mg base CX0 1 A.f__law_truth A.fd__law_truth ["_law_found", "_law_due"] spTruth := by
  refine T.fun__law_truth.ok sc__law_truth (fun vs H Q E h => ?_) (fun cdv Ar outer s H vs Q E hr h => ?_)
  · obtain ⟨a, b, rfl, _⟩ := h
    rfl
  · obtain ⟨a, b, rfl, q⟩ := h
    refine ⟨_, (pss_one (ps_ret (pe_and (pe_callB call_isi (by rfl) T.no_isinstance (by decide +kernel) (pa_cons (pv 0) (pa_cons (pe_bltn (v := .ty "bool") (by rfl) T.no_bool (by decide +kernel) rfl) pa_nil))) (pe_one (pe_cmpR op_eq (pv 0) (pv 1) (nomark _)))))), ?_⟩
    walk_at "rd"
    refine rd_isi (n := "bool") (b := true) (.base (.bl a)) (by decide +kernel) ?_
    walk_at "rd"
    refine rd_eq rfl ?_
    have e : decide (V.bl a = V.bl b) = decide (a = b) := by cases a <;> cases b <;> rfl
    rw [e]
    exact q

theorem sc__law_whole : FnScope ["_law_found"] ["_law_found"] (defScope s__law_whole) := ⟨rfl, rfl, rfl, by decide +kernel, rfl, by decide +kernel, by decide +kernel⟩
theorem ok__law_whole (T : Txt K mg A) : FnOk P w K mg base CX0 1 A.f__law_whole A.fd__law_whole ["_law_found"] (spInt K) := by
  refine T.fun__law_whole.ok sc__law_whole (fun vs H Q E h => ?_) (fun cdv Ar outer s H vs Q E hr h => ?_)
  · obtain ⟨v, rfl, _⟩ := h
    rfl
  · obtain ⟨v, rfl, ⟨n, bi, bb, ty, k1, k2, k3⟩, q⟩ := h
    refine ⟨_, (pss_one (ps_ret (pe_and (pe_callB call_isi (by rfl) T.no_isinstance (by decide +kernel) (pa_cons (pv 0) (pa_cons (pe_bltn (v := .ty "int") (by rfl) T.no_int (by decide +kernel) rfl) pa_nil))) (pe_one (pe_not (pe_callB call_isi (by rfl) T.no_isinstance (by decide +kernel) (pa_cons (pv 0) (pa_cons (pe_bltn (v := .ty "bool") (by rfl) T.no_bool (by decide +kernel) rfl) pa_nil)))))))), ?_⟩
    walk_at "rd"
    refine rd_isi ty k1 ?_
    walk_at "rd"
    cases bi with
    | false =>
      refine iteF ?_
      have e : isI v = false := k3.symm
      rw [e] at q
      exact q
    | true =>
      refine iteT ?_
      walk_at "rd"
      refine rd_isi ty k2 ?_
      walk_at "rd"
      have e : isI v = !bb := k3.symm
      rw [e] at q
      exact q
theorem sc__law_cell_at : FnScope ["_law_script", "_law_k"] ["_law_script", "_law_k"] (defScope s__law_cell_at) := ⟨rfl, rfl, rfl, by decide +kernel, rfl, by decide +kernel, by decide +kernel⟩
theorem ok__law_cell_at (T : Txt K mg A) : FnOk P w K mg base CX0 1 A.f__law_cell_at A.fd__law_cell_at ["_law_script", "_law_k"] (spCell K) := by
  refine T.fun__law_cell_at.ok sc__law_cell_at (fun vs H Q E h => ?_) (fun cdv Ar outer s H vs Q E hr h => ?_)
  · obtain ⟨a, ns, k, rfl, _⟩ := h
    rfl
  · obtain ⟨a, ns, k, rfl, hS, q⟩ := h
    refine ⟨_, (pss_cons (ps_if (pt_cmpR op_lt (pv 1) (pe_callB call_lenN (by rfl) T.no_len (by decide +kernel) (pa_cons (pv 0) pa_nil)) (nomark _)) (pss_one (ps_ret (pe_ix ix_list (pv 0) (pv 1) (fun _ _ => rfl)))) pss_nil)
      (pss_one (ps_ret pe_int))), ?_⟩
    walk_at "rd"
    refine rd_len hS ?_
    walk_at "rd"
    refine rd_dec (fun e => ?_) (fun e => ?_)
    · walk_at "rd"
      have hk : k < ns.length := by rw [List.length_map] at e; omega
      have e1 : cell ns k = ns[k] := by unfold cell; rw [List.getD_eq_getElem?_getD, List.getElem?_eq_getElem hk]; rfl
      rw [e1] at q
      exact rd_ixL (k := k) (v := .int ns[k]) hS rfl (by rw [List.getElem?_map, List.getElem?_eq_getElem hk]; rfl) q
    · walk_at "rd"
      have hk : ¬ k < ns.length := by rw [List.length_map] at e; omega
      have e1 : cell ns k = 0 := by unfold cell; rw [List.getD_eq_getElem?_getD, List.getElem?_eq_none (by omega)]; rfl
      rw [e1] at q
      exact q
/-! ### letters told -/
def Flat {α : Type} (f : α → List V) : Prop := ∀ x v, v ∈ f x → (∃ i, v = .int i) ∨ ∃ s, v = .str s
theorem lV_flat : Flat lV := fun x v hv => by
  unfold lV at hv
  simp only [List.mem_cons, List.not_mem_nil, or_false] at hv
  rcases hv with rfl | rfl | rfl | rfl | rfl
  · exact .inl ⟨_, rfl⟩
  · exact .inr ⟨_, rfl⟩
  · exact .inl ⟨_, rfl⟩
  · exact .inl ⟨_, rfl⟩
  · exact .inl ⟨_, rfl⟩
theorem mV_flat : Flat mV := fun x v hv => by
  rcases List.mem_cons.mp hv with rfl | hv
  · exact .inl ⟨_, rfl⟩
  · exact lV_flat x.2 v hv
def spLetters {α : Type} (K : PySem.W.Frag) (f : α → List V) : Sp := fun vs H Q _ => ∃ (a b : Addr) (us ws : List V) (xs : List α), vs = [.ref a, .ref b] ∧ H a = some (.lst us) ∧ H b = some (.lst ws) ∧ Tups f H us xs ∧ Tups f H ws xs ∧ Q (.bl true) H
theorem sc__law_letters : FnScope ["_law_found", "_law_due", "_law_one", "_law_part"] ["_law_found", "_law_due"] (defScope s__law_letters) := ⟨rfl, rfl, rfl, by decide +kernel, rfl, by decide +kernel, by decide +kernel⟩
theorem ok__law_letters {α : Type} {f : α → List V} {g : α → List PyData} (D : Dat f g) (F : Flat f) (T : Txt K mg A) (G__law_whole : FnOk P w K mg base CX0 1 A.f__law_whole A.fd__law_whole ["_law_found"] (spInt K)) :
    FnOk P w K mg base CX0 2 A.f__law_letters A.fd__law_letters ["_law_found", "_law_due"] (spLetters K f) := by
  refine T.fun__law_letters.ok sc__law_letters (fun vs H Q E h => ?_) (fun cdv Ar outer s H vs Q E hr h => ?_)
  · obtain ⟨a, b, us, ws, xs, rfl, _⟩ := h
    rfl
  · obtain ⟨a, b, us, ws, xs, rfl, ha, hb, tu, tw, q⟩ := h
    refine ⟨_, (pss_cons (ps_if (PW.pt (pw_or (pt_not (pt_val (pe_callB call_isi (by rfl) T.no_isinstance (by decide +kernel) (pa_cons (pv 0) (pa_cons (pe_bltn (v := .ty "list") (by rfl) T.no_list (by decide +kernel) rfl) pa_nil))))) (pw_or1 (pt_cmpR op_ne (pe_callB call_lenN (by rfl) T.no_len (by decide +kernel) (pa_cons (pv 0) pa_nil)) (pe_callB call_lenN (by rfl) T.no_len (by decide +kernel) (pa_cons (pv 1) pa_nil)) (nomark _))))) (pss_one (ps_ret pe_bl)) pss_nil)
      (pss_cons (ps_for PassesOwn.never rfl (pi_list (pv 0)) (pg_name (i := 2) sc__law_letters.nd rfl (Or.inl rfl)) (pss_cons (ps_if (pt_not (pt_val (pe_callB call_isi (by rfl) T.no_isinstance (by decide +kernel) (pa_cons (pv 2) (pa_cons (pe_bltn (v := .ty "tuple") (by rfl) T.no_tuple (by decide +kernel) rfl) pa_nil))))) (pss_one (ps_ret pe_bl)) pss_nil)
      (pss_one (ps_for PassesOwn.never rfl (pi_tup (pv 2)) (pg_name (i := 3) sc__law_letters.nd rfl (Or.inl rfl)) (pss_one (ps_if (PW.pt (pw_and (pt_not (pt_val (pe_call G__law_whole (hr.mono (by decide)) rfl T.mg__law_whole T.fun__law_whole.kp T.b__law_whole .nil pass0 (pa_cons (pv 3) pa_nil)))) (pw_and1 (pt_not (pt_val (pe_callB call_isi (by rfl) T.no_isinstance (by decide +kernel) (pa_cons (pv 3) (pa_cons (pe_bltn (v := .ty "str") (by rfl) T.no_str (by decide +kernel) rfl) pa_nil)))))))) (pss_one (ps_ret pe_bl)) pss_nil))))))
      (pss_one (ps_ret (pe_cmpR (op_eqD hr.units) (pv 0) (pv 1) (nomark _)))))), ?_⟩
    walk_at "rd"
    refine rd_isi (n := "list") (b := true) (.base (.lst ha)) (by decide +kernel) ?_
    walk_at "rd"
    refine rd_len (SqL.of ha) ?_
    walk_at "rd"
    refine rd_len (SqL.of hb) ?_
    rw [tu.len, tw.len]
    walk_at "rd"
    refine if_ne_same ?_
    walk_at "rd"
    refine for_L (SqL.of ha) (fun i σ H' => H' = H ∧ ∃ v2 v3 : Option V, σ = [some (.ref a), some (.ref b), v2, v3]) ⟨rfl, none, none, rfl⟩ (fun i σ H' _ z => by rw [z.1]; exact SqL.of ha) ?_ ?_
    · rintro i v σ H' hv ⟨rfl, v2, v3, rfl⟩
      obtain ⟨t, x, rfl, _, ht⟩ := tu.get hv
      walk_at "rd"
      refine rd_isi (n := "tuple") (b := true) (.base (.tup ht)) (by decide +kernel) ?_
      walk_at "rd"
      refine for_T (SqT.of ht) (fun i σ H2 => H2 = H' ∧ ∃ v3 : Option V, σ = [some (.ref a), some (.ref b), some (.ref t), v3]) ⟨rfl, v3, rfl⟩ (fun i σ H2 _ z => by rw [z.1]; exact SqT.of ht) ?_ ?_
      · rintro j p σ H2 hp ⟨rfl, v3, rfl⟩
        rcases F x p (List.mem_of_getElem? hp) with ⟨k, rfl⟩ | ⟨z, rfl⟩
        · walk_at "rd"
          refine ⟨_, rfl, knd_int _, ?_⟩
          refine rd_bl ?_
          refine iteNT ?_
          walk_at "rd"
          exact ⟨rfl, _, rfl⟩
        · walk_at "rd"
          refine ⟨_, rfl, knd_str _, ?_⟩
          refine rd_bl ?_
          refine iteNF ?_
          walk_at "rd"
          refine rd_isi (n := "str") (b := true) (.base (.str z)) (by decide +kernel) ?_
          walk_at "rd"
          exact ⟨rfl, _, rfl⟩
      · rintro σ H2 ⟨rfl, v3, rfl⟩
        exact ⟨rfl, _, _, rfl⟩
    · rintro σ H' ⟨rfl, v2, v3, rfl⟩
      walk_at "rd"
      exact rd_eqSame D (SqL.of ha) (SqL.of hb) tu tw q

/-! ### the law's own hand -/
theorem sc__law_start : FnScope ["_law_number_here", "_law_found"] ["_law_number_here"] (defScope s__law_start) := ⟨rfl, rfl, rfl, by decide +kernel, rfl, by decide +kernel, by decide +kernel⟩
theorem ok__law_start (T : Txt K mg A) : FnOk P w K mg base CX0 1 A.f__law_start A.fd__law_start ["_law_number_here"] spStart := by
  refine T.fun__law_start.ok sc__law_start (fun vs H Q E h => ?_) (fun cdv Ar outer s H vs Q E hr h => ?_)
  · obtain ⟨n, rfl, _⟩ := h
    rfl
  · obtain ⟨n, rfl, q⟩ := h
    refine ⟨_, (pss_cons (ps_set (i := 1) sc__law_start.nd rfl (Or.inl rfl) (pe_disp (pps_cons pe_str (pv 0) (pps_cons pe_str pe_bl (pps_cons pe_str pe_bl (pps_cons pe_str pe_bl pps_nil)))) (by rfl) (by rfl) (fun z => by cases z) (by decide)))
      (pss_cons (ps_dput (hu_of hr) (pv 1) pe_str pe_int rfl)
      (pss_cons (ps_dput (hu_of hr) (pv 1) pe_str pe_int rfl)
      (pss_cons (ps_dput (hu_of hr) (pv 1) pe_str pe_non rfl)
      (pss_one (ps_ret (pv 1))))))), ?_⟩
    walk_at "rd"
    intro d hd
    refine ⟨.int n, rfl, upd_same, [(Sum.inr "number", .int n), (Sum.inr "awake", .bl false), (Sum.inr "beaten", .bl false), (Sum.inr "first", .bl false)], rfl, Nat.le_of_ble_eq_true rfl, ?_⟩
    rw [upd_upd]
    walk_at "rd"
    refine rd_putS upd_same (by rw [sizeLine_eq]; exact Nat.lt_of_le_of_lt (m := 6) (Nat.le_of_ble_eq_true rfl) (by decide)) rfl ?_
    walk_at "rd"
    refine rd_putS upd_same (by rw [sizeLine_eq]; exact Nat.lt_of_le_of_lt (m := 6) (Nat.le_of_ble_eq_true rfl) (by decide)) rfl ?_
    walk_at "rd"
    refine rd_putS upd_same (by rw [sizeLine_eq]; exact Nat.lt_of_le_of_lt (m := 6) (Nat.le_of_ble_eq_true rfl) (by decide)) rfl ?_
    walk_at "rd"
    rw [upd_upd, upd_upd, upd_upd]
    exact q d hd
theorem sc__law_asks : FnScope ["_law_state", "_law_steps", "_law_turn"] ["_law_state"] (defScope s__law_asks) := ⟨rfl, rfl, rfl, by decide +kernel, rfl, by decide +kernel, by decide +kernel⟩
theorem ok__law_asks (T : Txt K mg A) : FnOk P w K mg base CX0 1 A.f__law_asks A.fd__law_asks ["_law_state"] spLAsks := by
  refine T.fun__law_asks.ok sc__law_asks (fun vs H Q E h => ?_) (fun cdv Ar outer s H vs Q E hr h => ?_)
  · obtain ⟨d, h, t, rfl, _⟩ := h
    rfl
  · obtain ⟨d, h, t, rfl, hd, ⟨st, hst, h100, hfar⟩, q⟩ := h
    refine ⟨_, (pss_cons (ps_set (i := 1) sc__law_asks.nd rfl (Or.inl rfl) pe_int)
      (pss_cons (ps_for PassesOwn.never rfl (pi_range1 (by rfl) T.no_range (pa_cons (pe_dget (hu_of hr) (pv 0) pe_str (fun _ _ => rfl)) pa_nil)) (pg_name (i := 2) sc__law_asks.nd rfl (Or.inl rfl)) (pss_one (ps_set (i := 1) sc__law_asks.nd rfl (Or.inl rfl) (pe_op op_mul (pv 1) pe_int))))
      (pss_one (ps_ret (pe_lst (pa_cons (pe_tup (pa_cons pe_int (pa_cons pe_str (pa_cons (pe_dget (hu_of hr) (pv 0) pe_str (fun _ _ => rfl)) (pa_cons (pe_dget (hu_of hr) (pv 0) pe_str (fun _ _ => rfl)) (pa_cons (pv 1) pa_nil)))))) (pa_cons (pe_tup (pa_cons (pe_un un_neg pe_int) (pa_cons pe_str (pa_cons (pe_dget (hu_of hr) (pv 0) pe_str (fun _ _ => rfl)) (pa_cons (pe_dget (hu_of hr) (pv 0) pe_str (fun _ _ => rfl)) (pa_cons (pv 1) pa_nil)))))) pa_nil))))))), ?_⟩
    walk_at "rd"
    refine rd_getS hd get_stage ?_
    rw [hst]
    walk_at "rd"
    refine for_R1 (by omega) (fun i σ H' => H' = H ∧ ∃ v : Option V, σ = [some (.ref d), some (.int ((2 ^ i : Nat) : Int)), v]) ⟨rfl, none, rfl⟩ ?_ ?_
    · rintro i σ H' hi ⟨rfl, v, rfl⟩
      walk_at "rd"
      refine ⟨rfl, some (.int ((i : Nat) : Int)), ?_⟩
      have e : ((2 ^ i : Nat) : Int) * 2 = ((2 ^ (i + 1) : Nat) : Int) := by rw [Nat.pow_succ]; omega
      rw [e]
      rfl
    · rintro σ H' ⟨rfl, v, rfl⟩
      rw [← hfar]
      walk_at "rd"
      refine rd_getS hd get_num ?_
      walk_at "rd"
      refine rd_getS hd get_stage ?_
      walk_at "rd"
      refine ⟨by show 5 ≤ sizeLine; decide, fun t1 ht1 => ?_⟩
      have x1 := Ex.new (o := .tup (lV ⟨1, .ask, h.num, h.stage, h.far⟩)) ht1
      have y1 : upd H' t1 (.tup (lV ⟨1, .ask, h.num, h.stage, h.far⟩)) t1 = some (.tup (lV ⟨1, .ask, h.num, h.stage, h.far⟩)) := upd_same
      rw [show ([V.int 1, .str "ask", .int h.num, .int h.stage, .int h.far] : List V) = lV ⟨1, .ask, h.num, h.stage, h.far⟩ from rfl]
      generalize upd H' t1 (.tup (lV ⟨1, .ask, h.num, h.stage, h.far⟩)) = H1 at x1 y1 ⊢
      walk_at "rd"
      refine rd_getS (x1 _ _ hd) get_num ?_
      walk_at "rd"
      refine rd_getS (x1 _ _ hd) get_stage ?_
      walk_at "rd"
      refine ⟨by show 5 ≤ sizeLine; decide, fun t2 ht2 => ?_⟩
      have x2 := Ex.new (o := .tup (lV ⟨-1, .ask, h.num, h.stage, h.far⟩)) ht2
      have y2 : upd H1 t2 (.tup (lV ⟨-1, .ask, h.num, h.stage, h.far⟩)) t2 = some (.tup (lV ⟨-1, .ask, h.num, h.stage, h.far⟩)) := upd_same
      rw [show ([V.int (-1), .str "ask", .int h.num, .int h.stage, .int h.far] : List V) = lV ⟨-1, .ask, h.num, h.stage, h.far⟩ from rfl]
      generalize upd H1 t2 (.tup (lV ⟨-1, .ask, h.num, h.stage, h.far⟩)) = H2 at x2 y2 ⊢
      walk_at "rd"
      refine ⟨by show 2 ≤ sizeLine; decide, fun u hu => ?_⟩
      have x3 := Ex.new (o := .lst [V.ref t1, .ref t2]) hu
      exact q u _ _ (fresh_back (x1.trans x2) hu) ((x1.trans x2).trans x3) upd_same (.cons (x3 _ _ (x2 _ _ y1)) (.one (x3 _ _ y2)))
theorem sc__law_woken : FnScope ["_law_state"] ["_law_state"] (defScope s__law_woken) := ⟨rfl, rfl, rfl, by decide +kernel, rfl, by decide +kernel, by decide +kernel⟩
theorem ok__law_woken (T : Txt K mg A) (G__law_asks : FnOk P w K mg base CX0 1 A.f__law_asks A.fd__law_asks ["_law_state"] spLAsks) : FnOk P w K mg base CX0 2 A.f__law_woken A.fd__law_woken ["_law_state"] spLWoken := by
  refine T.fun__law_woken.ok sc__law_woken (fun vs H Q E h => ?_) (fun cdv Ar outer s H vs Q E hr h => ?_)
  · obtain ⟨d, h, t, rfl, _⟩ := h
    rfl
  · obtain ⟨d, h, t, rfl, hd, ot, lt, fr, q⟩ := h
    refine ⟨_, (pss_cons (ps_if (pt_val (pe_dget (hu_of hr) (pv 0) pe_str (fun _ _ => rfl))) (pss_one (ps_ret (pe_lst pa_nil))) pss_nil)
      (pss_cons (ps_dput (hu_of hr) (pv 0) pe_str pe_bl rfl)
      (pss_one (ps_ret (pe_call G__law_asks (hr.mono (by decide)) rfl T.mg__law_asks T.fun__law_asks.kp T.b__law_asks .nil pass0 (pa_cons (pv 0) pa_nil)))))), ?_⟩
    walk_at "rd"
    refine rd_getS hd get_awake ?_
    cases ha : h.awake with
    | true =>
      walk_at "rd"
      refine ⟨Nat.zero_le _, fun u hu => ?_⟩
      have x1 := Ex.new (o := .lst []) hu
      refine q u [] _ hu (But.ex x1) ?_ upd_same ?_
      · rw [RC.wk_awake ha]; exact x1 _ _ hd
      · unfold Hd.wls; rw [ha]; exact .nil
    | false =>
      walk_at "rd"
      refine rd_putS hd (by rw [dS_len, sizeLine_eq]; omega) (put_awake ot) ?_
      walk_at "rd"
      refine ⟨d, h.wk, t, rfl, upd_same, fr, fun u xs H' hu x hx tx => ?_⟩
      have nud : u ≠ d := fun z => by rw [z, upd_same] at hu; cases hu
      rw [upd_ne nud] at hu
      refine q u xs H' hu (But.upd.trans (But.ex x)) (x _ _ upd_same) hx ?_
      unfold Hd.wls
      rw [ha]
      exact tx

end
end Rc
namespace Rc
open PySem L2 Evl
open RC (Hd Lt Wd Rg)

local macro_rules | `(tactic| walk_at "rd1") => `(tactic| first
  | (with_reducible refine rd_seq ?_)
  | (with_reducible refine rd_asg ?_)
  | (with_reducible refine rd_if ?_)
  | ((with_reducible refine' rd_var ?e ?_); (case e => rfl))
  | (with_reducible refine rd_c ?_)
  | (with_reducible refine rd_op ?_)
  | (with_reducible refine rd_I0 ?_)
  | ((with_reducible refine rd_I ?e ?_); case e => first | exact (show (0 : Int) < _ by decide) | exact (show _ ∧ _ from ⟨by decide, by decide⟩) | exact Or.inl ⟨by decide, by decide⟩ | exact Or.inr ⟨by decide, by decide⟩)
  | (with_reducible refine rd_eqI ?_)
  | (with_reducible refine rd_neI ?_)
  | (with_reducible refine rd_bl ?_)
  | (with_reducible refine rd_test ?_)
  | (with_reducible refine rd_and ?_)
  | (with_reducible refine rd_or ?_)
  | (with_reducible refine rd_not ?_)
  | (with_reducible refine rd_andV ?_)
  | (with_reducible refine rd_orV ?_)
  | (with_reducible refine rd_notV ?_)
  | (with_reducible refine rd_B ?_)
  | (with_reducible refine rd_ifE ?_)
  | (with_reducible refine rd_cons ?_)
  | (with_reducible refine rd_nil ?_)
  | (with_reducible refine rd_CB ?_)
  | (with_reducible refine rd_call ?_)
  | (with_reducible refine rd_callS ?_)
  | (with_reducible refine rd_meth ?_)
  | (with_reducible refine rd_mk ?_)
  | (with_reducible refine rd_lst ?_)
  | (with_reducible refine rd_tup ?_)
  | (with_reducible refine rd_un ?_)
  | (with_reducible refine rd_U ?_)
  | (with_reducible refine rd_tFld ?_)
  | (with_reducible refine rd_sFld ?_)
  | (with_reducible refine rd_methW ?_)
  | (with_reducible refine rd_abs ?_)
  | (with_reducible refine rd_int1 ?_)
  | (with_reducible refine rd_isNo ?_)
  | (with_reducible refine rd_notNo ?_)
  | (with_reducible refine rd_isBo ?_)
  | (with_reducible refine rd_notBo ?_)
  | (with_reducible refine rd_forL ?_)
  | (with_reducible refine rd_forT ?_)
  | (with_reducible refine rd_forR1 ?_)
  | (with_reducible refine rd_forR2 ?_)
  | (with_reducible refine rd_lcL ?_)
  | (with_reducible refine rd_lcT ?_)
  | (with_reducible refine rd_lcR1 ?_)
  | (with_reducible refine rd_chain ?_)
  | (with_reducible refine rd_ret ?_)
  | (with_reducible refine rd_retN ?_)
  | (with_reducible refine rd_drop ?_)
  | (with_reducible refine rd_next ?_)
  | (with_reducible refine rd_asgG ?_)
  | (with_reducible refine rd_pop ?_)
  | (with_reducible refine rd_makeW ?_)
  | (with_reducible refine rd_min2 ?_)
  | (with_reducible refine rd_tLenSet ?_)
  | (with_reducible refine rd_sl ?_)
  | (with_reducible refine rd_tPart ?_)
  | (with_reducible refine rd_part ?_)
  | (with_reducible refine rd_nopart ?_)
  | (with_reducible refine rd_bm0 ?_)
  | (with_reducible refine rd_dget ?_)
  | (with_reducible refine rd_dput ?_)
  | (with_reducible refine rd_forR3 ?_)
  | (with_reducible refine iteNT ?_)
  | (with_reducible refine iteNF ?_)
  | (with_reducible refine iteF ?_)
  | (with_reducible refine iteT ?_))
local macro_rules | `(tactic| walk_at "rd") => `(tactic| repeat (walk_at "rd1"))

-- RcDict
section
variable {P : Program} {w : World} {K : PySem.W.Frag} {mg : Str → Option Value} {base : Heap} {A : Adr}
/-! ### the law's own hand, with what the law keeps beside it -/
def tl (u v : Addr) (mo se : Int) (ar ea : Bool) : List (Key × V) := [(Sum.inr "due", .ref u), (Sum.inr "passed", .ref v), (Sum.inr "most", .int mo), (Sum.inr "seen", .int se), (Sum.inr "around", .bl ar), (Sum.inr "eager", .bl ea)]
theorem not_k7 {a : Str} (h : ([("number" : Str), "awake", "beaten", "first", "stage", "came", "known"].any fun b => a == b) = false) : (Sum.inr a : Key) ∉ k7 := fun z => by
  have e : k7 = ([("number" : Str), "awake", "beaten", "first", "stage", "came", "known"]).map Sum.inr := rfl
  rw [e] at z
  obtain ⟨b, hb, q⟩ := List.mem_map.mp z
  have := List.any_eq_false.mp h b hb
  rw [Sum.inr.inj q] at this
  exact this (beq_self_eq_true a)
theorem tl_off {u v : Addr} {mo se : Int} {ar ea : Bool} : Off (tl u v mo se ar ea) := fun kv h => by
  unfold tl at h
  simp only [List.mem_cons, List.not_mem_nil, or_false] at h
  rcases h with rfl | rfl | rfl | rfl | rfl | rfl
  · exact not_k7 rfl
  · exact not_k7 rfl
  · exact not_k7 rfl
  · exact not_k7 rfl
  · exact not_k7 rfl
  · exact not_k7 rfl
section
variable {h : Hd} {u v x : Addr} {mo se i : Int} {ar ea b : Bool}
theorem put_due : putK (dS h (tl u v mo se ar ea)) (Sum.inr "due") (.ref x) = dS h (tl x v mo se ar ea) := rfl
theorem put_passed : putK (dS h (tl u v mo se ar ea)) (Sum.inr "passed") (.ref x) = dS h (tl u x mo se ar ea) := rfl
theorem put_most : putK (dS h (tl u v mo se ar ea)) (Sum.inr "most") (.int i) = dS h (tl u v i se ar ea) := rfl
theorem put_seen : putK (dS h (tl u v mo se ar ea)) (Sum.inr "seen") (.int i) = dS h (tl u v mo i ar ea) := rfl
theorem put_around : putK (dS h (tl u v mo se ar ea)) (Sum.inr "around") (.bl b) = dS h (tl u v mo se b ea) := rfl
theorem get_due : valV (dS h (tl u v mo se ar ea)) (Sum.inr "due") = some (.ref u) := rfl
theorem get_passed : valV (dS h (tl u v mo se ar ea)) (Sum.inr "passed") = some (.ref v) := rfl
theorem get_most : valV (dS h (tl u v mo se ar ea)) (Sum.inr "most") = some (.int mo) := rfl
theorem get_seen : valV (dS h (tl u v mo se ar ea)) (Sum.inr "seen") = some (.int se) := rfl
theorem get_around : valV (dS h (tl u v mo se ar ea)) (Sum.inr "around") = some (.bl ar) := rfl
theorem get_eager : valV (dS h (tl u v mo se ar ea)) (Sum.inr "eager") = some (.bl ea) := rfl
theorem tl_len : (dS h (tl u v mo se ar ea)).length < sizeLine := by rw [sizeLine_eq]; exact Nat.lt_of_le_of_lt (m := 13) (Nat.le_of_ble_eq_true rfl) (by decide)
end
theorem if_mid {c : TT} {ts : TS} {nx : St → Hp → Prop} {rt : VK} {bk ct : St → Hp → Prop} {σ : St} {H : Hp} (Pv : St → Hp → Prop) (h : ∀ nx' : St → Hp → Prop, (∀ σ H, Pv σ H → nx' σ H) → tIfS c ts tNext ⟨nx', rt, bk, ct⟩ σ H) (hn : ∀ σ H, Pv σ H → nx σ H) :
    tIfS c ts tNext ⟨nx, rt, bk, ct⟩ σ H := h nx hn
theorem rd_neK {n : Int} {k : Option Int} {H : Hp} {Q : VK} (h : Q (.bl (!decide (k = some n))) H) : rNe (.int n) (kV k) H Q := by
  cases k with
  | none => exact rd_ne rfl h
  | some z =>
    refine rd_neI ?_
    have e : decide (n = z) = decide (some z = some n) := by
      by_cases c : n = z
      · subst c; rw [decide_eq_true rfl, decide_eq_true rfl]
      · rw [decide_eq_false c, decide_eq_false fun q => c (Option.some.inj q).symm]
    rw [e]; exact h
theorem wAsk (w : Wd) : decide (V.str (wS w) = V.str "ask") = decide (w = .ask) := by cases w <;> first | exact decide_eq_true rfl | exact dec_str_ne (by decide +kernel)
theorem wAns (w : Wd) : decide (V.str (wS w) = V.str "answer") = decide (w = .answer) := by cases w <;> first | exact decide_eq_true rfl | exact dec_str_ne (by decide +kernel)
theorem wCrn (w : Wd) : decide (V.str (wS w) = V.str "crown") = decide (w = .crown) := by cases w <;> first | exact decide_eq_true rfl | exact dec_str_ne (by decide +kernel)
def Two (d v : Addr) (H H' : Hp) : Prop := ∀ b o, H b = some o → b ≠ d → b ≠ v → H' b = some o
theorem Two.trans {d v : Addr} {H H1 H2 : Hp} (a : Two d v H H1) (b : Two d v H1 H2) : Two d v H H2 := fun c o h n1 n2 => b c o (a c o h n1 n2) n1 n2
theorem Two.ex {d v : Addr} {H H' : Hp} (e : Ex H H') : Two d v H H' := fun b o h _ _ => e b o h
theorem Two.d {d v : Addr} {H H' : Hp} (e : But d H H') : Two d v H H' := fun b o h n _ => e b o h n
theorem Two.v {d v : Addr} {H H' : Hp} (e : But v H H') : Two d v H H' := fun b o h _ n => e b o h n
/-- letters that may come -/
def Fair (h : Hd) (l : Lt) : Prop := (l.word = .ask → 1 ≤ l.stp) ∧ (l.word = .answer → l.num = h.num → l.stg = h.stage ∧ (h.came ≤ 1 ∨ h.beaten = true) ∧ h.stage < 6)
def spLTaken : Sp := fun vs H Q _ => ∃ (d t u v : Addr) (h : Hd) (l : Lt) (mo se : Int) (ar ea : Bool) (ws : List V) (ps : List Lt), vs = [.ref d, .ref t] ∧ H d = some (.dK (dS h (tl u v mo se ar ea))) ∧ H t = some (.tup (lV l)) ∧ H v = some (.lst ws) ∧ Tups lV H ws ps ∧ ps.length ≤ 1000 ∧ Far h ∧ h.stage ≤ 50 ∧ Fair h l ∧
  ∀ (q : Addr) (xs : List V) (H' : Hp) (mo' se' : Int) (ar' : Bool) (ws' : List V) (ps' : List Lt), H q = none → Two d v H H' → H' d = some (.dK (dS (h.take l).1 (tl u v mo' se' ar' ea))) → H' v = some (.lst ws') → Tups lV H' ws' ps' →
    (∀ x, x ∈ ps' → x ∈ ps ∨ (x.word = .answer ∧ h.num < x.num)) → ps'.length ≤ ps.length + 1 → H' q = some (.lst xs) → Tups lV H' xs (h.take l).2 → Q (.ref q) H'
theorem sc__law_taken : FnScope ["_law_state", "_law_letter_here", "_law_found", "_law_way", "_law_word", "_law_number_here", "_law_stage", "_law_steps", "_law_mine"] ["_law_state", "_law_letter_here"] (defScope s__law_taken) := ⟨rfl, rfl, rfl, by decide +kernel, rfl, by decide +kernel, by decide +kernel⟩
theorem ok__law_taken (T : Txt K mg A) (G__law_asks : FnOk P w K mg base CX0 1 A.f__law_asks A.fd__law_asks ["_law_state"] spLAsks) (G__law_woken : FnOk P w K mg base CX0 2 A.f__law_woken A.fd__law_woken ["_law_state"] spLWoken) :
    FnOk P w K mg base CX0 3 A.f__law_taken A.fd__law_taken ["_law_state", "_law_letter_here"] spLTaken := by
  refine T.fun__law_taken.ok sc__law_taken (fun vs H Q E h => ?_) (fun cdv Ar outer s H vs Q E hr h => ?_)
  · obtain ⟨d, t, u, v, h, l, mo, se, ar, ea, ws, ps, rfl, _⟩ := h
    rfl
  · obtain ⟨d, t, u, v, h, l, mo, se, ar, ea, ws, ps, rfl, hd, ht, hv, tps, lps, fr, st50, ⟨fa1, fa2⟩, q⟩ := h
    have nvd : v ≠ d := ne_of hv hd (by intro z; cases z)
    have ntd : t ≠ d := ne_of ht hd (by intro z; cases z)
    have ntv : t ≠ v := ne_of ht hv (by intro z; cases z)
    refine ⟨_, (pss_cons (ps_set (i := 2) sc__law_taken.nd rfl (Or.inl rfl) (pe_call G__law_woken (hr.mono (by decide)) rfl T.mg__law_woken T.fun__law_woken.kp T.b__law_woken .nil pass0 (pa_cons (pv 0) pa_nil)))
      (pss_cons (ps_asg (pv 1) (pg_tup (by rfl) (pgs_cons (pg_name (i := 3) sc__law_taken.nd rfl (Or.inl rfl)) (pgs_cons (pg_name (i := 4) sc__law_taken.nd rfl (Or.inl rfl)) (pgs_cons (pg_name (i := 5) sc__law_taken.nd rfl (Or.inl rfl)) (pgs_cons (pg_name (i := 6) sc__law_taken.nd rfl (Or.inl rfl)) (pgs_cons (pg_name (i := 7) sc__law_taken.nd rfl (Or.inl rfl)) pgs_nil)))))))
      (pss_cons (ps_set (i := 8) sc__law_taken.nd rfl (Or.inl rfl) (pe_cmpR op_eq (pv 5) (pe_dget (hu_of hr) (pv 0) pe_str (fun _ _ => rfl)) (nomark _)))
      (pss_cons (ps_if (PW.pt (pw_and (pt_cmpR op_eq (pv 4) pe_str (nomark _)) (pw_and (pt_val (pv 8)) (pw_and1 (pt_not (pt_val (pe_dget (hu_of hr) (pv 0) pe_str (fun _ _ => rfl)))))))) (pss_cons (ps_dput (hu_of hr) (pv 0) pe_str pe_bl rfl)
      (pss_cons (ps_dput (hu_of hr) (pv 0) pe_str pe_bl rfl)
      (pss_cons (ps_dput (hu_of hr) (pv 0) pe_str (pv 5) rfl)
      (pss_one (ps_ret (pe_op op_cat (pv 2) (pe_lst (pa_cons (pe_tup (pa_cons pe_int (pa_cons pe_str (pa_cons (pv 5) (pa_cons pe_int (pa_cons pe_int pa_nil)))))) pa_nil)))))))) pss_nil)
      (pss_cons (ps_if (PW.pt (pw_and (pt_cmpR op_eq (pv 4) pe_str (nomark _)) (pw_and1 (pt_cmpR op_gt (pv 5) (pe_dget (hu_of hr) (pv 0) pe_str (fun _ _ => rfl)) (nomark _))))) (pss_cons (ps_dput (hu_of hr) (pv 0) pe_str pe_bl rfl)
      (pss_cons (ps_dput (hu_of hr) (pv 0) pe_str (pe_callB (call_max2 rfl) (by rfl) T.no_max (by decide +kernel) (pa_cons (pe_dget (hu_of hr) (pv 0) pe_str (fun _ _ => rfl)) (pa_cons (pv 5) pa_nil))) rfl)
      (pss_cons (ps_if (pt_cmpR op_eq (pv 7) pe_int (nomark _)) (pss_one (ps_ret (pe_op op_cat (pv 2) (pe_lst (pa_cons (pe_tup (pa_cons (pe_op op_sub pe_int (pv 3)) (pa_cons pe_str (pa_cons (pv 5) (pa_cons (pv 6) (pa_cons pe_int pa_nil)))))) pa_nil))))) pss_nil)
      (pss_cons (ps_dput (hu_of hr) (pv 0) pe_str (pe_callB (call_max2 rfl) (by rfl) T.no_max (by decide +kernel) (pa_cons (pe_dget (hu_of hr) (pv 0) pe_str (fun _ _ => rfl)) (pa_cons (pv 5) pa_nil))) rfl)
      (pss_cons (ps_if (PW.pt (pw_and (pt_cmpR op_lt (pv 7) pe_int (nomark _)) (pw_and1 (pt_cmpR op_ne (pv 5) (pe_dget (hu_of hr) (pv 0) pe_str (fun _ _ => rfl)) (nomark _))))) (pss_one (ps_expr (pe_bm PySem.F.plainAttrs_list PySem.F.slot_list_append PySem.F.type_list_append mt_append (pe_dget (hu_of hr) (pv 0) pe_str (fun _ _ => rfl)) (pa_cons (pe_tup (pa_cons (pe_op op_sub pe_int (pv 3)) (pa_cons pe_str (pa_cons (pv 5) (pa_cons (pv 6) (pa_cons pe_int pa_nil)))))) pa_nil)))) pss_nil)
      (pss_one (ps_ret (pe_op op_cat (pv 2) (pe_lst (pa_cons (pe_tup (pa_cons (pv 3) (pa_cons pe_str (pa_cons (pv 5) (pa_cons (pv 6) (pa_cons (pe_op op_sub (pv 7) pe_int) pa_nil)))))) pa_nil)))))))))) pss_nil)
      (pss_cons (ps_if (PW.pt (pw_and (pt_cmpR op_eq (pv 4) pe_str (nomark _)) (pw_and1 (pt_val (pv 8))))) (pss_cons (ps_dput (hu_of hr) (pv 0) pe_str (pe_op op_add (pe_dget (hu_of hr) (pv 0) pe_str (fun _ _ => rfl)) pe_int) rfl)
      (pss_one (ps_if (PW.pt (pw_and (pt_cmpR op_eq (pe_dget (hu_of hr) (pv 0) pe_str (fun _ _ => rfl)) pe_int (nomark _)) (pw_and1 (pt_not (pt_val (pe_dget (hu_of hr) (pv 0) pe_str (fun _ _ => rfl))))))) (pss_cons (ps_dput (hu_of hr) (pv 0) pe_str pe_int rfl)
      (pss_cons (ps_dput (hu_of hr) (pv 0) pe_str (pe_op op_add (pv 6) pe_int) rfl)
      (pss_one (ps_ret (pe_op op_cat (pv 2) (pe_call G__law_asks (hr.mono (by decide)) rfl T.mg__law_asks T.fun__law_asks.kp T.b__law_asks .nil pass0 (pa_cons (pv 0) pa_nil))))))) pss_nil))) (pss_one (ps_if (PW.pt (pw_and (pt_cmpR op_ne (pv 4) pe_str (nomark _)) (pw_and1 (pt_not (pt_val (pv 8)))))) (pss_cons (ps_if (pt_cmpR op_eq (pv 4) pe_str (nomark _)) (pss_one (ps_dput (hu_of hr) (pv 0) pe_str (pv 5) rfl)) pss_nil)
      (pss_one (ps_ret (pe_op op_cat (pv 2) (pe_lst (pa_cons (pv 1) pa_nil)))))) pss_nil)))
      (pss_one (ps_ret (pv 2))))))))), ?_⟩
    walk_at "rd"
    refine ⟨d, h, _, rfl, hd, tl_off, by show 6 ≤ 100; decide, fr, fun f xs1 H1 hf b1 hd1 hx1 t1 => ?_⟩
    have ht1 := b1 _ _ ht ntd
    have hv1 := b1 _ _ hv nvd
    have tp1 : Tups lV H1 ws ps := tps.imp fun a ts z => b1 _ _ z (ne_of z hd (by intro z; cases z))
    have nfd : f ≠ d := ne_of hx1 hd1 (by intro z; cases z)
    have nfv : f ≠ v := fun z => by rw [z, hv] at hf; cases hf
    have lx1 : xs1.length ≤ 2 := by rw [t1.len]; unfold Hd.wls Hd.asks; split <;> simp
    walk_at "rd"
    refine ⟨t, lV l, rfl, SqT.of ht1, rfl, ?_⟩
    refine ⟨_, _, rfl, ?_⟩
    refine ⟨_, _, rfl, ?_⟩
    refine ⟨_, _, rfl, ?_⟩
    refine ⟨_, _, rfl, ?_⟩
    refine ⟨_, _, rfl, ?_⟩
    refine ⟨rfl, ?_⟩
    walk_at "rd"
    refine rd_getS hd1 get_num ?_
    walk_at "rd"
    -- found + what it sends
    have fin : ∀ (H2 : Hp) (g : Addr) (ys : List V) (h' : Hd) (ls : List Lt) (mo' se' : Int) (ar' : Bool) (ws' : List V) (ps' : List Lt), Two d v H1 H2 → H2 d = some (.dK (dS h' (tl u v mo' se' ar' ea))) → H2 v = some (.lst ws') → Tups lV H2 ws' ps' →
        (∀ x, x ∈ ps' → x ∈ ps ∨ (x.word = .answer ∧ h.num < x.num)) → ps'.length ≤ ps.length + 1 → H2 g = some (.lst ys) → Tups lV H2 ys ls → (h.wk.proc l).1 = h' → (h.wk.proc l).2 = ls → rCat (.ref f) (.ref g) H2 Q := by
      intro H2 g ys h' ls mo' se' ar' ws' ps' b2 hd2 hv2 tp2 mem len hg tg e1 e2
      have hf2 := b2 _ _ hx1 nfd nfv
      have lys : ys.length ≤ 2 := by rw [tg.len, ← e2]; exact RC.proc_len _ _
      refine ⟨f, g, xs1, ys, rfl, rfl, hf2, hg, sz_of (by omega), fun r hr2 => ?_⟩
      have x3 := Ex.new (o := .lst (xs1 ++ ys)) hr2
      have im1 : Tups lV H2 xs1 h.wls := t1.imp fun b ts hb => b2 _ _ hb (ne_of hb hd1 (by intro z; cases z)) (ne_of hb hv1 (by intro z; cases z))
      have nrd : r ≠ d := fun e => by rw [e, hd2] at hr2; cases hr2
      have nrv : r ≠ v := fun e => by rw [e, hv2] at hr2; cases hr2
      have hr0 : H r = none := by
        cases z : H r with
        | none => rfl
        | some o => rw [b2 _ _ (b1 _ _ z nrd) nrd nrv] at hr2; cases hr2
      refine q r _ _ mo' se' ar' ws' ps' hr0 ((Two.d b1).trans (b2.trans (Two.ex x3))) ?_ (x3 _ _ hv2) (tp2.ex x3) mem len upd_same ?_
      · show _ = some (HO.dK (dS (h.wk.proc l).1 _))
        rw [e1]; exact x3 _ _ hd2
      · show Tups lV _ _ (h.wls ++ (h.wk.proc l).2)
        rw [e2]; exact (im1.app tg).ex x3
    have keepT : ∀ (H2 : Hp), Two d v H1 H2 → ∀ (xs : List V) (zs : List Lt), Tups lV H1 xs zs → Tups lV H2 xs zs := fun H2 b2 xs zs tz => tz.imp fun b ts hb => b2 _ _ hb (ne_of hb hd1 (by intro z; cases z)) (ne_of hb hv1 (by intro z; cases z))
    have nil : ∀ (H2 : Hp) (h' : Hd), But d H1 H2 → H2 d = some (.dK (dS h' (tl u v mo se ar ea))) → (h.wk.proc l).1 = h' → (h.wk.proc l).2 = [] → Q (.ref f) H2 := fun H2 h' b2 hd2 e1 e2 => by
      refine q f xs1 H2 mo se ar ws ps hf ((Two.d b1).trans (Two.d b2)) ?_ (b2 _ _ hv1 nvd) (keepT _ (Two.d b2) _ _ tp1) (fun x hx => .inl hx) (by omega) (b2 _ _ hx1 nfd) ?_
      · show _ = some (HO.dK (dS (h.wk.proc l).1 _))
        rw [e1]; exact hd2
      · show Tups lV _ _ (h.wls ++ (h.wk.proc l).2)
        rw [e2, List.append_nil]
        exact keepT _ (Two.d b2) _ _ t1
    -- one letter more, made anew
    have send : ∀ (H2 : Hp) (h' : Hd) (l' : Lt) (mo' se' : Int) (ar' : Bool) (ws' : List V) (ps' : List Lt), Two d v H1 H2 → H2 d = some (.dK (dS h' (tl u v mo' se' ar' ea))) → H2 v = some (.lst ws') → Tups lV H2 ws' ps' →
        (∀ x, x ∈ ps' → x ∈ ps ∨ (x.word = .answer ∧ h.num < x.num)) → ps'.length ≤ ps.length + 1 → (h.wk.proc l).1 = h' → (h.wk.proc l).2 = [l'] → ∀ t2, H2 t2 = none → ∀ g, upd H2 t2 (.tup (lV l')) g = none →
        rCat (.ref f) (.ref g) (upd (upd H2 t2 (.tup (lV l'))) g (.lst [.ref t2])) Q := by
      intro H2 h' l' mo' se' ar' ws' ps' b2 hd2 hv2 tp2 mem len e1 e2 t2 ht2 g hg
      have x1 := Ex.new (o := .tup (lV l')) ht2
      have x2 := Ex.new (o := .lst [V.ref t2]) hg
      have xx := x1.trans x2
      exact fin _ g _ h' [l'] mo' se' ar' ws' ps' (b2.trans (Two.ex xx)) (xx _ _ hd2) (xx _ _ hv2) (tp2.ex xx) mem len upd_same (.one (x2 _ _ upd_same)) e1 e2
    have nums : h.wk.num = h.num := rfl
    cases ew : l.word with
    | ask =>
      have pr : h.wk.proc l = h.wk.asked l := by unfold Hd.proc; rw [ew]
      have stp1 := fa1 ew
      refine rd_eq rfl ?_
      rw [wAsk]
      refine rd_bl ?_
      refine iteT ?_
      walk_at "rd"
      by_cases c1 : l.num = h.num
      · rw [decide_eq_true (show l.num = h.wk.num from c1)]
        walk_at "rd"
        refine rd_getS hd1 get_first ?_
        cases hc : h.wk.crowned with
        | false =>
          have pe : h.wk.proc l = ({ h.wk with crowned := true, known := some l.num }, [⟨1, .crown, l.num, 0, 0⟩]) := by
            rw [pr]; unfold Hd.asked; rw [if_pos ⟨c1, hc⟩]
          walk_at "rd"
          refine rd_putS hd1 tl_len (put_first tl_off) ?_
          walk_at "rd"
          refine rd_putS upd_same tl_len put_around ?_
          walk_at "rd"
          refine rd_putS upd_same tl_len (put_known (x := some l.num) tl_off) ?_
          rw [upd_upd, upd_upd]
          walk_at "rd"
          refine ⟨by show 5 ≤ sizeLine; decide, fun t2 ht2 => ?_⟩
          walk_at "rd"
          refine ⟨by show 1 ≤ sizeLine; decide, fun g hg => ?_⟩
          exact send _ _ ⟨1, .crown, l.num, 0, 0⟩ mo se true ws ps (Two.d But.upd) upd_same (by rw [upd_ne nvd]; exact hv1) (keepT _ (Two.d But.upd) _ _ tp1) (fun x hx => .inl hx) (by omega) (by rw [pe]) (by rw [pe]) t2 ht2 g hg
        | true =>
          have pe : h.wk.proc l = (h.wk, []) := by
            rw [pr]; unfold Hd.asked; rw [if_neg (by rw [hc]; intro z; cases z.2), if_pos (by rw [nums]; omega)]
          walk_at "rd"
          refine rd_eq rfl ?_
          rw [wAsk]
          refine rd_bl ?_
          refine iteT ?_
          walk_at "rd"
          refine rd_getS hd1 get_num ?_
          walk_at "rd"
          refine rd_dec (fun z => absurd z (by rw [nums]; omega)) fun _ => ?_
          walk_at "rd"
          refine rd_eq rfl ?_
          rw [wAns]
          refine rd_bl ?_
          refine iteF ?_
          walk_at "rd"
          refine rd_ne rfl ?_
          rw [wAsk]
          refine rd_bl ?_
          refine iteNT ?_
          walk_at "rd"
          exact nil H1 h.wk (fun _ _ z _ => z) hd1 (by rw [pe]) (by rw [pe])
      · rw [decide_eq_false (show ¬ l.num = h.wk.num from c1)]
        walk_at "rd"
        refine rd_eq rfl ?_
        rw [wAsk]
        refine rd_bl ?_
        refine iteT ?_
        walk_at "rd"
        refine rd_getS hd1 get_num ?_
        walk_at "rd"
        refine rd_dec (fun c2 => ?_) (fun c2 => ?_)
        · have c2' : h.num < l.num := c2
          have pe : h.wk.proc l = if 1 < l.stp then ({ h.wk with beaten := true }, [⟨l.way, .ask, l.num, l.stg, l.stp - 1⟩]) else ({ h.wk with beaten := true }, [⟨-l.way, .answer, l.num, l.stg, 0⟩]) := by
            rw [pr]; unfold Hd.asked
            rw [if_neg fun z => c1 z.1, if_neg (by rw [nums]; omega), ew]
          walk_at "rd"
          refine rd_putS hd1 tl_len (put_beaten tl_off) ?_
          walk_at "rd"
          refine rd_getS upd_same get_seen ?_
          walk_at "rd"
          refine ⟨_, _, rfl, ?_⟩
          walk_at "rd"
          refine rd_putS upd_same tl_len put_seen ?_
          rw [upd_upd]
          generalize (if l.num > se then l.num else se) = se'
          walk_at "rd"
          refine rd_dec (fun c3 => ?_) (fun c3 => ?_)
          · rw [if_neg (by omega)] at pe
            walk_at "rd"
            rw [Int.zero_sub]
            refine ⟨by show 5 ≤ sizeLine; decide, fun t2 ht2 => ?_⟩
            walk_at "rd"
            refine ⟨by show 1 ≤ sizeLine; decide, fun g hg => ?_⟩
            exact send _ _ ⟨-l.way, .answer, l.num, l.stg, 0⟩ mo se' ar ws ps (Two.d But.upd) upd_same (by rw [upd_ne nvd]; exact hv1) (keepT _ (Two.d But.upd) _ _ tp1) (fun x hx => .inl hx) (by omega) (by rw [pe]) (by rw [pe]) t2 ht2 g hg
          · rw [if_pos (by omega)] at pe
            refine rd_next ?_
            refine rd_seq ?_
            walk_at "rd"
            refine rd_getS upd_same get_most ?_
            walk_at "rd"
            refine ⟨_, _, rfl, ?_⟩
            walk_at "rd"
            refine rd_putS upd_same tl_len put_most ?_
            rw [upd_upd]
            generalize (if l.num > mo then l.num else mo) = mo'
            with_reducible refine rd_seq ?_
            have hb2 : But d H1 (upd H1 d (.dK (dS { h.wk with beaten := true } (tl u v mo' se' ar ea)))) := But.upd
            have hd2 : upd H1 d (.dK (dS { h.wk with beaten := true } (tl u v mo' se' ar ea))) d = some (.dK (dS { h.wk with beaten := true } (tl u v mo' se' ar ea))) := upd_same
            generalize upd H1 d (.dK (dS { h.wk with beaten := true } (tl u v mo' se' ar ea))) = H2 at hb2 hd2 ⊢
            have hv2 := hb2 _ _ hv1 nvd
            have tp2 := keepT _ (Two.d hb2) _ _ tp1
            refine if_mid (fun σ H' => σ = [some (.ref d), some (.ref t), some (.ref f), some (.int l.way), some (.str (wS .ask)), some (.int l.num), some (.int l.stg), some (.int l.stp), some (.bl false)] ∧
              ∃ ws' ps', Two d v H1 H' ∧ H' d = some (.dK (dS { h.wk with beaten := true } (tl u v mo' se' ar ea))) ∧ H' v = some (.lst ws') ∧ Tups lV H' ws' ps' ∧ (∀ x, x ∈ ps' → x ∈ ps ∨ (x.word = .answer ∧ h.num < x.num)) ∧ ps'.length ≤ ps.length + 1) (fun nx hn => ?_) ?_
            · have stay : nx [some (.ref d), some (.ref t), some (.ref f), some (.int l.way), some (.str (wS .ask)), some (.int l.num), some (.int l.stg), some (.int l.stp), some (.bl false)] H2 := hn _ _ ⟨rfl, ws, ps, Two.d hb2, hd2, hv2, tp2, fun x hx => .inl hx, by omega⟩
              walk_at "rd"
              refine rd_dec (fun c4 => ?_) (fun c4 => ?_)
              · walk_at "rd"
                refine rd_getS hd2 get_known ?_
                refine rd_neK ?_
                refine rd_bl ?_
                refine rd_ndec (fun _ => ?_) (fun _ => ?_)
                · walk_at "rd"
                  refine rd_getS hd2 get_passed ?_
                  refine ⟨.inl ⟨rfl, _, SqL.of hv2⟩, ?_⟩
                  walk_at "rd"
                  rw [Int.zero_sub]
                  refine ⟨by show 5 ≤ sizeLine; decide, fun t3 ht3 => ?_⟩
                  walk_at "rd"
                  have x3 := Ex.new (o := .tup (lV ⟨-l.way, .answer, l.num, l.stg, 0⟩)) ht3
                  have hv3 := x3 _ _ hv2
                  refine ⟨v, ws, _, rfl, rfl, hv3, by rw [tps.len, sizeLine_eq]; omega, ?_⟩
                  have tw3 : Tups lV (upd (upd H2 t3 (.tup (lV ⟨-l.way, .answer, l.num, l.stg, 0⟩))) v (.lst (ws ++ [V.ref t3]))) (ws ++ [V.ref t3]) (ps ++ [⟨-l.way, .answer, l.num, l.stg, 0⟩]) := Tups.grow hv3 (tp2.ex x3) upd_same _
                  refine hn _ _ ⟨rfl, ws ++ [V.ref t3], ps ++ [(⟨-l.way, .answer, l.num, l.stg, 0⟩ : Lt)], (Two.d hb2).trans ((Two.ex x3).trans (Two.v But.upd)), by rw [upd_ne nvd.symm]; exact x3 _ _ hd2, upd_same, tw3, fun x hx => ?_, by simp⟩
                  rcases List.mem_append.mp hx with hx | hx
                  · exact .inl hx
                  · rw [List.mem_singleton.mp hx]; exact .inr ⟨rfl, c2'⟩
                · walk_at "rd"
                  exact stay
              · walk_at "rd"
                exact stay
            · rintro σ H' ⟨rfl, ws', ps', b3, hd3, hv3, tp3, mem, len⟩
              walk_at "rd"
              refine ⟨by show 5 ≤ sizeLine; decide, fun t2 ht2 => ?_⟩
              walk_at "rd"
              refine ⟨by show 1 ≤ sizeLine; decide, fun g hg => ?_⟩
              exact send _ _ ⟨l.way, .ask, l.num, l.stg, l.stp - 1⟩ mo' se' ar ws' ps' b3 hd3 hv3 tp3 mem len (by rw [pe]) (by rw [pe]) t2 ht2 g hg
        · have c2' : ¬ h.num < l.num := c2
          have pe : h.wk.proc l = (h.wk, []) := by
            rw [pr]; unfold Hd.asked; rw [if_neg fun z => c1 z.1, if_pos (by rw [nums]; omega)]
          walk_at "rd"
          refine rd_eq rfl ?_
          rw [wAns]
          refine rd_bl ?_
          refine iteF ?_
          walk_at "rd"
          refine rd_ne rfl ?_
          rw [wAsk]
          refine rd_bl ?_
          refine iteNT ?_
          walk_at "rd"
          exact nil H1 h.wk (fun _ _ z _ => z) hd1 (by rw [pe]) (by rw [pe])
    | answer =>
      have pr : h.wk.proc l = h.wk.answered l := by unfold Hd.proc; rw [ew]
      refine rd_eq rfl ?_
      rw [wAsk]
      refine rd_bl ?_
      refine iteF ?_
      walk_at "rd"
      refine rd_eq rfl ?_
      rw [wAsk]
      refine rd_bl ?_
      refine iteF ?_
      walk_at "rd"
      refine rd_eq rfl ?_
      rw [wAns]
      refine rd_bl ?_
      refine iteT ?_
      walk_at "rd"
      by_cases c1 : l.num = h.num
      · obtain ⟨g1, g2, _⟩ := fa2 ew c1
        rw [decide_eq_true (show l.num = h.wk.num from c1)]
        walk_at "rd"
        refine rd_getS hd1 get_came ?_
        walk_at "rd"
        refine rd_putS hd1 tl_len (put_came tl_off) ?_
        walk_at "rd"
        refine rd_getS upd_same get_came ?_
        walk_at "rd"
        refine rd_dec (fun c2 => ?_) (fun c2 => ?_)
        · have c2' : h.came + 1 = 2 := c2
          walk_at "rd"
          cases hb : h.beaten with
          | true =>
            have pe : h.wk.proc l = ({ h.wk with came := h.wk.came + 1 }, []) := by
              rw [pr]; unfold Hd.answered; rw [if_neg (show ¬ l.num ≠ h.wk.num from fun z => z c1), if_pos (show h.wk.came + 1 < 2 ∨ h.wk.beaten = true from .inr hb)]
            refine rd_getS (v := .bl true) upd_same (get_beaten.trans (congrArg (fun b => some (V.bl b)) hb)) ?_
            walk_at "rd"
            exact nil _ _ But.upd upd_same (by rw [pe]) (by rw [pe])
          | false =>
            have pe : h.wk.proc l = (h.wk.up, h.wk.up.asks) := by
              rw [pr]; unfold Hd.answered
              rw [if_neg (show ¬ l.num ≠ h.wk.num from fun z => z c1), if_neg (show ¬ (h.wk.came + 1 < 2 ∨ h.wk.beaten = true) from fun z => by
                rcases z with z | z
                · have : h.came + 1 < 2 := z
                  omega
                · rw [show h.wk.beaten = h.beaten from rfl, hb] at z; cases z)]
            refine rd_getS (v := .bl false) upd_same (get_beaten.trans (congrArg (fun b => some (V.bl b)) hb)) ?_
            walk_at "rd"
            refine rd_putS upd_same tl_len (put_came tl_off) ?_
            walk_at "rd"
            refine rd_putS upd_same tl_len (put_stage tl_off) ?_
            rw [upd_upd, upd_upd]
            have eu : dS ({ ({ ({ h.wk with came := h.wk.came + 1 } : Hd) with came := 0 } : Hd) with stage := l.stg + 1 } : Hd) (tl u v mo se ar ea) = dS h.wk.up (tl u v mo se ar ea) := by rw [g1]; rfl
            rw [eu]
            walk_at "rd"
            obtain ⟨sn, hs1, hs2, hs3⟩ := fr
            refine ⟨d, h.wk.up, _, rfl, upd_same, ⟨sn + 1, ?_, by omega, ?_⟩, fun g ys H' hg x hg' tg => ?_⟩
            · show h.stage + 1 = _
              omega
            · show 2 * h.far = _
              rw [hs3, Nat.pow_succ]
              omega
            exact fin H' g ys _ _ mo se ar ws ps ((Two.d But.upd).trans (Two.ex x)) (x _ _ upd_same) (x _ _ (by rw [upd_ne nvd]; exact hv1)) ((keepT _ (Two.d But.upd) _ _ tp1).ex x) (fun x hx => .inl hx) (by omega) hg' tg (by rw [pe]) (by rw [pe])
        · have c2' : ¬ h.came + 1 = 2 := c2
          have pe : h.wk.proc l = ({ h.wk with came := h.wk.came + 1 }, []) := by
            rw [pr]; unfold Hd.answered
            rw [if_neg (show ¬ l.num ≠ h.wk.num from fun z => z c1), if_pos (show h.wk.came + 1 < 2 ∨ h.wk.beaten = true from by
              rcases g2 with z | z
              · exact .inl (show h.came + 1 < 2 by omega)
              · exact .inr z)]
          walk_at "rd"
          exact nil _ _ But.upd upd_same (by rw [pe]) (by rw [pe])
      · have pe : h.wk.proc l = (h.wk, [l]) := by
          rw [pr]; unfold Hd.answered; rw [if_pos (show l.num ≠ h.wk.num from c1)]
        rw [decide_eq_false (show ¬ l.num = h.wk.num from c1)]
        walk_at "rd"
        refine rd_ne rfl ?_
        rw [wAsk]
        refine rd_bl ?_
        refine iteNF ?_
        walk_at "rd"
        refine rd_eq rfl ?_
        rw [wCrn]
        refine rd_bl ?_
        refine iteF ?_
        walk_at "rd"
        refine ⟨by show 1 ≤ sizeLine; decide, fun g hg => ?_⟩
        have x1 := Ex.new (o := .lst [V.ref t]) hg
        exact fin _ g _ h.wk [l] mo se ar ws ps (Two.ex x1) (x1 _ _ hd1) (x1 _ _ hv1) (tp1.ex x1) (fun x hx => .inl hx) (by omega) upd_same (.one (x1 _ _ ht1)) (by rw [pe]) (by rw [pe])
    | crown =>
      have pr : h.wk.proc l = h.wk.told l := by unfold Hd.proc; rw [ew]
      refine rd_eq rfl ?_
      rw [wAsk]
      refine rd_bl ?_
      refine iteF ?_
      walk_at "rd"
      refine rd_eq rfl ?_
      rw [wAsk]
      refine rd_bl ?_
      refine iteF ?_
      walk_at "rd"
      refine rd_eq rfl ?_
      rw [wAns]
      refine rd_bl ?_
      refine iteF ?_
      walk_at "rd"
      refine rd_ne rfl ?_
      rw [wAsk]
      refine rd_bl ?_
      refine iteNF ?_
      walk_at "rd"
      by_cases c1 : l.num = h.num
      · have pe : h.wk.proc l = (h.wk, []) := by
          rw [pr]; unfold Hd.told; rw [if_pos (show l.num = h.wk.num from c1)]
        rw [decide_eq_true (show l.num = h.wk.num from c1)]
        walk_at "rd"
        exact nil H1 h.wk (fun _ _ z _ => z) hd1 (by rw [pe]) (by rw [pe])
      · have pe : h.wk.proc l = ({ h.wk with known := some l.num }, [l]) := by
          rw [pr]; unfold Hd.told; rw [if_neg (show ¬ l.num = h.wk.num from c1)]
        rw [decide_eq_false (show ¬ l.num = h.wk.num from c1)]
        walk_at "rd"
        refine rd_eq rfl ?_
        rw [wCrn]
        refine rd_bl ?_
        refine iteT ?_
        walk_at "rd"
        refine rd_putS hd1 tl_len (put_known (x := some l.num) tl_off) ?_
        walk_at "rd"
        refine ⟨by show 1 ≤ sizeLine; decide, fun g hg => ?_⟩
        have x1 := Ex.new (o := .lst [V.ref t]) hg
        exact fin _ g _ _ [l] mo se ar ws ps ((Two.d But.upd).trans (Two.ex x1)) (x1 _ _ upd_same) (x1 _ _ (by rw [upd_ne nvd]; exact hv1)) ((keepT _ (Two.d But.upd) _ _ tp1).ex x1) (fun x hx => .inl hx) (by omega) upd_same (.one (x1 _ _ (by rw [upd_ne ntd]; exact ht1))) (by rw [pe]) (by rw [pe])
end
end Rc
namespace Rc
open PySem L2 Evl
open RC (Hd Lt Wd Rg)

local macro_rules | `(tactic| walk_at "rd1") => `(tactic| first
  | (with_reducible refine rd_seq ?_)
  | (with_reducible refine rd_asg ?_)
  | (with_reducible refine rd_if ?_)
  | ((with_reducible refine' rd_var ?e ?_); (case e => rfl))
  | (with_reducible refine rd_c ?_)
  | (with_reducible refine rd_op ?_)
  | (with_reducible refine rd_I0 ?_)
  | ((with_reducible refine rd_I ?e ?_); case e => first | exact (show (0 : Int) < _ by decide) | exact (show _ ∧ _ from ⟨by decide, by decide⟩) | exact Or.inl ⟨by decide, by decide⟩ | exact Or.inr ⟨by decide, by decide⟩)
  | (with_reducible refine rd_eqI ?_)
  | (with_reducible refine rd_neI ?_)
  | (with_reducible refine rd_bl ?_)
  | (with_reducible refine rd_test ?_)
  | (with_reducible refine rd_and ?_)
  | (with_reducible refine rd_or ?_)
  | (with_reducible refine rd_not ?_)
  | (with_reducible refine rd_andV ?_)
  | (with_reducible refine rd_orV ?_)
  | (with_reducible refine rd_notV ?_)
  | (with_reducible refine rd_B ?_)
  | (with_reducible refine rd_ifE ?_)
  | (with_reducible refine rd_cons ?_)
  | (with_reducible refine rd_nil ?_)
  | (with_reducible refine rd_CB ?_)
  | (with_reducible refine rd_call ?_)
  | (with_reducible refine rd_callS ?_)
  | (with_reducible refine rd_meth ?_)
  | (with_reducible refine rd_mk ?_)
  | (with_reducible refine rd_lst ?_)
  | (with_reducible refine rd_tup ?_)
  | (with_reducible refine rd_un ?_)
  | (with_reducible refine rd_U ?_)
  | (with_reducible refine rd_tFld ?_)
  | (with_reducible refine rd_sFld ?_)
  | (with_reducible refine rd_methW ?_)
  | (with_reducible refine rd_abs ?_)
  | (with_reducible refine rd_int1 ?_)
  | (with_reducible refine rd_isNo ?_)
  | (with_reducible refine rd_notNo ?_)
  | (with_reducible refine rd_isBo ?_)
  | (with_reducible refine rd_notBo ?_)
  | (with_reducible refine rd_forL ?_)
  | (with_reducible refine rd_forT ?_)
  | (with_reducible refine rd_forR1 ?_)
  | (with_reducible refine rd_forR2 ?_)
  | (with_reducible refine rd_lcL ?_)
  | (with_reducible refine rd_lcT ?_)
  | (with_reducible refine rd_lcR1 ?_)
  | (with_reducible refine rd_chain ?_)
  | (with_reducible refine rd_ret ?_)
  | (with_reducible refine rd_retN ?_)
  | (with_reducible refine rd_drop ?_)
  | (with_reducible refine rd_next ?_)
  | (with_reducible refine rd_asgG ?_)
  | (with_reducible refine rd_pop ?_)
  | (with_reducible refine rd_makeW ?_)
  | (with_reducible refine rd_min2 ?_)
  | (with_reducible refine rd_tLenSet ?_)
  | (with_reducible refine rd_sl ?_)
  | (with_reducible refine rd_tPart ?_)
  | (with_reducible refine rd_part ?_)
  | (with_reducible refine rd_nopart ?_)
  | (with_reducible refine rd_bm0 ?_)
  | (with_reducible refine rd_dget ?_)
  | (with_reducible refine rd_dput ?_)
  | (with_reducible refine rd_forR3 ?_)
  | (with_reducible refine iteNT ?_)
  | (with_reducible refine iteNF ?_)
  | (with_reducible refine iteF ?_)
  | (with_reducible refine iteT ?_))
local macro_rules | `(tactic| walk_at "rd") => `(tactic| repeat (walk_at "rd1"))

-- RcDict
section
variable {P : Program} {w : World} {K : PySem.W.Frag} {mg : Str → Option Value} {base : Heap} {A : Adr}
/-! ### whose ask comes -/
def spNumber : Sp := fun vs H Q _ => ∃ (d u v : Addr) (h : Hd) (mo se : Int) (ar ea : Bool) (c : Int), vs = [.int c, .ref d] ∧ H d = some (.dK (dS h (tl u v mo se ar ea))) ∧ ∀ n : Int, Q (.int n) H
theorem sc__law_number : FnScope ["_law_cell", "_law_state", "_law_own", "_law_more"] ["_law_cell", "_law_state"] (defScope s__law_number) := ⟨rfl, rfl, rfl, by decide +kernel, rfl, by decide +kernel, by decide +kernel⟩
theorem ok__law_number (T : Txt K mg A) : FnOk P w K mg base CX0 1 A.f__law_number A.fd__law_number ["_law_cell", "_law_state"] spNumber := by
  refine T.fun__law_number.ok sc__law_number (fun vs H Q E h => ?_) (fun cdv Ar outer s H vs Q E hr h => ?_)
  · obtain ⟨d, u, v, h, mo, se, ar, ea, c, rfl, _⟩ := h
    rfl
  · obtain ⟨d, u, v, h, mo, se, ar, ea, c, rfl, hd, q⟩ := h
    refine ⟨_, (pss_cons (ps_set (i := 2) sc__law_number.nd rfl (Or.inl rfl) (pe_dget (hu_of hr) (pv 1) pe_str (fun _ _ => rfl)))
      (pss_cons (ps_set (i := 3) sc__law_number.nd rfl (Or.inl rfl) (pe_op op_add (pe_op op_add (pv 2) pe_int) (pe_op op_mod (pe_op op_fdiv (pv 0) pe_int) pe_int)))
      (pss_cons (ps_if (pt_cmpR op_notNo (pe_dget (hu_of hr) (pv 1) pe_str (fun _ _ => rfl)) pe_non (nomark _)) (pss_one (ps_set (i := 3) sc__law_number.nd rfl (Or.inl rfl) (pe_callB (call_minN rfl) (by rfl) T.no_min (by decide +kernel) (pa_cons (pv 3) (pa_cons (pe_dget (hu_of hr) (pv 1) pe_str (fun _ _ => rfl)) pa_nil))))) pss_nil)
      (pss_cons (ps_if (PW.pt (pw_and (pt_val (pe_dget (hu_of hr) (pv 1) pe_str (fun _ _ => rfl))) (pw_and (pt_not (pt_val (pe_dget (hu_of hr) (pv 1) pe_str (fun _ _ => rfl)))) (pw_and1 (PW.pt (pw_or (pt_cmpR op_eq (pe_op op_mod (pv 0) pe_int) pe_int (nomark _)) (pw_or1 (PW.pt (pw_and (pt_val (pe_dget (hu_of hr) (pv 1) pe_str (fun _ _ => rfl))) (pw_and1 (pt_cmpR op_eq (pv 2) pe_int (nomark _)))))))))))) (pss_one (ps_ret (pv 2))) pss_nil)
      (pss_cons (ps_if (PW.pt (pw_and (pt_cmpR op_gt (pv 2) pe_int (nomark _)) (pw_and1 (PW.pt (pw_or (pt_cmpR op_lt (pe_op op_mod (pv 0) pe_int) pe_int (nomark _)) (pw_or1 (pt_val (pe_dget (hu_of hr) (pv 1) pe_str (fun _ _ => rfl))))))))) (pss_one (ps_ret (pe_op op_mod (pe_op op_fdiv (pv 0) pe_int) (pv 2)))) pss_nil)
      (pss_one (ps_ret (pv 3)))))))), ?_⟩
    walk_at "rd"
    refine rd_getS hd get_num ?_
    walk_at "rd"
    refine rd_getS hd get_known ?_
    walk_at "rd"
    have L : ∀ m : Int, [some (V.int c), some (.ref d), some (.int h.num), some (.int m)] = [some (V.int c), some (.ref d), some (.int h.num), some (.int m)] := fun _ => rfl
    refine if_join (fun σ H' => H' = H ∧ ∃ m : Int, σ = [some (.int c), some (.ref d), some (.int h.num), some (.int m)]) (fun z nx hn => ?_) (fun z => ⟨rfl, _, rfl⟩) ?_
    · cases hk : h.known with
      | none =>
        rw [hk, show (!decide (kV none = V.non)) = false from rfl] at z
        cases z
      | some k =>
        walk_at "rd"
        refine rd_getS (v := .int k) hd (get_known.trans (by rw [hk]; rfl)) ?_
        walk_at "rd"
        exact hn _ _ ⟨rfl, _, rfl⟩
    · rintro σ H' ⟨rfl, m, rfl⟩
      with_reducible refine rd_seq ?_
      refine if_mid (fun σ H2 => H2 = H' ∧ σ = [some (.int c), some (.ref d), some (.int h.num), some (.int m)]) (fun nx hn => ?_) ?_
      · have stay : nx [some (.int c), some (.ref d), some (.int h.num), some (.int m)] H' := hn _ _ ⟨rfl, rfl⟩
        walk_at "rd"
        refine rd_getS hd get_awake ?_
        walk_at "rd"
        refine rd_ite (fun _ => ?_) (fun _ => ?_)
        · walk_at "rd"
          refine rd_getS hd get_beaten ?_
          walk_at "rd"
          refine rd_ite (fun _ => ?_) (fun _ => ?_)
          · walk_at "rd"
            refine rd_dec (fun _ => ?_) (fun _ => ?_)
            · walk_at "rd"
              exact q _
            · walk_at "rd"
              refine rd_getS hd get_first ?_
              walk_at "rd"
              refine rd_ite (fun _ => ?_) (fun _ => ?_)
              · walk_at "rd"
                refine rd_dec (fun _ => ?_) (fun _ => ?_)
                · walk_at "rd"
                  exact q _
                · walk_at "rd"
                  exact stay
              · walk_at "rd"
                exact stay
          · walk_at "rd"
            exact stay
        · walk_at "rd"
          exact stay
      · rintro σ H2 ⟨rfl, rfl⟩
        walk_at "rd"
        refine rd_dec (fun pos => ?_) (fun _ => ?_)
        · walk_at "rd"
          refine rd_dec (fun _ => ?_) (fun _ => ?_)
          · walk_at "rd"
            refine rd_I pos ?_
            exact q _
          · walk_at "rd"
            refine rd_getS hd get_first ?_
            walk_at "rd"
            refine rd_ite (fun _ => ?_) (fun _ => ?_)
            · walk_at "rd"
              refine rd_I pos ?_
              exact q _
            · walk_at "rd"
              exact q _
        · walk_at "rd"
          exact q _
theorem rd_eqNilI {K : PySem.W.Frag} {H : Hp} {Q : VK} {a b : Addr} {ks : List Int} (ha : SqL K H a (ks.map V.int)) (hb : SqL K H b []) (q : Q (.bl ks.isEmpty) H) : rEqD K (.ref a) (.ref b) H Q :=
  ⟨_, _, .lst ha (ints_dp ks), .lst hb .nil, ints_shaped ks, by decide +kernel, by
    have e : PyData.eqv (.list (ks.map PyData.int)) (.list []) = ks.isEmpty := by cases ks <;> rfl
    rw [e]; exact q⟩
def spDue (K : PySem.W.Frag) : Sp := fun vs H Q _ => ∃ (d u v : Addr) (h : Hd) (mo se : Int) (ar ea : Bool) (du : List Int), vs = [.ref d] ∧ H d = some (.dK (dS h (tl u v mo se ar ea))) ∧ H u = some (.lst (du.map V.int)) ∧ Far h ∧
  ∀ (b : Bool) (H' : Hp), Ex H H' → (b = true → h.came ≤ 1 ∧ h.stage < 6 ∧ du ≠ []) → Q (.bl b) H'
theorem sc__law_is_due : FnScope ["_law_state"] ["_law_state"] (defScope s__law_is_due) := ⟨rfl, rfl, rfl, by decide +kernel, rfl, by decide +kernel, by decide +kernel⟩
theorem ok__law_is_due (T : Txt K mg A) : FnOk P w K mg base CX0 1 A.f__law_is_due A.fd__law_is_due ["_law_state"] (spDue K) := by
  refine T.fun__law_is_due.ok sc__law_is_due (fun vs H Q E h => ?_) (fun cdv Ar outer s H vs Q E hr h => ?_)
  · obtain ⟨d, u, v, h, mo, se, ar, ea, du, rfl, _⟩ := h
    rfl
  · obtain ⟨d, u, v, h, mo, se, ar, ea, du, rfl, hd, hu, fr, q⟩ := h
    refine ⟨_, (pss_cons (ps_if (PW.pt (pw_or (pt_not (pt_val (pe_dget (hu_of hr) (pv 0) pe_str (fun _ _ => rfl)))) (pw_or (pt_val (pe_dget (hu_of hr) (pv 0) pe_str (fun _ _ => rfl))) (pw_or (pt_cmpR op_gt (pe_dget (hu_of hr) (pv 0) pe_str (fun _ _ => rfl)) pe_int (nomark _)) (pw_or1 (pt_cmpR (op_eqD hr.units) (pe_dget (hu_of hr) (pv 0) pe_str (fun _ _ => rfl)) (pe_lst pa_nil) (nomark _))))))) (pss_one (ps_ret pe_bl)) pss_nil)
      (pss_one (ps_ret (pe_and (pe_cmpR op_lt (pe_dget (hu_of hr) (pv 0) pe_str (fun _ _ => rfl)) pe_int (nomark _)) (pe_one (pe_cmpR op_gt (pe_op op_shr (pe_dget (hu_of hr) (pv 0) pe_str (fun _ _ => rfl)) (pe_dget (hu_of hr) (pv 0) pe_str (fun _ _ => rfl))) pe_int (nomark _))))))), ?_⟩
    walk_at "rd"
    refine rd_getS hd get_awake ?_
    walk_at "rd"
    have no : ∀ H', Ex H H' → Q (.bl false) H' := fun H' e => q false H' e fun z => by cases z
    refine rd_ite (fun _ => ?_) (fun _ => ?_)
    · walk_at "rd"
      exact no H (Ex.refl H)
    walk_at "rd"
    refine rd_getS hd get_first ?_
    walk_at "rd"
    refine rd_ite (fun _ => ?_) (fun _ => ?_)
    · walk_at "rd"
      exact no H (Ex.refl H)
    walk_at "rd"
    refine rd_getS hd get_came ?_
    walk_at "rd"
    refine rd_dec (fun _ => ?_) (fun c1 => ?_)
    · walk_at "rd"
      exact no H (Ex.refl H)
    walk_at "rd"
    refine rd_getS hd get_due ?_
    walk_at "rd"
    refine ⟨Nat.zero_le _, fun u2 hu2 => ?_⟩
    have x1 := Ex.new (o := .lst []) hu2
    refine rd_eqNilI (SqL.of (x1 _ _ hu)) (SqL.of upd_same) ?_
    generalize upd H u2 (.lst []) = H1 at x1 ⊢
    have hd1 := x1 _ _ hd
    cases du with
    | nil =>
      walk_at "rd"
      exact no H1 x1
    | cons a du =>
      obtain ⟨st, h1, _, _⟩ := fr
      refine rd_bl ?_
      refine iteF ?_
      walk_at "rd"
      refine rd_getS hd1 get_stage ?_
      walk_at "rd"
      refine rd_dec (fun c2 => ?_) (fun _ => ?_)
      · walk_at "rd"
        refine rd_getS hd1 get_num ?_
        walk_at "rd"
        refine rd_getS hd1 get_stage ?_
        refine rd_I (show (0 : Int) ≤ h.stage by omega) ?_
        walk_at "rd"
        exact q _ H1 x1 fun _ => ⟨by omega, c2, fun z => by cases z⟩
      · walk_at "rd"
        exact no H1 x1
/-! ### all that the law keeps -/
theorem seq_mid {ts tr : TS} {nx : St → Hp → Prop} {rt : VK} {bk ct : St → Hp → Prop} {σ : St} {H : Hp} (Pv : St → Hp → Prop) (h1 : ∀ nx' : St → Hp → Prop, (∀ σ H, Pv σ H → nx' σ H) → ts ⟨nx', rt, bk, ct⟩ σ H)
    (h2 : ∀ σ H, Pv σ H → tr ⟨nx, rt, bk, ct⟩ σ H) : tSeq ts tr ⟨nx, rt, bk, ct⟩ σ H := h1 _ h2
structure Sta (K : PySem.W.Frag) (CH : Addr) (H : Hp) (p d u v : Addr) (h : Hd) (mo se : Int) (ar ea : Bool) (du : List Int) (ws : List V) (ps : List Lt) (N : Nat) : Prop where
  hand : ∃ dx, H p = some (.ins CH dx (hf h))
  dict : H d = some (.dK (dS h (tl u v mo se ar ea)))
  due : H u = some (.lst (du.map V.int))
  pas : H v = some (.lst ws)
  tps : Tups lV H ws ps
  mem : ∀ x, x ∈ ps → x.word = .answer ∧ h.num < x.num
  len : ps.length ≤ N
  dul : du.length ≤ 2
  far : ∃ s : Nat, h.stage = ((s : Nat) : Int) ∧ s ≤ 6 ∧ h.far = ((2 ^ s : Nat) : Int)
  cb : h.came ≤ 1 ∨ h.beaten = true
  uv : u ≠ v
section
variable {K : PySem.W.Frag} {CH : Addr} {H H' : Hp} {p d u v : Addr} {h : Hd} {mo se : Int} {ar ea : Bool} {du : List Int} {ws : List V} {ps : List Lt} {N : Nat}
theorem Sta.ex (S : Sta K CH H p d u v h mo se ar ea du ws ps N) (e : Ex H H') : Sta K CH H' p d u v h mo se ar ea du ws ps N :=
  ⟨S.hand.imp fun _ z => e _ _ z, e _ _ S.dict, e _ _ S.due, e _ _ S.pas, S.tps.ex e, S.mem, S.len, S.dul, S.far, S.cb, S.uv⟩
theorem Sta.Far (S : Sta K CH H p d u v h mo se ar ea du ws ps N) : Far h := by
  obtain ⟨s, h1, h2, h3⟩ := S.far
  exact ⟨s, h1, by omega, h3⟩
/-- all but the hand, the dict, and its two lists stays -/
def Fr (p d u v : Addr) (H H' : Hp) : Prop := ∀ b o, H b = some o → b ≠ p → b ≠ d → b ≠ u → b ≠ v → H' b = some o
theorem Fr.ex (e : Ex H H') : Fr p d u v H H' := fun b o hb _ _ _ _ => e b o hb
theorem Fr.trans {H1 : Hp} (a : Fr p d u v H H1) (b : Fr p d u v H1 H') : Fr p d u v H H' := fun c o hc n1 n2 n3 n4 => b c o (a c o hc n1 n2 n3 n4) n1 n2 n3 n4
end
def lt0 : Lt := ⟨0, .ask, 0, 0, 0⟩
def given' (n : Nat) (f : Nat → Bool) (v : Nat → Lt) : List Lt := ((List.range n).filter f).map v
theorem lc_LF {K : PySem.W.Frag} {σ : St} {H : Hp} {te : TE} {tt : TT} {Q : VK} {a : Addr} {xs : List V} {j : Nat} (e : SqL K H a xs) (hz : xs.length ≤ 40000) (f : Nat → Bool) (ys : Nat → V) (ht : ∀ (i : Nat) (x : V) H1, Ex H H1 → xs[i]? = some x → EvT tt ((σ.set j none).set j (some x)) H1 (f i))
    (he : ∀ (i : Nat) (x : V) H1, Ex H H1 → xs[i]? = some x → Ev te ((σ.set j none).set j (some x)) H1 (ys i)) (k : ∀ p H1, H p = none → Ex H H1 → H1 p = some (.lst (given xs.length f ys)) → Q (.ref p) H1) : rLcL K (gName j) tt te [j] σ Q (.ref a) H := by
  have z := el_lcL (K := K) (σ := σ) (H := H) (te := te) (t := tt) (a := a) (xs := xs) (tl := tC (.ref a)) (j := j) (vs := [j]) f ys ev_c e hz (wipe_one σ j) ht (fun i x H1 e1 hi _ => he i x H1 e1 hi)
  exact z H (Ex.refl H) Q k
theorem getD_lt {ps : List Lt} {i : Nat} (h : i < ps.length) : ps.getD i lt0 ∈ ps := by
  rw [List.getD_eq_getElem?_getD, List.getElem?_eq_getElem h]
  exact List.getElem_mem h
theorem Tups.given {H : Hp} {ws : List V} {ps : List Lt} (t : Tups lV H ws ps) (g : Nat → Bool) : Tups lV H (((List.range ws.length).filter g).map fun i => ws.getD i .non) (given' ps.length g fun i => ps.getD i lt0) := by
  have key : ∀ L : List Nat, (∀ i, i ∈ L → i < ps.length) → Tups lV H (L.map fun i => ws.getD i .non) (L.map fun i => ps.getD i lt0) := by
    intro L
    induction L with
    | nil => intro _; exact .nil
    | cons i L ih =>
      intro hL
      have hi : i < ws.length := by rw [t.len]; exact hL i List.mem_cons_self
      obtain ⟨a, x, e1, e2, e3⟩ := t.get (List.getElem?_eq_getElem hi)
      have f1 : ws.getD i .non = .ref a := by rw [List.getD_eq_getElem?_getD, List.getElem?_eq_getElem hi, e1]; rfl
      have f2 : ps.getD i lt0 = x := by rw [List.getD_eq_getElem?_getD, e2]; rfl
      show Tups lV H (ws.getD i .non :: _) (ps.getD i lt0 :: _)
      rw [f1, f2]
      exact .cons e3 (ih fun j hj => hL j (List.mem_cons_of_mem _ hj))
  unfold given'
  rw [t.len]
  exact key _ fun i hi => List.mem_range.mp (List.mem_filter.mp hi).1
theorem erase_map {α β : Type} {f : α → β} : ∀ (l : List α) (j : Nat), (l.map f).eraseIdx j = (l.eraseIdx j).map f
  | [], _ => rfl
  | _ :: _, 0 => rfl
  | a :: l, j + 1 => congrArg (f a :: ·) (erase_map l j)
section
variable {K : PySem.W.Frag} {CH : Addr} {H H' : Hp} {p d u v : Addr} {h : Hd} {mo se : Int} {ar ea : Bool} {du : List Int} {ws : List V} {ps : List Lt} {N : Nat}
theorem Sta.setDue (S : Sta K CH H p d u v h mo se ar ea du ws ps N) {du' : List Int} (l : du'.length ≤ 2) : Sta K CH (upd H u (.lst (du'.map V.int))) p d u v h mo se ar ea du' ws ps N where
  hand := by
    obtain ⟨dx, hp⟩ := S.hand
    exact ⟨dx, by rw [upd_ne (ne_li S.due hp).symm]; exact hp⟩
  dict := by rw [upd_ne (ne_of S.dict S.due (by intro z; cases z))]; exact S.dict
  due := upd_same
  pas := by rw [upd_ne S.uv.symm]; exact S.pas
  tps := S.tps.imp fun a ts z => by rw [upd_ne (ne_tl z S.due)]; exact z
  mem := S.mem
  len := S.len
  dul := l
  far := S.far
  cb := S.cb
  uv := S.uv
theorem Sta.setPas (S : Sta K CH H p d u v h mo se ar ea du ws ps N) {ws' : List V} {ps' : List Lt} (t : Tups lV H ws' ps') (mem : ∀ x, x ∈ ps' → x.word = .answer ∧ h.num < x.num) {N' : Nat} (l : ps'.length ≤ N') : Sta K CH (upd H v (.lst ws')) p d u v h mo se ar ea du ws' ps' N' where
  hand := by
    obtain ⟨dx, hp⟩ := S.hand
    exact ⟨dx, by rw [upd_ne (ne_li S.pas hp).symm]; exact hp⟩
  dict := by rw [upd_ne (ne_of S.dict S.pas (by intro z; cases z))]; exact S.dict
  due := by rw [upd_ne S.uv]; exact S.due
  pas := upd_same
  tps := t.imp fun a ts z => by rw [upd_ne (ne_tl z S.pas)]; exact z
  mem := mem
  len := l
  dul := S.dul
  far := S.far
  cb := S.cb
  uv := S.uv
theorem Sta.setDict (S : Sta K CH H p d u v h mo se ar ea du ws ps N) {x y : Addr} {mo' se' : Int} {ar' : Bool} {du' : List Int} {ws' : List V} {ps' : List Lt} {N' : Nat} (hy : H y = some (.lst (du'.map V.int))) (hx : H x = some (.lst ws')) (t : Tups lV H ws' ps')
    (mem : ∀ x, x ∈ ps' → x.word = .answer ∧ h.num < x.num) (l : ps'.length ≤ N') (ld : du'.length ≤ 2) (yx : y ≠ x) : Sta K CH (upd H d (.dK (dS h (tl y x mo' se' ar' ea)))) p d y x h mo' se' ar' ea du' ws' ps' N' where
  hand := by
    obtain ⟨dx, hp⟩ := S.hand
    exact ⟨dx, by rw [upd_ne (ne_of hp S.dict (by intro z; cases z))]; exact hp⟩
  dict := upd_same
  due := by rw [upd_ne (ne_of hy S.dict (by intro z; cases z))]; exact hy
  pas := by rw [upd_ne (ne_of hx S.dict (by intro z; cases z))]; exact hx
  tps := t.imp fun a ts z => by rw [upd_ne (ne_of z S.dict (by intro q; cases q))]; exact z
  mem := mem
  len := l
  dul := ld
  far := S.far
  cb := S.cb
  uv := yx
end
def spLetter (K : PySem.W.Frag) (CH : Addr) : Sp := fun vs H Q _ => ∃ (p d u v : Addr) (h : Hd) (mo se : Int) (ar ea : Bool) (du : List Int) (ws : List V) (ps : List Lt) (N : Nat) (c m : Int), vs = [.ref d, .int c, .int m] ∧ Sta K CH H p d u v h mo se ar ea du ws ps N ∧ N ≤ 1000 ∧
  ∀ (t : Addr) (l : Lt) (H' : Hp) (v' : Addr) (ar' : Bool) (du' : List Int) (ws' : List V) (ps' : List Lt), Sta K CH H' p d u v' h mo se ar' ea du' ws' ps' N → Fr p d u v H H' → (v' = v ∨ H v' = none) → H' t = some (.tup (lV l)) → Fair h l → Q (.ref t) H'
theorem sc__law_letter : FnScope ["_law_state", "_law_cell", "_law_more", "_law_way", "_law_kind", "_law_steps", "_law_one"] ["_law_state", "_law_cell", "_law_more"] (defScope s__law_letter) := ⟨rfl, rfl, rfl, by decide +kernel, rfl, by decide +kernel, by decide +kernel⟩
theorem ok__law_letter (T : Txt K mg A) (G__law_number : FnOk P w K mg base CX0 1 A.f__law_number A.fd__law_number ["_law_cell", "_law_state"] spNumber)
    (G__law_is_due : FnOk P w K mg base CX0 1 A.f__law_is_due A.fd__law_is_due ["_law_state"] (spDue K)) :
    FnOk P w K mg base CX0 2 A.f__law_letter A.fd__law_letter ["_law_state", "_law_cell", "_law_more"] (spLetter K A.c_Hand) := by
  refine T.fun__law_letter.ok sc__law_letter (fun vs H Q E h => ?_) (fun cdv Ar outer s H vs Q E hr h => ?_)
  · obtain ⟨p, d, u, v, h, mo, se, ar, ea, du, ws, ps, N, c, m, rfl, _⟩ := h
    rfl
  · obtain ⟨p, d, u, v, h, mo, se, ar, ea, du, ws, ps, N, c, m, rfl, S, hN, q⟩ := h
    refine ⟨_, (pss_cons (ps_set (i := 3) sc__law_letter.nd rfl (Or.inl rfl) (pe_op op_sub pe_int (pe_op op_mul pe_int (pe_op op_mod (pe_op op_fdiv (pv 1) pe_int) pe_int))))
      (pss_cons (ps_set (i := 4) sc__law_letter.nd rfl (Or.inl rfl) (pe_op op_mod (pv 1) pe_int))
      (pss_cons (ps_if (PW.pt (pw_and (pt_val (pe_dget (hu_of hr) (pv 0) pe_str (fun _ _ => rfl))) (pw_and1 (pt_cmpR op_gt (pe_op op_mod (pe_op op_fdiv (pv 1) pe_int) pe_int) pe_int (nomark _))))) (pss_one (ps_set (i := 4) sc__law_letter.nd rfl (Or.inl rfl) pe_int)) pss_nil)
      (pss_cons (ps_if (PW.pt (pw_and (pt_cmpR op_eq (pv 4) pe_int (nomark _)) (pw_and1 (pt_val (pe_call G__law_is_due (hr.mono (by decide)) rfl T.mg__law_is_due T.fun__law_is_due.kp T.b__law_is_due .nil pass0 (pa_cons (pv 0) pa_nil)))))) (pss_one (ps_ret (pe_tup (pa_cons (pe_bm PySem.F.plainAttrs_list PySem.F.slot_list_pop PySem.F.type_list_pop mt_popAt (pe_dget (hu_of hr) (pv 0) pe_str (fun _ _ => rfl)) (pa_cons (pe_op op_mod (pv 2) (pe_callB call_lenN (by rfl) T.no_len (by decide +kernel) (pa_cons (pe_dget (hu_of hr) (pv 0) pe_str (fun _ _ => rfl)) pa_nil))) pa_nil)) (pa_cons pe_str (pa_cons (pe_dget (hu_of hr) (pv 0) pe_str (fun _ _ => rfl)) (pa_cons (pe_dget (hu_of hr) (pv 0) pe_str (fun _ _ => rfl)) (pa_cons pe_int pa_nil)))))))) pss_nil)
      (pss_cons (ps_if (PW.pt (pw_and (pt_cmpR op_eq (pv 4) pe_int (nomark _)) (pw_and1 (pt_val (pe_dget (hu_of hr) (pv 0) pe_str (fun _ _ => rfl)))))) (pss_cons (ps_dput (hu_of hr) (pv 0) pe_str pe_bl rfl)
      (pss_one (ps_ret (pe_tup (pa_cons pe_int (pa_cons pe_str (pa_cons (pe_dget (hu_of hr) (pv 0) pe_str (fun _ _ => rfl)) (pa_cons pe_int (pa_cons pe_int pa_nil))))))))) pss_nil)
      (pss_cons (ps_if (PW.pt (pw_and (pt_cmpR op_eq (pv 4) pe_int (nomark _)) (pw_and (pt_cmpR op_isNo (pe_dget (hu_of hr) (pv 0) pe_str (fun _ _ => rfl)) pe_non (nomark _)) (pw_and (pt_cmpR op_eq (pe_dget (hu_of hr) (pv 0) pe_str (fun _ _ => rfl)) (pe_dget (hu_of hr) (pv 0) pe_str (fun _ _ => rfl)) (nomark _)) (pw_and1 (pt_val (pe_dget (hu_of hr) (pv 0) pe_str (fun _ _ => rfl)))))))) (pss_cons (ps_dput (hu_of hr) (pv 0) pe_str (pe_lc (own := [("_law_one", 6)]) (g := gName 6) (by rfl) sc__law_letter.nd (pi_list (pe_dget (hu_of hr) (pv 0) pe_str (fun _ _ => rfl))) (blkOk_by (own := [("_law_one", 6)]) (N := ["_law_state", "_law_cell", "_law_more", "_law_way", "_law_kind", "_law_steps", "_law_one"]) (sc := defScope s__law_letter) (by decide +kernel)) (fun _ _ _ _ _ => pg_name (i := 6) sc__law_letter.nd rfl (Or.inl rfl)) (fun _ _ _ _ _ => (pts_one (pt_cmpR op_ne (pe_ix (ix_tupK (K := K) rfl) (pv 6) pe_int (fun _ _ => rfl)) (pe_dget (hu_of hr) (pv 0) pe_str (fun _ _ => rfl)) (nomark _)))) (fun _ _ _ _ _ => by exact (pv 6))) rfl)
      (pss_one (ps_ret (pe_tup (pa_cons pe_int (pa_cons pe_str (pa_cons (pe_dget (hu_of hr) (pv 0) pe_str (fun _ _ => rfl)) (pa_cons pe_int (pa_cons pe_int pa_nil))))))))) pss_nil)
      (pss_cons (ps_if (PW.pt (pw_and (pt_cmpR op_gt (pv 4) pe_int (nomark _)) (pw_and1 (pt_cmpR (op_neD hr.units) (pe_dget (hu_of hr) (pv 0) pe_str (fun _ _ => rfl)) (pe_lst pa_nil) (nomark _))))) (pss_one (ps_ret (pe_bm PySem.F.plainAttrs_list PySem.F.slot_list_pop PySem.F.type_list_pop mt_popAt (pe_dget (hu_of hr) (pv 0) pe_str (fun _ _ => rfl)) (pa_cons (pe_op op_mod (pv 2) (pe_callB call_lenN (by rfl) T.no_len (by decide +kernel) (pa_cons (pe_dget (hu_of hr) (pv 0) pe_str (fun _ _ => rfl)) pa_nil))) pa_nil)))) pss_nil)
      (pss_cons (ps_set (i := 5) sc__law_letter.nd rfl (Or.inl rfl) (pe_op op_add pe_int (pe_op op_mod (pe_op op_fdiv (pv 2) pe_int) pe_int)))
      (pss_cons (ps_if (pt_cmpR op_eq (pe_op op_mod (pe_op op_fdiv (pv 1) pe_int) pe_int) pe_int (nomark _)) (pss_one (ps_set (i := 5) sc__law_letter.nd rfl (Or.inl rfl) (pe_op op_add pe_int (pe_op op_mod (pe_op op_fdiv (pv 2) pe_int) (pe_op op_pow pe_int pe_int))))) pss_nil)
      (pss_one (ps_ret (pe_tup (pa_cons (pv 3) (pa_cons pe_str (pa_cons (pe_call G__law_number (hr.mono (by decide)) rfl T.mg__law_number T.fun__law_number.kp T.b__law_number .nil pass0 (pa_cons (pv 2) (pa_cons (pv 0) pa_nil))) (pa_cons (pe_op op_mod (pe_op op_fdiv (pv 2) pe_int) pe_int) (pa_cons (pv 5) pa_nil))))))))))))))))), ?_⟩
    refine seq_mid (fun σ H' => H' = H ∧ ∃ way : Int, σ = [some (.ref d), some (.int c), some (.int m), some (.int way), none, none, none]) (fun nx hn => ?_) ?_
    · walk_at "rd"
      exact hn _ _ ⟨rfl, _, rfl⟩
    rintro σ H' ⟨rfl, way, rfl⟩
    refine seq_mid (fun σ H2 => H2 = H' ∧ ∃ k : Int, σ = [some (.ref d), some (.int c), some (.int m), some (.int way), some (.int k), none, none]) (fun nx hn => ?_) ?_
    · walk_at "rd"
      exact hn _ _ ⟨rfl, _, rfl⟩
    rintro σ H ⟨rfl, k, rfl⟩
    refine seq_mid (fun σ H2 => H2 = H ∧ ∃ k : Int, σ = [some (.ref d), some (.int c), some (.int m), some (.int way), some (.int k), none, none]) (fun nx hn => ?_) ?_
    · walk_at "rd"
      refine rd_getS S.dict get_eager ?_
      walk_at "rd"
      refine rd_ite (fun _ => ?_) (fun _ => ?_)
      · walk_at "rd"
        refine rd_dec (fun _ => ?_) (fun _ => ?_)
        · walk_at "rd"
          exact hn _ _ ⟨rfl, _, rfl⟩
        · walk_at "rd"
          exact hn _ _ ⟨rfl, _, rfl⟩
      · walk_at "rd"
        exact hn _ _ ⟨rfl, _, rfl⟩
    clear k
    rintro σ H' ⟨rfl, k, rfl⟩
    -- an answer that is due
    refine seq_mid (fun σ H2 => Ex H' H2 ∧ σ = [some (.ref d), some (.int c), some (.int m), some (.int way), some (.int k), none, none]) (fun nx hn => ?_) ?_
    · have stay : ∀ H2, Ex H' H2 → nx [some (.ref d), some (.int c), some (.int m), some (.int way), some (.int k), none, none] H2 := fun H2 e => hn _ _ ⟨e, rfl⟩
      walk_at "rd"
      refine rd_dec (fun _ => ?_) (fun _ => ?_)
      · walk_at "rd"
        refine ⟨d, u, v, h, mo, se, ar, ea, du, rfl, S.dict, S.due, S.Far, fun b H2 e2 hb => ?_⟩
        have S2 := S.ex e2
        walk_at "rd"
        refine rd_ite (fun b1 => ?_) (fun _ => ?_)
        · obtain ⟨g1, g2, g3⟩ := hb b1
          walk_at "rd"
          refine rd_getS S2.dict get_due ?_
          refine ⟨.inl ⟨rfl, _, SqL.of S2.due⟩, ?_⟩
          walk_at "rd"
          refine rd_getS S2.dict get_due ?_
          walk_at "rd"
          refine rd_len (SqL.of S2.due) ?_
          rw [List.length_map]
          have ln : 0 < du.length := List.length_pos_iff.mpr g3
          refine rd_I (show (0 : Int) < ((du.length : Nat) : Int) by omega) ?_
          obtain ⟨j, hj, hlt⟩ : ∃ j : Nat, m % ((du.length : Nat) : Int) = ((j : Nat) : Int) ∧ j < du.length := by
            have z1 := Int.emod_nonneg m (show ((du.length : Nat) : Int) ≠ 0 by omega)
            have z2 := Int.emod_lt_of_pos m (show (0 : Int) < ((du.length : Nat) : Int) by omega)
            exact ⟨(m % ((du.length : Nat) : Int)).toNat, by omega, by omega⟩
          rw [hj]
          walk_at "rd"
          have hx : (du.map V.int)[j]? = some (V.int (du.getD j 0)) := by
            rw [List.getElem?_map, List.getD_eq_getElem?_getD, List.getElem?_eq_getElem hlt]; rfl
          refine rd_popAt (xs := du.map V.int) S2.due (by have := S2.dul; omega) hx ?_
          rw [erase_map]
          have S3 := S2.setDue (du' := du.eraseIdx j) (by have := List.length_eraseIdx_le du j; have := S2.dul; omega)
          have F3 : Fr p d u v H' (upd H2 u (.lst ((du.eraseIdx j).map V.int))) := (Fr.ex e2).trans fun b o hb _ _ n _ => by rw [upd_ne n]; exact hb
          generalize upd H2 u (.lst ((du.eraseIdx j).map V.int)) = H3 at S3 F3 ⊢
          walk_at "rd"
          refine rd_getS S3.dict get_num ?_
          walk_at "rd"
          refine rd_getS S3.dict get_stage ?_
          walk_at "rd"
          refine ⟨by show 5 ≤ sizeLine; decide, fun t ht => ?_⟩
          exact q t ⟨du.getD j 0, .answer, h.num, h.stage, 0⟩ _ v ar (du.eraseIdx j) ws ps (S3.ex (Ex.new ht)) (F3.trans (Fr.ex (Ex.new ht))) (.inl rfl) upd_same ⟨fun z => (by cases z), fun _ _ => ⟨rfl, .inl g1, g2⟩⟩
        · walk_at "rd"
          exact stay _ e2
      · walk_at "rd"
        exact stay _ (Ex.refl _)
    rintro σ H2 ⟨e2, rfl⟩
    have S2 := S.ex e2
    -- its own crown
    refine seq_mid (fun σ H3 => H3 = H2 ∧ σ = [some (.ref d), some (.int c), some (.int m), some (.int way), some (.int k), none, none]) (fun nx hn => ?_) ?_
    · have stay : nx [some (.ref d), some (.int c), some (.int m), some (.int way), some (.int k), none, none] H2 := hn _ _ ⟨rfl, rfl⟩
      walk_at "rd"
      refine rd_dec (fun _ => ?_) (fun _ => ?_)
      · walk_at "rd"
        refine rd_getS S2.dict get_around ?_
        walk_at "rd"
        refine rd_ite (fun _ => ?_) (fun _ => ?_)
        · walk_at "rd"
          refine rd_putS S2.dict tl_len put_around ?_
          have S3 := S2.setDict (x := v) (y := u) (mo' := mo) (se' := se) (ar' := false) S2.due S2.pas S2.tps S2.mem S2.len S2.dul S2.uv
          have F3 : Fr p d u v H' (upd H2 d (.dK (dS h (tl u v mo se false ea)))) := (Fr.ex e2).trans fun b o hb _ n _ _ => by rw [upd_ne n]; exact hb
          generalize upd H2 d (.dK (dS h (tl u v mo se false ea))) = H3 at S3 F3 ⊢
          walk_at "rd"
          refine rd_getS S3.dict get_num ?_
          walk_at "rd"
          refine ⟨by show 5 ≤ sizeLine; decide, fun t ht => ?_⟩
          exact q t ⟨1, .crown, h.num, 0, 0⟩ _ v false du ws ps (S3.ex (Ex.new ht)) (F3.trans (Fr.ex (Ex.new ht))) (.inl rfl) upd_same ⟨fun z => (by cases z), fun z => (by cases z)⟩
        · walk_at "rd"
          exact stay
      · walk_at "rd"
        exact stay
    rintro σ H3 ⟨rfl, rfl⟩
    -- the crown of the greatest that beat it
    refine seq_mid (fun σ H2 => H2 = H3 ∧ σ = [some (.ref d), some (.int c), some (.int m), some (.int way), some (.int k), none, none]) (fun nx hn => ?_) ?_
    · have stay : nx [some (.ref d), some (.int c), some (.int m), some (.int way), some (.int k), none, none] H3 := hn _ _ ⟨rfl, rfl⟩
      walk_at "rd"
      refine rd_dec (fun _ => ?_) (fun _ => ?_)
      · walk_at "rd"
        refine rd_getS S2.dict get_known ?_
        walk_at "rd"
        refine rd_dec (fun _ => ?_) (fun _ => ?_)
        · walk_at "rd"
          refine rd_getS S2.dict get_most ?_
          walk_at "rd"
          refine rd_getS S2.dict get_seen ?_
          walk_at "rd"
          refine rd_dec (fun _ => ?_) (fun _ => ?_)
          · walk_at "rd"
            refine rd_getS S2.dict get_beaten ?_
            walk_at "rd"
            refine rd_ite (fun _ => ?_) (fun _ => ?_)
            · walk_at "rd"
              refine rd_getS S2.dict get_passed ?_
              have at_ : ∀ {i : Nat} {x : V}, ws[i]? = some x → ∃ t l, x = .ref t ∧ ps.getD i lt0 = l ∧ H3 t = some (.tup (lV l)) := fun {i x} hx => by
                obtain ⟨t, l, e, hl, ht⟩ := S2.tps.get hx
                exact ⟨t, l, e, by rw [List.getD_eq_getElem?_getD, hl]; rfl, ht⟩
              refine lc_LF (SqL.of S2.pas) (by rw [S2.tps.len]; have := S2.len; omega) (fun i => !decide ((ps.getD i lt0).num = mo)) (fun i => ws.getD i .non) (fun i x H4 e4 hx => fun H5 e5 Q2 q2 => ?_) (fun i x H4 e4 hx => fun H5 e5 Q2 q2 => ?_) (fun x H4 hx e4 hx4 => ?_)
              · obtain ⟨t, l, rfl, el, ht⟩ := at_ hx
                walk_at "rd"
                refine rd_ixT (k := 2) (SqT.of (e5 _ _ (e4 _ _ ht))) rfl rfl ?_
                walk_at "rd"
                refine rd_getS (e5 _ _ (e4 _ _ S2.dict)) get_most ?_
                walk_at "rd"
                have z := q2 H5 (Ex.refl H5)
                rw [el] at z
                exact z
              · walk_at "rd"
                have z := q2 H5 (Ex.refl H5)
                rw [List.getD_eq_getElem?_getD, hx] at z
                exact z
              · have S4 := S2.ex e4
                walk_at "rd"
                refine rd_putS S4.dict tl_len put_passed ?_
                have mem5 : ∀ y, y ∈ given' ps.length (fun i => !decide ((ps.getD i lt0).num = mo)) (fun i => ps.getD i lt0) → y.word = .answer ∧ h.num < y.num := fun y hy => by
                  obtain ⟨i, hi, rfl⟩ := List.mem_map.mp hy
                  exact S4.mem _ (getD_lt (List.mem_range.mp (List.mem_filter.mp hi).1))
                have len5 : (given' ps.length (fun i => !decide ((ps.getD i lt0).num = mo)) (fun i => ps.getD i lt0)).length ≤ N := by
                  refine Nat.le_trans ?_ S4.len
                  unfold given'
                  rw [List.length_map]
                  exact Nat.le_trans (List.length_filter_le _ _) (by rw [List.length_range]; exact Nat.le_refl _)
                have S5 := S4.setDict (x := x) (y := u) (mo' := mo) (se' := se) (ar' := ar) S4.due hx4 (S4.tps.given _) mem5 len5 S4.dul (ne_of_none S2.due hx)
                have F5 : Fr p d u v H' (upd H4 d (.dK (dS h (tl u x mo se ar ea)))) := (Fr.ex (e2.trans e4)).trans fun b o hb _ n _ _ => by rw [upd_ne n]; exact hb
                generalize upd H4 d (.dK (dS h (tl u x mo se ar ea))) = H5 at S5 F5 ⊢
                walk_at "rd"
                refine rd_getS S5.dict get_most ?_
                walk_at "rd"
                refine ⟨by show 5 ≤ sizeLine; decide, fun t ht => ?_⟩
                exact q t ⟨1, .crown, mo, 0, 0⟩ _ x ar du _ _ (S5.ex (Ex.new ht)) (F5.trans (Fr.ex (Ex.new ht))) (.inr (ex_none e2 hx)) upd_same ⟨fun z => (by cases z), fun z => (by cases z)⟩
            · walk_at "rd"
              exact stay
          · walk_at "rd"
            exact stay
        · walk_at "rd"
          exact stay
      · walk_at "rd"
        exact stay
    rintro σ H2 ⟨rfl, rfl⟩
    -- one that it sent on
    refine seq_mid (fun σ H3 => Ex H2 H3 ∧ σ = [some (.ref d), some (.int c), some (.int m), some (.int way), some (.int k), none, none]) (fun nx hn => ?_) ?_
    · have stay : ∀ H3, Ex H2 H3 → nx [some (.ref d), some (.int c), some (.int m), some (.int way), some (.int k), none, none] H3 := fun H3 e => hn _ _ ⟨e, rfl⟩
      walk_at "rd"
      refine rd_dec (fun _ => ?_) (fun _ => ?_)
      · walk_at "rd"
        refine rd_getS S2.dict get_passed ?_
        walk_at "rd"
        refine ⟨Nat.zero_le _, fun u2 hu2 => ?_⟩
        have x1 := Ex.new (o := .lst []) hu2
        refine rd_neNil lD_ok (SqL.of (x1 _ _ S2.pas)) (SqL.of upd_same) (S2.tps.ex x1) ?_
        generalize upd H2 u2 (.lst []) = H3 at x1 ⊢
        have S3 := S2.ex x1
        refine rd_bl ?_
        refine rd_ite (fun z => ?_) (fun z => ?_)
        · have hne : 0 < ps.length := by
            cases w : ps with
            | nil => rw [w] at z; cases z
            | cons _ _ => simp
          walk_at "rd"
          refine rd_getS S3.dict get_passed ?_
          refine ⟨.inl ⟨rfl, _, SqL.of S3.pas⟩, ?_⟩
          walk_at "rd"
          refine rd_getS S3.dict get_passed ?_
          walk_at "rd"
          refine rd_len (SqL.of S3.pas) ?_
          rw [S3.tps.len]
          refine rd_I (show (0 : Int) < ((ps.length : Nat) : Int) by omega) ?_
          obtain ⟨j, hj, hlt⟩ : ∃ j : Nat, m % ((ps.length : Nat) : Int) = ((j : Nat) : Int) ∧ j < ps.length := by
            have z1 := Int.emod_nonneg m (show ((ps.length : Nat) : Int) ≠ 0 by omega)
            have z2 := Int.emod_lt_of_pos m (show (0 : Int) < ((ps.length : Nat) : Int) by omega)
            exact ⟨(m % ((ps.length : Nat) : Int)).toNat, by omega, by omega⟩
          rw [hj]
          walk_at "rd"
          obtain ⟨y, hy⟩ : ∃ y, ws[j]? = some y := ⟨_, List.getElem?_eq_getElem (by rw [S3.tps.len]; exact hlt)⟩
          obtain ⟨t, l, rfl, hl, ht⟩ := S3.tps.get hy
          obtain ⟨g1, g2⟩ := S3.mem l (List.mem_of_getElem? hl)
          refine rd_popAt (xs := ws) S3.pas (by have := S3.len; omega) hy ?_
          have S4 := S3.setPas (ws' := ws.eraseIdx j) (ps' := ps.eraseIdx j) (N' := N) (S3.tps.erase j) (fun x hx => S3.mem x (List.mem_of_mem_eraseIdx hx)) (by have := List.length_eraseIdx_le ps j; have := S3.len; omega)
          have F4 : Fr p d u v H' (upd H3 v (.lst (ws.eraseIdx j))) := (Fr.ex (e2.trans x1)).trans fun b o hb _ _ _ n => by rw [upd_ne n]; exact hb
          have ntv : t ≠ v := ne_tl ht S3.pas
          walk_at "rd"
          exact q t l _ v ar du _ _ S4 F4 (.inl rfl) (by rw [upd_ne ntv]; exact ht) ⟨fun z => (by rw [g1] at z; cases z), fun _ z => absurd z (by omega)⟩
        · walk_at "rd"
          exact stay _ x1
      · walk_at "rd"
        exact stay _ (Ex.refl _)
    rintro σ H3 ⟨e3, rfl⟩
    have S3 := S2.ex e3
    refine seq_mid (fun σ H2 => H2 = H3 ∧ ∃ k2 : Int, 1 ≤ k2 ∧ σ = [some (.ref d), some (.int c), some (.int m), some (.int way), some (.int k), some (.int k2), none]) (fun nx hn => ?_) ?_
    · walk_at "rd"
      exact hn _ _ ⟨rfl, _, by omega, rfl⟩
    rintro σ H4 ⟨rfl, k2, hk2, rfl⟩
    refine seq_mid (fun σ H2 => H2 = H4 ∧ ∃ k2 : Int, 1 ≤ k2 ∧ σ = [some (.ref d), some (.int c), some (.int m), some (.int way), some (.int k), some (.int k2), none]) (fun nx hn => ?_) ?_
    · walk_at "rd"
      refine rd_dec (fun _ => ?_) (fun _ => ?_)
      · walk_at "rd"
        have pp : (0 : Int) < 10 ^ Int.toNat 9 := Int.pow_pos (by decide)
        have nn := Int.emod_nonneg (m / 40) (show (10 ^ Int.toNat 9 : Int) ≠ 0 by omega)
        exact hn _ _ ⟨rfl, _, by omega, rfl⟩
      · walk_at "rd"
        exact hn _ _ ⟨rfl, _, hk2, rfl⟩
    clear hk2 k2
    rintro σ H5 ⟨rfl, k2, hk2, rfl⟩
    walk_at "rd"
    refine ⟨d, u, v, h, mo, se, ar, ea, m, rfl, S3.dict, fun n => ?_⟩
    walk_at "rd"
    refine ⟨by show 5 ≤ sizeLine; decide, fun t ht => ?_⟩
    exact q t ⟨way, .ask, n, m / 4 % 10, k2⟩ _ v ar du ws ps (S3.ex (Ex.new ht)) (Fr.ex ((e2.trans e3).trans (Ex.new ht))) (.inl rfl) upd_same ⟨fun _ => hk2, fun z => by cases z⟩
end
end Rc
namespace Rc
open PySem L2 Evl
open RC (Hd Lt Wd Rg)

local macro_rules | `(tactic| walk_at "rd1") => `(tactic| first
  | (with_reducible refine rd_seq ?_)
  | (with_reducible refine rd_asg ?_)
  | (with_reducible refine rd_if ?_)
  | ((with_reducible refine' rd_var ?e ?_); (case e => rfl))
  | (with_reducible refine rd_c ?_)
  | (with_reducible refine rd_op ?_)
  | (with_reducible refine rd_I0 ?_)
  | ((with_reducible refine rd_I ?e ?_); case e => first | exact (show (0 : Int) < _ by decide) | exact (show _ ∧ _ from ⟨by decide, by decide⟩) | exact Or.inl ⟨by decide, by decide⟩ | exact Or.inr ⟨by decide, by decide⟩)
  | (with_reducible refine rd_eqI ?_)
  | (with_reducible refine rd_neI ?_)
  | (with_reducible refine rd_bl ?_)
  | (with_reducible refine rd_test ?_)
  | (with_reducible refine rd_and ?_)
  | (with_reducible refine rd_or ?_)
  | (with_reducible refine rd_not ?_)
  | (with_reducible refine rd_andV ?_)
  | (with_reducible refine rd_orV ?_)
  | (with_reducible refine rd_notV ?_)
  | (with_reducible refine rd_B ?_)
  | (with_reducible refine rd_ifE ?_)
  | (with_reducible refine rd_cons ?_)
  | (with_reducible refine rd_nil ?_)
  | (with_reducible refine rd_CB ?_)
  | (with_reducible refine rd_call ?_)
  | (with_reducible refine rd_callS ?_)
  | (with_reducible refine rd_meth ?_)
  | (with_reducible refine rd_mk ?_)
  | (with_reducible refine rd_lst ?_)
  | (with_reducible refine rd_tup ?_)
  | (with_reducible refine rd_un ?_)
  | (with_reducible refine rd_U ?_)
  | (with_reducible refine rd_tFld ?_)
  | (with_reducible refine rd_sFld ?_)
  | (with_reducible refine rd_methW ?_)
  | (with_reducible refine rd_abs ?_)
  | (with_reducible refine rd_int1 ?_)
  | (with_reducible refine rd_isNo ?_)
  | (with_reducible refine rd_notNo ?_)
  | (with_reducible refine rd_isBo ?_)
  | (with_reducible refine rd_notBo ?_)
  | (with_reducible refine rd_forL ?_)
  | (with_reducible refine rd_forT ?_)
  | (with_reducible refine rd_forR1 ?_)
  | (with_reducible refine rd_forR2 ?_)
  | (with_reducible refine rd_lcL ?_)
  | (with_reducible refine rd_lcT ?_)
  | (with_reducible refine rd_lcR1 ?_)
  | (with_reducible refine rd_chain ?_)
  | (with_reducible refine rd_ret ?_)
  | (with_reducible refine rd_retN ?_)
  | (with_reducible refine rd_drop ?_)
  | (with_reducible refine rd_next ?_)
  | (with_reducible refine rd_asgG ?_)
  | (with_reducible refine rd_pop ?_)
  | (with_reducible refine rd_makeW ?_)
  | (with_reducible refine rd_min2 ?_)
  | (with_reducible refine rd_tLenSet ?_)
  | (with_reducible refine rd_sl ?_)
  | (with_reducible refine rd_tPart ?_)
  | (with_reducible refine rd_part ?_)
  | (with_reducible refine rd_nopart ?_)
  | (with_reducible refine rd_bm0 ?_)
  | (with_reducible refine rd_dget ?_)
  | (with_reducible refine rd_dput ?_)
  | (with_reducible refine rd_forR3 ?_)
  | (with_reducible refine iteNT ?_)
  | (with_reducible refine iteNF ?_)
  | (with_reducible refine iteF ?_)
  | (with_reducible refine iteT ?_))
local macro_rules | `(tactic| walk_at "rd") => `(tactic| repeat (walk_at "rd1"))

-- RcDict
section
variable {P : Program} {w : World} {K : PySem.W.Frag} {mg : Str → Option Value} {base : Heap} {A : Adr}
/-! ### the four questions -/
structure HandOk (P : Program) (w : World) (K : PySem.W.Frag) (mg : Str → Option Value) (base : Heap) (A : Adr) : Prop where
  is_awake : FnOk P w K mg base CX0 1 A.f_Hand_is_awake A.fd_Hand_is_awake ["self"] (spHAsk A.c_Hand fun h => .bl h.awake)
  is_first : FnOk P w K mg base CX0 1 A.f_Hand_is_first A.fd_Hand_is_first ["self"] (spHAsk A.c_Hand fun h => .bl h.crowned)
  stage : FnOk P w K mg base CX0 1 A.f_Hand_stage A.fd_Hand_stage ["self"] (spHAsk A.c_Hand stageV)
  knows : FnOk P w K mg base CX0 1 A.f_Hand_knows A.fd_Hand_knows ["self"] (spHAsk A.c_Hand fun h => kV h.known)
theorem hand_ask {C p dx : Addr} {h : Hd} {f : Hd → V} {H : Hp} {Q : VK} {E : XK} (hp : H p = some (.ins C dx (hf h))) (v : V) (e : f h = v) (q : Q v H) : spHAsk C f [.ref p] H Q E := ⟨p, dx, h, rfl, hp, e ▸ q⟩
def spTold (CH : Addr) : Sp := fun vs H Q _ => ∃ (p d dx : Addr) (h : Hd) (t : List (Key × V)) (n : Nat), vs = [.ref p, .ref d, .int ((n : Nat) : Int)] ∧ n < 4 ∧ H p = some (.ins CH dx (hf h)) ∧ H d = some (.dK (dS h t)) ∧ Q (.bl true) H
theorem sc__law_told : FnScope ["_law_hand", "_law_state", "_law_which", "_law_found", "_law_due"] ["_law_hand", "_law_state", "_law_which"] (defScope s__law_told) := ⟨rfl, rfl, rfl, by decide +kernel, rfl, by decide +kernel, by decide +kernel⟩
theorem ok__law_told (T : Txt K mg A) (G : HandOk P w K mg base A) (G__law_truth : FnOk P w K mg base CX0 1 A.f__law_truth A.fd__law_truth ["_law_found", "_law_due"] spTruth)
    (G__law_whole : FnOk P w K mg base CX0 1 A.f__law_whole A.fd__law_whole ["_law_found"] (spInt K)) : FnOk P w K mg base CX0 2 A.f__law_told A.fd__law_told ["_law_hand", "_law_state", "_law_which"] (spTold A.c_Hand) := by
  have G_Hand_is_awake := G.is_awake
  have G_Hand_is_first := G.is_first
  have G_Hand_stage := G.stage
  have G_Hand_knows := G.knows
  refine T.fun__law_told.ok sc__law_told (fun vs H Q E h => ?_) (fun cdv Ar outer s H vs Q E hr h => ?_)
  · obtain ⟨p, d, dx, h, t, n, rfl, _⟩ := h
    rfl
  · obtain ⟨p, d, dx, h, t, n, rfl, hn, hp, hd, q⟩ := h
    refine ⟨_, (pss_cons (ps_if (pt_cmpR op_eq (pv 2) pe_int (nomark _)) (pss_one (ps_ret (pe_call G__law_truth (hr.mono (by decide)) rfl T.mg__law_truth T.fun__law_truth.kp T.b__law_truth .nil pass0 (pa_cons (pe_meth0 (pv 0) T.cl_Hand T.mt_Hand_is_awake G_Hand_is_awake (hr.mono (by decide)) T.b_Hand_is_awake .nil pass0) (pa_cons (pe_dget (hu_of hr) (pv 1) pe_str (fun _ _ => rfl)) pa_nil))))) pss_nil)
      (pss_cons (ps_if (pt_cmpR op_eq (pv 2) pe_int (nomark _)) (pss_one (ps_ret (pe_call G__law_truth (hr.mono (by decide)) rfl T.mg__law_truth T.fun__law_truth.kp T.b__law_truth .nil pass0 (pa_cons (pe_meth0 (pv 0) T.cl_Hand T.mt_Hand_is_first G_Hand_is_first (hr.mono (by decide)) T.b_Hand_is_first .nil pass0) (pa_cons (pe_dget (hu_of hr) (pv 1) pe_str (fun _ _ => rfl)) pa_nil))))) pss_nil)
      (pss_cons (ps_if (pt_cmpR op_eq (pv 2) pe_int (nomark _)) (pss_cons (ps_set (i := 3) sc__law_told.nd rfl (Or.inl rfl) (pe_meth0 (pv 0) T.cl_Hand T.mt_Hand_stage G_Hand_stage (hr.mono (by decide)) T.b_Hand_stage .nil pass0))
      (pss_one (ps_set (i := 4) sc__law_told.nd rfl (Or.inl rfl) (pe_ifExp (pt_val (pe_dget (hu_of hr) (pv 1) pe_str (fun _ _ => rfl))) (pe_dget (hu_of hr) (pv 1) pe_str (fun _ _ => rfl)) pe_non)))) (pss_cons (ps_set (i := 3) sc__law_told.nd rfl (Or.inl rfl) (pe_meth0 (pv 0) T.cl_Hand T.mt_Hand_knows G_Hand_knows (hr.mono (by decide)) T.b_Hand_knows .nil pass0))
      (pss_one (ps_set (i := 4) sc__law_told.nd rfl (Or.inl rfl) (pe_dget (hu_of hr) (pv 1) pe_str (fun _ _ => rfl))))))
      (pss_cons (ps_if (pt_cmpR op_isNo (pv 4) pe_non (nomark _)) (pss_one (ps_ret (pe_cmpR op_isNo (pv 3) pe_non (nomark _)))) pss_nil)
      (pss_one (ps_ret (pe_and (pe_call G__law_whole (hr.mono (by decide)) rfl T.mg__law_whole T.fun__law_whole.kp T.b__law_whole .nil pass0 (pa_cons (pv 3) pa_nil)) (pe_and (pe_cmpR op_eq (pv 3) (pv 4) (nomark _)) (pe_and (pe_call G__law_whole (hr.mono (by decide)) rfl T.mg__law_whole T.fun__law_whole.kp T.b__law_whole .nil pass0 (pa_cons (pe_fld (pv 0) rfl) pa_nil)) (pe_one (pe_cmpR op_eq (pe_fld (pv 0) rfl) (pe_dget (hu_of hr) (pv 1) pe_str (fun _ _ => rfl)) (nomark _)))))))))))), ?_⟩
    walk_at "rd"
    match n, hn with
    | 0, _ =>
      refine iteT ?_
      walk_at "rd"
      refine rd_recv hp rfl ?_
      walk_at "rd"
      refine ⟨p, dx, h, rfl, hp, ?_⟩
      walk_at "rd"
      refine rd_getS hd get_awake ?_
      walk_at "rd"
      refine ⟨_, _, rfl, ?_⟩
      rw [decide_eq_true rfl]
      exact q
    | 1, _ =>
      refine iteF ?_
      walk_at "rd"
      refine iteT ?_
      walk_at "rd"
      refine rd_recv hp rfl ?_
      walk_at "rd"
      refine ⟨p, dx, h, rfl, hp, ?_⟩
      walk_at "rd"
      refine rd_getS hd get_first ?_
      walk_at "rd"
      refine ⟨_, _, rfl, ?_⟩
      rw [decide_eq_true rfl]
      exact q
    | 2, _ =>
      refine iteF ?_
      walk_at "rd"
      refine iteF ?_
      walk_at "rd"
      refine iteT ?_
      walk_at "rd"
      refine rd_recv hp rfl ?_
      walk_at "rd"
      refine ⟨p, dx, h, rfl, hp, ?_⟩
      walk_at "rd"
      refine rd_getS hd get_awake ?_
      walk_at "rd"
      cases ha : h.awake with
      | true =>
        have es : stageV h = .int h.stage := by unfold stageV; rw [ha]; rfl
        rw [es]
        refine iteT ?_
        walk_at "rd"
        refine rd_getS hd get_stage ?_
        walk_at "rd"
        refine iteF ?_
        walk_at "rd"
        refine ⟨_, rfl, knd_int _, ?_⟩
        refine rd_bl ?_
        refine iteT ?_
        walk_at "rd"
        refine if_eq_same ?_
        walk_at "rd"
        refine rd_fld hp T.cl_Hand T.at_Hand_number rfl ?_
        walk_at "rd"
        refine ⟨_, rfl, knd_int _, ?_⟩
        refine rd_bl ?_
        refine iteT ?_
        walk_at "rd"
        refine rd_fld hp T.cl_Hand T.at_Hand_number rfl ?_
        walk_at "rd"
        refine rd_getS hd get_num ?_
        walk_at "rd"
        rw [decide_eq_true rfl]
        exact q
      | false =>
        have es : stageV h = .non := by unfold stageV; rw [ha]; rfl
        rw [es]
        refine iteF ?_
        walk_at "rd"
        refine iteT ?_
        walk_at "rd"
        exact q
    | 3, _ =>
      refine iteF ?_
      walk_at "rd"
      refine iteF ?_
      walk_at "rd"
      refine iteF ?_
      walk_at "rd"
      refine rd_recv hp rfl ?_
      walk_at "rd"
      cases hk : h.known with
      | some z =>
        refine hand_ask hp (.int z) (by show kV h.known = _; rw [hk]; rfl) ?_
        walk_at "rd"
        refine rd_getS (v := .int z) hd (get_known.trans (by rw [hk]; rfl)) ?_
        walk_at "rd"
        refine iteF ?_
        walk_at "rd"
        refine ⟨_, rfl, knd_int _, ?_⟩
        refine rd_bl ?_
        refine iteT ?_
        walk_at "rd"
        refine if_eq_same ?_
        walk_at "rd"
        refine rd_fld hp T.cl_Hand T.at_Hand_number rfl ?_
        walk_at "rd"
        refine ⟨_, rfl, knd_int _, ?_⟩
        refine rd_bl ?_
        refine iteT ?_
        walk_at "rd"
        refine rd_fld hp T.cl_Hand T.at_Hand_number rfl ?_
        walk_at "rd"
        refine rd_getS hd get_num ?_
        walk_at "rd"
        rw [decide_eq_true rfl]
        exact q
      | none =>
        refine hand_ask hp .non (by show kV h.known = _; rw [hk]; rfl) ?_
        walk_at "rd"
        refine rd_getS (v := .non) hd (get_known.trans (by rw [hk]; rfl)) ?_
        walk_at "rd"
        refine iteT ?_
        walk_at "rd"
        exact q
def spStands (CH : Addr) : Sp := fun vs H Q _ => ∃ (p d dx : Addr) (h : Hd) (t : List (Key × V)) (n : Int), vs = [.ref p, .ref d, .int n] ∧ H p = some (.ins CH dx (hf h)) ∧ H d = some (.dK (dS h t)) ∧ ∀ H', Ex H H' → Q (.bl true) H'
theorem sc__law_stands : FnScope ["_law_hand", "_law_state", "_law_turn", "_law_ways", "_law_which"] ["_law_hand", "_law_state", "_law_turn"] (defScope s__law_stands) := ⟨rfl, rfl, rfl, by decide +kernel, rfl, by decide +kernel, by decide +kernel⟩
theorem ok__law_stands (T : Txt K mg A) (G__law_told : FnOk P w K mg base CX0 2 A.f__law_told A.fd__law_told ["_law_hand", "_law_state", "_law_which"] (spTold A.c_Hand)) : FnOk P w K mg base CX0 3 A.f__law_stands A.fd__law_stands ["_law_hand", "_law_state", "_law_turn"] (spStands A.c_Hand) := by
  refine T.fun__law_stands.ok sc__law_stands (fun vs H Q E h => ?_) (fun cdv Ar outer s H vs Q E hr h => ?_)
  · obtain ⟨p, d, dx, h, t, n, rfl, _⟩ := h
    rfl
  · obtain ⟨p, d, dx, h, t, n, rfl, hp, hd, q⟩ := h
    refine ⟨_, (pss_cons (ps_set (i := 3) sc__law_stands.nd rfl (Or.inl rfl) (pe_lst (pa_cons (pe_lst (pa_cons pe_int (pa_cons pe_int (pa_cons pe_int (pa_cons pe_int pa_nil))))) (pa_cons (pe_lst (pa_cons pe_int (pa_cons pe_int (pa_cons pe_int (pa_cons pe_int pa_nil))))) (pa_cons (pe_lst (pa_cons pe_int pa_nil)) (pa_cons (pe_lst pa_nil) (pa_cons (pe_lst (pa_cons pe_int (pa_cons pe_int pa_nil))) (pa_cons (pe_lst (pa_cons pe_int pa_nil)) (pa_cons (pe_lst (pa_cons pe_int (pa_cons pe_int (pa_cons pe_int (pa_cons pe_int pa_nil))))) (pa_cons (pe_lst (pa_cons pe_int pa_nil)) (pa_cons (pe_lst (pa_cons pe_int pa_nil)) (pa_cons (pe_lst (pa_cons pe_int (pa_cons pe_int pa_nil))) pa_nil))))))))))))
      (pss_one (ps_ret (pe_callB (cr_all rfl) (by rfl) T.no_all (by decide +kernel) (pa_cons (pe_lc (own := [("_law_which", 4)]) (g := gName 4) (by rfl) sc__law_stands.nd (pi_list (pe_ix ix_list (pv 3) (pe_op op_mod (pv 2) pe_int) (fun _ _ => rfl))) (blkOk_by (own := [("_law_which", 4)]) (N := ["_law_hand", "_law_state", "_law_turn", "_law_ways", "_law_which"]) (sc := defScope s__law_stands) (by decide +kernel)) (fun _ _ _ _ _ => pg_name (i := 4) sc__law_stands.nd rfl (Or.inl rfl)) (fun _ _ _ _ _ => pts_nil) (fun _ _ _ _ _ => by exact (pe_call G__law_told (hr.mono (by decide)) rfl T.mg__law_told T.fun__law_told.kp T.b__law_told .nil pass0 (pa_cons (pv 0) (pa_cons (pv 1) (pa_cons (pv 4) pa_nil)))))) pa_nil))))), ?_⟩
    walk_at "rd"
    refine ⟨by show 4 ≤ sizeLine; decide, fun p0 h0 => ?_⟩
    have x0 := Ex.new (o := .lst [V.int 0, V.int 1, V.int 2, V.int 3]) h0
    have y0 : upd H p0 (.lst [V.int 0, V.int 1, V.int 2, V.int 3]) p0 = some (.lst [V.int 0, V.int 1, V.int 2, V.int 3]) := upd_same
    generalize upd H p0 (.lst [V.int 0, V.int 1, V.int 2, V.int 3]) = G1 at x0 y0 ⊢
    have e0 := x0
    walk_at "rd"
    refine ⟨by show 4 ≤ sizeLine; decide, fun p1 h1 => ?_⟩
    have x1 := Ex.new (o := .lst [V.int 3, V.int 2, V.int 1, V.int 0]) h1
    have y1 : upd G1 p1 (.lst [V.int 3, V.int 2, V.int 1, V.int 0]) p1 = some (.lst [V.int 3, V.int 2, V.int 1, V.int 0]) := upd_same
    generalize upd G1 p1 (.lst [V.int 3, V.int 2, V.int 1, V.int 0]) = G2 at x1 y1 ⊢
    have y0 := x1 _ _ y0
    have e1 := e0.trans x1
    walk_at "rd"
    refine ⟨by show 1 ≤ sizeLine; decide, fun p2 h2 => ?_⟩
    have x2 := Ex.new (o := .lst [V.int 2]) h2
    have y2 : upd G2 p2 (.lst [V.int 2]) p2 = some (.lst [V.int 2]) := upd_same
    generalize upd G2 p2 (.lst [V.int 2]) = G3 at x2 y2 ⊢
    have y0 := x2 _ _ y0
    have y1 := x2 _ _ y1
    have e2 := e1.trans x2
    walk_at "rd"
    refine ⟨by show 0 ≤ sizeLine; decide, fun p3 h3 => ?_⟩
    have x3 := Ex.new (o := .lst ([] : List V)) h3
    have y3 : upd G3 p3 (.lst ([] : List V)) p3 = some (.lst ([] : List V)) := upd_same
    generalize upd G3 p3 (.lst ([] : List V)) = G4 at x3 y3 ⊢
    have y0 := x3 _ _ y0
    have y1 := x3 _ _ y1
    have y2 := x3 _ _ y2
    have e3 := e2.trans x3
    walk_at "rd"
    refine ⟨by show 2 ≤ sizeLine; decide, fun p4 h4 => ?_⟩
    have x4 := Ex.new (o := .lst [V.int 1, V.int 3]) h4
    have y4 : upd G4 p4 (.lst [V.int 1, V.int 3]) p4 = some (.lst [V.int 1, V.int 3]) := upd_same
    generalize upd G4 p4 (.lst [V.int 1, V.int 3]) = G5 at x4 y4 ⊢
    have y0 := x4 _ _ y0
    have y1 := x4 _ _ y1
    have y2 := x4 _ _ y2
    have y3 := x4 _ _ y3
    have e4 := e3.trans x4
    walk_at "rd"
    refine ⟨by show 1 ≤ sizeLine; decide, fun p5 h5 => ?_⟩
    have x5 := Ex.new (o := .lst [V.int 0]) h5
    have y5 : upd G5 p5 (.lst [V.int 0]) p5 = some (.lst [V.int 0]) := upd_same
    generalize upd G5 p5 (.lst [V.int 0]) = G6 at x5 y5 ⊢
    have y0 := x5 _ _ y0
    have y1 := x5 _ _ y1
    have y2 := x5 _ _ y2
    have y3 := x5 _ _ y3
    have y4 := x5 _ _ y4
    have e5 := e4.trans x5
    walk_at "rd"
    refine ⟨by show 4 ≤ sizeLine; decide, fun p6 h6 => ?_⟩
    have x6 := Ex.new (o := .lst [V.int 3, V.int 0, V.int 2, V.int 1]) h6
    have y6 : upd G6 p6 (.lst [V.int 3, V.int 0, V.int 2, V.int 1]) p6 = some (.lst [V.int 3, V.int 0, V.int 2, V.int 1]) := upd_same
    generalize upd G6 p6 (.lst [V.int 3, V.int 0, V.int 2, V.int 1]) = G7 at x6 y6 ⊢
    have y0 := x6 _ _ y0
    have y1 := x6 _ _ y1
    have y2 := x6 _ _ y2
    have y3 := x6 _ _ y3
    have y4 := x6 _ _ y4
    have y5 := x6 _ _ y5
    have e6 := e5.trans x6
    walk_at "rd"
    refine ⟨by show 1 ≤ sizeLine; decide, fun p7 h7 => ?_⟩
    have x7 := Ex.new (o := .lst [V.int 1]) h7
    have y7 : upd G7 p7 (.lst [V.int 1]) p7 = some (.lst [V.int 1]) := upd_same
    generalize upd G7 p7 (.lst [V.int 1]) = G8 at x7 y7 ⊢
    have y0 := x7 _ _ y0
    have y1 := x7 _ _ y1
    have y2 := x7 _ _ y2
    have y3 := x7 _ _ y3
    have y4 := x7 _ _ y4
    have y5 := x7 _ _ y5
    have y6 := x7 _ _ y6
    have e7 := e6.trans x7
    walk_at "rd"
    refine ⟨by show 1 ≤ sizeLine; decide, fun p8 h8 => ?_⟩
    have x8 := Ex.new (o := .lst [V.int 3]) h8
    have y8 : upd G8 p8 (.lst [V.int 3]) p8 = some (.lst [V.int 3]) := upd_same
    generalize upd G8 p8 (.lst [V.int 3]) = G9 at x8 y8 ⊢
    have y0 := x8 _ _ y0
    have y1 := x8 _ _ y1
    have y2 := x8 _ _ y2
    have y3 := x8 _ _ y3
    have y4 := x8 _ _ y4
    have y5 := x8 _ _ y5
    have y6 := x8 _ _ y6
    have y7 := x8 _ _ y7
    have e8 := e7.trans x8
    walk_at "rd"
    refine ⟨by show 2 ≤ sizeLine; decide, fun p9 h9 => ?_⟩
    have x9 := Ex.new (o := .lst [V.int 2, V.int 0]) h9
    have y9 : upd G9 p9 (.lst [V.int 2, V.int 0]) p9 = some (.lst [V.int 2, V.int 0]) := upd_same
    generalize upd G9 p9 (.lst [V.int 2, V.int 0]) = G10 at x9 y9 ⊢
    have y0 := x9 _ _ y0
    have y1 := x9 _ _ y1
    have y2 := x9 _ _ y2
    have y3 := x9 _ _ y3
    have y4 := x9 _ _ y4
    have y5 := x9 _ _ y5
    have y6 := x9 _ _ y6
    have y7 := x9 _ _ y7
    have y8 := x9 _ _ y8
    have e9 := e8.trans x9
    walk_at "rd"
    refine ⟨by show 10 ≤ sizeLine; decide, fun pw hw => ?_⟩
    have x10 := Ex.new (o := .lst [V.ref p0, V.ref p1, V.ref p2, V.ref p3, V.ref p4, V.ref p5, V.ref p6, V.ref p7, V.ref p8, V.ref p9]) hw
    have yw : upd G10 pw (.lst [V.ref p0, V.ref p1, V.ref p2, V.ref p3, V.ref p4, V.ref p5, V.ref p6, V.ref p7, V.ref p8, V.ref p9]) pw = some (.lst [V.ref p0, V.ref p1, V.ref p2, V.ref p3, V.ref p4, V.ref p5, V.ref p6, V.ref p7, V.ref p8, V.ref p9]) := upd_same
    generalize upd G10 pw (.lst [V.ref p0, V.ref p1, V.ref p2, V.ref p3, V.ref p4, V.ref p5, V.ref p6, V.ref p7, V.ref p8, V.ref p9]) = G11 at x10 yw ⊢
    have y0 := x10 _ _ y0
    have y1 := x10 _ _ y1
    have y2 := x10 _ _ y2
    have y3 := x10 _ _ y3
    have y4 := x10 _ _ y4
    have y5 := x10 _ _ y5
    have y6 := x10 _ _ y6
    have y7 := x10 _ _ y7
    have y8 := x10 _ _ y8
    have y9 := x10 _ _ y9
    have e10 := e9.trans x10
    walk_at "rd"
    obtain ⟨ix, hix, hix10⟩ : ∃ ix : Nat, n % 10 = ((ix : Nat) : Int) ∧ ix < 10 := ⟨(n % 10).toNat, by omega, by omega⟩
    obtain ⟨pl, l, hpl, hl, hl4, hl5⟩ : ∃ (pl : Addr) (l : List Nat), ([V.ref p0, V.ref p1, V.ref p2, V.ref p3, V.ref p4, V.ref p5, V.ref p6, V.ref p7, V.ref p8, V.ref p9] : List V)[ix]? = some (.ref pl) ∧ G11 pl = some (.lst (l.map fun i : Nat => V.int ((i : Nat) : Int))) ∧ (∀ i, i ∈ l → i < 4) ∧ l.length ≤ 4 := by
      match ix, hix10 with
      | 0, _ => exact ⟨p0, [0, 1, 2, 3], rfl, y0, by decide, by decide⟩
      | 1, _ => exact ⟨p1, [3, 2, 1, 0], rfl, y1, by decide, by decide⟩
      | 2, _ => exact ⟨p2, [2], rfl, y2, by decide, by decide⟩
      | 3, _ => exact ⟨p3, [], rfl, y3, by decide, by decide⟩
      | 4, _ => exact ⟨p4, [1, 3], rfl, y4, by decide, by decide⟩
      | 5, _ => exact ⟨p5, [0], rfl, y5, by decide, by decide⟩
      | 6, _ => exact ⟨p6, [3, 0, 2, 1], rfl, y6, by decide, by decide⟩
      | 7, _ => exact ⟨p7, [1], rfl, y7, by decide, by decide⟩
      | 8, _ => exact ⟨p8, [3], rfl, y8, by decide, by decide⟩
      | 9, _ => exact ⟨p9, [2, 0], rfl, y9, by decide, by decide⟩
    refine rd_ixL (k := ix) (SqL.of yw) hix hpl ?_
    walk_at "rd"
    refine lc_L (SqL.of hl) (by rw [List.length_map]; omega) (fun _ => .bl true) (fun i x H1 e1 hx => fun H2 e2 Q2 q2 => ?_) (fun z H1 hz e1 hz1 => ?_)
    · rw [List.getElem?_map] at hx
      obtain ⟨j, hj, rfl⟩ := Option.map_eq_some_iff.mp hx
      have ee := (e10.trans e1).trans e2
      walk_at "rd"
      exact ⟨p, d, dx, h, t, j, rfl, hl4 j (List.mem_of_getElem? hj), ee _ _ hp, ee _ _ hd, q2 H2 (Ex.refl H2)⟩
    · walk_at "rd"
      refine ⟨z, (List.range (l.map fun i : Nat => V.int ((i : Nat) : Int)).length).map fun _ => true, rfl, SqL.of (by rw [hz1, List.map_map]; rfl), ?_⟩
      have al : ((List.range (l.map fun i : Nat => V.int ((i : Nat) : Int)).length).map fun _ => true).all id = true := by
        rw [List.all_eq_true]
        intro x hx
        obtain ⟨j, _, rfl⟩ := List.mem_map.mp hx
        rfl
      rw [al]
      exact q H1 (e10.trans e1)
end
end Rc
namespace Rc
open PySem L2 Evl
open RC (Hd Lt Wd Rg)

local macro_rules | `(tactic| walk_at "rd1") => `(tactic| first
  | (with_reducible refine rd_seq ?_)
  | (with_reducible refine rd_asg ?_)
  | (with_reducible refine rd_if ?_)
  | ((with_reducible refine' rd_var ?e ?_); (case e => rfl))
  | (with_reducible refine rd_c ?_)
  | (with_reducible refine rd_op ?_)
  | (with_reducible refine rd_I0 ?_)
  | ((with_reducible refine rd_I ?e ?_); case e => first | exact (show (0 : Int) < _ by decide) | exact (show _ ∧ _ from ⟨by decide, by decide⟩) | exact Or.inl ⟨by decide, by decide⟩ | exact Or.inr ⟨by decide, by decide⟩)
  | (with_reducible refine rd_eqI ?_)
  | (with_reducible refine rd_neI ?_)
  | (with_reducible refine rd_bl ?_)
  | (with_reducible refine rd_test ?_)
  | (with_reducible refine rd_and ?_)
  | (with_reducible refine rd_or ?_)
  | (with_reducible refine rd_not ?_)
  | (with_reducible refine rd_andV ?_)
  | (with_reducible refine rd_orV ?_)
  | (with_reducible refine rd_notV ?_)
  | (with_reducible refine rd_B ?_)
  | (with_reducible refine rd_ifE ?_)
  | (with_reducible refine rd_cons ?_)
  | (with_reducible refine rd_nil ?_)
  | (with_reducible refine rd_CB ?_)
  | (with_reducible refine rd_call ?_)
  | (with_reducible refine rd_callS ?_)
  | (with_reducible refine rd_meth ?_)
  | (with_reducible refine rd_mk ?_)
  | (with_reducible refine rd_lst ?_)
  | (with_reducible refine rd_tup ?_)
  | (with_reducible refine rd_un ?_)
  | (with_reducible refine rd_U ?_)
  | (with_reducible refine rd_tFld ?_)
  | (with_reducible refine rd_sFld ?_)
  | (with_reducible refine rd_methW ?_)
  | (with_reducible refine rd_abs ?_)
  | (with_reducible refine rd_int1 ?_)
  | (with_reducible refine rd_isNo ?_)
  | (with_reducible refine rd_notNo ?_)
  | (with_reducible refine rd_isBo ?_)
  | (with_reducible refine rd_notBo ?_)
  | (with_reducible refine rd_forL ?_)
  | (with_reducible refine rd_forT ?_)
  | (with_reducible refine rd_forR1 ?_)
  | (with_reducible refine rd_forR2 ?_)
  | (with_reducible refine rd_lcL ?_)
  | (with_reducible refine rd_lcT ?_)
  | (with_reducible refine rd_lcR1 ?_)
  | (with_reducible refine rd_chain ?_)
  | (with_reducible refine rd_ret ?_)
  | (with_reducible refine rd_retN ?_)
  | (with_reducible refine rd_drop ?_)
  | (with_reducible refine rd_next ?_)
  | (with_reducible refine rd_asgG ?_)
  | (with_reducible refine rd_pop ?_)
  | (with_reducible refine rd_makeW ?_)
  | (with_reducible refine rd_min2 ?_)
  | (with_reducible refine rd_tLenSet ?_)
  | (with_reducible refine rd_sl ?_)
  | (with_reducible refine rd_tPart ?_)
  | (with_reducible refine rd_part ?_)
  | (with_reducible refine rd_nopart ?_)
  | (with_reducible refine rd_bm0 ?_)
  | (with_reducible refine rd_dget ?_)
  | (with_reducible refine rd_dput ?_)
  | (with_reducible refine rd_forR3 ?_)
  | (with_reducible refine iteNT ?_)
  | (with_reducible refine iteNF ?_)
  | (with_reducible refine iteF ?_)
  | (with_reducible refine iteT ?_))
local macro_rules | `(tactic| walk_at "rd") => `(tactic| repeat (walk_at "rd1"))

-- RcDict
section
variable {P : Program} {w : World} {K : PySem.W.Frag} {mg : Str → Option Value} {base : Heap} {A : Adr}
/-! ### what was told stays -/
def Pair (H : Hp) (u v e : Addr) (x : V) : Prop := ∃ (t a b : Addr) (xs ys : List V) (ls : List Lt), x = .ref t ∧ H t = some (.tup [.ref a, .ref b]) ∧ H a = some (.lst xs) ∧ H b = some (.lst ys) ∧ Tups lV H xs ls ∧ Tups lV H ys ls ∧ (a ≠ u ∧ a ≠ v ∧ a ≠ e) ∧ b ≠ u ∧ b ≠ v ∧ b ≠ e
/-- all but the hand, the dict, its two lists and the list of what was told stays -/
def Fr5 (p d u v e : Addr) (H H' : Hp) : Prop := ∀ b o, H b = some o → b ≠ p → b ≠ d → b ≠ u → b ≠ v → b ≠ e → H' b = some o
theorem Pair.keep {H H' : Hp} {p d u v u' v' e : Addr} {x : V} {C dx : Addr} {fs : List (Str × V)} {kvs : List (Key × V)} {l1 l2 l3 : List V} (P : Pair H u v e x) (f : Fr5 p d u v e H H') (hp : H p = some (.ins C dx fs)) (hd : H d = some (.dK kvs)) (hu : H u = some (.lst l1)) (hv : H v = some (.lst l2)) (he : H e = some (.lst l3))
    (nu : u' = u ∨ H u' = none) (nv : v' = v ∨ H v' = none) : Pair H' u' v' e x := by
  obtain ⟨t, a, b, xs, ys, ls, e0, ht, ha, hb, tx, ty, ⟨a1, a2, a3⟩, b1, b2, b3⟩ := P
  have tup : ∀ c ts, H c = some (.tup ts) → H' c = some (.tup ts) := fun c ts h => f _ _ h (ne_ti h hp) (ne_of h hd (by intro z; cases z)) (ne_tl h hu) (ne_tl h hv) (ne_tl h he)
  have ap : a ≠ p := ne_li ha hp
  have bp : b ≠ p := ne_li hb hp
  have ad : a ≠ d := ne_of ha hd (by intro z; cases z)
  have bd : b ≠ d := ne_of hb hd (by intro z; cases z)
  have nn : ∀ {c w w' : Addr} {o : HO}, H c = some o → c ≠ w → (w' = w ∨ H w' = none) → c ≠ w' := fun h n z => by
    rcases z with rfl | z
    · exact n
    · exact ne_of_none h z
  exact ⟨t, a, b, xs, ys, ls, e0, tup _ _ ht, f _ _ ha ap ad a1 a2 a3, f _ _ hb bp bd b1 b2 b3, tx.imp tup, ty.imp tup, ⟨nn ha a1 nu, nn ha a2 nv, a3⟩, nn hb b1 nu, nn hb b2 nv, b3⟩
theorem Sta.other {CH : Addr} {H H' : Hp} {p d u v : Addr} {h : Hd} {mo se : Int} {ar ea : Bool} {du : List Int} {ws : List V} {ps : List Lt} {N : Nat} (S : Sta K CH H p d u v h mo se ar ea du ws ps N) {a : Addr} {zs : List V} (ha : H a = some (.lst zs)) (au : a ≠ u) (av : a ≠ v) (b : But a H H') : Sta K CH H' p d u v h mo se ar ea du ws ps N where
  hand := S.hand.imp fun _ z => b _ _ z (ne_li ha z).symm
  dict := b _ _ S.dict (ne_of S.dict ha (by intro z; cases z))
  due := b _ _ S.due au.symm
  pas := b _ _ S.pas av.symm
  tps := S.tps.imp fun c ts z => b _ _ z (ne_tl z ha)
  mem := S.mem
  len := S.len
  dul := S.dul
  far := S.far
  cb := S.cb
  uv := S.uv
theorem pair_told {CH : Addr} {H H3 : Hp} {p d u v v' e f t l2 t2 : Addr} {h h' : Hd} {mo se mo' se' : Int} {ar ea ar' : Bool} {du du' : List Int} {ws ws' hs xs : List V} {ps ps' ls : List Lt} {l' : Lt} {N N' : Nat}
    (S0 : Sta K CH H p d u v h mo se ar ea du ws ps N) (he : H e = some (.lst hs)) (hP : ∀ x, x ∈ hs → Pair H u v e x) (F : Fr5 p d u v e H H3) (S3 : Sta K CH H3 p d u v' h' mo' se' ar' ea du' ws' ps' N') (hv' : v' = v ∨ H v' = none) (he3 : H3 e = some (.lst hs))
    (eu : e ≠ u) (ev' : e ≠ v') (nf : f = v ∨ H f = none) (fu : f ≠ u) (fe : f ≠ e) (fv' : f ≠ v') (hf : H3 f = some (.lst xs)) (tx : Tups lV H3 xs ls) (ht : H3 t = some (.tup (lV l'))) (hl2 : upd H3 f (.lst (xs ++ [.ref t])) l2 = none)
    (ht2 : upd (upd H3 f (.lst (xs ++ [.ref t]))) l2 (.lst (xs ++ [.ref t])) t2 = none) :
    ∀ H7, H7 = upd (upd (upd (upd H3 f (.lst (xs ++ [.ref t]))) l2 (.lst (xs ++ [.ref t]))) t2 (.tup [.ref f, .ref l2])) e (.lst (hs ++ [.ref t2])) →
    Sta K CH H7 p d u v' h' mo' se' ar' ea du' ws' ps' N' ∧ H7 e = some (.lst (hs ++ [.ref t2])) ∧ (∀ x, x ∈ hs ++ [V.ref t2] → Pair H7 u v' e x) ∧ Fr5 p d u v e H H7 := by
  intro H7 e7
  have S4 := S3.other hf fu fv' (But.upd (o := .lst (xs ++ [.ref t])))
  have tx4 : Tups lV (upd H3 f (.lst (xs ++ [.ref t]))) (xs ++ [.ref t]) (ls ++ [l']) := Tups.grow hf tx ht _
  have hf4 : upd H3 f (.lst (xs ++ [.ref t])) f = some (.lst (xs ++ [.ref t])) := upd_same
  have he4 : upd H3 f (.lst (xs ++ [.ref t])) e = some (.lst hs) := by rw [upd_ne fe.symm]; exact he3
  have F4 : Fr5 p d u v e H (upd H3 f (.lst (xs ++ [.ref t]))) := fun b o hb n1 n2 n3 n4 n5 => by
    have bf : b ≠ f := fun z => by
      rcases nf with nf | nf
      · exact n4 (z.trans nf)
      · exact ne_of_none hb nf z
    rw [upd_ne bf]; exact F b o hb n1 n2 n3 n4 n5
  generalize upd H3 f (.lst (xs ++ [.ref t])) = H4 at *
  have x5 := Ex.new (o := .lst (xs ++ [V.ref t])) hl2
  have y5 : upd H4 l2 (.lst (xs ++ [.ref t])) l2 = some (.lst (xs ++ [.ref t])) := upd_same
  generalize upd H4 l2 (.lst (xs ++ [.ref t])) = H5 at *
  have x6 := Ex.new (o := .tup [V.ref f, .ref l2]) ht2
  have y6 : upd H5 t2 (.tup [V.ref f, .ref l2]) t2 = some (.tup [V.ref f, .ref l2]) := upd_same
  generalize upd H5 t2 (.tup [V.ref f, .ref l2]) = H6 at *
  have x46 := x5.trans x6
  have S6 := S4.ex x46
  have he6 := x46 _ _ he4
  have hf6 := x46 _ _ hf4
  have hl6 := x6 _ _ y5
  have tx6 := tx4.ex x46
  have l2u : l2 ≠ u := fun z => by rw [z, S4.due] at hl2; cases hl2
  have l2v : l2 ≠ v' := fun z => by rw [z, S4.pas] at hl2; cases hl2
  have l2e : l2 ≠ e := fun z => by rw [z, he4] at hl2; cases hl2
  have t2e : t2 ≠ e := ne_tl y6 he6
  have S7 := S6.other he6 eu ev' (But.upd (o := .lst (hs ++ [V.ref t2])))
  have F7 : Fr5 p d u v e H H7 := fun b o hb n1 n2 n3 n4 n5 => by
    rw [e7, upd_ne n5]
    exact x46 _ _ (F4 b o hb n1 n2 n3 n4 n5)
  obtain ⟨dx, hp⟩ := S0.hand
  refine ⟨e7 ▸ S7, e7 ▸ upd_same, fun x hx => ?_, F7⟩
  rcases List.mem_append.mp hx with hx | hx
  · exact (hP x hx).keep F7 hp S0.dict S0.due S0.pas he (.inl rfl) hv'
  · rw [List.mem_singleton.mp hx]
    have tp : ∀ c ts, H6 c = some (.tup ts) → H7 c = some (.tup ts) := fun c ts z => by rw [e7, upd_ne (ne_tl z he6)]; exact z
    exact ⟨t2, f, l2, _, _, ls ++ [l'], rfl, tp _ _ y6, by rw [e7, upd_ne fe]; exact hf6, by rw [e7, upd_ne l2e]; exact hl6, tx6.imp tp, tx6.imp tp, ⟨fu, fv', fe⟩, l2u, l2v, l2e⟩
theorem take_keeps {h : Hd} {l : Lt} (far : ∃ s : Nat, h.stage = ((s : Nat) : Int) ∧ s ≤ 6 ∧ h.far = ((2 ^ s : Nat) : Int)) (cb : h.came ≤ 1 ∨ h.beaten = true) (fa : Fair h l) :
    (h.take l).1.num = h.num ∧ (∃ s : Nat, (h.take l).1.stage = ((s : Nat) : Int) ∧ s ≤ 6 ∧ (h.take l).1.far = ((2 ^ s : Nat) : Int)) ∧ ((h.take l).1.came ≤ 1 ∨ (h.take l).1.beaten = true) := by
  show (h.wk.proc l).1.num = _ ∧ (∃ s : Nat, (h.wk.proc l).1.stage = _ ∧ s ≤ 6 ∧ (h.wk.proc l).1.far = _) ∧ ((h.wk.proc l).1.came ≤ 1 ∨ (h.wk.proc l).1.beaten = true)
  unfold Hd.proc
  cases ew : l.word with
  | ask =>
    show (h.wk.asked l).1.num = _ ∧ (∃ s : Nat, (h.wk.asked l).1.stage = _ ∧ s ≤ 6 ∧ (h.wk.asked l).1.far = _) ∧ ((h.wk.asked l).1.came ≤ 1 ∨ (h.wk.asked l).1.beaten = true)
    unfold Hd.asked
    split
    · exact ⟨rfl, far, cb⟩
    split
    · exact ⟨rfl, far, cb⟩
    split
    · exact ⟨rfl, far, .inr rfl⟩
    · exact ⟨rfl, far, .inr rfl⟩
  | answer =>
    show (h.wk.answered l).1.num = _ ∧ (∃ s : Nat, (h.wk.answered l).1.stage = _ ∧ s ≤ 6 ∧ (h.wk.answered l).1.far = _) ∧ ((h.wk.answered l).1.came ≤ 1 ∨ (h.wk.answered l).1.beaten = true)
    unfold Hd.answered
    split
    · exact ⟨rfl, far, cb⟩
    rename_i ne
    have own : l.num = h.num := Classical.not_not.mp ne
    split
    · rename_i z
      refine ⟨rfl, far, ?_⟩
      rcases z with z | z
      · have z' : h.came + 1 < 2 := z
        exact .inl (show h.came + 1 ≤ 1 by omega)
      · exact .inr z
    · obtain ⟨_, _, st⟩ := fa.2 ew own
      obtain ⟨s, h1, h2, h3⟩ := far
      refine ⟨rfl, ⟨s + 1, ?_, by omega, ?_⟩, .inl (show (0 : Int) ≤ 1 by decide)⟩
      · show h.stage + 1 = _
        omega
      · show 2 * h.far = _
        rw [h3, Nat.pow_succ]
        omega
  | crown =>
    show (h.wk.told l).1.num = _ ∧ (∃ s : Nat, (h.wk.told l).1.stage = _ ∧ s ≤ 6 ∧ (h.wk.told l).1.far = _) ∧ ((h.wk.told l).1.came ≤ 1 ∨ (h.wk.told l).1.beaten = true)
    unfold Hd.told
    split
    · exact ⟨rfl, far, cb⟩
    · exact ⟨rfl, far, cb⟩
theorem take_len (h : Hd) (l : Lt) : (h.take l).2.length ≤ 4 := by
  show (h.wls ++ (h.wk.proc l).2).length ≤ 4
  have h1 := RC.proc_len h.wk l
  have h2 : h.wls.length ≤ 2 := by unfold Hd.wls Hd.asks; split <;> simp
  rw [List.length_append]
  omega
/-! ### a step -/
def spStep (K : PySem.W.Frag) (CH : Addr) : Sp := fun vs H Q _ => ∃ (p d u v e : Addr) (h : Hd) (mo se : Int) (ar ea : Bool) (du : List Int) (ws hs : List V) (ps : List Lt) (N : Nat) (c m : Int), vs = [.ref p, .ref d, .int c, .int m, .ref e] ∧ Sta K CH H p d u v h mo se ar ea du ws ps N ∧ N ≤ 900 ∧
  H e = some (.lst hs) ∧ hs.length ≤ 900 ∧ (∀ x, x ∈ hs → Pair H u v e x) ∧ e ≠ u ∧ e ≠ v ∧
  ∀ (H' : Hp) (u' v' : Addr) (h' : Hd) (mo' se' : Int) (ar' : Bool) (du' : List Int) (ws' hs' : List V) (ps' : List Lt), Sta K CH H' p d u' v' h' mo' se' ar' ea du' ws' ps' (N + 1) → H' e = some (.lst hs') → hs'.length ≤ hs.length + 1 → (∀ x, x ∈ hs' → Pair H' u' v' e x) → e ≠ u' → e ≠ v' →
    Fr5 p d u v e H H' → (∀ b o, H b = some o → b ≠ u → b ≠ v → b ≠ u' ∧ b ≠ v') → Q (.bl true) H'
theorem sc__law_step : FnScope ["_law_hand", "_law_state", "_law_cell", "_law_more", "_law_held", "_law_before", "_law_slept", "_law_found", "_law_letter_here"] ["_law_hand", "_law_state", "_law_cell", "_law_more", "_law_held"] (defScope s__law_step) := ⟨rfl, rfl, rfl, by decide +kernel, rfl, by decide +kernel, by decide +kernel⟩
theorem ok__law_step (T : Txt K mg A) (G_Hand_wake : FnOk P w K mg base CX0 2 A.f_Hand_wake A.fd_Hand_wake ["self"] (spHWake A.c_Hand)) (G_Hand_take : FnOk P w K mg base CX0 3 A.f_Hand_take A.fd_Hand_take ["self", "letter"] (spHLet A.c_Hand Hd.take))
    (G__law_woken : FnOk P w K mg base CX0 2 A.f__law_woken A.fd__law_woken ["_law_state"] spLWoken)
    (G__law_taken : FnOk P w K mg base CX0 3 A.f__law_taken A.fd__law_taken ["_law_state", "_law_letter_here"] spLTaken)
    (G__law_letter : FnOk P w K mg base CX0 2 A.f__law_letter A.fd__law_letter ["_law_state", "_law_cell", "_law_more"] (spLetter K A.c_Hand))
    (G__law_letters : FnOk P w K mg base CX0 2 A.f__law_letters A.fd__law_letters ["_law_found", "_law_due"] (spLetters K lV)) :
    FnOk P w K mg base CX0 4 A.f__law_step A.fd__law_step ["_law_hand", "_law_state", "_law_cell", "_law_more", "_law_held"] (spStep K A.c_Hand) := by
  refine T.fun__law_step.ok sc__law_step (fun vs H Q E h => ?_) (fun cdv Ar outer s H vs Q E hr h => ?_)
  · obtain ⟨p, d, u, v, e, h, mo, se, ar, ea, du, ws, hs, ps, N, c, m, rfl, _⟩ := h
    rfl
  · obtain ⟨p, d, u, v, e, h, mo, se, ar, ea, du, ws, hs, ps, N, c, m, rfl, S, hN, he, lhs, hP, neu, nev, q⟩ := h
    refine ⟨_, (pss_cons (ps_set (i := 5) sc__law_step.nd rfl (Or.inl rfl) (pe_dget (hu_of hr) (pv 1) pe_str (fun _ _ => rfl)))
      (pss_cons (ps_set (i := 6) sc__law_step.nd rfl (Or.inl rfl) (pe_not (pe_dget (hu_of hr) (pv 1) pe_str (fun _ _ => rfl))))
      (pss_cons (ps_if (pt_cmpR op_eq (pe_op op_mod (pe_op op_fdiv (pv 2) pe_int) pe_int) pe_int (nomark _)) (pss_cons (ps_set (i := 7) sc__law_step.nd rfl (Or.inl rfl) (pe_meth0 (pv 0) T.cl_Hand T.mt_Hand_wake G_Hand_wake (hr.mono (by decide)) T.b_Hand_wake .nil pass0))
      (pss_cons (ps_if (pt_not (pt_val (pe_call G__law_letters (hr.mono (by decide)) rfl T.mg__law_letters T.fun__law_letters.kp T.b__law_letters .nil pass0 (pa_cons (pv 7) (pa_cons (pe_call G__law_woken (hr.mono (by decide)) rfl T.mg__law_woken T.fun__law_woken.kp T.b__law_woken .nil pass0 (pa_cons (pv 1) pa_nil)) pa_nil))))) (pss_one (ps_ret pe_bl)) pss_nil)
      (pss_cons (ps_expr (pe_bm PySem.F.plainAttrs_list PySem.F.slot_list_append PySem.F.type_list_append mt_append (pv 7) (pa_cons (pe_tup (pa_cons pe_int (pa_cons pe_str (pa_cons pe_int (pa_cons pe_int (pa_cons pe_int pa_nil)))))) pa_nil)))
      (pss_one (ps_expr (pe_bm PySem.F.plainAttrs_list PySem.F.slot_list_append PySem.F.type_list_append mt_append (pv 4) (pa_cons (pe_tup (pa_cons (pv 7) (pa_cons (pe_callTy call_listN (by rfl) T.no_list (by decide +kernel) (pa_cons (pv 7) pa_nil)) pa_nil))) pa_nil))))))) (pss_cons (ps_set (i := 8) sc__law_step.nd rfl (Or.inl rfl) (pe_call G__law_letter (hr.mono (by decide)) rfl T.mg__law_letter T.fun__law_letter.kp T.b__law_letter .nil pass0 (pa_cons (pv 1) (pa_cons (pv 2) (pa_cons (pv 3) pa_nil)))))
      (pss_cons (ps_set (i := 7) sc__law_step.nd rfl (Or.inl rfl) (pe_meth (pv 0) T.cl_Hand T.mt_Hand_take G_Hand_take (hr.mono (by decide)) T.b_Hand_take .nil pass0 (pa_cons (pv 8) pa_nil)))
      (pss_cons (ps_if (pt_not (pt_val (pe_call G__law_letters (hr.mono (by decide)) rfl T.mg__law_letters T.fun__law_letters.kp T.b__law_letters .nil pass0 (pa_cons (pv 7) (pa_cons (pe_call G__law_taken (hr.mono (by decide)) rfl T.mg__law_taken T.fun__law_taken.kp T.b__law_taken .nil pass0 (pa_cons (pv 1) (pa_cons (pv 8) pa_nil))) pa_nil))))) (pss_one (ps_ret pe_bl)) pss_nil)
      (pss_cons (ps_expr (pe_bm PySem.F.plainAttrs_list PySem.F.slot_list_append PySem.F.type_list_append mt_append (pv 7) (pa_cons (pv 8) pa_nil)))
      (pss_one (ps_expr (pe_bm PySem.F.plainAttrs_list PySem.F.slot_list_append PySem.F.type_list_append mt_append (pv 4) (pa_cons (pe_tup (pa_cons (pv 7) (pa_cons (pe_callTy call_listN (by rfl) T.no_list (by decide +kernel) (pa_cons (pv 7) pa_nil)) pa_nil))) pa_nil)))))))))
      (pss_cons (ps_if (PW.pt (pw_or (PW.pt (pw_and (pt_val (pv 6)) (pw_and1 (pt_val (pe_dget (hu_of hr) (pv 1) pe_str (fun _ _ => rfl)))))) (pw_or1 (pt_cmpR op_gt (pe_dget (hu_of hr) (pv 1) pe_str (fun _ _ => rfl)) (pv 5) (nomark _))))) (pss_one (ps_dput (hu_of hr) (pv 1) pe_str (pe_lst (pa_cons (pe_un un_neg pe_int) (pa_cons pe_int pa_nil))) rfl)) pss_nil)
      (pss_one (ps_ret pe_bl)))))), ?_⟩
    refine seq_mid (fun σ H' => H' = H ∧ σ = [some (.ref p), some (.ref d), some (.int c), some (.int m), some (.ref e), some (.int h.stage), none, none, none]) (fun nx hn => ?_) ?_
    · walk_at "rd"
      refine rd_getS S.dict get_stage ?_
      exact hn _ _ ⟨rfl, rfl⟩
    rintro σ H' ⟨rfl, rfl⟩
    refine seq_mid (fun σ H2 => H2 = H' ∧ σ = [some (.ref p), some (.ref d), some (.int c), some (.int m), some (.ref e), some (.int h.stage), some (.bl !h.awake), none, none]) (fun nx hn => ?_) ?_
    · walk_at "rd"
      refine rd_getS S.dict get_awake ?_
      walk_at "rd"
      exact hn _ _ ⟨rfl, rfl⟩
    rintro σ H ⟨rfl, rfl⟩
    refine seq_mid (fun σ H' => ∃ (v' : Addr) (h' : Hd) (mo' se' : Int) (ar' : Bool) (du' : List Int) (ws' hs' : List V) (ps' : List Lt) (x1 x2 : Option V), σ = [some (.ref p), some (.ref d), some (.int c), some (.int m), some (.ref e), some (.int h.stage), some (.bl !h.awake), x1, x2] ∧
      Sta K A.c_Hand H' p d u v' h' mo' se' ar' ea du' ws' ps' (N + 1) ∧ H' e = some (.lst hs') ∧ hs'.length ≤ hs.length + 1 ∧ (∀ x, x ∈ hs' → Pair H' u v' e x) ∧ e ≠ v' ∧ Fr5 p d u v e H H' ∧ (v' = v ∨ H v' = none)) (fun nx hn => ?_) ?_
    · obtain ⟨dx, hp⟩ := S.hand
      have npd : p ≠ d := ne_of hp S.dict (by intro z; cases z)
      walk_at "rd"
      refine rd_dec (fun _ => ?_) (fun _ => ?_)
      · walk_at "rd"
        refine rd_recv hp rfl ?_
        walk_at "rd"
        refine ⟨p, dx, h, rfl, hp, fun f xs H1 hf hx tx hp1 b1 => ?_⟩
        have hd1 := b1 _ _ S.dict npd.symm
        walk_at "rd"
        refine ⟨d, h, _, rfl, hd1, tl_off, by show 6 ≤ 100; decide, S.Far, fun g ys H2 hg b2 hd2 hg' tg => ?_⟩
        walk_at "rd"
        have nfd : f ≠ d := fun z => by rw [z, S.dict] at hf; cases hf
        have nfv : f ≠ v := fun z => by rw [z, S.pas] at hf; cases hf
        have nfu : f ≠ u := fun z => by rw [z, S.due] at hf; cases hf
        have ngd : g ≠ d := fun z => by rw [z, hd1] at hg; cases hg
        have hx2 := b2 _ _ hx nfd
        have tx2 : Tups lV H2 xs h.wls := tx.imp fun a ts z => b2 _ _ z (ne_of z hd1 (by intro q; cases q))
        have k12 : ∀ b o, H b = some o → b ≠ p → b ≠ d → H2 b = some o := fun b o hb n1 n2 => b2 _ _ (b1 _ _ hb n1) n2
        have nud : u ≠ d := ne_of S.due S.dict (by intro z; cases z)
        have nvd : v ≠ d := ne_of S.pas S.dict (by intro z; cases z)
        have ned : e ≠ d := ne_of he S.dict (by intro z; cases z)
        have he2 := k12 _ _ he (ne_li he hp) ned
        have F2 : Fr5 p d u v e H H2 := fun b o hb n1 n2 _ _ _ => k12 b o hb n1 n2
        have S2 : Sta K A.c_Hand H2 p d u v h.wk mo se ar ea du ws ps (N + 1) := {
          hand := ⟨dx, b2 _ _ hp1 npd⟩
          dict := hd2
          due := k12 _ _ S.due (ne_li S.due hp) nud
          pas := k12 _ _ S.pas (ne_li S.pas hp) nvd
          tps := S.tps.imp fun a ts z => k12 _ _ z (ne_ti z hp) (ne_of z S.dict (by intro q; cases q))
          mem := S.mem
          len := Nat.le_succ_of_le S.len
          dul := S.dul
          far := S.far
          cb := S.cb
          uv := S.uv }
        refine ⟨f, g, xs, ys, h.wls, rfl, hx2, hg', tx2, tg, ?_⟩
        refine rd_bl ?_
        refine iteNT ?_
        walk_at "rd"
        refine ⟨.inl ⟨rfl, _, SqL.of hx2⟩, ?_⟩
        walk_at "rd"
        refine ⟨by show 5 ≤ sizeLine; decide, fun t ht => ?_⟩
        have lxs : xs.length ≤ 2 := by rw [tx2.len]; unfold Hd.wls Hd.asks; split <;> simp
        have x3 := Ex.new (o := .tup (lV ⟨1, .ask, 0, 0, 1⟩)) ht
        have y3 : upd H2 t (.tup (lV ⟨1, .ask, 0, 0, 1⟩)) t = some (.tup (lV ⟨1, .ask, 0, 0, 1⟩)) := upd_same
        rw [show ([V.int 1, .str "ask", .int 0, .int 0, .int 1] : List V) = lV ⟨1, .ask, 0, 0, 1⟩ from rfl]
        generalize upd H2 t (.tup (lV ⟨1, .ask, 0, 0, 1⟩)) = H3 at x3 y3 ⊢
        have F3 : Fr5 p d u v e H H3 := fun b o hb n1 n2 n3 n4 n5 => x3 _ _ (F2 b o hb n1 n2 n3 n4 n5)
        walk_at "rd"
        refine ⟨f, xs, _, rfl, rfl, x3 _ _ hx2, sz_lt (by omega), ?_⟩
        walk_at "rd"
        have nfe : f ≠ e := fun z => by rw [z, he] at hf; cases hf
        have hfe : ∀ o, upd H3 f o e = some (.lst hs) := fun o => by rw [upd_ne nfe.symm]; exact x3 _ _ he2
        refine ⟨.inl ⟨rfl, _, SqL.of (hfe _)⟩, ?_⟩
        walk_at "rd"
        refine rd_listL (SqL.of upd_same) fun l2 hl2 => ?_
        walk_at "rd"
        refine ⟨by show 2 ≤ sizeLine; decide, fun t2 ht2 => ?_⟩
        walk_at "rd"
        have l2e : l2 ≠ e := fun z => by rw [z, hfe] at hl2; cases hl2
        have he5 := Ex.new (o := .lst (xs ++ [V.ref t])) hl2 _ _ (hfe _)
        have he6 := Ex.new (o := .tup [V.ref f, V.ref l2]) ht2 _ _ he5
        refine ⟨e, hs, _, rfl, rfl, he6, sz_lt (by omega), ?_⟩
        obtain ⟨S7, g7, P7, F7⟩ := pair_told S he hP F3 (S2.ex x3) (.inl rfl) (x3 _ _ he2) neu nev (.inr hf) nfu nfe nfv (x3 _ _ hx2) (tx2.ex x3) y3 hl2 ht2 _ rfl
        exact hn _ _ ⟨v, h.wk, mo, se, ar, du, ws, _, ps, _, _, rfl, S7, g7, by simp, P7, nev, F7, .inl rfl⟩
      · walk_at "rd"
        refine ⟨p, d, u, v, h, mo, se, ar, ea, du, ws, ps, N, c, m, rfl, S, by omega, fun t l H1 v1 ar1 du1 ws1 ps1 S1 F1 nv1 ht1 fair => ?_⟩
        have nev1 : e ≠ v1 := fun z => by
          rcases nv1 with w | w
          · exact nev (z.trans w)
          · rw [z, w] at he; cases he
        have he1 : H1 e = some (.lst hs) := F1 _ _ he (ne_li he hp) (ne_of he S.dict (by intro z; cases z)) neu nev
        obtain ⟨dx1, hp1⟩ := S1.hand
        walk_at "rd"
        refine rd_recv hp1 rfl ?_
        walk_at "rd"
        refine ⟨p, dx1, t, h, l, rfl, hp1, ht1, fun f xs H2 hf hx tx hp2 b2 => ?_⟩
        have nfd : f ≠ d := fun z => by rw [z, S1.dict] at hf; cases hf
        have nfu : f ≠ u := fun z => by rw [z, S1.due] at hf; cases hf
        have nfv : f ≠ v1 := fun z => by rw [z, S1.pas] at hf; cases hf
        have nfe : f ≠ e := fun z => by rw [z, he1] at hf; cases hf
        have nfp : f ≠ p := fun z => by rw [z, hp1] at hf; cases hf
        have nud : u ≠ d := ne_of S1.due S1.dict (by intro z; cases z)
        have nvd : v1 ≠ d := ne_of S1.pas S1.dict (by intro z; cases z)
        have ned : e ≠ d := ne_of he1 S1.dict (by intro z; cases z)
        have npv : p ≠ v1 := (ne_li S1.pas hp1).symm
        have hd2 := b2 _ _ S1.dict npd.symm
        have hv2 := b2 _ _ S1.pas npv.symm
        have ht2 := b2 _ _ ht1 (ne_ti ht1 hp1)
        have tp2 : Tups lV H2 ws1 ps1 := S1.tps.imp fun a ts z => b2 _ _ z (ne_ti z hp1)
        have st6 : h.stage ≤ 50 := by obtain ⟨s, q1, q2, _⟩ := S.far; omega
        have ln1 := S1.len
        walk_at "rd"
        refine ⟨d, t, u, v1, h, l, mo, se, ar1, ea, ws1, ps1, rfl, hd2, ht2, hv2, tp2, by omega, S.Far, st6, fair, fun g ys H3 mo' se' ar' ws' ps' hg two hd3 hv3 tps3 mem3 len3 hg' tg => ?_⟩
        have ngd : g ≠ d := fun z => by rw [z, hd2] at hg; cases hg
        have hx3 := two _ _ hx nfd nfv
        have tx3 : Tups lV H3 xs (h.take l).2 := tx.imp fun a ts z => two _ _ z (ne_of z hd2 (by intro q; cases q)) (ne_tl z hv2)
        have k13 : ∀ b o, H1 b = some o → b ≠ p → b ≠ d → b ≠ v1 → H3 b = some o := fun b o hb n1 n2 n3 => two _ _ (b2 _ _ hb n1) n2 n3
        have he3 := k13 _ _ he1 (ne_li he1 hp1) ned nev1
        have ht3 := k13 _ _ ht1 (ne_ti ht1 hp1) (ne_of ht1 S1.dict (by intro q; cases q)) (ne_tl ht1 S1.pas)
        have F3 : Fr5 p d u v e H H3 := fun b o hb n1 n2 n3 n4 n5 => by
          have bv1 : b ≠ v1 := fun z => by
            rcases nv1 with w | w
            · exact n4 (z.trans w)
            · exact ne_of_none hb w z
          exact k13 b o (F1 b o hb n1 n2 n3 n4) n1 n2 bv1
        obtain ⟨kn, kf, kc⟩ := take_keeps S.far S.cb fair
        have S3 : Sta K A.c_Hand H3 p d u v1 (h.take l).1 mo' se' ar' ea du1 ws' ps' (N + 1) := {
          hand := ⟨dx1, two _ _ hp2 npd npv⟩
          dict := hd3
          due := k13 _ _ S1.due (ne_li S1.due hp1) nud S1.uv
          pas := hv3
          tps := tps3
          mem := fun x hx => by
            rw [kn]
            rcases mem3 x hx with z | z
            · exact S1.mem x z
            · exact z
          len := by omega
          dul := S1.dul
          far := kf
          cb := kc
          uv := S1.uv }
        have nf0 : f = v ∨ H f = none := by
          by_cases c : f = v
          · exact .inl c
          · right
            cases z : H f with
            | none => rfl
            | some o => rw [F1 _ _ z nfp nfd nfu c] at hf; cases hf
        refine ⟨f, g, xs, ys, (h.take l).2, rfl, hx3, hg', tx3, tg, ?_⟩
        refine rd_bl ?_
        refine iteNT ?_
        walk_at "rd"
        refine ⟨.inl ⟨rfl, _, SqL.of hx3⟩, ?_⟩
        walk_at "rd"
        have lxs : xs.length ≤ 4 := by rw [tx3.len]; exact take_len _ _
        refine ⟨f, xs, _, rfl, rfl, hx3, sz_lt (by omega), ?_⟩
        walk_at "rd"
        have hfe : ∀ o, upd H3 f o e = some (.lst hs) := fun o => by rw [upd_ne nfe.symm]; exact he3
        refine ⟨.inl ⟨rfl, _, SqL.of (hfe _)⟩, ?_⟩
        walk_at "rd"
        refine rd_listL (SqL.of upd_same) fun l2 hl2 => ?_
        walk_at "rd"
        refine ⟨by show 2 ≤ sizeLine; decide, fun t2 ht2 => ?_⟩
        walk_at "rd"
        have he5 := Ex.new (o := .lst (xs ++ [V.ref t])) hl2 _ _ (hfe _)
        have he6 := Ex.new (o := .tup [V.ref f, V.ref l2]) ht2 _ _ he5
        refine ⟨e, hs, _, rfl, rfl, he6, sz_lt (by omega), ?_⟩
        obtain ⟨S7, g7, P7, F7⟩ := pair_told S he hP F3 S3 nv1 he3 neu nev1 nf0 nfu nfe nfv hx3 tx3 ht3 hl2 ht2 _ rfl
        exact hn _ _ ⟨v1, (h.take l).1, mo', se', ar', du1, ws', _, ps', _, _, rfl, S7, g7, by simp, P7, nev1, F7, nv1⟩
    rintro σ H' ⟨v', h', mo', se', ar', du', ws', hs', ps', x1, x2, rfl, S', he', lhs', hP', nev', F', nv'⟩
    obtain ⟨dx, hp⟩ := S.hand
    obtain ⟨dx', hp'⟩ := S'.hand
    have nw : ∀ b o, H b = some o → b ≠ u → b ≠ v → b ≠ u ∧ b ≠ v' := fun b o hb n1 n2 => ⟨n1, fun z => by
      rcases nv' with w | w
      · exact n2 (z.trans w)
      · exact ne_of_none hb w z⟩
    have stay : Q (.bl true) H' := q H' u v' h' mo' se' ar' du' ws' hs' ps' S' he' lhs' hP' neu nev' F' nw
    have anew : ∀ u2, H' u2 = none → Q (.bl true) (upd (upd H' u2 (.lst [V.int (-1), .int 1])) d (.dK (dS h' (tl u2 v' mo' se' ar' ea)))) := fun u2 hu2 => by
      have x1 := Ex.new (o := .lst [V.int (-1), .int 1]) hu2
      have y1 : upd H' u2 (.lst [V.int (-1), .int 1]) u2 = some (.lst ([(-1 : Int), 1].map V.int)) := upd_same
      have S2 := S'.ex x1
      have nu2v : u2 ≠ v' := fun z => by rw [z, S'.pas] at hu2; cases hu2
      have S3 := S2.setDict (x := v') (y := u2) (mo' := mo') (se' := se') (ar' := ar') (du' := [-1, 1]) y1 S2.pas S2.tps S2.mem S2.len (by decide) nu2v
      have ned : e ≠ d := ne_of he' S'.dict (by intro z; cases z)
      have F3 : Fr5 p d u v' e H' (upd (upd H' u2 (.lst [V.int (-1), .int 1])) d (.dK (dS h' (tl u2 v' mo' se' ar' ea)))) := fun b o hb _ n2 _ _ _ => by rw [upd_ne n2]; exact x1 _ _ hb
      have F4 : Fr5 p d u v e H (upd (upd H' u2 (.lst [V.int (-1), .int 1])) d (.dK (dS h' (tl u2 v' mo' se' ar' ea)))) := fun b o hb n1 n2 n3 n4 n5 => by rw [upd_ne n2]; exact x1 _ _ (F' b o hb n1 n2 n3 n4 n5)
      have nu2e : e ≠ u2 := fun z => by rw [← z, he'] at hu2; cases hu2
      refine q _ u2 v' h' mo' se' ar' [-1, 1] ws' hs' ps' S3 (by rw [upd_ne ned]; exact x1 _ _ he') lhs' (fun x hx => (hP' x hx).keep F3 hp' S'.dict S'.due S'.pas he' (.inr hu2) (.inl rfl)) nu2e nev' F4 fun b o hb n1 n2 => ⟨fun z => ?_, (nw b o hb n1 n2).2⟩
      by_cases c1 : b = p
      · rw [← z, c1, hp'] at hu2; cases hu2
      by_cases c2 : b = d
      · rw [← z, c2, S'.dict] at hu2; cases hu2
      by_cases c3 : b = e
      · exact nu2e (c3.symm.trans z)
      rw [← z, F' b o hb c1 c2 n1 n2 c3] at hu2
      cases hu2
    walk_at "rd"
    refine rd_ite (fun _ => ?_) (fun _ => ?_)
    · walk_at "rd"
      refine rd_getS S'.dict get_awake ?_
      walk_at "rd"
      refine rd_ite (fun _ => ?_) (fun _ => ?_)
      · walk_at "rd"
        refine ⟨by show 2 ≤ sizeLine; decide, fun u2 hu2 => ?_⟩
        walk_at "rd"
        have y1 := Ex.new (o := .lst [V.int (-1), .int 1]) hu2
        refine rd_putS (y1 _ _ S'.dict) tl_len put_due ?_
        walk_at "rd"
        exact anew u2 hu2
      · walk_at "rd"
        refine rd_getS S'.dict get_stage ?_
        walk_at "rd"
        refine rd_dec (fun _ => ?_) (fun _ => ?_)
        · walk_at "rd"
          refine ⟨by show 2 ≤ sizeLine; decide, fun u2 hu2 => ?_⟩
          walk_at "rd"
          have y1 := Ex.new (o := .lst [V.int (-1), .int 1]) hu2
          refine rd_putS (y1 _ _ S'.dict) tl_len put_due ?_
          walk_at "rd"
          exact anew u2 hu2
        · walk_at "rd"
          exact stay
    · walk_at "rd"
      refine rd_getS S'.dict get_stage ?_
      walk_at "rd"
      refine rd_dec (fun _ => ?_) (fun _ => ?_)
      · walk_at "rd"
        refine ⟨by show 2 ≤ sizeLine; decide, fun u2 hu2 => ?_⟩
        walk_at "rd"
        have y1 := Ex.new (o := .lst [V.int (-1), .int 1]) hu2
        refine rd_putS (y1 _ _ S'.dict) tl_len put_due ?_
        walk_at "rd"
        exact anew u2 hu2
      · walk_at "rd"
        exact stay
/-! ### the law -/
def spLaw (K : PySem.W.Frag) : Sp := fun vs H Q _ => ∃ (a : Addr) (ns : List Int), vs = [.ref a] ∧ SqL K H a (ns.map V.int) ∧ ns.length ≤ 63 ∧ ∀ H', Q (.bl true) H'
/-- what the law keeps between two turns -/
structure Kept (K : PySem.W.Frag) (CH : Addr) (H0 H : Hp) (p d e : Addr) (ea : Bool) (N : Nat) : Prop where
  ex : Ex H0 H
  p0 : H0 p = none
  d0 : H0 d = none
  e0 : H0 e = none
  all : ∃ (u v : Addr) (h : Hd) (mo se : Int) (ar : Bool) (du : List Int) (ws hs : List V) (ps : List Lt), Sta K CH H p d u v h mo se ar ea du ws ps N ∧ H e = some (.lst hs) ∧ hs.length ≤ N ∧ (∀ x, x ∈ hs → Pair H u v e x) ∧ e ≠ u ∧ e ≠ v ∧ H0 u = none ∧ H0 v = none
theorem Pair.ex {H H' : Hp} {u v e : Addr} {x : V} (P : Pair H u v e x) (x0 : Ex H H') : Pair H' u v e x := by
  obtain ⟨t, a, b, xs, ys, ls, e0, ht, ha, hb, tx, ty, r⟩ := P
  exact ⟨t, a, b, xs, ys, ls, e0, x0 _ _ ht, x0 _ _ ha, x0 _ _ hb, tx.ex x0, ty.ex x0, r⟩
theorem Kept.grow {K : PySem.W.Frag} {CH : Addr} {H0 H H' : Hp} {p d e : Addr} {ea : Bool} {N : Nat} (k : Kept K CH H0 H p d e ea N) (x0 : Ex H H') : Kept K CH H0 H' p d e ea N := by
  obtain ⟨ex, p0, d0, e0, u, v, h, mo, se, ar, du, ws, hs, ps, S, he, lh, hP, eu, ev, u0, v0⟩ := k
  exact ⟨ex.trans x0, p0, d0, e0, u, v, h, mo, se, ar, du, ws, hs, ps, S.ex x0, x0 _ _ he, lh, fun x hx => (hP x hx).ex x0, eu, ev, u0, v0⟩
theorem Kept.stands {K : PySem.W.Frag} {CH : Addr} {H0 H : Hp} {p d e : Addr} {ea : Bool} {N : Nat} (k : Kept K CH H0 H p d e ea N) : ∃ (dx : Addr) (h : Hd) (t : List (Key × V)), H p = some (.ins CH dx (hf h)) ∧ H d = some (.dK (dS h t)) := by
  obtain ⟨ex, p0, d0, e0, u, v, h, mo, se, ar, du, ws, hs, ps, S, _⟩ := k
  obtain ⟨dx, hp⟩ := S.hand
  exact ⟨dx, h, _, hp, S.dict⟩
theorem sc_law : FnScope ["_law_script", "_law_number_here", "_law_hand", "_law_state", "_law_held", "_law_k", "_law_turn", "_law_pair"] ["_law_script"] (defScope s_law) := ⟨rfl, rfl, rfl, by decide +kernel, rfl, by decide +kernel, by decide +kernel⟩
theorem ok_law (T : Txt K mg A) (G_Hand___init__ : FnOk P w K mg base CX0 1 A.f_Hand___init__ A.fd_Hand___init__ ["self", "number"] (spHNew A.c_Hand))
    (G__law_cell_at : FnOk P w K mg base CX0 1 A.f__law_cell_at A.fd__law_cell_at ["_law_script", "_law_k"] (spCell K))
    (G__law_start : FnOk P w K mg base CX0 1 A.f__law_start A.fd__law_start ["_law_number_here"] spStart)
    (G__law_stands : FnOk P w K mg base CX0 3 A.f__law_stands A.fd__law_stands ["_law_hand", "_law_state", "_law_turn"] (spStands A.c_Hand))
    (G__law_step : FnOk P w K mg base CX0 4 A.f__law_step A.fd__law_step ["_law_hand", "_law_state", "_law_cell", "_law_more", "_law_held"] (spStep K A.c_Hand)) :
    FnOk P w K mg base CX0 5 A.f_law A.fd_law ["_law_script"] (spLaw K) := by
  refine T.fun_law.ok sc_law (fun vs H Q E h => ?_) (fun cdv Ar outer s H vs Q E hr h => ?_)
  · obtain ⟨a, ns, rfl, _⟩ := h
    rfl
  · obtain ⟨a, ns, rfl, hS, hL, q⟩ := h
    refine ⟨_, (pss_cons (ps_set (i := 1) sc_law.nd rfl (Or.inl rfl) (pe_op op_mod (pe_call G__law_cell_at (hr.mono (by decide)) rfl T.mg__law_cell_at T.fun__law_cell_at.kp T.b__law_cell_at .nil pass0 (pa_cons (pv 0) (pa_cons pe_int pa_nil))) pe_int))
      (pss_cons (ps_if (pt_cmpR op_eq (pe_op op_mod (pe_call G__law_cell_at (hr.mono (by decide)) rfl T.mg__law_cell_at T.fun__law_cell_at.kp T.b__law_cell_at .nil pass0 (pa_cons (pv 0) (pa_cons pe_int pa_nil))) pe_int) pe_int (nomark _)) (pss_one (ps_set (i := 1) sc_law.nd rfl (Or.inl rfl) (pe_op op_mod (pe_op op_mul (pe_call G__law_cell_at (hr.mono (by decide)) rfl T.mg__law_cell_at T.fun__law_cell_at.kp T.b__law_cell_at .nil pass0 (pa_cons (pv 0) (pa_cons pe_int pa_nil))) pe_int) (pe_op op_pow pe_int pe_int)))) pss_nil)
      (pss_cons (ps_set (i := 2) sc_law.nd rfl (Or.inl rfl) (pe_make T.mk_Hand G_Hand___init__ (hr.mono (by decide)) rfl T.mg_Hand T.b_Hand___init__ .nil pass0 (pa_cons (pv 1) pa_nil)))
      (pss_cons (ps_set (i := 3) sc_law.nd rfl (Or.inl rfl) (pe_call G__law_start (hr.mono (by decide)) rfl T.mg__law_start T.fun__law_start.kp T.b__law_start .nil pass0 (pa_cons (pv 1) pa_nil)))
      (pss_cons (ps_dput (hu_of hr) (pv 3) pe_str (pe_lst pa_nil) rfl)
      (pss_cons (ps_dput (hu_of hr) (pv 3) pe_str (pe_lst pa_nil) rfl)
      (pss_cons (ps_dput (hu_of hr) (pv 3) pe_str (pv 1) rfl)
      (pss_cons (ps_dput (hu_of hr) (pv 3) pe_str (pv 1) rfl)
      (pss_cons (ps_dput (hu_of hr) (pv 3) pe_str pe_bl rfl)
      (pss_cons (ps_dput (hu_of hr) (pv 3) pe_str (pe_cmpR op_eq (pe_op op_mod (pe_op op_fdiv (pe_call G__law_cell_at (hr.mono (by decide)) rfl T.mg__law_cell_at T.fun__law_cell_at.kp T.b__law_cell_at .nil pass0 (pa_cons (pv 0) (pa_cons pe_int pa_nil))) pe_int) pe_int) pe_int (nomark _)) rfl)
      (pss_cons (ps_if (pt_not (pt_val (pe_call G__law_stands (hr.mono (by decide)) rfl T.mg__law_stands T.fun__law_stands.kp T.b__law_stands .nil pass0 (pa_cons (pv 2) (pa_cons (pv 3) (pa_cons (pe_op op_fdiv (pe_call G__law_cell_at (hr.mono (by decide)) rfl T.mg__law_cell_at T.fun__law_cell_at.kp T.b__law_cell_at .nil pass0 (pa_cons (pv 0) (pa_cons pe_int pa_nil))) pe_int) pa_nil)))))) (pss_one (ps_ret pe_bl)) pss_nil)
      (pss_cons (ps_set (i := 4) sc_law.nd rfl (Or.inl rfl) (pe_lst pa_nil))
      (pss_cons (ps_for PassesOwn.never rfl (pi_range3 (by rfl) T.no_range (pa_cons pe_int (pa_cons (pe_op op_sub (pe_callB call_lenN (by rfl) T.no_len (by decide +kernel) (pa_cons (pv 0) pa_nil)) pe_int) (pa_cons pe_int pa_nil)))) (pg_name (i := 5) sc_law.nd rfl (Or.inl rfl)) (pss_cons (ps_set (i := 6) sc_law.nd rfl (Or.inl rfl) (pe_op op_fdiv (pe_op op_mod (pe_op op_mul (pe_op op_add (pe_op op_add (pe_ix ix_list (pv 0) (pv 5) (fun _ _ => rfl)) (pe_ix ix_list (pv 0) (pe_op op_add (pv 5) pe_int) (fun _ _ => rfl))) (pe_op op_mul pe_int (pv 5))) pe_int) pe_int) pe_int))
      (pss_one (ps_if (PW.pt (pw_or (pt_not (pt_val (pe_call G__law_step (hr.mono (by decide)) rfl T.mg__law_step T.fun__law_step.kp T.b__law_step .nil pass0 (pa_cons (pv 2) (pa_cons (pv 3) (pa_cons (pe_ix ix_list (pv 0) (pv 5) (fun _ _ => rfl)) (pa_cons (pe_ix ix_list (pv 0) (pe_op op_add (pv 5) pe_int) (fun _ _ => rfl)) (pa_cons (pv 4) pa_nil)))))))) (pw_or1 (pt_not (pt_val (pe_call G__law_stands (hr.mono (by decide)) rfl T.mg__law_stands T.fun__law_stands.kp T.b__law_stands .nil pass0 (pa_cons (pv 2) (pa_cons (pv 3) (pa_cons (pv 6) pa_nil))))))))) (pss_one (ps_ret pe_bl)) pss_nil))))
      (pss_cons (ps_if (PW.pt (pw_or (pt_not (pt_val (pe_call G__law_stands (hr.mono (by decide)) rfl T.mg__law_stands T.fun__law_stands.kp T.b__law_stands .nil pass0 (pa_cons (pv 2) (pa_cons (pv 3) (pa_cons pe_int pa_nil)))))) (pw_or1 (pt_not (pt_val (pe_call G__law_stands (hr.mono (by decide)) rfl T.mg__law_stands T.fun__law_stands.kp T.b__law_stands .nil pass0 (pa_cons (pv 2) (pa_cons (pv 3) (pa_cons pe_int pa_nil))))))))) (pss_one (ps_ret pe_bl)) pss_nil)
      (pss_one (ps_ret (pe_cmpR (op_eqD hr.units) (pe_lc (own := [("_law_pair", 7)]) (g := gName 7) (by rfl) sc_law.nd (pi_list (pv 4)) (blkOk_by (own := [("_law_pair", 7)]) (N := ["_law_script", "_law_number_here", "_law_hand", "_law_state", "_law_held", "_law_k", "_law_turn", "_law_pair"]) (sc := defScope s_law) (by decide +kernel)) (fun _ _ _ _ _ => pg_name (i := 7) sc_law.nd rfl (Or.inl rfl)) (fun _ _ _ _ _ => (pts_one (pt_cmpR (op_neDK (K := K) rfl hr.units) (pe_ix (ix_tupK (K := K) rfl) (pv 7) pe_int (fun _ _ => rfl)) (pe_ix (ix_tupK (K := K) rfl) (pv 7) pe_int (fun _ _ => rfl)) (nomark _)))) (fun _ _ _ _ _ => by exact (pv 7))) (pe_lst pa_nil) (nomark _)))))))))))))))))), ?_⟩
    refine seq_mid (fun σ H' => H' = H ∧ ∃ n : Int, σ = [some (.ref a), some (.int n), none, none, none, none, none, none]) (fun nx hn => ?_) ?_
    · walk_at "rd"
      refine ⟨a, ns, 0, rfl, hS, ?_⟩
      walk_at "rd"
      exact hn _ _ ⟨rfl, _, rfl⟩
    rintro σ H' ⟨rfl, n, rfl⟩
    refine seq_mid (fun σ H2 => H2 = H' ∧ ∃ n : Int, σ = [some (.ref a), some (.int n), none, none, none, none, none, none]) (fun nx hn => ?_) ?_
    · walk_at "rd"
      refine ⟨a, ns, 1, rfl, hS, ?_⟩
      walk_at "rd"
      refine rd_dec (fun _ => ?_) (fun _ => ?_)
      · walk_at "rd"
        refine ⟨a, ns, 0, rfl, hS, ?_⟩
        walk_at "rd"
        exact hn _ _ ⟨rfl, _, rfl⟩
      · walk_at "rd"
        exact hn _ _ ⟨rfl, _, rfl⟩
    clear n
    rintro σ H0 ⟨rfl, n, rfl⟩
    walk_at "rd"
    intro p dx np0 ndx nxp
    refine ⟨p, dx, n, rfl, upd_same, ?_⟩
    refine ⟨rfl, ?_⟩
    rw [upd_upd]
    have e1 := ex_two (o1 := .own p) (o2 := .ins A.c_Hand dx (hf (Hd.new n))) np0 ndx
    have hp1 : upd (upd H0 dx (.own p)) p (.ins A.c_Hand dx (hf (Hd.new n))) p = some (.ins A.c_Hand dx (hf (Hd.new n))) := upd_same
    generalize upd (upd H0 dx (.own p)) p (.ins A.c_Hand dx (hf (Hd.new n))) = H1 at e1 hp1 ⊢
    walk_at "rd"
    refine ⟨n, rfl, fun d nd => ?_⟩
    have nd0 := ex_none e1 nd
    have npd : p ≠ d := fun z => by rw [z, nd] at hp1; cases hp1
    have x2 := Ex.new (o := .dK (dS (Hd.new n) [])) nd
    have hp2 := x2 _ _ hp1
    have e2 := e1.trans x2
    have hd2 : upd H1 d (.dK (dS (Hd.new n) [])) d = some (.dK (dS (Hd.new n) [])) := upd_same
    generalize upd H1 d (.dK (dS (Hd.new n) [])) = H2 at e2 hp2 hd2 ⊢
    have small : ∀ t : List (Key × V), t.length ≤ 6 → (dS (Hd.new n) t).length < sizeLine := fun t ht => by rw [dS_len, sizeLine_eq]; omega
    walk_at "rd"
    refine ⟨Nat.zero_le _, fun u nu => ?_⟩
    have nu0 := ex_none e2 nu
    have nud : u ≠ d := fun z => by rw [z, hd2] at nu; cases nu
    have x3 := Ex.new (o := .lst []) nu
    have e3 := e2.trans x3
    have hp3 := x3 _ _ hp2
    have hd3 := x3 _ _ hd2
    have hu3 : upd H2 u (.lst []) u = some (.lst []) := upd_same
    generalize upd H2 u (.lst []) = H3 at e3 hp3 hd3 hu3 ⊢
    walk_at "rd"
    refine rd_putS hd3 (small _ (Nat.le_of_ble_eq_true rfl)) (show putK (dS (Hd.new n) []) (Sum.inr "due") (.ref u) = dS (Hd.new n) [(Sum.inr "due", .ref u)] from rfl) ?_
    have e4 := ex_upd (o := .dK (dS (Hd.new n) [(Sum.inr "due", .ref u)])) nd0 e3
    have hp4 : upd H3 d (.dK (dS (Hd.new n) [(Sum.inr "due", .ref u)])) p = some (.ins A.c_Hand dx (hf (Hd.new n))) := by rw [upd_ne npd]; exact hp3
    have hu4 : upd H3 d (.dK (dS (Hd.new n) [(Sum.inr "due", .ref u)])) u = some (.lst []) := by rw [upd_ne nud]; exact hu3
    have hd4 : upd H3 d (.dK (dS (Hd.new n) [(Sum.inr "due", .ref u)])) d = some (.dK (dS (Hd.new n) [(Sum.inr "due", .ref u)])) := upd_same
    generalize upd H3 d (.dK (dS (Hd.new n) [(Sum.inr "due", .ref u)])) = H4 at e4 hp4 hu4 hd4 ⊢
    walk_at "rd"
    refine ⟨Nat.zero_le _, fun v nv => ?_⟩
    have nv0 := ex_none e4 nv
    have nvd : v ≠ d := fun z => by rw [z, hd4] at nv; cases nv
    have nuv : u ≠ v := fun z => by rw [← z, hu4] at nv; cases nv
    have x5 := Ex.new (o := .lst []) nv
    have e5 := e4.trans x5
    have hp5 := x5 _ _ hp4
    have hd5 := x5 _ _ hd4
    have hu5 := x5 _ _ hu4
    have hv5 : upd H4 v (.lst []) v = some (.lst []) := upd_same
    generalize upd H4 v (.lst []) = H5 at e5 hp5 hd5 hu5 hv5 ⊢
    walk_at "rd"
    refine rd_putS hd5 (small _ (Nat.le_of_ble_eq_true rfl)) (show putK (dS (Hd.new n) [(Sum.inr "due", .ref u)]) (Sum.inr "passed") (.ref v) = dS (Hd.new n) [(Sum.inr "due", .ref u), (Sum.inr "passed", .ref v)] from rfl) ?_
    walk_at "rd"
    refine rd_putS upd_same (small _ (Nat.le_of_ble_eq_true rfl)) (show putK (dS (Hd.new n) [(Sum.inr "due", .ref u), (Sum.inr "passed", .ref v)]) (Sum.inr "most") (.int n) = dS (Hd.new n) [(Sum.inr "due", .ref u), (Sum.inr "passed", .ref v), (Sum.inr "most", .int n)] from rfl) ?_
    rw [upd_upd]
    walk_at "rd"
    refine rd_putS upd_same (small _ (Nat.le_of_ble_eq_true rfl)) (show putK (dS (Hd.new n) [(Sum.inr "due", .ref u), (Sum.inr "passed", .ref v), (Sum.inr "most", .int n)]) (Sum.inr "seen") (.int n) = dS (Hd.new n) [(Sum.inr "due", .ref u), (Sum.inr "passed", .ref v), (Sum.inr "most", .int n), (Sum.inr "seen", .int n)] from rfl) ?_
    rw [upd_upd]
    walk_at "rd"
    refine rd_putS upd_same (small _ (Nat.le_of_ble_eq_true rfl)) (show putK (dS (Hd.new n) [(Sum.inr "due", .ref u), (Sum.inr "passed", .ref v), (Sum.inr "most", .int n), (Sum.inr "seen", .int n)]) (Sum.inr "around") (.bl false) = dS (Hd.new n) [(Sum.inr "due", .ref u), (Sum.inr "passed", .ref v), (Sum.inr "most", .int n), (Sum.inr "seen", .int n), (Sum.inr "around", .bl false)] from rfl) ?_
    rw [upd_upd]
    walk_at "rd"
    have eU : ∀ kvs : List (Key × V), Ex H0 (upd H5 d (.dK kvs)) := fun kvs => ex_upd nd0 e5
    refine ⟨a, ns, 1, rfl, ex_l (eU _) hS, ?_⟩
    walk_at "rd"
    generalize decide (cell ns 1 / 40 % 4 = 1) = ea
    refine rd_putS upd_same (small _ (Nat.le_of_ble_eq_true rfl)) (show putK (dS (Hd.new n) [(Sum.inr "due", .ref u), (Sum.inr "passed", .ref v), (Sum.inr "most", .int n), (Sum.inr "seen", .int n), (Sum.inr "around", .bl false)]) (Sum.inr "eager") (.bl ea) = dS (Hd.new n) (tl u v n n false ea) from rfl) ?_
    rw [upd_upd]
    have e6 := eU (dS (Hd.new n) (tl u v n n false ea))
    have S6 : Sta K A.c_Hand (upd H5 d (.dK (dS (Hd.new n) (tl u v n n false ea)))) p d u v (Hd.new n) n n false ea [] [] [] 0 := {
      hand := ⟨dx, by rw [upd_ne npd]; exact hp5⟩
      dict := upd_same
      due := by rw [upd_ne nud]; exact hu5
      pas := by rw [upd_ne nvd]; exact hv5
      tps := .nil
      mem := fun x hx => by cases hx
      len := Nat.le_refl _
      dul := Nat.zero_le _
      far := ⟨0, rfl, by decide, rfl⟩
      cb := .inl (show (0 : Int) ≤ 1 by decide)
      uv := nuv }
    generalize upd H5 d (.dK (dS (Hd.new n) (tl u v n n false ea))) = H6 at e6 S6 ⊢
    walk_at "rd"
    refine ⟨a, ns, 1, rfl, ex_l e6 hS, ?_⟩
    walk_at "rd"
    obtain ⟨dx6, hp6⟩ := S6.hand
    refine ⟨p, d, dx6, _, _, _, rfl, hp6, S6.dict, fun H7 e7 => ?_⟩
    have S7 := S6.ex e7
    have e07 := e6.trans e7
    refine rd_bl ?_
    refine iteNT ?_
    walk_at "rd"
    refine ⟨Nat.zero_le _, fun e ne => ?_⟩
    have x8 := Ex.new (o := .lst ([] : List V)) ne
    have k8 : Kept K A.c_Hand H0 (upd H7 e (.lst [])) p d e ea 0 := {
      ex := e07.trans x8
      p0 := np0
      d0 := nd0
      e0 := ex_none e07 ne
      all := ⟨u, v, _, n, n, false, [], [], [], [], S7.ex x8, upd_same, Nat.le_refl _, fun x hx => (by cases hx), fun z => (by rw [z, S7.due] at ne; cases ne), fun z => (by rw [z, S7.pas] at ne; cases ne), nu0, nv0⟩ }
    generalize upd H7 e (.lst []) = H8 at k8 ⊢
    walk_at "rd"
    refine rd_len (ex_l k8.ex hS) ?_
    rw [List.length_map]
    walk_at "rd"
    refine for_R3 (rg_two ns.length (by omega)) (fun i σ H' => Kept K A.c_Hand H0 H' p d e ea i ∧ ∃ x1 x2 : Option V, σ = [some (.ref a), some (.int n), some (.ref p), some (.ref d), some (.ref e), x1, x2, none]) ⟨k8, _, _, rfl⟩ ?_ ?_
    · rintro i σ H' hi ⟨k', x1, x2, rfl⟩
      have hS' := ex_l k'.ex hS
      have ix : ∀ j, j < ns.length → (ns.map V.int)[j]? = some (V.int (cell ns j)) := fun j hj => by
        unfold cell
        rw [List.getElem?_map, List.getD_eq_getElem?_getD, List.getElem?_eq_getElem hj]; rfl
      walk_at "rd"
      refine rd_ixL (k := 2 + i * 2) hS' (by omega) (ix _ (by omega)) ?_
      walk_at "rd"
      refine rd_ixL (k := 2 + i * 2 + 1) hS' (by omega) (ix _ (by omega)) ?_
      walk_at "rd"
      refine rd_ixL (k := 2 + i * 2) hS' (by omega) (ix _ (by omega)) ?_
      walk_at "rd"
      refine rd_ixL (k := 2 + i * 2 + 1) hS' (by omega) (ix _ (by omega)) ?_
      walk_at "rd"
      obtain ⟨ex, p0, d0, e0, u1, v1, h1, mo1, se1, ar1, du1, ws1, hs1, ps1, S1, he1, lh1, hP1, eu1, ev1, u01, v01⟩ := k'
      refine ⟨p, d, u1, v1, e, h1, mo1, se1, ar1, ea, du1, ws1, hs1, ps1, i, _, _, rfl, S1, by omega, he1, by omega, hP1, eu1, ev1, fun H9 u2 v2 h2 mo2 se2 ar2 du2 ws2 hs2 ps2 S2 he2 lh2 hP2 eu2 ev2 F nw => ?_⟩
      have e9 : Ex H0 H9 := fun b o hb => F b o (ex b o hb) (ne_of_none hb p0) (ne_of_none hb d0) (ne_of_none hb u01) (ne_of_none hb v01) (ne_of_none hb e0)
      have u02 : H0 u2 = none := by
        cases z : H0 u2 with
        | none => rfl
        | some o => exact absurd rfl (nw u2 o (ex _ _ z) (ne_of_none z u01) (ne_of_none z v01)).1
      have v02 : H0 v2 = none := by
        cases z : H0 v2 with
        | none => rfl
        | some o => exact absurd rfl (nw v2 o (ex _ _ z) (ne_of_none z u01) (ne_of_none z v01)).2
      have k9 : Kept K A.c_Hand H0 H9 p d e ea (i + 1) := ⟨e9, p0, d0, e0, u2, v2, h2, mo2, se2, ar2, du2, ws2, hs2, ps2, S2, he2, by omega, hP2, eu2, ev2, u02, v02⟩
      refine rd_bl ?_
      refine iteNT ?_
      walk_at "rd"
      obtain ⟨dxa, ha, ta, hpa, hda⟩ := k9.stands
      refine ⟨p, d, dxa, ha, ta, _, rfl, hpa, hda, fun HA eA => ?_⟩
      refine rd_bl ?_
      refine iteNT ?_
      walk_at "rd"
      exact ⟨k9.grow eA, _, _, rfl⟩
    · rintro σ H' ⟨k', x1, x2, rfl⟩
      walk_at "rd"
      obtain ⟨dxa, ha, ta, hpa, hda⟩ := k'.stands
      refine ⟨p, d, dxa, ha, ta, _, rfl, hpa, hda, fun HA eA => ?_⟩
      have kA := k'.grow eA
      refine rd_bl ?_
      refine iteNT ?_
      walk_at "rd"
      obtain ⟨dxb, hb, tb, hpb, hdb⟩ := kA.stands
      refine ⟨p, d, dxb, hb, tb, _, rfl, hpb, hdb, fun HB eB => ?_⟩
      have kB := kA.grow eB
      refine rd_bl ?_
      refine iteNT ?_
      walk_at "rd"
      obtain ⟨ex, p0, d0, e0, u1, v1, h1, mo1, se1, ar1, du1, ws1, hs1, ps1, S1, he1, lh1, hP1, eu1, ev1, u01, v01⟩ := kB
      refine lc_LF (SqL.of he1) (by omega) (fun _ => false) (fun i => hs1.getD i .non) (fun i x H2 e2 hx => fun H3 e3 Q3 q3 => ?_) (fun i x H2 e2 hx => ?_) (fun z H2 hz e2 hz2 => ?_)
      · obtain ⟨t, b, c, xs, ys, ls, rfl, ht, hb, hc, tx, ty, _⟩ := (hP1 x (List.mem_of_getElem? hx)).ex (e2.trans e3)
        walk_at "rd"
        refine rd_ixT (k := 0) (SqT.of ht) rfl rfl ?_
        walk_at "rd"
        refine rd_ixT (k := 1) (SqT.of ht) rfl rfl ?_
        refine rd_neSame lD_ok (SqL.of hb) (SqL.of hc) tx ty ?_
        refine rd_bl ?_
        exact q3 H3 (Ex.refl H3)
      · intro H3 e3 Q3 q3
        rw [show hs1.getD i .non = x by rw [List.getD_eq_getElem?_getD, hx]; rfl] at q3
        exact rd_var rfl (q3 H3 (Ex.refl H3))
      · walk_at "rd"
        refine ⟨Nat.zero_le _, fun y hy => ?_⟩
        have hz3 : H2 z = some (.lst ([] : List V)) := by
          rw [hz2]
          have : given hs1.length (fun _ => false) (fun i => hs1.getD i .non) = [] := by
            unfold given
            rw [List.filter_eq_nil_iff.mpr fun _ _ z => Bool.noConfusion z]
            rfl
          rw [this]
        refine rd_eqNilI (ks := []) (SqL.of (Ex.new hy _ _ hz3)) (SqL.of upd_same) ?_
        exact q _
theorem all_ok (T : Txt K mg A) : FnOk P w K mg base CX0 5 A.f_law A.fd_law ["_law_script"] (spLaw K) := by
  have g0 := ok__law_cell_at (P := P) (w := w) (base := base) T
  have g1 := ok__law_whole (P := P) (w := w) (base := base) T
  have g2 := ok__law_truth (P := P) (w := w) (base := base) T
  have g3 := ok__law_letters lD_ok lV_flat T g1
  have a0 := ok__law_asks (P := P) (w := w) (base := base) T
  have a1 := ok__law_woken T a0
  have a2 := ok__law_taken T a0 a1
  have b0 := ok__law_letter (P := P) (w := w) (base := base) T (ok__law_number T) (ok__law_is_due T)
  have h2 := ok_Hand_asks (P := P) (w := w) (base := base) T
  have h3 := ok_Hand_wake T h2
  have h4 := ok_Hand_take T h3 (ok_Hand_asked T) (ok_Hand_answered T h2) (ok_Hand_told T)
  have HO : HandOk P w K mg base A := ⟨ok_Hand_is_awake T, ok_Hand_is_first T, ok_Hand_stage T, ok_Hand_knows T⟩
  have s0 := ok__law_stands T (ok__law_told T HO g2 g1)
  exact ok_law T (ok_Hand_init (P := P) (w := w) (base := base) T) g0 (ok__law_start T) s0 (ok__law_step T h3 h4 a1 a2 b0 g3)
end

theorem binds_law {K : PySem.W.Frag} {f : Addr} {fd : FuncData} (F : Fun K "law" "law" s_law f fd) : ∀ (s : Shared) (v : Value), BindsTo s fd ⟨[v], []⟩ [("_law_script", v)] := by
  obtain ⟨oc, od, kV, doc, pm, an, cdv, ct, osl, rfl, lk, hcd⟩ := F.ex
  exact fun s v => .of_eq rfl
theorem fin {P : Program} {w : World} {K : PySem.W.Frag} {mg : Str → Option Value} {fa : Addr} (hT : ∃ A : Adr, Txt K mg A) (hm : mg "law" = some (.ref fa)) :
    ∃ fd : FuncData, (∀ (s : Shared) (v : Value), BindsTo s fd ⟨[v], []⟩ [("_law_script", v)]) ∧ ∀ base : Heap, K.In base → base.Ns mainGlobals mg → FnOk P w K mg base CX0 5 fa fd ["_law_script"] (spLaw K) := by
  obtain ⟨A, T⟩ := hT
  have e : fa = A.f_law := Value.ref.inj (Option.some.inj (hm.symm.trans T.mg_law))
  subst e
  exact ⟨A.fd_law, binds_law T.fun_law, fun base _ _ => all_ok T⟩
theorem walk {l : PySem.W.OpenLaw} {q : Program} {loose : List Str} {XP : (Str → Option Value) → Heap → Prop} {YP : World → Heap → Prop} {d : DefRec} {K : Params → PySem.W.Frag} (hn : l.most = some 63) (hdf : d.params.defaults = [])
    (hY : ∀ (w : World) (h : Heap), YP w h → (K w.params).In h)
    (F : ∀ (w : World) (mg : Str → Option Value) (fa : Addr) (h : Heap), (K w.params).In h → h.Ns mainGlobals mg → mg d.name = some (.ref fa) →
      ∃ fd : FuncData, (∀ (s : Shared) (u : Value), BindsTo s fd ⟨[u], []⟩ [("_law_script", u)]) ∧ ∀ base : Heap, (K w.params).In base → base.Ns mainGlobals mg → FnOk l.prog w (K w.params) mg base CX0 5 fa fd ["_law_script"] (spLaw (K w.params))) :
    PySem.W.WalkO q loose XP YP l.row.toRowW d [] (fun f vs => PySem.call f vs) :=
  L2.walk_of (n := 63) (k := 5) (x := "_law_script") (CX := fun _ => CX0) (sp := fun w => spLaw (K w.params)) hn (by decide) hdf ⟨rfl, by decide, by decide⟩ hY F (fun _ _ a ns hl _ hS => ⟨a, ns, rfl, hS, hl, fun _ => rfl⟩) fun _ _ _ _ _ z => z
end Rc
open PySem PySem.W PyProof.Rows
set_option maxRecDepth 100000 in
set_option maxHeartbeats 0 in
theorem PySem.Challenge.cw_ringcrown_k02_a_hand_by_itself_holds : PySem.Challenge.rw_ringcrown_k02_a_hand_by_itself.Holds := by
  w_on; o_law; k_head; (case hw => w_witness2)
  k_fill
  refine Rc.walk (l := PySem.Challenge.rw_ringcrown_k02_a_hand_by_itself) rfl rfl (fun w h Y => PySem.W.kIn_of Y) ?F
  case F =>
    intro w mg fa h KX G hmg
    refine Rc.fin ?T hmg
    refine' (show ∃ A : Rc.Adr, Rc.Txt _ mg A from Rc.mkTxt KX G ?rq_g0 ?rq_a1 ?rq_i1 ?rq_l1 ?rq_d1 ?rq_k1 ?rq_m1 ?rq_q1 ?rq_a2 ?rq_i2 ?rq_l2 ?rq_d2 ?rq_k2 ?rq_a3 ?rq_i3 ?rq_l3 ?rq_d3 ?rq_k3 ?rq_a4 ?rq_i4 ?rq_l4 ?rq_d4 ?rq_k4 ?rq_a5 ?rq_i5 ?rq_l5 ?rq_d5 ?rq_k5 ?rq_a6 ?rq_i6 ?rq_l6 ?rq_d6 ?rq_k6 ?rq_a7 ?rq_i7 ?rq_l7 ?rq_d7 ?rq_k7 ?rq_a8 ?rq_i8 ?rq_l8 ?rq_d8 ?rq_k8 ?rq_a9 ?rq_i9 ?rq_l9 ?rq_d9 ?rq_k9 ?rq_a10 ?rq_i10 ?rq_l10 ?rq_d10 ?rq_k10 ?rq_a11 ?rq_i11 ?rq_l11 ?rq_d11 ?rq_k11 ?rq_a12 ?rq_l12 ?rq_d12 ?rq_k12 ?rq_a13 ?rq_l13 ?rq_d13 ?rq_k13 ?rq_a14 ?rq_l14 ?rq_d14 ?rq_k14 ?rq_a15 ?rq_l15 ?rq_d15 ?rq_k15 ?rq_a16 ?rq_l16 ?rq_d16 ?rq_k16 ?rq_a17 ?rq_l17 ?rq_d17 ?rq_k17 ?rq_a18 ?rq_l18 ?rq_d18 ?rq_k18 ?rq_a19 ?rq_l19 ?rq_d19 ?rq_k19 ?rq_a20 ?rq_l20 ?rq_d20 ?rq_k20 ?rq_a21 ?rq_l21 ?rq_d21 ?rq_k21 ?rq_a22 ?rq_l22 ?rq_d22 ?rq_k22 ?rq_a23 ?rq_l23 ?rq_d23 ?rq_k23 ?rq_a24 ?rq_l24 ?rq_d24 ?rq_k24 ?rq_a25 ?rq_l25 ?rq_d25 ?rq_k25 ?rq_a26 ?rq_l26 ?rq_d26 ?rq_k26 ?rq_p27 ?rq_h27 ?rq_o27 ?rq_s27 ?rq_n28 ?rq_n29 ?rq_n30 ?rq_n31 ?rq_n32 ?rq_n33 ?rq_n34 ?rq_n35 ?rq_z36 ?rq_z37 ?rq_z38 ?rq_z39 ?rq_z40 ?rq_z41 ?rq_z42 ?rq_z43 ?rq_z44 ?rq_z45 ?rq_z46 ?rq_c47 ?rq_c48)
    (case rq_g0 => k_is)
    (case rq_a1 => k_is)
    (case rq_i1 => k_is)
    (case rq_l1 => k_is)
    (case rq_d1 => k_is)
    (case rq_k1 => k_is)
    (case rq_m1 => k_is)
    (case rq_q1 => k_is)
    (case rq_a2 => k_is)
    (case rq_i2 => k_is)
    (case rq_l2 => k_is)
    (case rq_d2 => k_is)
    (case rq_k2 => k_is)
    (case rq_a3 => k_is)
    (case rq_i3 => k_is)
    (case rq_l3 => k_is)
    (case rq_d3 => k_is)
    (case rq_k3 => k_is)
    (case rq_a4 => k_is)
    (case rq_i4 => k_is)
    (case rq_l4 => k_is)
    (case rq_d4 => k_is)
    (case rq_k4 => k_is)
    (case rq_a5 => k_is)
    (case rq_i5 => k_is)
    (case rq_l5 => k_is)
    (case rq_d5 => k_is)
    (case rq_k5 => k_is)
    (case rq_a6 => k_is)
    (case rq_i6 => k_is)
    (case rq_l6 => k_is)
    (case rq_d6 => k_is)
    (case rq_k6 => k_is)
    (case rq_a7 => k_is)
    (case rq_i7 => k_is)
    (case rq_l7 => k_is)
    (case rq_d7 => k_is)
    (case rq_k7 => k_is)
    (case rq_a8 => k_is)
    (case rq_i8 => k_is)
    (case rq_l8 => k_is)
    (case rq_d8 => k_is)
    (case rq_k8 => k_is)
    (case rq_a9 => k_is)
    (case rq_i9 => k_is)
    (case rq_l9 => k_is)
    (case rq_d9 => k_is)
    (case rq_k9 => k_is)
    (case rq_a10 => k_is)
    (case rq_i10 => k_is)
    (case rq_l10 => k_is)
    (case rq_d10 => k_is)
    (case rq_k10 => k_is)
    (case rq_a11 => k_is)
    (case rq_i11 => k_is)
    (case rq_l11 => k_is)
    (case rq_d11 => k_is)
    (case rq_k11 => k_is)
    (case rq_a12 => k_is)
    (case rq_l12 => k_is)
    (case rq_d12 => k_is)
    (case rq_k12 => k_is)
    (case rq_a13 => k_is)
    (case rq_l13 => k_is)
    (case rq_d13 => k_is)
    (case rq_k13 => k_is)
    (case rq_a14 => k_is)
    (case rq_l14 => k_is)
    (case rq_d14 => k_is)
    (case rq_k14 => k_is)
    (case rq_a15 => k_is)
    (case rq_l15 => k_is)
    (case rq_d15 => k_is)
    (case rq_k15 => k_is)
    (case rq_a16 => k_is)
    (case rq_l16 => k_is)
    (case rq_d16 => k_is)
    (case rq_k16 => k_is)
    (case rq_a17 => k_is)
    (case rq_l17 => k_is)
    (case rq_d17 => k_is)
    (case rq_k17 => k_is)
    (case rq_a18 => k_is)
    (case rq_l18 => k_is)
    (case rq_d18 => k_is)
    (case rq_k18 => k_is)
    (case rq_a19 => k_is)
    (case rq_l19 => k_is)
    (case rq_d19 => k_is)
    (case rq_k19 => k_is)
    (case rq_a20 => k_is)
    (case rq_l20 => k_is)
    (case rq_d20 => k_is)
    (case rq_k20 => k_is)
    (case rq_a21 => k_is)
    (case rq_l21 => k_is)
    (case rq_d21 => k_is)
    (case rq_k21 => k_is)
    (case rq_a22 => k_is)
    (case rq_l22 => k_is)
    (case rq_d22 => k_is)
    (case rq_k22 => k_is)
    (case rq_a23 => k_is)
    (case rq_l23 => k_is)
    (case rq_d23 => k_is)
    (case rq_k23 => k_is)
    (case rq_a24 => k_is)
    (case rq_l24 => k_is)
    (case rq_d24 => k_is)
    (case rq_k24 => k_is)
    (case rq_a25 => k_is)
    (case rq_l25 => k_is)
    (case rq_d25 => k_is)
    (case rq_k25 => k_is)
    (case rq_a26 => k_is)
    (case rq_l26 => k_is)
    (case rq_d26 => k_is)
    (case rq_k26 => k_is)
    (case rq_p27 => k_is)
    (case rq_h27 => k_is)
    (case rq_o27 => k_is)
    (case rq_s27 => k_is)
    (case rq_n28 => k_is)
    (case rq_n29 => k_is)
    (case rq_n30 => k_is)
    (case rq_n31 => k_is)
    (case rq_n32 => k_is)
    (case rq_n33 => k_is)
    (case rq_n34 => k_is)
    (case rq_n35 => k_is)
    (case rq_z36 => k_is)
    (case rq_z37 => k_is)
    (case rq_z38 => k_is)
    (case rq_z39 => k_is)
    (case rq_z40 => k_is)
    (case rq_z41 => k_is)
    (case rq_z42 => k_is)
    (case rq_z43 => k_is)
    (case rq_z44 => k_is)
    (case rq_z45 => k_is)
    (case rq_z46 => k_is)
    (case rq_c47 => k_is)
    (case rq_c48 => k_is)
